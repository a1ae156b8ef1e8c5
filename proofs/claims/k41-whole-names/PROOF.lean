import PyProof.Rows.All
import Wide.All
import OpenK.AllK
import Wide.FinOn
import PySem.Challenge.RW_tonguegate_k41_whole_whatever_the_names
import HandS.ForMost
import HandS.Exc
import HandS.ExcOwn
import HandS.TryOnly
import HandS.IsInst
import HandS.TupAny
import HandS.Deep
import HandS.SetKeys
import HandS.Zip
import HandS.WordsExc
import HandS.Style
import HandS.Zip0
import HandS.Text
set_option Elab.async false
set_option linter.all false
set_option maxRecDepth 100000
set_option maxHeartbeats 4000000
/-! TgA: data over the abstract heap, the state of a body, judgements by data -/
namespace TG
open PySem L2

/-- a key as data -/
def kD : Key → PyData
  | .inl i => .int i
  | .inr x => .str x

mutual
/-- the value v is the data d, all of it in the part G of the heap -/
inductive Is (G : Hp) : V → PyData → Prop
  | non : Is G .non .none
  | bl (b : Bool) : Is G (.bl b) (.bool b)
  | int (i : Int) : Is G (.int i) (.int i)
  | str (x : Str) : Is G (.str x) (.str x)
  | lst {a : Addr} {xs : List V} {ds : List PyData} : G a = some (.lst xs) → IsAll G xs ds → Is G (.ref a) (.list ds)
  | tup {a : Addr} {xs : List V} {ds : List PyData} : G a = some (.tup xs) → IsAll G xs ds → Is G (.ref a) (.tuple ds)
  | dic {a : Addr} {ws : List (Key × V)} {kvs : List (PyData × PyData)} : G a = some (.dK ws) → IsKv G ws kvs → Is G (.ref a) (.dict kvs)
inductive IsAll (G : Hp) : List V → List PyData → Prop
  | nil : IsAll G [] []
  | cons {v : V} {vs : List V} {d : PyData} {ds : List PyData} : Is G v d → IsAll G vs ds → IsAll G (v :: vs) (d :: ds)
inductive IsKv (G : Hp) : List (Key × V) → List (PyData × PyData) → Prop
  | nil : IsKv G [] []
  | cons {k : Key} {v : V} {ws : List (Key × V)} {d : PyData} {kvs : List (PyData × PyData)} : Is G v d → IsKv G ws kvs → IsKv G ((k, v) :: ws) ((kD k, d) :: kvs)
end

section
variable {G G' H : Hp}
mutual
theorem Is.mono (e : Same G G') : ∀ {v : V} {d : PyData}, Is G v d → Is G' v d
  | _, _, .non => .non
  | _, _, .bl b => .bl b
  | _, _, .int i => .int i
  | _, _, .str x => .str x
  | _, _, .lst h r => .lst (e _ _ h) (IsAll.mono e r)
  | _, _, .tup h r => .tup (e _ _ h) (IsAll.mono e r)
  | _, _, .dic h r => .dic (e _ _ h) (IsKv.mono e r)
theorem IsAll.mono (e : Same G G') : ∀ {vs : List V} {ds : List PyData}, IsAll G vs ds → IsAll G' vs ds
  | _, _, .nil => .nil
  | _, _, .cons h r => .cons (Is.mono e h) (IsAll.mono e r)
theorem IsKv.mono (e : Same G G') : ∀ {vs : List (Key × V)} {ds : List (PyData × PyData)}, IsKv G vs ds → IsKv G' vs ds
  | _, _, .nil => .nil
  | _, _, .cons h r => .cons (Is.mono e h) (IsKv.mono e r)
end
theorem IsAll.length : ∀ {vs : List V} {ds : List PyData}, IsAll G vs ds → vs.length = ds.length
  | _, _, .nil => rfl
  | _, _, .cons _ r => congrArg (· + 1) r.length
theorem IsAll.get : ∀ {vs : List V} {ds : List PyData} {i : Nat} {d : PyData}, IsAll G vs ds → ds[i]? = some d → ∃ v, vs[i]? = some v ∧ Is G v d
  | _, _, i, _, .nil, e => by simp at e
  | _, _, 0, _, .cons h _, e => by simp at e; subst e; exact ⟨_, rfl, h⟩
  | _, _, i + 1, _, .cons _ r, e => by
    obtain ⟨v, h1, h2⟩ := r.get (i := i) (by simpa using e)
    exact ⟨v, by simpa using h1, h2⟩
theorem IsAll.append : ∀ {vs ws : List V} {ds es : List PyData}, IsAll G vs ds → IsAll G ws es → IsAll G (vs ++ ws) (ds ++ es)
  | _, _, _, _, .nil, s => s
  | _, _, _, _, .cons h r, s => .cons h (r.append s)
theorem IsAll.one {v : V} {d : PyData} (h : Is G v d) : IsAll G [v] [d] := .cons h .nil
theorem IsAll.take : ∀ {vs : List V} {ds : List PyData} (n : Nat), IsAll G vs ds → IsAll G (vs.take n) (ds.take n)
  | _, _, 0, _ => by simp only [List.take_zero]; exact .nil
  | _, _, n + 1, .nil => by simp only [List.take_nil]; exact .nil
  | _, _, n + 1, .cons h r => by simp only [List.take_succ_cons]; exact .cons h (r.take n)
theorem IsAll.drop : ∀ {vs : List V} {ds : List PyData} (n : Nat), IsAll G vs ds → IsAll G (vs.drop n) (ds.drop n)
  | _, _, 0, r => r
  | _, _, n + 1, .nil => by simp only [List.drop_nil]; exact .nil
  | _, _, n + 1, .cons h r => by simp only [List.drop_succ_cons]; exact r.drop n
theorem IsAll.reverse {vs : List V} {ds : List PyData} (h : IsAll G vs ds) : IsAll G vs.reverse ds.reverse := by
  induction vs generalizing ds with
  | nil => cases h; exact .nil
  | cons v vs ih =>
    cases h with
    | cons h r =>
      rw [List.reverse_cons, List.reverse_cons]
      exact (ih r).append (.one h)
theorem IsAll.set : ∀ {vs : List V} {ds : List PyData} (i : Nat) {v : V} {d : PyData}, IsAll G vs ds → Is G v d → IsAll G (vs.set i v) (ds.set i d)
  | _, _, _, _, _, .nil, _ => .nil
  | _, _, 0, _, _, .cons _ r, h => .cons h r
  | _, _, i + 1, _, _, .cons h' r, h => .cons h' (r.set i h)
theorem IsAll.dropLast {vs : List V} {ds : List PyData} (h : IsAll G vs ds) : IsAll G vs.dropLast ds.dropLast := by
  rw [List.dropLast_eq_take, List.dropLast_eq_take, h.length]
  exact h.take _

theorem Is.tupInv {v : V} {ds : List PyData} (h : Is G v (.tuple ds)) : ∃ a xs, v = .ref a ∧ G a = some (.tup xs) ∧ IsAll G xs ds := by
  cases h with
  | tup h r => exact ⟨_, _, rfl, h, r⟩
theorem Is.lstInv {v : V} {ds : List PyData} (h : Is G v (.list ds)) : ∃ a xs, v = .ref a ∧ G a = some (.lst xs) ∧ IsAll G xs ds := by
  cases h with
  | lst h r => exact ⟨_, _, rfl, h, r⟩
theorem Is.intInv {v : V} {i : Int} (h : Is G v (.int i)) : v = .int i := by cases h; rfl
theorem Is.strInv {v : V} {x : Str} (h : Is G v (.str x)) : v = .str x := by cases h; rfl
theorem Is.blInv {v : V} {b : Bool} (h : Is G v (.bool b)) : v = .bl b := by cases h; rfl
theorem Is.nonInv {v : V} (h : Is G v .none) : v = .non := by cases h; rfl

/-! for the kit's rules about data of any depth -/
mutual
theorem Is.dp {K : PySem.W.Frag} (e : Same G H) : ∀ {v : V} {d : PyData}, (∀ kvs, d ≠ .dict kvs) → SeqAt.shaped d = true ∨ d.canLay0 = true → Is G v d → Dp K H v d
  | _, _, _, _, .non => .non
  | _, _, _, _, .bl b => .bl b
  | _, _, _, _, .int i => .int i
  | _, _, _, _, .str x => .str x
  | _, .list ds, _, s, .lst h r => .lst (SqL.of (e _ _ h)) (IsAll.dp e (by
      rcases s with s | s
      · have := SeqAt.canLay_of_shaped s
        simpa [PyData.canLay0] using this
      · simpa [PyData.canLay0] using s) r)
  | _, .tuple ds, _, s, .tup h r => .tup (SqT.of (e _ _ h)) (IsAll.dp e (by
      rcases s with s | s
      · have := SeqAt.canLay_of_shaped s
        simpa [PyData.canLay0] using this
      · simpa [PyData.canLay0] using s) r)
  | _, .dict kvs, n, _, .dic _ _ => absurd rfl (n kvs)
theorem IsAll.dp {K : PySem.W.Frag} (e : Same G H) : ∀ {vs : List V} {ds : List PyData}, PyData.canLayAll0 ds = true → IsAll G vs ds → DpAll K H vs ds
  | _, _, _, .nil => .nil
  | _, d :: ds, c, .cons h r => by
    have c' : d.canLay0 = true ∧ PyData.canLayAll0 ds = true := by simpa [PyData.canLayAll0] using c
    exact .cons (Is.dp e (fun kvs q => by subst q; simp [PyData.canLay0] at c') (.inr c'.1) h) (IsAll.dp e c'.2 r)
end
end

/-! ### growing -/
/-- the heap grew, and what was laid of data is new -/
structure Grow (G H G' H' : Hp) : Prop where
  g : Same G G'
  f : Same G' H'
  h : Same H H'
  n : ∀ a, G a = none → H a ≠ none → G' a = none
section
variable {G H G' H' G'' H'' : Hp}
theorem Grow.refl (f : Same G H) : Grow G H G H := ⟨Same.refl _, f, Same.refl _, fun _ h _ => h⟩
theorem some_ne {a : Addr} {o : HO} {K : Hp} (h : K a = some o) : K a ≠ none := by rw [h]; exact fun q => by cases q
theorem ne_some {a : Addr} {K : Hp} (h : K a ≠ none) : ∃ o, K a = some o := by
  cases q : K a with
  | none => exact absurd q h
  | some o => exact ⟨o, rfl⟩
theorem Same.there (e : Same H H') {a : Addr} (h : H a ≠ none) : H' a ≠ none := by
  obtain ⟨o, q⟩ := ne_some h
  exact some_ne (e _ _ q)
theorem Grow.trans (a : Grow G H G' H') (b : Grow G' H' G'' H'') : Grow G H G'' H'' :=
  ⟨a.g.trans b.g, b.f, a.h.trans b.h, fun c q1 q2 => b.n c (a.n c q1 q2) (Same.there a.h q2)⟩
/-- a new object of data -/
theorem Same.new {p : Addr} {o : HO} (h : H p = none) : Same H (upd H p o) := fun a u e => by
  rw [upd_ne (ne_of_none e h)]
  exact e
theorem upd_mono {p : Addr} {o : HO} (e : Same G H) : Same (upd G p o) (upd H p o) := fun a u q => by
  by_cases h : a = p
  · subst h; rw [upd_same] at q ⊢; exact q
  · rw [upd_ne h] at q ⊢; exact e _ _ q
theorem Grow.laid {p : Addr} {o : HO} (f : Same G H) (h : H p = none) : Grow G H (upd G p o) (upd H p o) :=
  ⟨Same.new (f.free h), upd_mono f, Same.new h, fun a q1 q2 => by
    by_cases e : a = p
    · subst e; exact absurd h q2
    · rw [upd_ne e]; exact q1⟩
end

/-! ### the state of a body -/
/-- what a body's frame may touch of what stood at its start (B), the data and the heap at its start -/
structure Gm where
  B : Addr → Prop
  G : Hp
  H : Hp
  fz : Bool
structure Fx (Γ : Gm) (G H : Hp) : Prop where
  g : Same Γ.G G
  f : Same G H
  h : ∀ a o, Γ.H a = some o → ¬ Γ.B a → H a = some o
  s : ∀ a, Γ.H a ≠ none → H a ≠ none
  n : ∀ a, Γ.G a = none → Γ.H a ≠ none → G a = none
theorem Fx.grow {Γ : Gm} {G H G' H' : Hp} (x : Fx Γ G H) (w : Grow G H G' H') : Fx Γ G' H' :=
  ⟨x.g.trans w.g, w.f, fun a o q1 q2 => w.h _ _ (x.h a o q1 q2), fun a q => Same.there w.h (x.s a q), fun a q1 q2 => w.n a (x.n a q1 q2) (x.s a q2)⟩
/-- no touching -/
abbrev gm0 (G H : Hp) : Gm := ⟨fun _ => False, G, H, true⟩
theorem Fx.start {G H : Hp} {z : Bool} (B : Addr → Prop) (f : Same G H) : Fx ⟨B, G, H, z⟩ G H := ⟨Same.refl _, f, fun _ _ q _ => q, fun _ q => q, fun _ q _ => q⟩
theorem Fx.toGrow {G H G' H' : Hp} (x : Fx (gm0 G H) G' H') : Grow G H G' H' := ⟨x.g, x.f, fun a o q => x.h a o q (fun z => z), x.n⟩

/-- a scope's state by data: its place, its dicts' places, what they hold -/
structure Sco where
  C : Addr
  p : Addr
  b : Addr
  c : Addr
  papers : PyData
  res : PyData
  ways : Key → Option PyData
  kinds : Key → Option PyData
  dom : List Key
inductive IsK (G : Hp) : List (Key × V) → List (Key × PyData) → Prop
  | nil : IsK G [] []
  | cons {k : Key} {v : V} {ws : List (Key × V)} {d : PyData} {kvs : List (Key × PyData)} : Is G v d → IsK G ws kvs → IsK G ((k, v) :: ws) ((k, d) :: kvs)
theorem IsK.mono {G G' : Hp} (e : Same G G') : ∀ {vs : List (Key × V)} {ds : List (Key × PyData)}, IsK G vs ds → IsK G' vs ds
  | _, _, .nil => .nil
  | _, _, .cons h r => .cons (h.mono e) (IsK.mono e r)
inductive IsKT (G : Hp) : List (List Key × V) → List (List Key × PyData) → Prop
  | nil : IsKT G [] []
  | cons {k : List Key} {v : V} {ws : List (List Key × V)} {d : PyData} {kvs : List (List Key × PyData)} : Is G v d → IsKT G ws kvs → IsKT G ((k, v) :: ws) ((k, d) :: kvs)
theorem IsKT.mono {G G' : Hp} (e : Same G G') : ∀ {vs : List (List Key × V)} {ds : List (List Key × PyData)}, IsKT G vs ds → IsKT G' vs ds
  | _, _, .nil => .nil
  | _, _, .cons h r => .cons (h.mono e) (IsKT.mono e r)

/-- a frame of the bodies' making: its statement so far, its first body, the statements of the body under way -/
structure Frm where
  head : List PyData
  first : PyData
  items : List PyData

/-- what a slot holds -/
inductive Sl where
  | no
  | dat (d : PyData)
  | own (ds : List PyData)
  | dk (kvs : List (Key × PyData))
  | dt (kvs : List (List Key × PyData))
  | sc (st : Sco)
  | ob (st : Sco) (k : Nat)
  | fr (fs : List Frm)
  | scr (K : PySem.W.Frag) (ns : List Int)
/-- made by the body itself -/
def Sl.isNew : Sl → Bool
  | .own _ => true
  | .dk _ => true
  | .dt _ => true
  | _ => false
def valK (kvs : List (Key × PyData)) (k : Key) : Option PyData := (kvs.find? fun kv => decide (kv.1 = k)).map (·.2)
/-- a dict of data with these values, its keys among dom -/
def DkAt (G H : Hp) (c : Addr) (f : Key → Option PyData) (dom : List Key) : Prop := ∃ ws kvs, H c = some (.dK ws) ∧ IsK G ws kvs ∧ (∀ k, valK kvs k = f k) ∧ (kvs.map (·.1)).Nodup ∧ ∀ k, k ∈ kvs.map (·.1) → k ∈ dom
/-- a scope -/
def ScoAt (G H : Hp) (st : Sco) : Prop := st.p ≠ st.b ∧ st.p ≠ st.c ∧ st.b ≠ st.c ∧ (∃ (dx a : Addr) (v : V), H st.p = some (.ins st.C dx [("door_papers", .ref a), ("result_kind", v), ("name_ways", .ref st.b), ("name_kinds", .ref st.c)]) ∧
  Is G (.ref a) st.papers ∧ Is G v st.res) ∧ DkAt G H st.b st.ways st.dom ∧ DkAt G H st.c st.kinds st.dom
/-- a scope under way: k of its fields are set -/
def ObAt (G H : Hp) (st : Sco) (fs : List Addr) : Nat → Prop
  | 0 => fs = [st.p] ∧ ∃ dx, H st.p = some (.ins st.C dx [])
  | 1 => fs = [st.p] ∧ ∃ dx a, H st.p = some (.ins st.C dx [("door_papers", .ref a)]) ∧ Is G (.ref a) st.papers
  | 2 => fs = [st.p] ∧ ∃ dx a v, H st.p = some (.ins st.C dx [("door_papers", .ref a), ("result_kind", v)]) ∧ Is G (.ref a) st.papers ∧ Is G v st.res
  | _ => fs = [st.p, st.b] ∧ st.p ≠ st.b ∧ (∃ dx a v, H st.p = some (.ins st.C dx [("door_papers", .ref a), ("result_kind", v), ("name_ways", .ref st.b)]) ∧ Is G (.ref a) st.papers ∧ Is G v st.res) ∧ H st.b = some (.dK [])
/-- one frame at q, its list at r -/
def FrmAt (G H : Hp) (q r : Addr) (f : Frm) : Prop := ∃ (v u : V) (vs : List V), H q = some (.lst [v, u, .ref r]) ∧ Is G v (.tuple f.head) ∧ Is G u f.first ∧ H r = some (.lst vs) ∧ IsAll G vs f.items
inductive FrmsAt (G H : Hp) : List (Addr × Addr) → List Frm → Prop
  | nil : FrmsAt G H [] []
  | cons {q r : Addr} {qs : List (Addr × Addr)} {f : Frm} {fs : List Frm} : FrmAt G H q r f → FrmsAt G H qs fs → FrmsAt G H ((q, r) :: qs) (f :: fs)
/-- the addresses of the frames' lists -/
def feet : List (Addr × Addr) → List Addr
  | [] => []
  | (q, r) :: qs => q :: r :: feet qs
/-- what the slot's value is, its own objects at fs -/
def SlOk (G H : Hp) (s : Option V) (fs : List Addr) : Sl → Prop
  | .no => True
  | .dat d => ∃ v, s = some v ∧ Is G v d
  | .own ds => ∃ p vs, fs = [p] ∧ s = some (.ref p) ∧ H p = some (.lst vs) ∧ IsAll G vs ds
  | .dk kvs => ∃ p ws, fs = [p] ∧ s = some (.ref p) ∧ H p = some (.dK ws) ∧ IsK G ws kvs
  | .dt kvs => ∃ p ws, fs = [p] ∧ s = some (.ref p) ∧ H p = some (.dT ws) ∧ IsKT G ws kvs
  | .sc st => fs = [st.p, st.b, st.c] ∧ s = some (.ref st.p) ∧ ScoAt G H st
  | .ob st k => s = some (.ref st.p) ∧ ObAt G H st fs k
  | .fr gs => ∃ p qs, fs = p :: feet qs ∧ (p :: feet qs).Nodup ∧ s = some (.ref p) ∧ H p = some (.lst (qs.map fun q => .ref q.1)) ∧ FrmsAt G H qs gs
  | .scr K ns => ∃ a, s = some (.ref a) ∧ SqL K G a (ns.map V.int)
theorem DkAt.frame {G H G' H' : Hp} {c : Addr} {f : Key → Option PyData} {dom : List Key} (e : Same G G') (k : H' c = H c) (h : DkAt G H c f dom) : DkAt G' H' c f dom := by
  obtain ⟨ws, kvs, h1, h2, h3⟩ := h
  exact ⟨ws, kvs, by rw [k]; exact h1, h2.mono e, h3⟩
theorem ScoAt.frame {G H G' H' : Hp} {st : Sco} (e : Same G G') (k : ∀ a, a = st.p ∨ a = st.b ∨ a = st.c → H' a = H a) (h : ScoAt G H st) : ScoAt G' H' st := by
  obtain ⟨n1, n2, n3, ⟨dx, a, v, h1, h2, h3⟩, h4, h5⟩ := h
  exact ⟨n1, n2, n3, ⟨dx, a, v, by rw [k _ (.inl rfl)]; exact h1, h2.mono e, h3.mono e⟩, h4.frame e (k _ (.inr (.inl rfl))), h5.frame e (k _ (.inr (.inr rfl)))⟩
theorem ObAt.frame {G H G' H' : Hp} {st : Sco} {fs : List Addr} (e : Same G G') : ∀ {k : Nat}, (∀ a ∈ fs, H' a = H a) → ObAt G H st fs k → ObAt G' H' st fs k
  | 0, k, ⟨h0, dx, h1⟩ => ⟨h0, dx, by rw [k _ (by rw [h0]; simp)]; exact h1⟩
  | 1, k, ⟨h0, dx, a, h1, h2⟩ => ⟨h0, dx, a, by rw [k _ (by rw [h0]; simp)]; exact h1, h2.mono e⟩
  | 2, k, ⟨h0, dx, a, v, h1, h2, h3⟩ => ⟨h0, dx, a, v, by rw [k _ (by rw [h0]; simp)]; exact h1, h2.mono e, h3.mono e⟩
  | _ + 3, k, ⟨h0, hn, ⟨dx, a, v, h1, h2, h3⟩, h4⟩ => ⟨h0, hn, ⟨dx, a, v, by rw [k _ (by rw [h0]; simp)]; exact h1, h2.mono e, h3.mono e⟩, by rw [k _ (by rw [h0]; simp)]; exact h4⟩
theorem FrmAt.frame {G H G' H' : Hp} {q r : Addr} {f : Frm} (e : Same G G') (k1 : H' q = H q) (k2 : H' r = H r) (h : FrmAt G H q r f) : FrmAt G' H' q r f := by
  obtain ⟨v, u, vs, h1, h2, h3, h4, h5⟩ := h
  exact ⟨v, u, vs, by rw [k1]; exact h1, h2.mono e, h3.mono e, by rw [k2]; exact h4, h5.mono e⟩
theorem FrmsAt.frame {G H G' H' : Hp} (e : Same G G') : ∀ {qs : List (Addr × Addr)} {fs : List Frm}, (∀ a ∈ feet qs, H' a = H a) → FrmsAt G H qs fs → FrmsAt G' H' qs fs
  | _, _, _, .nil => .nil
  | _, _, k, .cons h r => .cons (h.frame e (k _ (by simp [feet])) (k _ (by simp [feet]))) (FrmsAt.frame e (fun a ha => k a (by simp [feet, ha])) r)
theorem SlOk.frame {G H G' H' : Hp} {s : Option V} {fs : List Addr} {sl : Sl} (e : Same G G') (k : ∀ a ∈ fs, H' a = H a) (h : SlOk G H s fs sl) : SlOk G' H' s fs sl := by
  cases sl with
  | no => trivial
  | dat d => obtain ⟨v, h1, h2⟩ := h; exact ⟨v, h1, h2.mono e⟩
  | own ds => obtain ⟨p, vs, rfl, h1, h2, h3⟩ := h; exact ⟨p, vs, rfl, h1, by rw [k p (by simp)]; exact h2, h3.mono e⟩
  | dk ds => obtain ⟨p, vs, rfl, h1, h2, h3⟩ := h; exact ⟨p, vs, rfl, h1, by rw [k p (by simp)]; exact h2, h3.mono e⟩
  | dt ds => obtain ⟨p, vs, rfl, h1, h2, h3⟩ := h; exact ⟨p, vs, rfl, h1, by rw [k p (by simp)]; exact h2, h3.mono e⟩
  | sc st =>
    obtain ⟨rfl, h1, h2⟩ := h
    exact ⟨rfl, h1, h2.frame e fun a ha => k a (by rcases ha with rfl | rfl | rfl <;> simp)⟩
  | ob st n =>
    obtain ⟨h1, h2⟩ := h
    exact ⟨h1, h2.frame e k⟩
  | scr K ns =>
    obtain ⟨a, h1, h2⟩ := h
    exact ⟨a, h1, e.seq h2⟩
  | fr gs =>
    obtain ⟨p, qs, rfl, nd, h1, h2, h3⟩ := h
    exact ⟨p, qs, rfl, nd, h1, by rw [k p (by simp)]; exact h2, h3.frame e fun a ha => k a (by simp [ha])⟩

/-- the state: the data part G of the heap H, the slots; F: each slot's own objects -/
structure HoldF (Γ : Gm) (F : Nat → List Addr) (G H : Hp) (σ : L2.St) (l : List Sl) : Prop where
  fx : Fx Γ G H
  len : σ.length = l.length
  at_ : ∀ i sl, l[i]? = some sl → ∃ s, σ[i]? = some s ∧ SlOk G H s (F i) sl
  dis : ∀ i j a, a ∈ F i → a ∈ F j → i = j
  own : ∀ i a, a ∈ F i → G a = none ∧ (Γ.H a = none ∨ Γ.B a) ∧ H a ≠ none
  new : Γ.fz = true → ∀ i sl, l[i]? = some sl → sl.isNew = true → ∀ a, a ∈ F i → Γ.H a = none
def Hold (Γ : Gm) (G H : Hp) (σ : L2.St) (l : List Sl) : Prop := ∃ F, HoldF Γ F G H σ l

section
variable {Γ : Gm} {G H G' H' : Hp} {σ : L2.St} {l : List Sl} {F : Nat → List Addr}
theorem HoldF.grow (h : HoldF Γ F G H σ l) (w : Grow G H G' H') : HoldF Γ F G' H' σ l :=
  ⟨h.fx.grow w, h.len, fun i sl e => by
    obtain ⟨s, h1, h2⟩ := h.at_ i sl e
    refine ⟨s, h1, h2.frame w.g fun a ha => ?_⟩
    obtain ⟨o, q⟩ := ne_some (h.own i a ha).2.2
    rw [q]; exact w.h _ _ q, h.dis, fun i a ha => by
    obtain ⟨h1, h2, h3⟩ := h.own i a ha
    exact ⟨w.n a h1 h3, h2, Same.there w.h h3⟩, h.new⟩
theorem Hold.grow (h : Hold Γ G H σ l) (w : Grow G H G' H') : Hold Γ G' H' σ l := let ⟨F, h⟩ := h; ⟨F, h.grow w⟩
theorem Hold.fx (h : Hold Γ G H σ l) : Fx Γ G H := let ⟨_, h⟩ := h; h.fx
theorem Hold.f (h : Hold Γ G H σ l) : Same G H := h.fx.f
theorem Hold.dat (h : Hold Γ G H σ l) {i : Nat} {d : PyData} (e : l[i]? = some (.dat d)) : ∃ v, σ[i]? = some (some v) ∧ Is G v d := by
  obtain ⟨F, h⟩ := h
  obtain ⟨s, h1, v, h2, h3⟩ := h.at_ i _ e
  exact ⟨v, by rw [h1, h2], h3⟩
/-- a slot gets data -/
theorem HoldF.set (h : HoldF Γ F G H σ l) {i : Nat} {v : V} {d : PyData} (r : Is G v d) : HoldF Γ (fun j => if j = i then [] else F j) G H (σ.set i (some v)) (l.set i (.dat d)) := by
  refine ⟨h.fx, by rw [List.length_set, List.length_set]; exact h.len, fun j sl e => ?_, fun j k a h1 h2 => ?_, fun j a h1 => ?_, fun fz j sl e en a ha => ?_⟩
  · by_cases hj : j = i
    · subst hj
      have hlt : j < l.length := by
        have := (List.getElem?_eq_some_iff.mp e).1
        rwa [List.length_set] at this
      rw [List.getElem?_set_self hlt] at e
      cases e
      exact ⟨some v, List.getElem?_set_self (by rw [h.len]; exact hlt), v, rfl, r⟩
    · rw [List.getElem?_set_ne (Ne.symm hj)] at e
      obtain ⟨s, h1, h2⟩ := h.at_ j sl e
      exact ⟨s, by rw [List.getElem?_set_ne (Ne.symm hj)]; exact h1, by rw [if_neg hj]; exact h2⟩
  · by_cases hj : j = i
    · simp [hj] at h1
    · by_cases hk : k = i
      · simp [hk] at h2
      · rw [if_neg hj] at h1; rw [if_neg hk] at h2; exact h.dis j k a h1 h2
  · by_cases hj : j = i
    · simp [hj] at h1
    · rw [if_neg hj] at h1; exact h.own j a h1
  · by_cases hj : j = i
    · simp [hj] at ha
    · rw [if_neg hj] at ha
      rw [List.getElem?_set_ne (Ne.symm hj)] at e
      exact h.new fz j sl e en a ha
theorem Hold.set (h : Hold Γ G H σ l) {i : Nat} {v : V} {d : PyData} (r : Is G v d) : Hold Γ G H (σ.set i (some v)) (l.set i (.dat d)) := let ⟨F, h⟩ := h; ⟨_, h.set r⟩
/-- a slot gets an own object, new -/
theorem HoldF.setOwn (h : HoldF Γ F G H σ l) {i : Nat} {p : Addr} {o : HO} {sl : Sl} (hp : H p = none) (r : SlOk G (upd H p o) (some (.ref p)) [p] sl) :
    HoldF Γ (fun j => if j = i then [p] else F j) G (upd H p o) (σ.set i (some (.ref p))) (l.set i sl) := by
  have nF : ∀ j, p ∉ F j := fun j hm => (h.own j p hm).2.2 hp
  have hG : G p = none := h.fx.f.free hp
  have h0 : Γ.H p = none := by
    cases q : Γ.H p with
    | none => rfl
    | some u => exact absurd hp (h.fx.s p (some_ne q))
  refine ⟨⟨h.fx.g, fun a u q => by rw [upd_ne (ne_of_none q hG)]; exact h.fx.f a u q, fun a u q1 q2 => by rw [upd_ne (ne_of_none q1 h0)]; exact h.fx.h a u q1 q2, fun a q => by
      by_cases e : a = p
      · subst e; rw [upd_same]; exact fun z => by cases z
      · rw [upd_ne e]; exact h.fx.s a q, h.fx.n⟩, by rw [List.length_set, List.length_set]; exact h.len, fun j sl' e => ?_, fun j k a h1 h2 => ?_, fun j a h1 => ?_, fun fz j sl' e en a ha => ?_⟩
  · by_cases hj : j = i
    · subst hj
      have hlt : j < l.length := by
        have := (List.getElem?_eq_some_iff.mp e).1
        rwa [List.length_set] at this
      rw [List.getElem?_set_self hlt] at e
      cases e
      exact ⟨_, List.getElem?_set_self (by rw [h.len]; exact hlt), by rw [if_pos rfl]; exact r⟩
    · rw [List.getElem?_set_ne (Ne.symm hj)] at e
      obtain ⟨s, h1, h2⟩ := h.at_ j sl' e
      refine ⟨s, by rw [List.getElem?_set_ne (Ne.symm hj)]; exact h1, ?_⟩
      rw [if_neg hj]
      exact h2.frame (Same.refl _) fun a ha => upd_ne fun z => nF j (by rw [← z]; exact ha)
  · by_cases hj : j = i
    · by_cases hk : k = i
      · rw [hj, hk]
      · rw [if_pos hj] at h1; rw [if_neg hk] at h2
        have : a = p := by simpa using h1
        subst this
        exact absurd h2 (nF k)
    · rw [if_neg hj] at h1
      by_cases hk : k = i
      · rw [if_pos hk] at h2
        have : a = p := by simpa using h2
        subst this
        exact absurd h1 (nF j)
      · rw [if_neg hk] at h2; exact h.dis j k a h1 h2
  · by_cases hj : j = i
    · rw [if_pos hj] at h1
      have : a = p := by simpa using h1
      subst this
      exact ⟨hG, .inl h0, by rw [upd_same]; exact fun z => by cases z⟩
    · rw [if_neg hj] at h1
      obtain ⟨q1, q2, q3⟩ := h.own j a h1
      exact ⟨q1, q2, by rw [upd_ne fun z => nF j (by rw [← z]; exact h1)]; exact q3⟩
  · by_cases hj : j = i
    · rw [if_pos hj] at ha
      have : a = p := by simpa using ha
      subst this
      exact h0
    · rw [if_neg hj] at ha
      rw [List.getElem?_set_ne (Ne.symm hj)] at e
      exact h.new fz j sl' e en a ha
/-- own objects of a slot are written -/
theorem HoldF.write (h : HoldF Γ F G H σ l) {i : Nat} {H' : Hp} {sl : Sl} (k : ∀ a, a ∉ F i → H' a = H a) (t : ∀ a, a ∈ F i → H' a ≠ none) (r : ∀ s, σ[i]? = some s → SlOk G H' s (F i) sl) {sl0 : Sl} (hi : l[i]? = some sl0) (en : sl0.isNew = sl.isNew) :
    HoldF Γ F G H' σ (l.set i sl) := by
  have hi0 := hi
  have hi : i < l.length := (List.getElem?_eq_some_iff.mp hi).1
  have nG : ∀ a o, G a = some o → a ∉ F i := fun a o q hm => by rw [(h.own i a hm).1] at q; cases q
  refine ⟨⟨h.fx.g, fun a u q => by rw [k a (nG a u q)]; exact h.fx.f a u q, fun a u q1 q2 => ?_, fun a q => ?_, h.fx.n⟩, by rw [List.length_set]; exact h.len, fun j sl' e => ?_, h.dis, fun j a h1 => ?_, fun fz j sl' e en' a ha => ?_⟩
  · have : a ∉ F i := fun hm => by
      rcases (h.own i a hm).2.1 with z | z
      · rw [z] at q1; cases q1
      · exact q2 z
    rw [k a this]; exact h.fx.h a u q1 q2
  · by_cases hm : a ∈ F i
    · exact t a hm
    · rw [k a hm]; exact h.fx.s a q
  · by_cases hj : j = i
    · subst hj
      rw [List.getElem?_set_self hi] at e
      cases e
      have hs : j < σ.length := by rw [h.len]; exact hi
      exact ⟨σ[j], List.getElem?_eq_getElem hs, r _ (List.getElem?_eq_getElem hs)⟩
    · rw [List.getElem?_set_ne (Ne.symm hj)] at e
      obtain ⟨s, h1, h2⟩ := h.at_ j sl' e
      exact ⟨s, h1, h2.frame (Same.refl _) fun a ha => k a fun hm => hj (h.dis j i a ha hm)⟩
  · obtain ⟨q1, q2, q3⟩ := h.own j a h1
    by_cases hm : a ∈ F i
    · exact ⟨q1, q2, t a hm⟩
    · exact ⟨q1, q2, by rw [k a hm]; exact q3⟩
  · by_cases hj : j = i
    · subst hj
      rw [List.getElem?_set_self hi] at e
      cases e
      exact h.new fz j _ hi0 (by rw [en]; exact en') a ha
    · rw [List.getElem?_set_ne (Ne.symm hj)] at e
      exact h.new fz j sl' e en' a ha
/-- an own object becomes data -/
theorem HoldF.freeze (h : HoldF Γ F G H σ l) {i : Nat} {ds : List PyData} (fz : Γ.fz = true) (e : l[i]? = some (.own ds)) : ∃ G', Same G G' ∧ HoldF Γ (fun j => if j = i then [] else F j) G' H σ (l.set i (.dat (.list ds))) := by
  obtain ⟨s, h1, p, vs, hF, h2, h3, h4⟩ := h.at_ i _ e
  subst h2
  have hp := h.own i p (by rw [hF]; simp)
  have g1 : Same G (upd G p (.lst vs)) := Same.new hp.1
  have hlt : i < l.length := (List.getElem?_eq_some_iff.mp e).1
  have hf : Same (upd G p (.lst vs)) H := fun a u q => by
    by_cases z : a = p
    · subst z; rw [upd_same] at q; rw [← q]; exact h3
    · rw [upd_ne z] at q; exact h.fx.f a u q
  have h0 : Γ.H p = none := h.new fz i _ e rfl p (by rw [hF]; simp)
  have hG0 : Γ.G p = none := h.fx.g.free hp.1
  refine ⟨upd G p (.lst vs), g1, ⟨h.fx.g.trans g1, hf, h.fx.h, h.fx.s, fun a q1 q2 => ?_⟩, by rw [List.length_set]; exact h.len, fun j sl q => ?_, fun j k a q1 q2 => ?_, fun j a q1 => ?_, fun fz' j sl q en a ha => ?_⟩
  · by_cases z : a = p
    · subst z; exact absurd h0 q2
    · rw [upd_ne z]; exact h.fx.n a q1 q2
  · by_cases hj : j = i
    · subst hj
      rw [List.getElem?_set_self hlt] at q
      cases q
      exact ⟨_, h1, _, rfl, .lst upd_same (h4.mono g1)⟩
    · rw [List.getElem?_set_ne (Ne.symm hj)] at q
      obtain ⟨s, q1, q2⟩ := h.at_ j sl q
      exact ⟨s, q1, by rw [if_neg hj]; exact q2.frame g1 fun _ _ => rfl⟩
  · by_cases hj : j = i
    · simp [hj] at q1
    · by_cases hk : k = i
      · simp [hk] at q2
      · rw [if_neg hj] at q1; rw [if_neg hk] at q2; exact h.dis j k a q1 q2
  · by_cases hj : j = i
    · simp [hj] at q1
    · rw [if_neg hj] at q1
      obtain ⟨r1, r2, r3⟩ := h.own j a q1
      have : a ≠ p := fun z => hj (h.dis j i a q1 (by rw [hF, z]; simp))
      exact ⟨by rw [upd_ne this]; exact r1, r2, r3⟩
  · by_cases hj : j = i
    · simp [hj] at ha
    · rw [if_neg hj] at ha
      rw [List.getElem?_set_ne (Ne.symm hj)] at q
      exact h.new fz j sl q en a ha
/-- an object p of the body's own stands beside the slots -/
def HoldP (Γ : Gm) (G H : Hp) (σ : L2.St) (l : List Sl) (p : Addr) : Prop := ∃ F, HoldF Γ F G H σ l ∧ (∀ i, p ∉ F i) ∧ G p = none ∧ Γ.H p = none
theorem HoldF.side (h : HoldF Γ F G H σ l) {p : Addr} {o : HO} (n : ∀ i, p ∉ F i) (hG : G p = none) (h0 : Γ.H p = none) : HoldF Γ F G (upd H p o) σ l := by
  refine ⟨⟨h.fx.g, fun a u q => by rw [upd_ne (ne_of_none q hG)]; exact h.fx.f a u q, fun a u q1 q2 => by rw [upd_ne (ne_of_none q1 h0)]; exact h.fx.h a u q1 q2, fun a q => ?_, h.fx.n⟩, h.len, fun i sl e => ?_, h.dis, fun i a ha => ?_, h.new⟩
  · by_cases e : a = p
    · subst e; rw [upd_same]; exact fun z => by cases z
    · rw [upd_ne e]; exact h.fx.s a q
  · obtain ⟨s, h1, h2⟩ := h.at_ i sl e
    exact ⟨s, h1, h2.frame (Same.refl _) fun a ha => upd_ne fun z => n i (by rw [← z]; exact ha)⟩
  · obtain ⟨q1, q2, q3⟩ := h.own i a ha
    exact ⟨q1, q2, by rw [upd_ne fun z => n i (by rw [← z]; exact ha)]; exact q3⟩
theorem HoldP.side {p : Addr} {o : HO} (h : HoldP Γ G H σ l p) : HoldP Γ G (upd H p o) σ l p := let ⟨F, h1, h2, h3, h4⟩ := h; ⟨F, h1.side h2 h3 h4, h2, h3, h4⟩
theorem Hold.side {p : Addr} {o : HO} (h : Hold Γ G H σ l) (hp : H p = none) : HoldP Γ G (upd H p o) σ l p := by
  obtain ⟨F, h⟩ := h
  have n : ∀ i, p ∉ F i := fun i hm => (h.own i p hm).2.2 hp
  have hG : G p = none := h.fx.f.free hp
  have h0 : Γ.H p = none := by
    cases q : Γ.H p with
    | none => rfl
    | some u => exact absurd hp (h.fx.s p (some_ne q))
  exact ⟨F, h.side n hG h0, n, hG, h0⟩
theorem HoldP.hold {p : Addr} (h : HoldP Γ G H σ l p) : Hold Γ G H σ l := let ⟨F, h1, _⟩ := h; ⟨F, h1⟩
theorem HoldP.grow {p : Addr} (h : HoldP Γ G H σ l p) (w : Grow G H G' H') (hp : H p ≠ none) : HoldP Γ G' H' σ l p := let ⟨F, h1, h2, h3, h4⟩ := h; ⟨F, h1.grow w, h2, w.n p h3 hp, h4⟩
/-- it becomes data -/
theorem HoldP.freeze {p : Addr} {o : HO} (h : HoldP Γ G H σ l p) (e : H p = some o) : Hold Γ (upd G p o) H σ l ∧ Same G (upd G p o) := by
  obtain ⟨F, h, n, hG, h0⟩ := h
  have g1 : Same G (upd G p o) := Same.new hG
  refine ⟨⟨F, ⟨⟨h.fx.g.trans g1, fun a u q => ?_, h.fx.h, h.fx.s, fun a q1 q2 => ?_⟩, h.len, fun i sl q => ?_, h.dis, fun i a ha => ?_, h.new⟩⟩, g1⟩
  · by_cases z : a = p
    · subst z; rw [upd_same] at q; rw [← q]; exact e
    · rw [upd_ne z] at q; exact h.fx.f a u q
  · by_cases z : a = p
    · subst z; exact absurd h0 q2
    · rw [upd_ne z]; exact h.fx.n a q1 q2
  · obtain ⟨s, h1, h2⟩ := h.at_ i sl q
    exact ⟨s, h1, h2.frame g1 fun _ _ => rfl⟩
  · obtain ⟨q1, q2, q3⟩ := h.own i a ha
    exact ⟨by rw [upd_ne fun z => n i (by rw [← z]; exact ha)]; exact q1, q2, q3⟩
/-- it goes into a slot -/
theorem HoldP.set {p : Addr} {sl : Sl} (h : HoldP Γ G H σ l p) {i : Nat} (r : SlOk G H (some (.ref p)) [p] sl) (hp : H p ≠ none) : Hold Γ G H (σ.set i (some (.ref p))) (l.set i sl) := by
  obtain ⟨F, h, nF, hG, h0⟩ := h
  refine ⟨fun j => if j = i then [p] else F j, h.fx, by rw [List.length_set, List.length_set]; exact h.len, fun j sl' e => ?_, fun j k a h1 h2 => ?_, fun j a h1 => ?_, fun fz j sl' e en a ha => ?_⟩
  · by_cases hj : j = i
    · subst hj
      have hlt : j < l.length := by
        have := (List.getElem?_eq_some_iff.mp e).1
        rwa [List.length_set] at this
      rw [List.getElem?_set_self hlt] at e
      cases e
      exact ⟨_, List.getElem?_set_self (by rw [h.len]; exact hlt), by rw [if_pos rfl]; exact r⟩
    · rw [List.getElem?_set_ne (Ne.symm hj)] at e
      obtain ⟨s, h1, h2⟩ := h.at_ j sl' e
      exact ⟨s, by rw [List.getElem?_set_ne (Ne.symm hj)]; exact h1, by rw [if_neg hj]; exact h2⟩
  · by_cases hj : j = i
    · by_cases hk : k = i
      · rw [hj, hk]
      · rw [if_pos hj] at h1; rw [if_neg hk] at h2
        have : a = p := by simpa using h1
        subst this
        exact absurd h2 (nF k)
    · rw [if_neg hj] at h1
      by_cases hk : k = i
      · rw [if_pos hk] at h2
        have : a = p := by simpa using h2
        subst this
        exact absurd h1 (nF j)
      · rw [if_neg hk] at h2; exact h.dis j k a h1 h2
  · by_cases hj : j = i
    · rw [if_pos hj] at h1
      have : a = p := by simpa using h1
      subst this
      exact ⟨hG, .inl h0, hp⟩
    · rw [if_neg hj] at h1; exact h.own j a h1
  · by_cases hj : j = i
    · rw [if_pos hj] at ha
      have : a = p := by simpa using ha
      subst this
      exact h0
    · rw [if_neg hj] at ha
      rw [List.getElem?_set_ne (Ne.symm hj)] at e
      exact h.new fz j sl' e en a ha
/-- a slot forgotten -/
theorem HoldF.no (h : HoldF Γ F G H σ l) {i : Nat} : HoldF Γ (fun j => if j = i then [] else F j) G H (σ.set i none) (l.set i .no) := by
  refine ⟨h.fx, by rw [List.length_set, List.length_set]; exact h.len, fun j sl e => ?_, fun j k a h1 h2 => ?_, fun j a h1 => ?_, fun fz j sl e en a ha => ?_⟩
  · by_cases hj : j = i
    · subst hj
      have hlt : j < l.length := by
        have := (List.getElem?_eq_some_iff.mp e).1
        rwa [List.length_set] at this
      rw [List.getElem?_set_self hlt] at e
      cases e
      exact ⟨none, List.getElem?_set_self (by rw [h.len]; exact hlt), trivial⟩
    · rw [List.getElem?_set_ne (Ne.symm hj)] at e
      obtain ⟨s, h1, h2⟩ := h.at_ j sl e
      exact ⟨s, by rw [List.getElem?_set_ne (Ne.symm hj)]; exact h1, by rw [if_neg hj]; exact h2⟩
  · by_cases hj : j = i
    · simp [hj] at h1
    · by_cases hk : k = i
      · simp [hk] at h2
      · rw [if_neg hj] at h1; rw [if_neg hk] at h2; exact h.dis j k a h1 h2
  · by_cases hj : j = i
    · simp [hj] at h1
    · rw [if_neg hj] at h1; exact h.own j a h1
  · by_cases hj : j = i
    · simp [hj] at ha
    · rw [if_neg hj] at ha
      rw [List.getElem?_set_ne (Ne.symm hj)] at e
      exact h.new fz j sl e en a ha
end
end TG

/-! TgB: judgements by data, expressions -/
namespace TG
open PySem L2

/-! ### the widest readings -/
def wE (X : Cx) (e : Expr) : TE := fun σ H Q => ∃ t, PE X e t ∧ t σ H Q
def wT (X : Cx) (e : Expr) : TT := fun σ H Q => ∃ t, PT X e t ∧ t σ H Q
def wW (X : Cx) (e : Expr) : TT := fun σ H Q => ∃ t, PW X e t ∧ t σ H Q
def wA (X : Cx) (es : List Expr) : TA := fun σ H Q => ∃ t, PA X es t ∧ t σ H Q
def wS (X : Cx) (st : Stmt) : TS := fun D σ H => ∃ t, PS X st t ∧ t D σ H
def wSs (X : Cx) (st : List Stmt) : TS := fun D σ H => ∃ t, PSs X st t ∧ t D σ H
def wO (X : Cx) (e : Option Expr) : TO := fun σ H Q => ∃ t, PO X e t ∧ t σ H Q
def wG (X : Cx) (e : Expr) : TG := fun v σ H Q => ∃ t, PG X e t ∧ t v σ H Q
def wGs (X : Cx) (es : List Expr) : TGs := fun vs σ H Q => ∃ t, PGs X es t ∧ t vs σ H Q
section
variable {X : Cx}
theorem pe_w {e : Expr} : PE X e (wE X e) := ⟨fun pins s σ H Q I ⟨_, h, q⟩ => h.run pins s σ H Q I q⟩
theorem pt_w {e : Expr} : PT X e (wT X e) := ⟨fun pins s σ H Q I ⟨_, h, q⟩ => h.run pins s σ H Q I q⟩
theorem pw_w {e : Expr} : PW X e (wW X e) := ⟨fun wh pins s σ H Q I ⟨_, h, q⟩ => h.run wh pins s σ H Q I q⟩
theorem pa_w {es : List Expr} : PA X es (wA X es) := ⟨fun pos pins s σ H Q I ⟨_, h, q⟩ => h.run pos pins s σ H Q I q⟩
theorem ps_w {st : Stmt} : PS X st (wS X st) := ⟨fun pins s σ H D I ⟨_, h, q⟩ => h.run pins s σ H D I q⟩
theorem pss_w {st : List Stmt} : PSs X st (wSs X st) := ⟨fun pins s σ H D I ⟨_, h, q⟩ => h.run pins s σ H D I q⟩
theorem po_w {e : Option Expr} : PO X e (wO X e) := ⟨fun pins s σ H Q I ⟨_, h, q⟩ => h.run pins s σ H Q I q⟩
theorem pg_w {e : Expr} : PG X e (wG X e) := ⟨fun pins s σ H v u Q I r ⟨_, h, q⟩ => h.run pins s σ H v u Q I r q⟩
theorem pgs_w {es : List Expr} : PGs X es (wGs X es) := ⟨fun pins s σ H v u Q I r ⟨_, h, q⟩ => h.run pins s σ H v u Q I r q⟩
end

/-! ### judgements -/
/-- from the slots l the expression is the data d, and leaves the slots l' -/
structure EX (X : Cx) (Γ : Gm) (e : Expr) (l : List Sl) (d : PyData) (l' : List Sl) : Prop where
  run : ∀ (G H : Hp) (σ : L2.St) (Q : VK), Hold Γ G H σ l → (∀ v G' H', Hold Γ G' H' σ l' → Same G G' → Is G' v d → Q v H') → wE X e σ H Q
/-- .. a new list of the data ds -/
structure EL (X : Cx) (Γ : Gm) (e : Expr) (l : List Sl) (ds : List PyData) (l' : List Sl) : Prop where
  run : ∀ (G H : Hp) (σ : L2.St) (Q : VK), Hold Γ G H σ l → (∀ p vs G' H', HoldP Γ G' H' σ l' p → Same G G' → H' p = some (.lst vs) → IsAll G' vs ds → Q (.ref p) H') → wE X e σ H Q
structure TX (X : Cx) (Γ : Gm) (e : Expr) (l : List Sl) (b : Bool) (l' : List Sl) : Prop where
  run : ∀ (G H : Hp) (σ : L2.St) (Q : Bool → Hp → Prop), Hold Γ G H σ l → (∀ G' H', Hold Γ G' H' σ l' → Same G G' → Q b H') → wT X e σ H Q
structure WX (X : Cx) (Γ : Gm) (e : Expr) (l : List Sl) (b : Bool) (l' : List Sl) : Prop where
  run : ∀ (G H : Hp) (σ : L2.St) (Q : Bool → Hp → Prop), Hold Γ G H σ l → (∀ G' H', Hold Γ G' H' σ l' → Same G G' → Q b H') → wW X e σ H Q
structure AX (X : Cx) (Γ : Gm) (es : List Expr) (l : List Sl) (ds : List PyData) (l' : List Sl) : Prop where
  run : ∀ (G H : Hp) (σ : L2.St) (Q : List V → Hp → Prop), Hold Γ G H σ l → (∀ vs G' H', Hold Γ G' H' σ l' → Same G G' → IsAll G' vs ds → Q vs H') → wA X es σ H Q
structure OX (X : Cx) (Γ : Gm) (e : Option Expr) (l : List Sl) (o : Option Int) (l' : List Sl) : Prop where
  run : ∀ (G H : Hp) (σ : L2.St) (Q : Option Int → Hp → Prop), Hold Γ G H σ l → (∀ G' H', Hold Γ G' H' σ l' → Same G G' → Q o H') → wO X e σ H Q
/-- a two-place operation on data -/
structure OpD (X : Cx) (f : Value → Value → Sem Value) (x y d : PyData) : Prop where
  run : ∃ r : R2, OpR X f r ∧ ∀ (G H : Hp) (u v : V) (Q : VK), Same G H → Is G u x → Is G v y → (∀ w G' H', Grow G H G' H' → Is G' w d → Q w H') → r u v H Q
structure UnD (X : Cx) (f : Value → Sem Value) (x d : PyData) : Prop where
  run : ∃ r, UnR X f r ∧ ∀ (G H : Hp) (u : V) (Q : VK), Same G H → Is G u x → (∀ w G' H', Grow G H G' H' → Is G' w d → Q w H') → r u H Q
/-- a call of a built-in on data -/
structure CaD (X : Cx) (f : Value) (xs : List PyData) (d : PyData) : Prop where
  run : ∃ r, CallR X f r ∧ ∀ (G H : Hp) (us : List V) (Q : VK), Same G H → IsAll G us xs → (∀ w G' H', Grow G H G' H' → Is G' w d → Q w H') → r us H Q

section
variable {X : Cx} {Γ : Gm} {a b c e : Expr} {es rest : List Expr} {l l1 l2 l3 l' : List Sl} {d x y z : PyData} {ds ds' : List PyData} {pos p p2 : Pos}
theorem EX.eq {d' : PyData} (h : EX X Γ e l d l') (q : d = d') : EX X Γ e l d' l' := q ▸ h
theorem TX.eq {b b' : Bool} (h : TX X Γ e l b l') (q : b = b') : TX X Γ e l b' l' := q ▸ h
/-- a new list may stand as data -/
theorem EL.ex (h : EL X Γ e l ds l') : EX X Γ e l (.list ds) l' := ⟨fun G H σ Q hh k => h.run G H σ Q hh fun p vs G' H' h1 e1 hp i =>
  let ⟨h2, g⟩ := h1.freeze hp
  k (.ref p) _ _ h2 (e1.trans g) (.lst upd_same (i.mono g))⟩
theorem EX.var {i : Nat} {n : Str} (hN : X.N[i]? = some n) (hv : Vis X.env.scope n) (q : l[i]? = some (.dat d)) (hd : (n == ("__debug__" : Str)) = false := by decide) (hcd : (n == ("__classdict__" : Str)) = false := by decide) : EX X Γ (.Name n pos) l d l :=
  ⟨fun G H σ Q hh k => let ⟨v, q1, q2⟩ := hh.dat q; ⟨_, pe_var hN hv hd hcd, v, q1, k v G H hh (Same.refl _) q2⟩⟩
theorem EX.int {i : Int} {j} : EX X Γ (.Constant (.int i) j pos) l (.int i) l := ⟨fun G H σ Q hh k => ⟨_, pe_int, k _ G H hh (Same.refl _) (.int i)⟩⟩
theorem EX.bl {i : Bool} {j} : EX X Γ (.Constant (.bool i) j pos) l (.bool i) l := ⟨fun G H σ Q hh k => ⟨_, pe_bl, k _ G H hh (Same.refl _) (.bl i)⟩⟩
theorem EX.non {j} : EX X Γ (.Constant .none j pos) l .none l := ⟨fun G H σ Q hh k => ⟨_, pe_non, k _ G H hh (Same.refl _) .non⟩⟩
theorem EX.str {w : Str} {j} : EX X Γ (.Constant (.str w) j pos) l (.str w) l := ⟨fun G H σ Q hh k => ⟨_, pe_str, k _ G H hh (Same.refl _) (.str w)⟩⟩
theorem EX.globI {n : Str} {i : Int} {t : Tok} (hg : Gl X n) (hm : X.mg n = some (.int i t)) (hd : (n == ("__debug__" : Str)) = false := by decide) : EX X Γ (.Name n pos) l (.int i) l :=
  ⟨fun G H σ Q hh k => ⟨_, pe_glob (v := .int i) hg hm ⟨t, rfl⟩ hd, k _ G H hh (Same.refl _) (.int i)⟩⟩
theorem EX.globS {n w : Str} {t : Tok} (hg : Gl X n) (hm : X.mg n = some (.str w t)) (hd : (n == ("__debug__" : Str)) = false := by decide) : EX X Γ (.Name n pos) l (.str w) l :=
  ⟨fun G H σ Q hh k => ⟨_, pe_glob (v := .str w) hg hm ⟨t, rfl⟩ hd, k _ G H hh (Same.refl _) (.str w)⟩⟩
theorem EX.bin {op : Operator} (ha : EX X Γ a l x l1) (hb : EX X Γ b l1 y l2) (ho : OpD X (binaryOp op) x y d) : EX X Γ (.BinOp a op b pos) l d l2 := ⟨fun G H σ Q hh k => by
  obtain ⟨r, hr, hq⟩ := ho.run
  refine ⟨_, pe_op hr pe_w pe_w, ?_⟩
  refine ha.run G H σ _ hh fun v G1 H1 h1 e1 i1 => ?_
  refine hb.run G1 H1 σ _ h1 fun u G2 H2 h2 e2 i2 => ?_
  refine hq G2 H2 v u Q h2.f (i1.mono e2) i2 fun w G3 H3 g i3 => ?_
  exact k w G3 H3 (h2.grow g) ((e1.trans e2).trans g.g) i3⟩
theorem EX.cmp {op : CmpOp} (ha : EX X Γ a l x l1) (hb : EX X Γ b l1 y l2) (ho : OpD X (compareOp op) x y d) (hm : behindInMarks op b = false) : EX X Γ (.Compare a [op] [b] pos) l d l2 := ⟨fun G H σ Q hh k => by
  obtain ⟨r, hr, hq⟩ := ho.run
  refine ⟨_, pe_cmpR hr pe_w pe_w hm, ?_⟩
  refine ha.run G H σ _ hh fun v G1 H1 h1 e1 i1 => ?_
  refine hb.run G1 H1 σ _ h1 fun u G2 H2 h2 e2 i2 => ?_
  refine hq G2 H2 v u Q h2.f (i1.mono e2) i2 fun w G3 H3 g i3 => ?_
  exact k w G3 H3 (h2.grow g) ((e1.trans e2).trans g.g) i3⟩
theorem TX.cmp {op : CmpOp} {k : Bool} (ha : EX X Γ a l x l1) (hb : EX X Γ b l1 y l2) (ho : OpD X (compareOp op) x y (.bool k)) (hm : behindInMarks op b = false) : TX X Γ (.Compare a [op] [b] pos) l k l2 := ⟨fun G H σ Q hh kk => by
  obtain ⟨r, hr, hq⟩ := ho.run
  refine ⟨_, pt_cmpR hr pe_w pe_w hm, ?_⟩
  refine ha.run G H σ _ hh fun v G1 H1 h1 e1 i1 => ?_
  refine hb.run G1 H1 σ _ h1 fun u G2 H2 h2 e2 i2 => ?_
  refine hq G2 H2 v u _ h2.f (i1.mono e2) i2 fun w G3 H3 g i3 => ?_
  exact ⟨k, i3.blInv, kk G3 H3 (h2.grow g) ((e1.trans e2).trans g.g)⟩⟩
/-- a value that is a truth, as a test -/
theorem TX.val {k : Bool} (h : EX X Γ e l (.bool k) l') (he : ∀ whole, isTrue e X.env whole = (do let v ← whole; standAt e.pos; holding [v] (truthy v)) := by intro _; rfl) : TX X Γ e l k l' := ⟨fun G H σ Q hh kk =>
  ⟨_, pt_val pe_w he, h.run G H σ _ hh fun v G1 H1 h1 e1 i1 => ⟨k, i1.blInv, kk G1 H1 h1 e1⟩⟩⟩
theorem TX.not {k : Bool} (h : TX X Γ a l k l') : TX X Γ (.UnaryOp .Not a pos) l (!k) l' := ⟨fun G H σ Q hh kk => ⟨_, pt_not pt_w, h.run G H σ _ hh fun G1 H1 h1 e1 => kk G1 H1 h1 e1⟩⟩
theorem TX.ofW {k : Bool} (h : WX X Γ e l k l') : TX X Γ e l k l' := ⟨fun G H σ Q hh kk => ⟨_, PW.pt pw_w, h.run G H σ Q hh kk⟩⟩
theorem WX.and1 {k : Bool} (h : TX X Γ a l k l') : WX X Γ (.BoolOp .And [a] pos) l k l' := ⟨fun G H σ Q hh kk => ⟨_, pw_and1 pt_w, h.run G H σ Q hh kk⟩⟩
theorem WX.or1 {k : Bool} (h : TX X Γ a l k l') : WX X Γ (.BoolOp .Or [a] pos) l k l' := ⟨fun G H σ Q hh kk => ⟨_, pw_or1 pt_w, h.run G H σ Q hh kk⟩⟩
theorem WX.andT {k : Bool} (h : TX X Γ a l true l1) (h2 : WX X Γ (.BoolOp .And (b :: rest) pos) l1 k l') : WX X Γ (.BoolOp .And (a :: b :: rest) pos) l k l' := ⟨fun G H σ Q hh kk =>
  ⟨_, pw_and pt_w pw_w, h.run G H σ _ hh fun G1 H1 h1 e1 => iteT (h2.run G1 H1 σ Q h1 fun G2 H2 h2 e2 => kk G2 H2 h2 (e1.trans e2))⟩⟩
theorem WX.andF (h : TX X Γ a l false l1) : WX X Γ (.BoolOp .And (a :: b :: rest) pos) l false l1 := ⟨fun G H σ Q hh kk =>
  ⟨_, pw_and pt_w pw_w, h.run G H σ _ hh fun G1 H1 h1 e1 => iteF (kk G1 H1 h1 e1)⟩⟩
theorem WX.orF {k : Bool} (h : TX X Γ a l false l1) (h2 : WX X Γ (.BoolOp .Or (b :: rest) pos) l1 k l') : WX X Γ (.BoolOp .Or (a :: b :: rest) pos) l k l' := ⟨fun G H σ Q hh kk =>
  ⟨_, pw_or pt_w pw_w, h.run G H σ _ hh fun G1 H1 h1 e1 => iteF (h2.run G1 H1 σ Q h1 fun G2 H2 h2 e2 => kk G2 H2 h2 (e1.trans e2))⟩⟩
theorem WX.orT (h : TX X Γ a l true l1) : WX X Γ (.BoolOp .Or (a :: b :: rest) pos) l true l1 := ⟨fun G H σ Q hh kk =>
  ⟨_, pw_or pt_w pw_w, h.run G H σ _ hh fun G1 H1 h1 e1 => iteT (kk G1 H1 h1 e1)⟩⟩
/-- where the parts leave the slots as they are -/
theorem WX.and {k m : Bool} (h : TX X Γ a l k l) (h2 : k = true → WX X Γ (.BoolOp .And (b :: rest) pos) l m l) : WX X Γ (.BoolOp .And (a :: b :: rest) pos) l (k && m) l := by
  cases k with
  | true => exact WX.andT h (h2 rfl)
  | false => exact WX.andF h
theorem WX.or {k m : Bool} (h : TX X Γ a l k l) (h2 : k = false → WX X Γ (.BoolOp .Or (b :: rest) pos) l m l) : WX X Γ (.BoolOp .Or (a :: b :: rest) pos) l (k || m) l := by
  cases k with
  | true => exact WX.orT h
  | false => exact WX.orF h (h2 rfl)
theorem EX.one {op : BoolOp} (h : EX X Γ a l d l') : EX X Γ (.BoolOp op [a] pos) l d l' := ⟨fun G H σ Q hh k => ⟨_, pe_one pe_w, h.run G H σ Q hh k⟩⟩
theorem EX.andT (h : EX X Γ a l (.bool true) l1) (h2 : EX X Γ (.BoolOp .And (b :: rest) pos) l1 d l') : EX X Γ (.BoolOp .And (a :: b :: rest) pos) l d l' := ⟨fun G H σ Q hh k =>
  ⟨_, pe_and pe_w pe_w, h.run G H σ _ hh fun v G1 H1 h1 e1 i1 => ⟨true, i1.blInv, iteT (h2.run G1 H1 σ Q h1 fun w G2 H2 h2 e2 i2 => k w G2 H2 h2 (e1.trans e2) i2)⟩⟩⟩
theorem EX.andF (h : EX X Γ a l (.bool false) l1) : EX X Γ (.BoolOp .And (a :: b :: rest) pos) l (.bool false) l1 := ⟨fun G H σ Q hh k =>
  ⟨_, pe_and pe_w pe_w, h.run G H σ _ hh fun v G1 H1 h1 e1 i1 => ⟨false, i1.blInv, iteF (k _ G1 H1 h1 e1 (.bl false))⟩⟩⟩
theorem EX.orF (h : EX X Γ a l (.bool false) l1) (h2 : EX X Γ (.BoolOp .Or (b :: rest) pos) l1 d l') : EX X Γ (.BoolOp .Or (a :: b :: rest) pos) l d l' := ⟨fun G H σ Q hh k =>
  ⟨_, pe_or pe_w pe_w, h.run G H σ _ hh fun v G1 H1 h1 e1 i1 => ⟨false, i1.blInv, iteF (h2.run G1 H1 σ Q h1 fun w G2 H2 h2 e2 i2 => k w G2 H2 h2 (e1.trans e2) i2)⟩⟩⟩
theorem EX.orT (h : EX X Γ a l (.bool true) l1) : EX X Γ (.BoolOp .Or (a :: b :: rest) pos) l (.bool true) l1 := ⟨fun G H σ Q hh k =>
  ⟨_, pe_or pe_w pe_w, h.run G H σ _ hh fun v G1 H1 h1 e1 i1 => ⟨true, i1.blInv, iteT (k _ G1 H1 h1 e1 (.bl true))⟩⟩⟩
theorem EX.and {k m : Bool} (h : EX X Γ a l (.bool k) l) (h2 : k = true → EX X Γ (.BoolOp .And (b :: rest) pos) l (.bool m) l) : EX X Γ (.BoolOp .And (a :: b :: rest) pos) l (.bool (k && m)) l := by
  cases k with
  | true => exact EX.andT h (h2 rfl)
  | false => exact EX.andF h
theorem EX.or {k m : Bool} (h : EX X Γ a l (.bool k) l) (h2 : k = false → EX X Γ (.BoolOp .Or (b :: rest) pos) l (.bool m) l) : EX X Γ (.BoolOp .Or (a :: b :: rest) pos) l (.bool (k || m)) l := by
  cases k with
  | true => exact EX.orT h
  | false => exact EX.orF h (h2 rfl)
theorem EX.not {k : Bool} (h : EX X Γ a l (.bool k) l') : EX X Γ (.UnaryOp .Not a pos) l (.bool (!k)) l' := ⟨fun G H σ Q hh kk =>
  ⟨_, pe_not pe_w, h.run G H σ _ hh fun v G1 H1 h1 e1 i1 => ⟨k, i1.blInv, kk _ G1 H1 h1 e1 (.bl _)⟩⟩⟩
theorem EX.un {op : UnaryOp} (h : EX X Γ a l x l') (ho : UnD X (unaryOp op) x d) : EX X Γ (.UnaryOp op a pos) l d l' := ⟨fun G H σ Q hh k => by
  obtain ⟨r, hr, hq⟩ := ho.run
  refine ⟨_, pe_un hr pe_w, ?_⟩
  refine h.run G H σ _ hh fun v G1 H1 h1 e1 i1 => ?_
  exact hq G1 H1 v Q h1.f i1 fun w G3 H3 g i3 => k w G3 H3 (h1.grow g) (e1.trans g.g) i3⟩
theorem unNeg {i : Int} : UnD X (unaryOp .USub) (.int i) (.int (-i)) := ⟨_, un_neg, fun G H u Q f hu k => ⟨i, hu.intInv, k _ G H (Grow.refl f) (.int _)⟩⟩

/-! ### arguments, displays, calls -/
theorem AX.nil : AX X Γ [] l [] l := ⟨fun G H σ Q hh k => ⟨_, pa_nil, k [] G H hh (Same.refl _) .nil⟩⟩
theorem AX.cons (h : EX X Γ e l d l1) (h2 : AX X Γ es l1 ds l') (hs : starEach (e :: es) X.env = (false, eval e X.env) :: starEach es X.env := by rfl) : AX X Γ (e :: es) l (d :: ds) l' := ⟨fun G H σ Q hh k =>
  ⟨_, pa_cons pe_w pa_w hs, h.run G H σ _ hh fun v G1 H1 h1 e1 i1 => h2.run G1 H1 σ _ h1 fun vs G2 H2 h2 e2 i2 => k _ G2 H2 h2 (e1.trans e2) (.cons (i1.mono e2) i2)⟩⟩
theorem EX.tup {x1} (h : AX X Γ es l ds l') (hz : ds.length ≤ sizeLine) : EX X Γ (.Tuple es x1 pos) l (.tuple ds) l' := ⟨fun G H σ Q hh k =>
  ⟨_, pe_tup pa_w, h.run G H σ _ hh fun vs G1 H1 h1 e1 i1 => ⟨by rw [i1.length]; exact hz, fun p hp =>
    k _ _ _ (h1.grow (Grow.laid h1.f hp)) (e1.trans (Same.new (h1.f.free hp))) (.tup upd_same (i1.mono (Same.new (h1.f.free hp))))⟩⟩⟩
theorem EL.lst (h : AX X Γ es l ds l') (hz : ds.length ≤ sizeLine) : EL X Γ (.List es pos) l ds l' := ⟨fun G H σ Q hh k =>
  ⟨_, pe_lst pa_w, h.run G H σ _ hh fun vs G1 H1 h1 e1 i1 => ⟨by rw [i1.length]; exact hz, fun p hp => k p vs G1 _ (h1.side hp) e1 upd_same i1⟩⟩⟩
theorem EX.callB {id : String} {n : Str} (h : AX X Γ (e :: es) l ds l') (hc : CaD X (.builtin id) ds d) (hg : Gl X n) (hm : X.mg n = none) (hv : bootBuiltins n = some (.builtin id)) (hn : n ≠ "__name__" := by decide) (hdb : (n == ("__debug__" : Str)) = false := by decide)
    (he : starEach (e :: es) X.env = (false, eval e X.env) :: starEach es X.env := by rfl) (hpl : (backTo pos (starEach es X.env)).any (·.1) = false := by rfl) : EX X Γ (.Call (.Name n p) (e :: es) [] pos) l d l' := ⟨fun G H σ Q hh k => by
  obtain ⟨r, hr, hq⟩ := hc.run
  refine ⟨_, pe_callB hr hg hm hv pa_w hn hdb he hpl, ?_⟩
  exact h.run G H σ _ hh fun vs G1 H1 h1 e1 i1 => hq G1 H1 vs Q h1.f i1 fun w G3 H3 g i3 => k w G3 H3 (h1.grow g) (e1.trans g.g) i3⟩
theorem EX.callTy {T : String} {n : Str} (h : AX X Γ (e :: es) l ds l') (hc : CaD X (.type T) ds d) (hg : Gl X n) (hm : X.mg n = none) (hv : bootBuiltins n = some (.type T)) (hn : n ≠ "__name__" := by decide) (hdb : (n == ("__debug__" : Str)) = false := by decide)
    (he : starEach (e :: es) X.env = (false, eval e X.env) :: starEach es X.env := by rfl) (hpl : (backTo pos (starEach es X.env)).any (·.1) = false := by rfl) : EX X Γ (.Call (.Name n p) (e :: es) [] pos) l d l' := ⟨fun G H σ Q hh k => by
  obtain ⟨r, hr, hq⟩ := hc.run
  refine ⟨_, pe_callTy hr hg hm hv pa_w hn hdb he hpl, ?_⟩
  exact h.run G H σ _ hh fun vs G1 H1 h1 e1 i1 => hq G1 H1 vs Q h1.f i1 fun w G3 H3 g i3 => k w G3 H3 (h1.grow g) (e1.trans g.g) i3⟩
end

/-! ### the promise of a def over data -/
def spD (R : List PyData → PyData → Prop) : Sp := fun vs H Q _ => ∃ (G : Hp) (ds : List PyData) (d : PyData), R ds d ∧ Same G H ∧ IsAll G vs ds ∧ ∀ v G' H', Grow G H G' H' → Is G' v d → Q v H'
section
variable {X : Cx} {Γ : Gm} {e : Expr} {es : List Expr} {l l' : List Sl} {d : PyData} {ds : List PyData} {pos p : Pos} {k : Nat} {f : Addr} {fd : FuncData} {ps : List Str} {n : Str} {R : List PyData → PyData → Prop}
theorem EX.call (F : FnOk X.prog X.w X.K X.mg X.base CX0 k f fd ps (spD R)) (hr : Room k X.A) (hg : Gl X n) (hm : X.mg n = some (.ref f)) (hk : PySem.W.keepIn X.K (.ref f) = true) (hb : Binds X.K fd ps [])
    (h : AX X Γ (e :: es) l ds l') (hR : R ds d) (hdb : (n == ("__debug__" : Str)) = false := by decide) (he : starEach (e :: es) X.env = (false, eval e X.env) :: starEach es X.env := by rfl) (hpl : (backTo pos (starEach es X.env)).any (·.1) = false := by rfl) :
    EX X Γ (.Call (.Name n p) (e :: es) [] pos) l d l' := ⟨fun G H σ Q hh q =>
  ⟨_, pe_call F hr hg hm hk hb .nil pass0 pa_w hdb he hpl, h.run G H σ _ hh fun vs G1 H1 h1 e1 i1 => by
    rw [List.append_nil]
    exact ⟨G1, ds, d, hR, h1.f, i1, fun v G2 H2 g i2 => q v G2 H2 (h1.grow g) (e1.trans g.g) i2⟩⟩⟩
end
end TG

/-! TgC: operations on data, subscripts, slices -/
namespace TG
open PySem L2

section
variable {X : Cx} {i j : Int} {u w : Str} {xs ys : List PyData} {x y d : PyData}
theorem opAddI : OpD X (binaryOp .Add) (.int i) (.int j) (.int (i + j)) := ⟨_, op_add, fun G H u v Q f hu hv k => ⟨i, j, hu.intInv, hv.intInv, k _ G H (Grow.refl f) (.int _)⟩⟩
theorem opSub : OpD X (binaryOp .Sub) (.int i) (.int j) (.int (i - j)) := ⟨_, op_sub, fun G H u v Q f hu hv k => ⟨i, j, hu.intInv, hv.intInv, k _ G H (Grow.refl f) (.int _)⟩⟩
theorem opMulI (h : CMul i j) : OpD X (binaryOp .Mult) (.int i) (.int j) (.int (i * j)) := ⟨_, op_mul, fun G H u v Q f hu hv k => ⟨i, j, hu.intInv, hv.intInv, h, k _ G H (Grow.refl f) (.int _)⟩⟩
theorem opDiv (h : CDiv i j) : OpD X (binaryOp .FloorDiv) (.int i) (.int j) (.int (i / j)) := ⟨_, op_fdiv, fun G H u v Q f hu hv k => ⟨i, j, hu.intInv, hv.intInv, h, k _ G H (Grow.refl f) (.int _)⟩⟩
theorem opMod (h : 0 < j) : OpD X (binaryOp .Mod) (.int i) (.int j) (.int (i % j)) := ⟨_, op_mod, fun G H u v Q f hu hv k => ⟨i, j, hu.intInv, hv.intInv, h, k _ G H (Grow.refl f) (.int _)⟩⟩
theorem opPow (h : CPow i j) : OpD X (binaryOp .Pow) (.int i) (.int j) (.int (i ^ j.toNat)) := ⟨_, op_pow, fun G H u v Q f hu hv k => ⟨i, j, hu.intInv, hv.intInv, h, k _ G H (Grow.refl f) (.int _)⟩⟩
theorem opAddS (h : u.length + w.length ≤ sizeLine) : OpD X (binaryOp .Add) (.str u) (.str w) (.str (u ++ w)) := ⟨_, op_add_str, fun G H a b Q f hu hv k => ⟨u, w, hu.strInv, hv.strInv, h, k _ G H (Grow.refl f) (.str _)⟩⟩
theorem opAddL (h : xs.length + ys.length ≤ sizeLine) : OpD X (binaryOp .Add) (.list xs) (.list ys) (.list (xs ++ ys)) := ⟨_, op_cat, fun G H a b Q f hu hv k => by
  obtain ⟨p, vs, rfl, h1, h2⟩ := hu.lstInv
  obtain ⟨q, ws, rfl, h3, h4⟩ := hv.lstInv
  refine ⟨p, q, vs, ws, rfl, rfl, f _ _ h1, f _ _ h3, by rw [h2.length, h4.length]; exact h, fun r hr => ?_⟩
  exact k _ _ _ (Grow.laid f hr) (.lst upd_same ((h2.append h4).mono (Same.new (f.free hr))))⟩
theorem opAddT (h : xs.length + ys.length ≤ sizeLine) : OpD X (binaryOp .Add) (.tuple xs) (.tuple ys) (.tuple (xs ++ ys)) := ⟨_, op_catA, fun G H a b Q f hu hv k => by
  obtain ⟨p, vs, rfl, h1, h2⟩ := hu.tupInv
  obtain ⟨q, ws, rfl, h3, h4⟩ := hv.tupInv
  refine ⟨p, q, vs, ws, rfl, rfl, SqT.of (f _ _ h1), SqT.of (f _ _ h3), by rw [h2.length, h4.length]; exact h, fun e => ?_, fun _ e => ?_, fun _ _ r hr => ?_⟩
  · subst e
    cases h2
    exact k _ G H (Grow.refl f) hv
  · subst e
    cases h4
    rw [List.append_nil] at k
    exact k _ G H (Grow.refl f) hu
  · exact k _ _ _ (Grow.laid f hr) (.tup upd_same ((h2.append h4).mono (Same.new (f.free hr))))⟩
theorem IsAll.rep {G : Hp} {vs : List V} {ds : List PyData} (h : IsAll G vs ds) : ∀ n : Nat, IsAll G (List.replicate n vs).flatten (List.replicate n ds).flatten
  | 0 => .nil
  | n + 1 => by
    rw [List.replicate_succ, List.replicate_succ, List.flatten_cons, List.flatten_cons]
    exact h.append (h.rep n)
theorem opRep {n : Nat} (h : xs.length * n ≤ sizeLine) (hn : (n : Int) < 2 ^ 63) : OpD X (binaryOp .Mult) (.list xs) (.int n) (.list (List.replicate n xs).flatten) := ⟨_, op_rep, fun G H a b Q f hu hv k => by
  obtain ⟨p, vs, rfl, h1, h2⟩ := hu.lstInv
  refine ⟨p, n, vs, rfl, hv.intInv, f _ _ h1, by omega, hn, by rw [h2.length]; simpa using h, fun r hr => ?_⟩
  rw [Int.toNat_natCast]
  exact k _ _ _ (Grow.laid f hr) (.lst upd_same ((h2.rep n).mono (Same.new (f.free hr))))⟩

theorem notDict {d : PyData} (h : SeqAt.shaped d = true) : ∀ kvs, d ≠ .dict kvs := fun kvs e => by
  subst e
  have := SeqAt.canLay_of_shaped h
  simp [PyData.canLay0] at this
theorem opEq (hu : X.A.units + 64 < cLine) (h1 : SeqAt.shaped x = true) (h2 : SeqAt.shaped y = true) : OpD X (compareOp .Eq) x y (.bool (PyData.eqv x y)) := ⟨_, op_eqD hu, fun G H a b Q f ha hb k =>
  ⟨x, y, ha.dp f (notDict h1) (.inl h1), hb.dp f (notDict h2) (.inl h2), h1, h2, k _ G H (Grow.refl f) (.bl _)⟩⟩
theorem opNe (hu : X.A.units + 64 < cLine) (h1 : SeqAt.shaped x = true) (h2 : SeqAt.shaped y = true) : OpD X (compareOp .NotEq) x y (.bool (!PyData.eqv x y)) := ⟨_, op_neD hu, fun G H a b Q f ha hb k =>
  ⟨x, y, ha.dp f (notDict h1) (.inl h1), hb.dp f (notDict h2) (.inl h2), h1, h2, k _ G H (Grow.refl f) (.bl _)⟩⟩
/-- the usual comparisons, cheap -/
theorem opEqI : OpD X (compareOp .Eq) (.int i) (.int j) (.bool (decide (i = j))) := ⟨_, op_eq, fun G H a b Q f ha hb k => by
  rw [ha.intInv, hb.intInv]
  refine ⟨rfl, k _ G H (Grow.refl f) ?_⟩
  rw [show decide (V.int i = V.int j) = decide (i = j) by rw [dec_int, Bool.beq_eq_decide_eq]]
  exact .bl _⟩
theorem opNeI : OpD X (compareOp .NotEq) (.int i) (.int j) (.bool (!decide (i = j))) := ⟨_, op_ne, fun G H a b Q f ha hb k => by
  rw [ha.intInv, hb.intInv]
  refine ⟨rfl, k _ G H (Grow.refl f) ?_⟩
  rw [show decide (V.int i = V.int j) = decide (i = j) by rw [dec_int, Bool.beq_eq_decide_eq]]
  exact .bl _⟩
theorem opEqS : OpD X (compareOp .Eq) (.str u) (.str w) (.bool (decide (u = w))) := ⟨_, op_eq, fun G H a b Q f ha hb k => by
  rw [ha.strInv, hb.strInv]
  refine ⟨rfl, k _ G H (Grow.refl f) ?_⟩
  rw [show decide (V.str u = V.str w) = decide (u = w) by rw [dec_str, Bool.beq_eq_decide_eq]]
  exact .bl _⟩
theorem opNeS : OpD X (compareOp .NotEq) (.str u) (.str w) (.bool (!decide (u = w))) := ⟨_, op_ne, fun G H a b Q f ha hb k => by
  rw [ha.strInv, hb.strInv]
  refine ⟨rfl, k _ G H (Grow.refl f) ?_⟩
  rw [show decide (V.str u = V.str w) = decide (u = w) by rw [dec_str, Bool.beq_eq_decide_eq]]
  exact .bl _⟩
theorem opEqB {a b : Bool} : OpD X (compareOp .Eq) (.bool a) (.bool b) (.bool (a == b)) := ⟨_, op_eq, fun G H p q Q f ha hb k => by
  rw [ha.blInv, hb.blInv]
  refine ⟨rfl, k _ G H (Grow.refl f) ?_⟩
  rw [dec_bl]
  exact .bl _⟩
theorem opEqIS : OpD X (compareOp .Eq) (.int i) (.str w) (.bool false) := ⟨_, op_eq, fun G H p q Q f ha hb k => by
  rw [ha.intInv, hb.strInv]
  refine ⟨rfl, k _ G H (Grow.refl f) ?_⟩
  rw [decide_eq_false (by intro z; cases z)]
  exact .bl _⟩
theorem opEqSI : OpD X (compareOp .Eq) (.str w) (.int i) (.bool false) := ⟨_, op_eq, fun G H p q Q f ha hb k => by
  rw [ha.strInv, hb.intInv]
  refine ⟨rfl, k _ G H (Grow.refl f) ?_⟩
  rw [decide_eq_false (by intro z; cases z)]
  exact .bl _⟩
theorem opLt : OpD X (compareOp .Lt) (.int i) (.int j) (.bool (decide (i < j))) := ⟨_, op_lt, fun G H u v Q f hu hv k => ⟨i, j, hu.intInv, hv.intInv, k _ G H (Grow.refl f) (.bl _)⟩⟩
theorem opLe : OpD X (compareOp .LtE) (.int i) (.int j) (.bool (decide (i ≤ j))) := ⟨_, op_le, fun G H u v Q f hu hv k => ⟨i, j, hu.intInv, hv.intInv, k _ G H (Grow.refl f) (.bl _)⟩⟩
theorem opGt : OpD X (compareOp .Gt) (.int i) (.int j) (.bool (decide (j < i))) := ⟨_, op_gt, fun G H u v Q f hu hv k => ⟨i, j, hu.intInv, hv.intInv, k _ G H (Grow.refl f) (.bl _)⟩⟩
theorem opGe : OpD X (compareOp .GtE) (.int i) (.int j) (.bool (decide (j ≤ i))) := ⟨_, op_ge, fun G H u v Q f hu hv k => ⟨i, j, hu.intInv, hv.intInv, k _ G H (Grow.refl f) (.bl _)⟩⟩
/-- is this None -/
def isN : PyData → Bool
  | .none => true
  | _ => false
theorem Is.nonIff {G : Hp} {v : V} {d : PyData} (h : Is G v d) : decide (v = .non) = isN d := by
  cases h <;> first | rfl | exact decide_eq_false (by intro z; cases z)
theorem opIs : OpD X (compareOp .Is) x .none (.bool (isN x)) := ⟨_, op_isN, fun G H u v Q f hu hv k => ⟨hv.nonInv, k _ G H (Grow.refl f) (by rw [hu.nonIff]; exact .bl _)⟩⟩
theorem opIsNot : OpD X (compareOp .IsNot) x .none (.bool (!isN x)) := ⟨_, op_notN, fun G H u v Q f hu hv k => ⟨hv.nonInv, k _ G H (Grow.refl f) (by rw [hu.nonIff]; exact .bl _)⟩⟩
/-- plain items: None, truths, ints, texts -/
def flatD : PyData → Bool
  | .none => true
  | .bool _ => true
  | .int _ => true
  | .str _ => true
  | _ => false
theorem Is.flat {G : Hp} {v : V} {d : PyData} (h : Is G v d) (f : flatD d = true) : flatV v = true := by
  cases h <;> first | rfl | exact absurd f Bool.false_ne_true
theorem IsAll.flat {G : Hp} : ∀ {vs : List V} {ds : List PyData}, IsAll G vs ds → ds.all flatD = true → vs.all flatV = true
  | _, _, .nil, _ => rfl
  | _, _, .cons h r, f => by
    rw [List.all_cons, Bool.and_eq_true] at f ⊢
    exact ⟨h.flat f.1, r.flat f.2⟩
theorem Is.eqv {G : Hp} {v u : V} {d e : PyData} (h : Is G v d) (q : Is G u e) (f1 : flatD d = true) (f2 : flatD e = true) : eqV v u = PyData.eqv d e := by
  cases h <;> cases q <;> first | rfl | (simp [eqV, PyData.eqv]; done) | exact absurd f1 Bool.false_ne_true | exact absurd f2 Bool.false_ne_true
theorem IsAll.inV {G : Hp} {x : V} {d : PyData} (h : Is G x d) (f : flatD d = true) : ∀ {vs : List V} {ds : List PyData}, IsAll G vs ds → ds.all flatD = true → L2.inV x vs = ds.any fun z => PyData.eqv z d
  | _, _, .nil, _ => rfl
  | _, _, .cons q r, g => by
    rw [List.all_cons, Bool.and_eq_true] at g
    unfold L2.inV
    rw [List.any_cons, List.any_cons, q.eqv h g.1 f]
    congr 1
    exact IsAll.inV h f r g.2
theorem opInF {y : PyData} (hy : y = .list ys ∨ y = .tuple ys) (hx : flatD x = true) (hf : ys.all flatD = true) : OpD X (compareOp .In) x y (.bool (ys.any fun z => PyData.eqv z x)) := ⟨_, op_in_seq, fun G H a b Q f ha hb k => by
  rcases hy with rfl | rfl
  · obtain ⟨q, ws, rfl, h3, h4⟩ := hb.lstInv
    exact ⟨q, ws, rfl, .inl (SqL.of (f _ _ h3)), ha.flat hx, h4.flat hf, k _ G H (Grow.refl f) (by rw [if_neg Bool.false_ne_true, IsAll.inV ha hx h4 hf]; exact .bl _)⟩
  · obtain ⟨q, ws, rfl, h3, h4⟩ := hb.tupInv
    exact ⟨q, ws, rfl, .inr (SqT.of (f _ _ h3)), ha.flat hx, h4.flat hf, k _ G H (Grow.refl f) (by rw [if_neg Bool.false_ne_true, IsAll.inV ha hx h4 hf]; exact .bl _)⟩⟩
theorem opNotInF {y : PyData} (hy : y = .list ys ∨ y = .tuple ys) (hx : flatD x = true) (hf : ys.all flatD = true) : OpD X (compareOp .NotIn) x y (.bool (!ys.any fun z => PyData.eqv z x)) := ⟨_, op_notIn_seq, fun G H a b Q f ha hb k => by
  rcases hy with rfl | rfl
  · obtain ⟨q, ws, rfl, h3, h4⟩ := hb.lstInv
    exact ⟨q, ws, rfl, .inl (SqL.of (f _ _ h3)), ha.flat hx, h4.flat hf, k _ G H (Grow.refl f) (by rw [if_pos rfl, IsAll.inV ha hx h4 hf]; exact .bl _)⟩
  · obtain ⟨q, ws, rfl, h3, h4⟩ := hb.tupInv
    exact ⟨q, ws, rfl, .inr (SqT.of (f _ _ h3)), ha.flat hx, h4.flat hf, k _ G H (Grow.refl f) (by rw [if_pos rfl, IsAll.inV ha hx h4 hf]; exact .bl _)⟩⟩
theorem shapedL {ds : List PyData} (h : ∀ d ∈ ds, SeqAt.shaped d = true) (hd : PyData.depthAll ds ≤ 63) : SeqAt.shaped (.list ds) = true := by
  unfold SeqAt.shaped
  rw [Bool.and_eq_true]
  refine ⟨?_, decide_eq_true ?_⟩
  · have : ∀ es : List PyData, (∀ d ∈ es, SeqAt.shaped d = true) → PyData.canLayAll0 es = true := by
      intro es
      induction es with
      | nil => intro _; simp [PyData.canLayAll0]
      | cons e r ih =>
        intro g
        simp only [PyData.canLayAll0, Bool.and_eq_true]
        exact ⟨SeqAt.canLay_of_shaped (g e (by simp)), ih fun d hd => g d (by simp [hd])⟩
    simp only [PyData.canLay0]
    exact this ds h
  · simp only [PyData.depth]
    omega
theorem opInD (hu : X.A.units + 65 < cLine) (h1 : SeqAt.shaped x = true) (h2 : SeqAt.shaped (.list ys) = true) : OpD X (compareOp .In) x (.list ys) (.bool (ys.any fun z => PyData.eqv z x)) := ⟨_, op_inD hu, fun G H a b Q f ha hb k =>
  ⟨x, ys, ha.dp f (notDict h1) (.inl h1), hb.dp f (notDict h2) (.inl h2), h1, h2, k _ G H (Grow.refl f) (.bl _)⟩⟩
theorem opNotInD (hu : X.A.units + 65 < cLine) (h1 : SeqAt.shaped x = true) (h2 : SeqAt.shaped (.list ys) = true) : OpD X (compareOp .NotIn) x (.list ys) (.bool (!ys.any fun z => PyData.eqv z x)) := ⟨_, op_notInD hu, fun G H a b Q f ha hb k =>
  ⟨x, ys, ha.dp f (notDict h1) (.inl h1), hb.dp f (notDict h2) (.inl h2), h1, h2, k _ G H (Grow.refl f) (.bl _)⟩⟩
theorem opNotInS {c : Nat} : OpD X (compareOp .NotIn) (.str ⟨#[c]⟩) (.str w) (.bool (!decide (c ∈ w.cps.toList))) := ⟨_, op_notIn_sign, fun G H a b Q f ha hb k => ⟨c, w, ha.strInv, hb.strInv, k _ G H (Grow.refl f) (.bl _)⟩⟩

/-! ### built-ins -/
theorem IsAll.inv1 {G : Hp} {us : List V} {a : PyData} (h : IsAll G us [a]) : ∃ u, us = [u] ∧ Is G u a := by
  cases h with
  | cons h r => cases r; exact ⟨_, rfl, h⟩
theorem IsAll.inv2 {G : Hp} {us : List V} {a b : PyData} (h : IsAll G us [a, b]) : ∃ u v, us = [u, v] ∧ Is G u a ∧ Is G v b := by
  cases h with
  | cons h r =>
    obtain ⟨v, rfl, q⟩ := r.inv1
    exact ⟨_, v, rfl, h, q⟩
theorem caLenT : CaD X (.builtin "len") [.tuple xs] (.int (xs.length : Nat)) := ⟨_, call_len, fun G H us Q f h k => by
  obtain ⟨u, rfl, g⟩ := h.inv1
  obtain ⟨p, vs, rfl, h1, h2⟩ := g.tupInv
  exact ⟨_, xs.length, rfl, .inr ⟨vs, SqT.of (f _ _ h1), h2.length.symm⟩, k _ G H (Grow.refl f) (.int _)⟩⟩
theorem caLenL : CaD X (.builtin "len") [.list xs] (.int (xs.length : Nat)) := ⟨_, call_len, fun G H us Q f h k => by
  obtain ⟨u, rfl, g⟩ := h.inv1
  obtain ⟨p, vs, rfl, h1, h2⟩ := g.lstInv
  exact ⟨_, xs.length, rfl, .inl ⟨vs, SqL.of (f _ _ h1), h2.length.symm⟩, k _ G H (Grow.refl f) (.int _)⟩⟩
theorem caLenS (hz : w.length ≤ sizeLine) : CaD X (.builtin "len") [.str w] (.int (w.length : Nat)) := ⟨_, call_len, fun G H us Q f h k => by
  obtain ⟨u, rfl, g⟩ := h.inv1
  exact ⟨.str w, w.length, by rw [g.strInv], ⟨hz, rfl⟩, k _ G H (Grow.refl f) (.int _)⟩⟩
theorem caIntB {b : Bool} : CaD X (.type "int") [.bool b] (.int (if b then 1 else 0)) := ⟨_, call_int1, fun G H us Q f h k => by
  obtain ⟨u, rfl, g⟩ := h.inv1
  exact .inr ⟨b, by rw [g.blInv], k _ G H (Grow.refl f) (.int _)⟩⟩
theorem caTupL : CaD X (.type "tuple") [.list xs] (.tuple xs) := ⟨_, call_tuple_of, fun G H us Q f h k => by
  obtain ⟨u, rfl, g⟩ := h.inv1
  obtain ⟨p, vs, rfl, h1, h2⟩ := g.lstInv
  exact ⟨p, vs, rfl, .inl ⟨SqL.of (f _ _ h1), fun r hr => k _ _ _ (Grow.laid f hr) (.tup upd_same (h2.mono (Same.new (f.free hr))))⟩⟩⟩
/-- a piece of data's type by its name -/
def tyD : PyData → String
  | .none => "NoneType"
  | .bool _ => "bool"
  | .int _ => "int"
  | .str _ => "str"
  | .list _ => "list"
  | .tuple _ => "tuple"
  | .dict _ => "dict"
theorem Is.ty {K : PySem.W.Frag} {G H : Hp} {v : V} {d : PyData} (f : Same G H) (h : Is G v d) : TyX K H v (.type (tyD d)) := by
  cases h with
  | non => exact .base .non
  | bl b => exact .base (.bl b)
  | int i => exact .base (.int i)
  | str x => exact .base (.str x)
  | lst h r => exact .base (.lst (f _ _ h))
  | tup h r => exact .base (.tup (f _ _ h))
  | dic h r => exact .base (.dK (f _ _ h))
end

/-! ### isinstance(x, T): T a built-in class by its name -/
section
variable {X : Cx} {Γ : Gm} {a b : Expr} {l l1 : List Sl} {x : PyData} {pos p p2 : Pos} {k : Bool}
theorem EX.isi {T : Str} {t : String} (ha : EX X Γ a l x l1) (hg : Gl X "isinstance") (hm : X.mg "isinstance" = none) (hgT : Gl X T) (hmT : X.mg T = none) (hv : bootBuiltins T = some (.type t)) (hk : kitB (tyD x) t = some k)
    (hnT : T ≠ "__name__" := by decide) (hdT : (T == ("__debug__" : Str)) = false := by decide)
    (he : starEach [a, .Name T p2] X.env = (false, eval a X.env) :: starEach [.Name T p2] X.env := by rfl) (he2 : starEach [.Name T p2] X.env = [(false, eval (.Name T p2) X.env)] := by rfl)
    (hpl : (backTo pos (starEach [.Name T p2] X.env)).any (·.1) = false := by rfl) : EX X Γ (.Call (.Name "isinstance" p) [a, .Name T p2] [] pos) l (.bool k) l1 := ⟨fun G H σ Q hh q => by
  refine ⟨_, pe_callB call_isi hg hm (by decide +kernel) (pa_cons pe_w (pa_cons (pe_bltn (v := .ty t) hgT hmT hv rfl hnT hdT) pa_nil he2) he) (by decide) (by decide) he hpl, ?_⟩
  refine ha.run G H σ _ hh fun v G1 H1 h1 e1 i1 => ?_
  exact ⟨v, .ty t, _, _, k, rfl, .ty t, i1.ty h1.f, kit_ty hk, q _ G1 H1 h1 e1 (.bl k)⟩⟩
end

/-! ### subscripts -/
def ixD : PyData → Int → Option PyData
  | .tuple ds, i => atI ds i
  | .list ds, i => atI ds i
  | .str z, i => (atI z.cps.toList i).map fun c => .str ⟨#[c]⟩
  | _, _ => none
theorem IsAll.atI {G : Hp} {vs : List V} {ds : List PyData} {i : Int} {d : PyData} (h : IsAll G vs ds) (e : L2.atI ds i = some d) : ∃ v, L2.atI vs i = some v ∧ Is G v d := by
  unfold L2.atI at e ⊢
  rw [h.length]
  cases q : ixN ds.length i with
  | none => rw [q] at e; cases e
  | some j =>
    rw [q] at e
    exact h.get e
theorem atI_nat' {α : Type} {xs : List α} {j : Nat} {v : α} (h : xs[j]? = some v) : L2.atI xs (j : Int) = some v := atI_nat h
section
variable {X : Cx} {Γ : Gm} {a b e : Expr} {l l1 l2 l3 : List Sl} {x d : PyData} {pos p2 : Pos} {i : Int} {w : Str} {xs : List PyData}
theorem EX.ix (ha : EX X Γ a l x l1) (hb : EX X Γ b l1 (.int i) l2) (h : ixD x i = some d) (hz : ∀ z, x = .str z → z.length ≤ sizeLine := by intro z q; cases q) (hs : PlainIx b := by intro _ _; rfl) : EX X Γ (.Subscript a b pos) l d l2 := ⟨fun G H σ Q hh k => by
  refine ⟨_, pe_ix ix_seq pe_w pe_w hs, ?_⟩
  refine ha.run G H σ _ hh fun v G1 H1 h1 e1 i1 => ?_
  refine hb.run G1 H1 σ _ h1 fun u G2 H2 h2 e2 i2 => ?_
  have i1 := i1.mono e2
  have fin : ∀ r, Is G2 r d → Q r H2 := fun r hr => k r G2 H2 h2 (e1.trans e2) hr
  cases x with
  | tuple ds =>
    obtain ⟨p, vs, rfl, q1, q2⟩ := i1.tupInv
    obtain ⟨r, r1, r2⟩ := q2.atI (show L2.atI ds i = some d from h)
    exact .inr (.inl ⟨p, vs, i, r, rfl, i2.intInv, SqT.of (h2.f _ _ q1), r1, fin r r2⟩)
  | list ds =>
    obtain ⟨p, vs, rfl, q1, q2⟩ := i1.lstInv
    obtain ⟨r, r1, r2⟩ := q2.atI (show L2.atI ds i = some d from h)
    exact .inl ⟨p, vs, i, r, rfl, i2.intInv, SqL.of (h2.f _ _ q1), r1, fin r r2⟩
  | str z =>
    have h' : (L2.atI z.cps.toList i).map (fun c => PyData.str ⟨#[c]⟩) = some d := h
    cases q : L2.atI z.cps.toList i with
    | none => rw [q] at h'; cases h'
    | some c =>
      rw [q] at h'
      cases h'
      exact .inr (.inr ⟨z, i, c, i1.strInv, i2.intInv, hz z rfl, q, fin _ (.str _)⟩)
  | none => exact absurd h (by simp [ixD])
  | bool _ => exact absurd h (by simp [ixD])
  | int _ => exact absurd h (by simp [ixD])
  | dict _ => exact absurd h (by simp [ixD])⟩

/-! ### slices -/
theorem OX.none : OX X Γ none l none l := ⟨fun G H σ Q hh k => ⟨_, po_none, k G H hh (Same.refl _)⟩⟩
theorem OX.some (h : EX X Γ e l (.int i) l1) : OX X Γ (some e) l (some i) l1 := ⟨fun G H σ Q hh k => ⟨_, po_some pe_w, h.run G H σ _ hh fun v G1 H1 h1 e1 i1 => ⟨i, i1.intInv, k G1 H1 h1 e1⟩⟩⟩
def cutG {α : Type} (xs : List α) (lo hi : Option Int) : List α := (xs.drop (HT.sIx xs.length 0 lo)).take (HT.sIx xs.length xs.length hi - HT.sIx xs.length 0 lo)
theorem IsAll.cut {G : Hp} {vs : List V} {ds : List PyData} (h : IsAll G vs ds) (lo hi : Option Int) : IsAll G (cutV vs lo hi) (cutG ds lo hi) := by
  unfold cutV cutG
  rw [h.length]
  exact (h.drop _).take _
variable {lo hi : Option Expr} {il ih : Option Int}
theorem EL.slL (h : EX X Γ a l (.list xs) l1) (hl : OX X Γ lo l1 il l2) (hu : OX X Γ hi l2 ih l3) : EL X Γ (.Subscript a (.Slice lo hi none p2) pos) l (cutG xs il ih) l3 := ⟨fun G H σ Q hh k => by
  refine ⟨_, pe_slice sl_list pe_w po_w po_w, ?_⟩
  refine h.run G H σ _ hh fun v G1 H1 h1 e1 i1 => hl.run G1 H1 σ _ h1 fun G2 H2 h2 e2 => hu.run G2 H2 σ _ h2 fun G3 H3 h3 e3 => ?_
  obtain ⟨p, vs, rfl, q1, q2⟩ := (i1.mono (e2.trans e3)).lstInv
  exact ⟨p, vs, rfl, SqL.of (h3.f _ _ q1), fun r hr => k r _ G3 _ (h3.side hr) (e1.trans (e2.trans e3)) upd_same (q2.cut il ih)⟩⟩
theorem EX.slT (h : EX X Γ a l (.tuple xs) l1) (hl : OX X Γ lo l1 il l2) (hu : OX X Γ hi l2 ih l3) : EX X Γ (.Subscript a (.Slice lo hi none p2) pos) l (.tuple (cutG xs il ih)) l3 := ⟨fun G H σ Q hh k => by
  refine ⟨_, pe_slice sl_tupA pe_w po_w po_w, ?_⟩
  refine h.run G H σ _ hh fun v G1 H1 h1 e1 i1 => hl.run G1 H1 σ _ h1 fun G2 H2 h2 e2 => hu.run G2 H2 σ _ h2 fun G3 H3 h3 e3 => ?_
  have i3 := i1.mono (e2.trans e3)
  obtain ⟨p, vs, rfl, q1, q2⟩ := id i3.tupInv
  refine ⟨p, vs, rfl, SqT.of (h3.f _ _ q1), fun ⟨z1, z2⟩ => ?_, fun _ r hr => ?_⟩
  · have e : cutG xs il ih = xs := by
      unfold cutG
      rw [← q2.length, z1, z2, List.drop_zero, Nat.sub_zero, q2.length, List.take_length]
    rw [e] at k
    exact k _ G3 H3 h3 (e1.trans (e2.trans e3)) i3
  · exact k _ _ _ (h3.grow (Grow.laid h3.f hr)) ((e1.trans (e2.trans e3)).trans (Same.new (h3.f.free hr))) (.tup upd_same ((q2.cut il ih).mono (Same.new (h3.f.free hr))))⟩
theorem EX.slS (h : EX X Γ a l (.str w) l1) (hl : OX X Γ lo l1 il l2) (hu : OX X Γ hi l2 ih l3) (hz : w.length ≤ sizeLine) : EX X Γ (.Subscript a (.Slice lo hi none p2) pos) l (.str (cutS w il ih)) l3 := ⟨fun G H σ Q hh k => by
  refine ⟨_, pe_slice sl_str pe_w po_w po_w, ?_⟩
  refine h.run G H σ _ hh fun v G1 H1 h1 e1 i1 => hl.run G1 H1 σ _ h1 fun G2 H2 h2 e2 => hu.run G2 H2 σ _ h2 fun G3 H3 h3 e3 => ?_
  exact ⟨w, i1.strInv, hz, k _ G3 H3 h3 (e1.trans (e2.trans e3)) (.str _)⟩⟩
end
end TG

/-! TgD: targets, what is walked, comprehensions, statements -/
namespace TG
open PySem L2 PyProof.Rows

/-! ### several slots at once -/
def setA {α : Type} : List α → List Nat → List α → List α
  | xs, [], _ => xs
  | xs, _ :: _, [] => xs
  | xs, i :: is, v :: vs => setA (xs.set i v) is vs
theorem Hold.setA {Γ : Gm} {G H : Hp} : ∀ {is : List Nat} {vs : List V} {ds : List PyData} {σ : L2.St} {l : List Sl}, Hold Γ G H σ l → IsAll G vs ds → Hold Γ G H (TG.setA σ is (vs.map some)) (TG.setA l is (ds.map .dat))
  | [], _, _, _, _, h, _ => by simpa [TG.setA] using h
  | _ :: _, _, _, _, _, h, .nil => h
  | _ :: _, _, _, _, _, h, .cons r q => (h.set r).setA q

/-! ### targets -/
structure GX (X : Cx) (tg : Expr) (d : PyData) (is : List Nat) (ds : List PyData) : Prop where
  run : ∀ (G H : Hp) (σ : L2.St) (v : V) (Q : L2.St → Hp → Prop), Same G H → Is G v d → (∀ vs, IsAll G vs ds → Q (setA σ is (vs.map some)) H) → wG X tg v σ H Q
structure GsX (X : Cx) (es : List Expr) (is : List Nat) : Prop where
  run : ∀ (H : Hp) (σ : L2.St) (vs : List V) (Q : L2.St → Hp → Prop), vs.length = is.length → Q (setA σ is (vs.map some)) H → wGs X es vs σ H Q
section
variable {X : Cx} {e : Expr} {es : List Expr} {is : List Nat} {i : Nat} {n : Str} {pos : Pos} {d : PyData} {ds : List PyData}
theorem GX.name (hN : X.N.Nodup) (hi : X.N[i]? = some n) (hx : Loc X.env.scope n) (hf : X.fn n = true ∨ X.env.scope.names.lookup n = some .local := by first | exact .inl rfl | exact .inr rfl) : GX X (.Name n pos) d [i] [d] :=
  ⟨fun G H σ v Q f r k => ⟨_, pg_name hN hi hx hf, k [v] (.one r)⟩⟩
theorem GsX.nil : GsX X [] [] := ⟨fun H σ vs Q hl k => by
  cases vs with
  | nil => exact ⟨_, pgs_nil, rfl, k⟩
  | cons _ _ => cases hl⟩
theorem GsX.cons (hN : X.N.Nodup) (hi : X.N[i]? = some n) (hx : Loc X.env.scope n) (h : GsX X es is) (hf : X.fn n = true ∨ X.env.scope.names.lookup n = some .local := by first | exact .inl rfl | exact .inr rfl)
    (hs : (assignEach (.Name n pos :: es) X.env).map (·.2) = assign (.Name n pos) X.env :: (assignEach es X.env).map (·.2) := by rfl) : GsX X (.Name n pos :: es) (i :: is) := ⟨fun H σ vs Q hl k => by
  cases vs with
  | nil => cases hl
  | cons v vs => exact ⟨_, pgs_cons (pg_name hN hi hx hf) pgs_w hs, v, vs, rfl, h.run H _ vs Q (by simpa using hl) k⟩⟩
theorem GX.tup {k : Nat} (hc : X.calm = true) (h : GsX X es is) (hl : ds.length = is.length) (hn : (assignEach es X.env).length = is.length := by rfl) (hst : (assignEach es X.env).findIdx? (·.1) = none := by rfl) : GX X (.Tuple es k pos) (.tuple ds) is ds :=
  ⟨fun G H σ v Q f r q => by
    obtain ⟨a, xs, rfl, h1, h2⟩ := r.tupInv
    exact ⟨_, pg_tup hc pgs_w hn hst, a, xs, rfl, SqT.of (f _ _ h1), by rw [h2.length, hl], h.run H σ xs Q (by rw [h2.length, hl]) (q xs h2)⟩⟩
end

/-! ### what is walked -/
structure Walk (J : It) (ds : List PyData) (G : Hp) : Prop where
  go : ∀ i H, Same G H → i < ds.length → J.go i H
  yld : ∀ i G2 H x H', Same G G2 → Same G2 H → i < ds.length → J.yld i H x H' → ∃ G3 d, ds[i]? = some d ∧ Grow G2 H G3 H' ∧ Is G3 x d
  stop : ∀ H, Same G H → J.stop ds.length H
structure IX (X : Cx) (Γ : Gm) (tg iter : Expr) (l : List Sl) (ds : List PyData) (l1 : List Sl) : Prop where
  run : ∀ (G H : Hp) (σ : L2.St) (R : It → Hp → Prop), Hold Γ G H σ l → (∀ J G' H', Hold Γ G' H' σ l1 → Same G G' → Walk J ds G' → R J H') → ∃ wi, PI X tg iter wi ∧ wi σ H R
def wI (X : Cx) (tg iter : Expr) : TI := fun σ H R => ∃ wi, PI X tg iter wi ∧ wi σ H R
theorem pi_w' {X : Cx} {tg iter : Expr} : PI X tg iter (wI X tg iter) := ⟨fun pins s σ H R I ⟨_, h, q⟩ => h.run pins s σ H R I q⟩
section
variable {X : Cx} {Γ : Gm} {tg e a b c : Expr} {l l1 l2 : List Sl} {ds es : List PyData} {p pos : Pos} {w : Str}
theorem IX.list (h : EX X Γ e l (.list ds) l1) : IX X Γ tg e l ds l1 := ⟨fun G H σ R hh k => ⟨_, pi_list pe_w, h.run G H σ _ hh fun v G1 H1 h1 e1 i1 => by
  obtain ⟨q, vs, rfl, q1, q2⟩ := i1.lstInv
  have sq : ∀ H, Same G1 H → SqL X.K H q vs := fun H f => SqL.of (f _ _ q1)
  refine ⟨q, rfl, ⟨vs, sq _ h1.f⟩, k _ G1 H1 h1 e1 ⟨fun i H f hi => ?_, fun i G2 H x H' f g hi y => ?_, fun H f => ?_⟩⟩
  · have hi' : i < vs.length := by rw [q2.length]; exact hi
    exact ⟨vs, vs[i], sq H f, List.getElem?_eq_getElem hi'⟩
  · obtain ⟨rfl, y⟩ := y
    have hd : ds[i]? = some ds[i] := List.getElem?_eq_getElem hi
    obtain ⟨u, u1, u2⟩ := q2.get hd
    have := y vs (sq _ (f.trans g))
    rw [u1] at this
    cases this
    exact ⟨G2, ds[i], hd, Grow.refl g, u2.mono f⟩
  · exact ⟨vs, sq H f, by rw [q2.length]; exact Nat.le_refl _⟩⟩⟩
theorem IX.tup (h : EX X Γ e l (.tuple ds) l1) : IX X Γ tg e l ds l1 := ⟨fun G H σ R hh k => ⟨_, pi_tup pe_w, h.run G H σ _ hh fun v G1 H1 h1 e1 i1 => by
  obtain ⟨q, vs, rfl, q1, q2⟩ := i1.tupInv
  have sq : ∀ H, Same G1 H → SqT X.K H q vs := fun H f => SqT.of (f _ _ q1)
  refine ⟨q, rfl, ⟨vs, sq _ h1.f⟩, k _ G1 H1 h1 e1 ⟨fun i H f hi => ?_, fun i G2 H x H' f g hi y => ?_, fun H f => ?_⟩⟩
  · have hi' : i < vs.length := by rw [q2.length]; exact hi
    exact ⟨vs, vs[i], sq H f, List.getElem?_eq_getElem hi'⟩
  · obtain ⟨rfl, y⟩ := y
    have hd : ds[i]? = some ds[i] := List.getElem?_eq_getElem hi
    obtain ⟨u, u1, u2⟩ := q2.get hd
    have := y vs (sq _ (f.trans g))
    rw [u1] at this
    cases this
    exact ⟨G2, ds[i], hd, Grow.refl g, u2.mono f⟩
  · exact ⟨vs, sq H f, by rw [q2.length]; exact Nat.le_refl _⟩⟩⟩
/-- a text's signs -/
def signs (w : Str) : List PyData := w.cps.toList.map fun c => .str ⟨#[c]⟩
theorem IX.str (h : EX X Γ e l (.str w) l1) : IX X Γ tg e l (signs w) l1 := ⟨fun G H σ R hh k => ⟨_, pi_str pe_w, h.run G H σ _ hh fun v G1 H1 h1 e1 i1 => by
  have hl : (signs w).length = w.cps.size := by simp [signs]
  refine ⟨w, i1.strInv, k _ G1 H1 h1 e1 ⟨fun i H f hi => ?_, fun i G2 H x H' f g hi y => ?_, fun H f => ?_⟩⟩
  · show i < w.cps.size
    omega
  · obtain ⟨rfl, c, hc, rfl⟩ := y
    refine ⟨G2, .str ⟨#[c]⟩, ?_, Grow.refl g, .str _⟩
    unfold signs
    rw [List.getElem?_map, Array.getElem?_toList, hc]
    rfl
  · show w.cps.size ≤ (signs w).length
    omega⟩⟩
def nums (n : Nat) : List PyData := (List.range n).map fun i => .int (i : Nat)
theorem nums_len (n : Nat) : (nums n).length = n := by simp [nums]
theorem nums_get {n i : Nat} (h : i < n) : (nums n)[i]? = some (.int (i : Nat)) := by
  unfold nums
  rw [List.getElem?_map, List.getElem?_range h]
  rfl
theorem IX.range {n : Int} (h : AX X Γ [a] l [.int n] l1) (hb : -(2 ^ 62) ≤ n ∧ n < 2 ^ 62) (hg : Gl X "range") (hm : X.mg "range" = none) (hs : starEach [a] X.env = [(false, eval a X.env)] := by rfl) : IX X Γ tg (.Call (.Name "range" p) [a] [] pos) l (nums n.toNat) l1 :=
  ⟨fun G H σ R hh k => ⟨_, pi_range1 hg hm pa_w hs, h.run G H σ _ hh fun vs G1 H1 h1 e1 i1 => by
    obtain ⟨u, rfl, iu⟩ := i1.inv1
    rw [iu.intInv]
    refine ⟨n, rfl, hb.1, hb.2, k _ G1 H1 h1 e1 ⟨fun i H f hi => ?_, fun i G2 H x H' f g hi y => ?_, fun H f => ?_⟩⟩
    · show i < n.toNat
      rwa [nums_len] at hi
    · obtain ⟨rfl, rfl⟩ := y
      rw [nums_len] at hi
      exact ⟨G2, .int ((i : Nat) : Int), nums_get hi, Grow.refl g, by rw [Int.zero_add]; exact .int _⟩
    · show n.toNat ≤ (nums n.toNat).length
      rw [nums_len]; exact Nat.le_refl _⟩⟩
/-- i, i - 1, .. above j -/
def downs (i : Int) (n : Nat) : List PyData := (List.range n).map fun (k : Nat) => .int (i + (k : Int) * (-1))
theorem IX.down {i j : Int} (h : AX X Γ [a, b, c] l [.int i, .int j, .int (-1)] l1) (hb : (-(2 ^ 62) ≤ i ∧ i < 2 ^ 62) ∧ -(2 ^ 62) ≤ j ∧ j < 2 ^ 62) (hg : Gl X "range") (hm : X.mg "range" = none)
    (hs : starEach [a, b, c] X.env = (false, eval a X.env) :: starEach [b, c] X.env := by rfl) (hpl : (backTo pos (starEach [b, c] X.env)).any (·.1) = false := by rfl) : IX X Γ tg (.Call (.Name "range" p) [a, b, c] [] pos) l (downs i (i - j).toNat) l1 :=
  ⟨fun G H σ R hh k => ⟨_, pi_range3 hg hm pa_w hs hpl, h.run G H σ _ hh fun vs G1 H1 h1 e1 i1 => by
    cases i1 with
    | cons q1 q2 =>
      obtain ⟨u, v, rfl, r1, r2⟩ := q2.inv2
      rw [q1.intInv, r1.intInv, r2.intInv]
      have hl : (downs i (i - j).toNat).length = (i - j).toNat := by simp [downs]
      refine ⟨i, j, -1, (i - j).toNat, rfl, RgC.neg hb.1.1 hb.1.2 hb.2.1 hb.2.2, k _ G1 H1 h1 e1 ⟨fun i' H f hi => ?_, fun i' G2 H x H' f g hi y => ?_, fun H f => ?_⟩⟩
      · show i' < (i - j).toNat
        rwa [hl] at hi
      · obtain ⟨rfl, rfl⟩ := y
        rw [hl] at hi
        refine ⟨G2, .int (i + (i' : Int) * (-1)), ?_, Grow.refl g, .int _⟩
        unfold downs
        rw [List.getElem?_map, List.getElem?_range hi]
        rfl
      · show (i - j).toNat ≤ (downs i (i - j).toNat).length
        rw [hl]; exact Nat.le_refl _⟩⟩
end

/-! ### what is wanted behind a statement -/
structure Out where
  nx : List Sl → Prop
  rt : PyData → List Sl → Prop
  bk : List Sl → Prop := fun _ => False
  ct : List Sl → Prop := fun _ => False
structure Lk (Γ : Gm) (G : Hp) (O : Out) (D : Ends) : Prop where
  nx : ∀ σ' G' H' l', Hold Γ G' H' σ' l' → Same G G' → O.nx l' → D.nx σ' H'
  rt : ∀ v σ' G' H' d l', Hold Γ G' H' σ' l' → Same G G' → Is G' v d → O.rt d l' → D.rt v H'
  bk : ∀ σ' G' H' l', Hold Γ G' H' σ' l' → Same G G' → O.bk l' → D.bk σ' H'
  ct : ∀ σ' G' H' l', Hold Γ G' H' σ' l' → Same G G' → O.ct l' → D.ct σ' H'
theorem Lk.mono {Γ : Gm} {G G' : Hp} {O : Out} {D : Ends} (h : Lk Γ G O D) (e : Same G G') : Lk Γ G' O D :=
  ⟨fun σ' G2 H' l' a b c => h.nx σ' G2 H' l' a (e.trans b) c, fun v σ' G2 H' d l' a b c q => h.rt v σ' G2 H' d l' a (e.trans b) c q, fun σ' G2 H' l' a b c => h.bk σ' G2 H' l' a (e.trans b) c, fun σ' G2 H' l' a b c => h.ct σ' G2 H' l' a (e.trans b) c⟩
structure SX (X : Cx) (Γ : Gm) (st : Stmt) (l : List Sl) (O : Out) : Prop where
  run : ∀ (G H : Hp) (σ : L2.St) (D : Ends), Hold Γ G H σ l → Lk Γ G O D → wS X st D σ H
structure SXs (X : Cx) (Γ : Gm) (st : List Stmt) (l : List Sl) (O : Out) : Prop where
  run : ∀ (G H : Hp) (σ : L2.St) (D : Ends), Hold Γ G H σ l → Lk Γ G O D → wSs X st D σ H
section
variable {X : Cx} {Γ : Gm} {st : Stmt} {rest body orelse A B : List Stmt} {l l1 l2 : List Sl} {O : Out} {e c tg iter : Expr} {d : PyData} {ds : List PyData} {pos pos' : Pos} {i : Nat} {n : Str}
theorem SXs.nil (h : O.nx l) : SXs X Γ [] l O := ⟨fun G H σ D hh k => ⟨_, pss_nil, k.nx σ G H l hh (Same.refl _) h⟩⟩
theorem SXs.cons (h : SX X Γ st l { O with nx := fun l1 => SXs X Γ rest l1 O }) : SXs X Γ (st :: rest) l O := ⟨fun G H σ D hh k =>
  ⟨_, pss_cons ps_w pss_w, h.run G H σ _ hh ⟨fun σ' G' H' l' a b q => q.run G' H' σ' D a (k.mono b), k.rt, k.bk, k.ct⟩⟩⟩
theorem SX.imp {O' : Out} (h : SX X Γ st l O') (h1 : ∀ l, O'.nx l → O.nx l) (h2 : ∀ d l, O'.rt d l → O.rt d l) (h3 : ∀ l, O'.bk l → O.bk l) (h4 : ∀ l, O'.ct l → O.ct l) : SX X Γ st l O := ⟨fun G H σ D hh k =>
  h.run G H σ D hh ⟨fun σ' G' H' l' a b q => k.nx σ' G' H' l' a b (h1 _ q), fun v σ' G' H' d l' a b c q => k.rt v σ' G' H' d l' a b c (h2 _ _ q), fun σ' G' H' l' a b q => k.bk σ' G' H' l' a b (h3 _ q), fun σ' G' H' l' a b q => k.ct σ' G' H' l' a b (h4 _ q)⟩⟩
theorem SXs.imp {O' : Out} (h : SXs X Γ body l O') (h1 : ∀ l, O'.nx l → O.nx l) (h2 : ∀ d l, O'.rt d l → O.rt d l) (h3 : ∀ l, O'.bk l → O.bk l) (h4 : ∀ l, O'.ct l → O.ct l) : SXs X Γ body l O := ⟨fun G H σ D hh k =>
  h.run G H σ D hh ⟨fun σ' G' H' l' a b q => k.nx σ' G' H' l' a b (h1 _ q), fun v σ' G' H' d l' a b c q => k.rt v σ' G' H' d l' a b c (h2 _ _ q), fun σ' G' H' l' a b q => k.bk σ' G' H' l' a b (h3 _ q), fun σ' G' H' l' a b q => k.ct σ' G' H' l' a b (h4 _ q)⟩⟩
theorem SX.pass (h : O.nx l) : SX X Γ (.Pass pos) l O := ⟨fun G H σ D hh k => ⟨_, ps_pass, k.nx σ G H l hh (Same.refl _) h⟩⟩
/-- name = e -/
theorem SX.set (hN : X.N.Nodup) (hi : X.N[i]? = some n) (hx : Loc X.env.scope n) (he : EX X Γ e l d l1) (h : O.nx (l1.set i (.dat d))) (hs : swapsWith e (some (.Name n pos')) pos.line X.env = pure false := by rfl)
    (hf : X.fn n = true ∨ X.env.scope.names.lookup n = some .local := by first | exact .inl rfl | exact .inr rfl) : SX X Γ (.Assign [.Name n pos'] e pos) l O := ⟨fun G H σ D hh k =>
  ⟨_, ps_set hN hi hx pe_w hs hf, he.run G H σ _ hh fun v G1 H1 h1 e1 i1 => k.nx _ G1 H1 _ (h1.set i1) e1 h⟩⟩
/-- name = a new list -/
theorem SX.setL (hN : X.N.Nodup) (hi : X.N[i]? = some n) (hx : Loc X.env.scope n) (he : EL X Γ e l ds l1) (h : O.nx (l1.set i (.own ds))) (hs : swapsWith e (some (.Name n pos')) pos.line X.env = pure false := by rfl)
    (hf : X.fn n = true ∨ X.env.scope.names.lookup n = some .local := by first | exact .inl rfl | exact .inr rfl) : SX X Γ (.Assign [.Name n pos'] e pos) l O := ⟨fun G H σ D hh k =>
  ⟨_, ps_set hN hi hx pe_w hs hf, he.run G H σ _ hh fun p vs G1 H1 h1 e1 hp i1 => k.nx _ G1 H1 _ (h1.set (i := i) (sl := .own ds) ⟨p, vs, rfl, rfl, hp, i1⟩ (some_ne hp)) e1 h⟩⟩
/-- name = {} -/
theorem SX.setD (hN : X.N.Nodup) (hi : X.N[i]? = some n) (hx : Loc X.env.scope n) {p : Pos} (h : O.nx (l.set i (.dk []))) (hs : swapsWith (.Dict [] [] p) (some (.Name n pos')) pos.line X.env = pure false := by rfl)
    (hf : X.fn n = true ∨ X.env.scope.names.lookup n = some .local := by first | exact .inl rfl | exact .inr rfl) : SX X Γ (.Assign [.Name n pos'] (.Dict [] [] p) pos) l O := ⟨fun G H σ D hh k =>
  ⟨_, ps_set hN hi hx pe_dnewK hs hf, fun p hp => k.nx _ G _ _ ((hh.side hp).set (i := i) (sl := .dk []) ⟨p, [], rfl, rfl, upd_same, .nil⟩ (some_ne upd_same)) (Same.refl _) h⟩⟩
theorem SX.setDT (hN : X.N.Nodup) (hi : X.N[i]? = some n) (hx : Loc X.env.scope n) {p : Pos} (h : O.nx (l.set i (.dt []))) (hs : swapsWith (.Dict [] [] p) (some (.Name n pos')) pos.line X.env = pure false := by rfl)
    (hf : X.fn n = true ∨ X.env.scope.names.lookup n = some .local := by first | exact .inl rfl | exact .inr rfl) : SX X Γ (.Assign [.Name n pos'] (.Dict [] [] p) pos) l O := ⟨fun G H σ D hh k =>
  ⟨_, ps_set hN hi hx pe_dnewT hs hf, fun p hp => k.nx _ G _ _ ((hh.side hp).set (i := i) (sl := .dt []) ⟨p, [], rfl, rfl, upd_same, .nil⟩ (some_ne upd_same)) (Same.refl _) h⟩⟩
/-- a, b, .. = e -/
theorem SX.asg {is : List Nat} (he : EX X Γ e l d l1) (hg : GX X tg d is ds) (h : O.nx (TG.setA l1 is (ds.map .dat))) (hs : swapsWithSole [tg] e pos.line X.env = pure false := by rfl) (hw : swappedStores [tg] e X.env = pure none := by rfl)
    (h1 : (assignEach [tg] X.env).map (·.2) = [assign tg X.env] := by rfl) : SX X Γ (.Assign [tg] e pos) l O := ⟨fun G H σ D hh k =>
  ⟨_, ps_asg pe_w pg_w hs hw h1, he.run G H σ _ hh fun v G1 H1 q1 e1 i1 => hg.run G1 H1 σ v _ q1.f i1 fun vs r => k.nx _ G1 H1 _ (q1.setA r) e1 h⟩⟩
theorem SX.ret (he : EX X Γ e l d l1) (h : O.rt d l1) : SX X Γ (.Return (some e) pos) l O := ⟨fun G H σ D hh k => ⟨_, ps_ret pe_w, he.run G H σ _ hh fun v G1 H1 h1 e1 i1 => k.rt v σ G1 H1 d l1 h1 e1 i1 h⟩⟩
theorem SX.expr (he : EX X Γ e l d l1) (h : O.nx l1) (hs : swapsWith e none pos.line X.env = pure false := by rfl) : SX X Γ (.Expr e pos) l O := ⟨fun G H σ D hh k => ⟨_, ps_expr pe_w hs, he.run G H σ _ hh fun v G1 H1 h1 e1 i1 => k.nx σ G1 H1 l1 h1 e1 h⟩⟩
theorem SX.ite {b : Bool} (hc : TX X Γ c l b l1) (h1 : b = true → SXs X Γ A l1 O) (h2 : b = false → SXs X Γ B l1 O) : SX X Γ (.If c A B pos) l O := ⟨fun G H σ D hh k =>
  ⟨_, ps_if pt_w pss_w pss_w, hc.run G H σ _ hh fun G1 H1 q1 e1 => by
    cases b with
    | true => exact iteT ((h1 rfl).run G1 H1 σ D q1 (k.mono e1))
    | false => exact iteF ((h2 rfl).run G1 H1 σ D q1 (k.mono e1))⟩⟩
theorem SX.iteT (hc : TX X Γ c l true l1) (h1 : SXs X Γ A l1 O) : SX X Γ (.If c A B pos) l O := SX.ite hc (fun _ => h1) fun h => by cases h
theorem SX.iteF (hc : TX X Γ c l false l1) (h1 : SXs X Γ B l1 O) : SX X Γ (.If c A B pos) l O := SX.ite hc (fun h => by cases h) fun _ => h1
/-- an own list becomes data -/
theorem SXs.freeze (fz : Γ.fz = true) (q : l[i]? = some (.own ds)) (h : SXs X Γ body (l.set i (.dat (.list ds))) O) : SXs X Γ body l O := ⟨fun G H σ D ⟨F, hh⟩ k => by
  obtain ⟨G', g, h'⟩ := hh.freeze fz q
  exact h.run G' H σ D ⟨_, h'⟩ (k.mono g)⟩
/-- a loop, W what holds ahead of its i-th turn -/
theorem SX.for {is : List Nat} {tv : PyData → List PyData} (hp : PassesOwn (model X.prog X.w) X.A X.env X.xe) (hc : X.calm = true) (hi : IX X Γ tg iter l ds l1) (hg : ∀ d ∈ ds, GX X tg d is (tv d)) (W : Nat → List Sl → Prop) (h0 : W 0 l1)
    (hs : ∀ i d l2, ds[i]? = some d → W i l2 → SXs X Γ body (TG.setA l2 is ((tv d).map .dat)) { O with nx := W (i + 1), ct := W (i + 1), bk := O.nx }) (hd : ∀ l2, W ds.length l2 → O.nx l2)
    (hz : ∀ x, foldedSetIterable iter X.env x = pure x := by intro _; rfl) : SX X Γ (.For tg iter body [] pos) l O := ⟨fun G H σ D hh k => by
  refine ⟨_, ps_for hp hc pi_w' pg_w pss_w hz, hi.run G H σ _ hh fun J G1 H1 q1 e1 wk => ?_⟩
  refine ⟨fun i m σ H => m = ds.length - i ∧ i ≤ ds.length ∧ ∃ G2 l2, Hold Γ G2 H σ l2 ∧ Same G1 G2 ∧ W i l2, ⟨_, rfl, Nat.zero_le _, G1, l1, q1, Same.refl _, h0⟩, ?_⟩
  rintro i m σ H ⟨rfl, hle, G2, l2, q2, e2, w⟩
  by_cases hlt : i < ds.length
  · refine .inr ⟨wk.go i H (e2.trans q2.f) hlt, fun σ' H' => ∃ G3 l3, Hold Γ G3 H' σ' l3 ∧ Same G1 G3 ∧ W (i + 1) l3, fun σ' H' z => ⟨ds.length - (i + 1), by omega, rfl, hlt, z⟩, fun x H' y => ?_⟩
    obtain ⟨G3, d, hd', gr, ix⟩ := wk.yld i G2 H x H' e2 q2.f hlt y
    have q3 := q2.grow gr
    refine (hg d (List.mem_of_getElem? hd')).run G3 H' σ x _ q3.f ix fun vs r => ?_
    refine (hs i d l2 hd' w).run G3 H' _ _ (q3.setA r) ⟨fun σ' G' H2 l' a b c => ⟨G', l', a, (e2.trans gr.g).trans b, c⟩, fun v σ' G' H2 d' l' a b c q => k.rt v σ' G' H2 d' l' a (((e1.trans e2).trans gr.g).trans b) c q,
      fun σ' G' H2 l' a b c => k.nx σ' G' H2 l' a (((e1.trans e2).trans gr.g).trans b) c, fun σ' G' H2 l' a b c => ⟨G', l', a, (e2.trans gr.g).trans b, c⟩⟩
  · have e : i = ds.length := by omega
    subst e
    exact .inl ⟨wk.stop H (e2.trans q2.f), k.nx σ G2 H l2 q2 (e1.trans e2) (hd l2 w)⟩⟩
end

/-! ### a def over data, by its body -/
section
variable {P : Program} {w : World} {K : PySem.W.Frag} {mg : Str → Option Value} {base : Heap}
theorem Hold.start {B : Addr → Prop} {z : Bool} {G H : Hp} {N : List Str} {vs : List V} {ds : List PyData} (f : Same G H) (r : IsAll G vs ds) : Hold ⟨B, G, H, z⟩ G H (L2.start N vs) (ds.map .dat ++ List.replicate (N.length - ds.length) .no) := by
  refine ⟨fun _ => [], Fx.start B f, by have := r.length; simp [L2.start]; omega, fun i sl e => ?_, fun i j a h => by simp at h, fun i a h => by simp at h, fun _ i sl _ _ a h => by simp at h⟩
  unfold L2.start
  have hl := r.length
  by_cases hi : i < ds.length
  · rw [List.getElem?_append_left (by simpa using hi)] at e
    rw [List.getElem?_map] at e
    cases q : ds[i]? with
    | none => rw [q] at e; cases e
    | some d =>
      rw [q] at e
      cases e
      obtain ⟨v, h1, h2⟩ := r.get q
      refine ⟨some v, ?_, v, rfl, h2⟩
      rw [List.getElem?_append_left (by simp; omega), List.getElem?_map, h1]
      rfl
  · rw [List.getElem?_append_right (by simpa using hi)] at e
    rw [List.getElem?_replicate] at e
    split at e
    · cases e
      refine ⟨none, ?_, trivial⟩
      rw [List.getElem?_append_right (by simp; omega), List.getElem?_replicate]
      rw [if_pos (by simp at *; omega)]
    · cases e
theorem okD {x qual : Str} {st : Stmt} {f : Addr} {fd : FuncData} {N ps : List Str} {k : Nat} {R : List PyData → PyData → Prop} (F : Fun K x qual st f fd) (S : FnScope N ps (defScope st)) (hl : ∀ ds d, R ds d → ds.length = ps.length)
    (hb : ∀ (cdv : Value) (A : Around) (outer : List Env) (s : Shared) (H : Hp) (E : XK) (Γ : Gm) (ds : List PyData) (d : PyData), Γ.fz = true → Room k (A.deeper (envOfC qual (defScope st) s.heap.objs.size f cdv)) → R ds d →
      SXs (cxOf CX0 P w K mg base N qual (defScope st) f cdv A outer s H E).nox Γ (defBody st) (ds.map .dat ++ List.replicate (N.length - ds.length) .no) { nx := fun _ => d = .none, rt := fun d' _ => d' = d }) :
    FnOk P w K mg base CX0 (k + 1) f fd ps (spD R) := by
  refine F.ok S (fun vs H Q E h => ?_) (fun cdv A outer s H vs Q E hr h => ?_)
  · obtain ⟨G, ds, d, hR, f, r, _⟩ := h
    rw [r.length]; exact hl ds d hR
  · obtain ⟨G, ds, d, hR, f, r, q⟩ := h
    have h1 := (hb cdv A outer s H E (gm0 G H) ds d rfl hr hR).run G H (L2.start N vs) { nx := fun _ H' => Q .non H', rt := Q } (Hold.start f r)
      ⟨fun σ' G' H' l' a b c => q .non G' H' a.fx.toGrow (by rw [c]; exact .non), fun v σ' G' H' d' l' a b i c => q v G' H' a.fx.toGrow (by rw [← c]; exact i), fun _ _ _ _ _ _ z => z.elim, fun _ _ _ _ _ _ z => z.elim⟩
    exact h1
end
end TG

/-! TgE: names, defs that are called, built-ins by name -/
namespace TG
open PySem L2 PyProof.Rows

/-! ### a name's place -/
inductive At : List Str → Nat → String → Prop
  | z {n : String} {r : List Str} : At (Str.ofString n :: r) 0 n
  | s {n : String} {m : Str} {r : List Str} {i : Nat} : At r i n → At (m :: r) (i + 1) n
theorem At.get : ∀ {N : List Str} {i : Nat} {n : String}, At N i n → N[i]? = some (Str.ofString n)
  | _, _, _, .z => rfl
  | _, _, _, .s h => by simpa using h.get
/-- the names of a def's own: each has its place, none is a word of the machine's -/
def tabC (N : List Str) (sc : Scope) (m : Nat) : Bool :=
  (N.take m).all fun n => (decide (sc.names.lookup n = some .local) || decide (sc.names.lookup n = some .cell)) && !(n == ("__debug__" : Str)) && !(n == ("__classdict__" : Str))
structure Tab (X : Cx) (N : List Str) (m : Nat) : Prop where
  eN : X.N = N
  nd : N.Nodup
  loc : ∀ i n, i < m → N[i]? = some n → Loc X.env.scope n
  dbg : ∀ i n, i < m → N[i]? = some n → (n == ("__debug__" : Str)) = false ∧ (n == ("__classdict__" : Str)) = false
  fn : ∀ n, X.fn n = true
theorem tab_of {X : Cx} {N : List Str} {m : Nat} (eN : X.N = N) (nd : N.Nodup) (h : tabC N X.env.scope m = true) (fn : ∀ n, X.fn n = true) : Tab X N m := by
  unfold tabC at h
  rw [List.all_eq_true] at h
  have g : ∀ i n, i < m → N[i]? = some n → n ∈ N.take m := fun i n hi e => by
    refine List.mem_of_getElem? (i := i) ?_
    rw [List.getElem?_take_of_lt hi]; exact e
  refine ⟨eN, nd, fun i n hi e => ?_, fun i n hi e => ?_, fn⟩
  · have q := h n (g i n hi e)
    simp only [Bool.and_eq_true, Bool.or_eq_true, decide_eq_true_eq] at q
    exact q.1.1
  · have q := h n (g i n hi e)
    simp only [Bool.and_eq_true, Bool.not_eq_true'] at q
    exact ⟨q.1.2, q.2⟩
section
variable {X : Cx} {Γ : Gm} {N : List Str} {m i : Nat} {n : String} {pos pos' : Pos} {l l1 : List Sl} {d : PyData} {ds : List PyData} {e : Expr} {O : Out} {p : Pos}
theorem Tab.ndX (T : Tab X N m) : X.N.Nodup := by rw [T.eN]; exact T.nd
theorem Tab.at_ (T : Tab X N m) (hA : At N i n) : X.N[i]? = some (Str.ofString n) := by rw [T.eN]; exact hA.get
theorem Tab.vis (T : Tab X N m) (hA : At N i n) (hi : i < m) : Vis X.env.scope (Str.ofString n) := by
  rcases T.loc i _ hi hA.get with h | h
  · exact .inl h
  · exact .inr (.inl h)
theorem EX.nm (T : Tab X N m) (hA : At N i n) (hi : i < m) (q : l[i]? = some (.dat d)) : EX X Γ (.Name (Str.ofString n) pos) l d l := EX.var (T.at_ hA) (T.vis hA hi) q (T.dbg i _ hi hA.get).1 (T.dbg i _ hi hA.get).2
theorem GX.nm (T : Tab X N m) (hA : At N i n) (hi : i < m) : GX X (.Name (Str.ofString n) pos) d [i] [d] := GX.name T.ndX (T.at_ hA) (T.loc i _ hi hA.get) (.inl (T.fn _))
theorem GsX.nm {es : List Expr} {is : List Nat} (T : Tab X N m) (hA : At N i n) (hi : i < m) (h : GsX X es is) (hs : (assignEach (.Name (Str.ofString n) pos :: es) X.env).map (·.2) = assign (.Name (Str.ofString n) pos) X.env :: (assignEach es X.env).map (·.2) := by rfl) :
    GsX X (.Name (Str.ofString n) pos :: es) (i :: is) := GsX.cons T.ndX (T.at_ hA) (T.loc i _ hi hA.get) h (.inl (T.fn _)) hs
theorem SX.st (T : Tab X N m) (hA : At N i n) (hi : i < m) (he : EX X Γ e l d l1) (h : O.nx (l1.set i (.dat d))) (hs : swapsWith e (some (.Name (Str.ofString n) pos')) pos.line X.env = pure false := by rfl) : SX X Γ (.Assign [.Name (Str.ofString n) pos'] e pos) l O :=
  SX.set T.ndX (T.at_ hA) (T.loc i _ hi hA.get) he h hs (.inl (T.fn _))
theorem SX.stL (T : Tab X N m) (hA : At N i n) (hi : i < m) (he : EL X Γ e l ds l1) (h : O.nx (l1.set i (.own ds))) (hs : swapsWith e (some (.Name (Str.ofString n) pos')) pos.line X.env = pure false := by rfl) : SX X Γ (.Assign [.Name (Str.ofString n) pos'] e pos) l O :=
  SX.setL T.ndX (T.at_ hA) (T.loc i _ hi hA.get) he h hs (.inl (T.fn _))
theorem SX.stD (T : Tab X N m) (hA : At N i n) (hi : i < m) (h : O.nx (l.set i (.dk []))) (hs : swapsWith (.Dict [] [] p) (some (.Name (Str.ofString n) pos')) pos.line X.env = pure false := by rfl) : SX X Γ (.Assign [.Name (Str.ofString n) pos'] (.Dict [] [] p) pos) l O :=
  SX.setD T.ndX (T.at_ hA) (T.loc i _ hi hA.get) h hs (.inl (T.fn _))
theorem SX.stDT (T : Tab X N m) (hA : At N i n) (hi : i < m) (h : O.nx (l.set i (.dt []))) (hs : swapsWith (.Dict [] [] p) (some (.Name (Str.ofString n) pos')) pos.line X.env = pure false := by rfl) : SX X Γ (.Assign [.Name (Str.ofString n) pos'] (.Dict [] [] p) pos) l O :=
  SX.setDT T.ndX (T.at_ hA) (T.loc i _ hi hA.get) h hs (.inl (T.fn _))
end

/-! ### defs -/
/-- the def n keeps a promise over data -/
structure Cal (P : Program) (w : World) (K : PySem.W.Frag) (mg : Str → Option Value) (base : Heap) (n : String) (k : Nat) (ps : List Str) (R : List PyData → PyData → Prop) : Prop where
  ex : ∃ f fd, FnOk P w K mg base CX0 k f fd ps (spD R) ∧ mg (Str.ofString n) = some (.ref f) ∧ PySem.W.keepIn K (.ref f) = true ∧ Binds K fd ps []
theorem Cal.mono {P : Program} {w : World} {K : PySem.W.Frag} {mg : Str → Option Value} {base : Heap} {n : String} {j k : Nat} {ps : List Str} {R : List PyData → PyData → Prop} (h : Cal P w K mg base n j ps R) (e : j ≤ k) : Cal P w K mg base n k ps R :=
  let ⟨f, fd, h1, h2, h3, h4⟩ := h.ex; ⟨f, fd, h1.mono e, h2, h3, h4⟩
theorem Cal.imp {P : Program} {w : World} {K : PySem.W.Frag} {mg : Str → Option Value} {base : Heap} {n : String} {k : Nat} {ps : List Str} {R R' : List PyData → PyData → Prop} (h : Cal P w K mg base n k ps R) (e : ∀ ds d, R' ds d → R ds d) : Cal P w K mg base n k ps R' :=
  let ⟨f, fd, h1, h2, h3, h4⟩ := h.ex; ⟨f, fd, h1.imp (fun vs H Q E ⟨G, ds, d, r, q⟩ => ⟨G, ds, d, e _ _ r, q⟩), h2, h3, h4⟩
/-- where the def n stands -/
structure Pl (K : PySem.W.Frag) (mg : Str → Option Value) (n : String) (st : Stmt) (ps : List Str) : Prop where
  ex : ∃ f fd, Fun K (Str.ofString n) (Str.ofString n) st f fd ∧ mg (Str.ofString n) = some (.ref f) ∧ Binds K fd ps []
theorem EX.cal {X : Cx} {Γ : Gm} {e : Expr} {es : List Expr} {l l' : List Sl} {d : PyData} {ds : List PyData} {pos p : Pos} {j k : Nat} {ps : List Str} {n : String} {R : List PyData → PyData → Prop}
    (C : Cal X.prog X.w X.K X.mg X.base n j ps R) (hr : Room k X.A) (hjk : j ≤ k) (hg : Gl X (Str.ofString n)) (h : AX X Γ (e :: es) l ds l') (hR : R ds d) (hdb : (Str.ofString n == ("__debug__" : Str)) = false := by decide)
    (he : starEach (e :: es) X.env = (false, eval e X.env) :: starEach es X.env := by rfl) (hpl : (backTo pos (starEach es X.env)).any (·.1) = false := by rfl) : EX X Γ (.Call (.Name (Str.ofString n) p) (e :: es) [] pos) l d l' := by
  obtain ⟨f, fd, h1, h2, h3, h4⟩ := C.ex
  exact EX.call h1 (hr.mono hjk) hg h2 h3 h4 h hR hdb he hpl
/-- a module's constant -/
structure GlI (mg : Str → Option Value) (n : String) (i : Int) : Prop where
  ex : ∃ t, mg (Str.ofString n) = some (.int i t)
structure GlS (mg : Str → Option Value) (n : String) (x : Str) : Prop where
  ex : ∃ t, mg (Str.ofString n) = some (.str x t)
theorem EX.glI {X : Cx} {Γ : Gm} {n : String} {i : Int} {l : List Sl} {pos : Pos} (h : GlI X.mg n i) (hg : Gl X (Str.ofString n) := by rfl) (hd : (Str.ofString n == ("__debug__" : Str)) = false := by decide) : EX X Γ (.Name (Str.ofString n) pos) l (.int i) l := let ⟨_, h⟩ := h.ex; EX.globI hg h hd
theorem EX.glS {X : Cx} {Γ : Gm} {n : String} {x : Str} {l : List Sl} {pos : Pos} (h : GlS X.mg n x) (hg : Gl X (Str.ofString n) := by rfl) (hd : (Str.ofString n == ("__debug__" : Str)) = false := by decide) : EX X Γ (.Name (Str.ofString n) pos) l (.str x) l := let ⟨_, h⟩ := h.ex; EX.globS hg h hd
/-- the built-ins' names stand for the built-ins -/
structure Bi (mg : Str → Option Value) : Prop where
  isi : mg "isinstance" = none
  len : mg "len" = none
  int : mg "int" = none
  bool : mg "bool" = none
  str : mg "str" = none
  tuple : mg "tuple" = none
  range : mg "range" = none
  zip : mg "zip" = none
def isTupD : PyData → Bool
  | .tuple _ => true
  | _ => false
def isStrD : PyData → Bool
  | .str _ => true
  | _ => false
def isIntD : PyData → Bool
  | .int _ => true
  | .bool _ => true
  | _ => false
def isBoolD : PyData → Bool
  | .bool _ => true
  | _ => false
theorem kitT (x : PyData) : kitB (tyD x) "tuple" = some (isTupD x) := by cases x <;> (simp only [tyD, isTupD]; decide +kernel)
theorem kitS (x : PyData) : kitB (tyD x) "str" = some (isStrD x) := by cases x <;> (simp only [tyD, isStrD]; decide +kernel)
theorem kitI (x : PyData) : kitB (tyD x) "int" = some (isIntD x) := by cases x <;> (simp only [tyD, isIntD]; decide +kernel)
theorem kitBo (x : PyData) : kitB (tyD x) "bool" = some (isBoolD x) := by cases x <;> (simp only [tyD, isBoolD]; decide +kernel)
section
variable {X : Cx} {Γ : Gm} {a e : Expr} {l l1 : List Sl} {x d : PyData} {p p2 pos : Pos} {n T : String}
theorem EX.isiT (hn : n = "isinstance" ∧ T = "tuple") (B : Bi X.mg) (ha : EX X Γ a l x l1) (hg : Gl X "isinstance" := by rfl) (hgT : Gl X "tuple" := by rfl)
    (he : starEach [a, .Name (Str.ofString T) p2] X.env = (false, eval a X.env) :: starEach [.Name (Str.ofString T) p2] X.env := by rfl) (he2 : starEach [.Name (Str.ofString T) p2] X.env = [(false, eval (.Name (Str.ofString T) p2) X.env)] := by rfl)
    (hpl : (backTo pos (starEach [.Name (Str.ofString T) p2] X.env)).any (·.1) = false := by rfl) : EX X Γ (.Call (.Name (Str.ofString n) p) [a, .Name (Str.ofString T) p2] [] pos) l (.bool (isTupD x)) l1 := by
  obtain ⟨rfl, rfl⟩ := hn
  exact EX.isi ha hg B.isi hgT B.tuple (by decide +kernel) (kitT x) (by decide) (by decide) he he2 hpl
theorem EX.isiS (hn : n = "isinstance" ∧ T = "str") (B : Bi X.mg) (ha : EX X Γ a l x l1) (hg : Gl X "isinstance" := by rfl) (hgT : Gl X "str" := by rfl)
    (he : starEach [a, .Name (Str.ofString T) p2] X.env = (false, eval a X.env) :: starEach [.Name (Str.ofString T) p2] X.env := by rfl) (he2 : starEach [.Name (Str.ofString T) p2] X.env = [(false, eval (.Name (Str.ofString T) p2) X.env)] := by rfl)
    (hpl : (backTo pos (starEach [.Name (Str.ofString T) p2] X.env)).any (·.1) = false := by rfl) : EX X Γ (.Call (.Name (Str.ofString n) p) [a, .Name (Str.ofString T) p2] [] pos) l (.bool (isStrD x)) l1 := by
  obtain ⟨rfl, rfl⟩ := hn
  exact EX.isi ha hg B.isi hgT B.str (by decide +kernel) (kitS x) (by decide) (by decide) he he2 hpl
theorem EX.isiI (hn : n = "isinstance" ∧ T = "int") (B : Bi X.mg) (ha : EX X Γ a l x l1) (hg : Gl X "isinstance" := by rfl) (hgT : Gl X "int" := by rfl)
    (he : starEach [a, .Name (Str.ofString T) p2] X.env = (false, eval a X.env) :: starEach [.Name (Str.ofString T) p2] X.env := by rfl) (he2 : starEach [.Name (Str.ofString T) p2] X.env = [(false, eval (.Name (Str.ofString T) p2) X.env)] := by rfl)
    (hpl : (backTo pos (starEach [.Name (Str.ofString T) p2] X.env)).any (·.1) = false := by rfl) : EX X Γ (.Call (.Name (Str.ofString n) p) [a, .Name (Str.ofString T) p2] [] pos) l (.bool (isIntD x)) l1 := by
  obtain ⟨rfl, rfl⟩ := hn
  exact EX.isi ha hg B.isi hgT B.int (by decide +kernel) (kitI x) (by decide) (by decide) he he2 hpl
theorem EX.isiB (hn : n = "isinstance" ∧ T = "bool") (B : Bi X.mg) (ha : EX X Γ a l x l1) (hg : Gl X "isinstance" := by rfl) (hgT : Gl X "bool" := by rfl)
    (he : starEach [a, .Name (Str.ofString T) p2] X.env = (false, eval a X.env) :: starEach [.Name (Str.ofString T) p2] X.env := by rfl) (he2 : starEach [.Name (Str.ofString T) p2] X.env = [(false, eval (.Name (Str.ofString T) p2) X.env)] := by rfl)
    (hpl : (backTo pos (starEach [.Name (Str.ofString T) p2] X.env)).any (·.1) = false := by rfl) : EX X Γ (.Call (.Name (Str.ofString n) p) [a, .Name (Str.ofString T) p2] [] pos) l (.bool (isBoolD x)) l1 := by
  obtain ⟨rfl, rfl⟩ := hn
  exact EX.isi ha hg B.isi hgT B.bool (by decide +kernel) (kitBo x) (by decide) (by decide) he he2 hpl
def lenD : PyData → Int
  | .tuple ds => (ds.length : Nat)
  | .list ds => (ds.length : Nat)
  | .str z => (z.length : Nat)
  | _ => 0
/-- what len takes: a tuple, a list, a text of fewer than a million signs -/
def lenOk : PyData → Prop
  | .tuple _ => True
  | .list _ => True
  | .str z => z.length ≤ 1000000
  | _ => False
theorem caLen (h : lenOk x) : CaD X (.builtin "len") [x] (.int (lenD x)) := by
  cases x with
  | tuple ds => exact caLenT
  | list ds => exact caLenL
  | str z => exact caLenS (Nat.le_trans h (by decide))
  | _ => exact absurd h (by simp [lenOk])
theorem EX.len (hn : n = "len") (B : Bi X.mg) (ha : EX X Γ a l x l1) (h : lenOk x) (hg : Gl X "len" := by rfl) (hs : starEach [a] X.env = (false, eval a X.env) :: starEach [] X.env := by rfl)
    (hpl : (backTo pos (starEach [] X.env)).any (·.1) = false := by rfl) : EX X Γ (.Call (.Name (Str.ofString n) p) [a] [] pos) l (.int (lenD x)) l1 := by
  subst hn
  exact EX.callB (.cons ha .nil hs) (caLen h) hg B.len PySem.boot_len (by decide) (by decide) hs hpl
theorem EX.tupOf {ds : List PyData} (hn : n = "tuple") (B : Bi X.mg) (ha : EX X Γ a l (.list ds) l1) (hg : Gl X "tuple" := by rfl) (hs : starEach [a] X.env = (false, eval a X.env) :: starEach [] X.env := by rfl)
    (hpl : (backTo pos (starEach [] X.env)).any (·.1) = false := by rfl) : EX X Γ (.Call (.Name (Str.ofString n) p) [a] [] pos) l (.tuple ds) l1 := by
  subst hn
  exact EX.callTy (.cons ha .nil hs) caTupL hg B.tuple (by decide +kernel) (by decide) (by decide) hs hpl
theorem EX.intOf {b : Bool} (hn : n = "int") (B : Bi X.mg) (ha : EX X Γ a l (.bool b) l1) (hg : Gl X "int" := by rfl) (hs : starEach [a] X.env = (false, eval a X.env) :: starEach [] X.env := by rfl)
    (hpl : (backTo pos (starEach [] X.env)).any (·.1) = false := by rfl) : EX X Γ (.Call (.Name (Str.ofString n) p) [a] [] pos) l (.int (if b then 1 else 0)) l1 := by
  subst hn
  exact EX.callTy (.cons ha .nil hs) caIntB hg B.int (by decide +kernel) (by decide) (by decide) hs hpl
end

theorem SXs.reL {X : Cx} {Γ : Gm} {st : List Stmt} {l l' : List Sl} {O : Out} (e : l = l') (h : SXs X Γ st l' O) : SXs X Γ st l O := e ▸ h
/-! ### a def's promise by its body -/
section
variable {P : Program} {w : World} {K : PySem.W.Frag} {mg : Str → Option Value} {base : Heap}
/-- the context of a def's body -/
abbrev bx (P : Program) (w : World) (K : PySem.W.Frag) (mg : Str → Option Value) (base : Heap) (N : List Str) (qual : Str) (st : Stmt) (f : Addr) (cdv : Value) (A : Around) (outer : List Env) (s : Shared) (H : Hp) (E : XK) : Cx :=
  (cxOf CX0 P w K mg base N qual (defScope st) f cdv A outer s H E).nox
theorem okC {n : String} {st : Stmt} {N ps : List Str} {k : Nat} {R : List PyData → PyData → Prop} (m : Nat) (pl : Pl K mg n st ps) (S : FnScope N ps (defScope st)) (ht : tabC N (defScope st) m = true) (hl : ∀ ds d, R ds d → ds.length = ps.length)
    (hb : ∀ (f : Addr) (cdv : Value) (A : Around) (outer : List Env) (s : Shared) (H : Hp) (E : XK) (Γ : Gm) (ds : List PyData) (d : PyData), Γ.fz = true → Room k (bx P w K mg base N (Str.ofString n) st f cdv A outer s H E).A → Tab (bx P w K mg base N (Str.ofString n) st f cdv A outer s H E) N m → R ds d →
      SXs (bx P w K mg base N (Str.ofString n) st f cdv A outer s H E) Γ (defBody st) (ds.map .dat ++ List.replicate (N.length - ds.length) .no) { nx := fun _ => d = .none, rt := fun d' _ => d' = d }) :
    Cal P w K mg base n (k + 1) ps R := by
  obtain ⟨f, fd, h1, h2, h3⟩ := pl.ex
  refine ⟨f, fd, okD h1 S hl fun cdv A outer s H E Γ ds d fz hr hR => ?_, h2, h1.kp, h3⟩
  exact hb f cdv A outer s H E Γ ds d fz hr (tab_of rfl S.nd ht fun _ => rfl) hR
end
end TG

/-! TgT: the text by places (printed by gen_text.py) -/
namespace TG
open PySem L2
def top (i : Nat) : Stmt := PySem.Challenge.pw_tonguegate_k41_whole_whatever_the_names.main.body.getD i (.Pass ⟨0, 0, 0, 0⟩)
abbrev s_is_whole : Stmt := top 8
abbrev N_is_whole : List Str := ["thing"]
theorem sc_is_whole : FnScope N_is_whole ["thing"] (defScope s_is_whole) := ⟨rfl, rfl, rfl, by decide +kernel, rfl, by decide +kernel, by decide +kernel⟩
abbrev s_is_name : Stmt := top 9
abbrev N_is_name : List Str := ["thing", "sign"]
theorem sc_is_name : FnScope N_is_name ["thing"] (defScope s_is_name) := ⟨rfl, rfl, rfl, by decide +kernel, rfl, by decide +kernel, by decide +kernel⟩
abbrev s_are_fields : Stmt := top 10
abbrev N_are_fields : List Str := ["thing", "depth", "names", "field"]
theorem sc_are_fields : FnScope N_are_fields ["thing", "depth"] (defScope s_are_fields) := ⟨rfl, rfl, rfl, by decide +kernel, rfl, by decide +kernel, by decide +kernel⟩
abbrev s_is_kind_within : Stmt := top 11
abbrev N_is_kind_within : List Str := ["thing", "depth"]
theorem sc_is_kind_within : FnScope N_is_kind_within ["thing", "depth"] (defScope s_is_kind_within) := ⟨rfl, rfl, rfl, by decide +kernel, rfl, by decide +kernel, by decide +kernel⟩
abbrev s_is_kind : Stmt := top 12
abbrev N_is_kind : List Str := ["thing"]
theorem sc_is_kind : FnScope N_is_kind ["thing"] (defScope s_is_kind) := ⟨rfl, rfl, rfl, by decide +kernel, rfl, by decide +kernel, by decide +kernel⟩
abbrev s_place_of : Stmt := top 13
abbrev N_place_of : List Str := ["fields", "name", "at"]
theorem sc_place_of : FnScope N_place_of ["fields", "name"] (defScope s_place_of) := ⟨rfl, rfl, rfl, by decide +kernel, rfl, by decide +kernel, by decide +kernel⟩
abbrev s_field_kind : Stmt := top 14
abbrev N_field_kind : List Str := ["fields", "name", "at"]
theorem sc_field_kind : FnScope N_field_kind ["fields", "name"] (defScope s_field_kind) := ⟨rfl, rfl, rfl, by decide +kernel, rfl, by decide +kernel, by decide +kernel⟩
abbrev s_step_kind : Stmt := top 15
abbrev N_step_kind : List Str := ["kind", "step", "found"]
theorem sc_step_kind : FnScope N_step_kind ["kind", "step"] (defScope s_step_kind) := ⟨rfl, rfl, rfl, by decide +kernel, rfl, by decide +kernel, by decide +kernel⟩
abbrev s_part_kind : Stmt := top 16
abbrev N_part_kind : List Str := ["kind", "path", "step"]
theorem sc_part_kind : FnScope N_part_kind ["kind", "path"] (defScope s_part_kind) := ⟨rfl, rfl, rfl, by decide +kernel, rfl, by decide +kernel, by decide +kernel⟩
abbrev s_is_way : Stmt := top 18
abbrev N_is_way : List Str := ["thing"]
theorem sc_is_way : FnScope N_is_way ["thing"] (defScope s_is_way) := ⟨rfl, rfl, rfl, by decide +kernel, rfl, by decide +kernel, by decide +kernel⟩
abbrev s_is_side : Stmt := top 19
abbrev N_is_side : List Str := ["thing"]
theorem sc_is_side : FnScope N_is_side ["thing"] (defScope s_is_side) := ⟨rfl, rfl, rfl, by decide +kernel, rfl, by decide +kernel, by decide +kernel⟩
abbrev s_is_place : Stmt := top 20
abbrev N_is_place : List Str := ["thing"]
theorem sc_is_place : FnScope N_is_place ["thing"] (defScope s_is_place) := ⟨rfl, rfl, rfl, by decide +kernel, rfl, by decide +kernel, by decide +kernel⟩
abbrev s_are_places : Stmt := top 21
abbrev N_are_places : List Str := ["thing", "names", "place"]
theorem sc_are_places : FnScope N_are_places ["thing"] (defScope s_are_places) := ⟨rfl, rfl, rfl, by decide +kernel, rfl, by decide +kernel, by decide +kernel⟩
abbrev s_is_paper : Stmt := top 22
abbrev N_is_paper : List Str := ["thing"]
theorem sc_is_paper : FnScope N_is_paper ["thing"] (defScope s_is_paper) := ⟨rfl, rfl, rfl, by decide +kernel, rfl, by decide +kernel, by decide +kernel⟩
abbrev s_span_of : Stmt := top 26
abbrev N_span_of : List Str := ["width", "span", "turn"]
theorem sc_span_of : FnScope N_span_of ["width"] (defScope s_span_of) := ⟨rfl, rfl, rfl, by decide +kernel, rfl, by decide +kernel, by decide +kernel⟩
abbrev s_is_text : Stmt := top 27
abbrev N_is_text : List Str := ["thing", "sign"]
theorem sc_is_text : FnScope N_is_text ["thing"] (defScope s_is_text) := ⟨rfl, rfl, rfl, by decide +kernel, rfl, by decide +kernel, by decide +kernel⟩
abbrev s_are_worths : Stmt := top 28
abbrev N_are_worths : List Str := ["kinds", "things", "kind", "thing"]
theorem sc_are_worths : FnScope N_are_worths ["kinds", "things"] (defScope s_are_worths) := ⟨rfl, rfl, rfl, by decide +kernel, rfl, by decide +kernel, by decide +kernel⟩
abbrev s_is_worth : Stmt := top 29
abbrev N_is_worth : List Str := ["kind", "thing", "below", "half", "field"]
theorem sc_is_worth : FnScope N_is_worth ["kind", "thing"] (defScope s_is_worth) := ⟨rfl, rfl, rfl, by decide +kernel, rfl, by decide +kernel, by decide +kernel⟩
abbrev s_is_path : Stmt := top 31
abbrev N_is_path : List Str := ["thing", "step"]
theorem sc_is_path : FnScope N_is_path ["thing"] (defScope s_is_path) := ⟨rfl, rfl, rfl, by decide +kernel, rfl, by decide +kernel, by decide +kernel⟩
abbrev s_are_names : Stmt := top 32
abbrev N_are_names : List Str := ["thing", "name"]
theorem sc_are_names : FnScope N_are_names ["thing"] (defScope s_are_names) := ⟨rfl, rfl, rfl, by decide +kernel, rfl, by decide +kernel, by decide +kernel⟩
abbrev s_has_worth : Stmt := top 33
abbrev N_has_worth : List Str := ["kind", "worth"]
theorem sc_has_worth : FnScope N_has_worth ["kind", "worth"] (defScope s_has_worth) := ⟨rfl, rfl, rfl, by decide +kernel, rfl, by decide +kernel, by decide +kernel⟩
abbrev s_is_short : Stmt := top 34
abbrev N_is_short : List Str := ["thing"]
theorem sc_is_short : FnScope N_is_short ["thing"] (defScope s_is_short) := ⟨rfl, rfl, rfl, by decide +kernel, rfl, by decide +kernel, by decide +kernel⟩
abbrev s_is_longer : Stmt := top 35
abbrev N_is_longer : List Str := ["thing"]
theorem sc_is_longer : FnScope N_is_longer ["thing"] (defScope s_is_longer) := ⟨rfl, rfl, rfl, by decide +kernel, rfl, by decide +kernel, by decide +kernel⟩
abbrev s_is_statement : Stmt := top 36
abbrev N_is_statement : List Str := ["thing", "depth"]
theorem sc_is_statement : FnScope N_is_statement ["thing", "depth"] (defScope s_is_statement) := ⟨rfl, rfl, rfl, by decide +kernel, rfl, by decide +kernel, by decide +kernel⟩
abbrev s_is_body : Stmt := top 37
abbrev N_is_body : List Str := ["thing", "depth", "one"]
theorem sc_is_body : FnScope N_is_body ["thing", "depth"] (defScope s_is_body) := ⟨rfl, rfl, rfl, by decide +kernel, rfl, by decide +kernel, by decide +kernel⟩
abbrev s_are_doors : Stmt := top 38
abbrev N_are_doors : List Str := ["thing", "names", "door"]
theorem sc_are_doors : FnScope N_are_doors ["thing"] (defScope s_are_doors) := ⟨rfl, rfl, rfl, by decide +kernel, rfl, by decide +kernel, by decide +kernel⟩
abbrev s_are_shelves : Stmt := top 39
abbrev N_are_shelves : List Str := ["thing", "seen", "shelf"]
theorem sc_are_shelves : FnScope N_are_shelves ["thing"] (defScope s_are_shelves) := ⟨rfl, rfl, rfl, by decide +kernel, rfl, by decide +kernel, by decide +kernel⟩
abbrev s_init : Stmt := inClass (top 41) 0
abbrev N_init : List Str := ["self", "papers", "shelves", "paper", "name", "side", "kind", "worth", "way"]
theorem sc_init : FnScope N_init ["self", "papers", "shelves", "paper"] (defScope s_init) := ⟨rfl, rfl, rfl, by decide +kernel, rfl, by decide +kernel, by decide +kernel⟩
abbrev s_knows : Stmt := inClass (top 41) 1
abbrev N_knows : List Str := ["self", "name"]
theorem sc_knows : FnScope N_knows ["self", "name"] (defScope s_knows) := ⟨rfl, rfl, rfl, by decide +kernel, rfl, by decide +kernel, by decide +kernel⟩
abbrev s_may_make : Stmt := inClass (top 41) 2
abbrev N_may_make : List Str := ["self", "name", "kind"]
theorem sc_may_make : FnScope N_may_make ["self", "name", "kind"] (defScope s_may_make) := ⟨rfl, rfl, rfl, by decide +kernel, rfl, by decide +kernel, by decide +kernel⟩
abbrev s_may_change : Stmt := inClass (top 41) 3
abbrev N_may_change : List Str := ["self", "name"]
theorem sc_may_change : FnScope N_may_change ["self", "name"] (defScope s_may_change) := ⟨rfl, rfl, rfl, by decide +kernel, rfl, by decide +kernel, by decide +kernel⟩
abbrev s_may_take : Stmt := inClass (top 41) 4
abbrev N_may_take : List Str := ["self", "name"]
theorem sc_may_take : FnScope N_may_take ["self", "name"] (defScope s_may_take) := ⟨rfl, rfl, rfl, by decide +kernel, rfl, by decide +kernel, by decide +kernel⟩
abbrev s_may_hand : Stmt := inClass (top 41) 5
abbrev N_may_hand : List Str := ["self", "name", "way", "kind", "own"]
theorem sc_may_hand : FnScope N_may_hand ["self", "name", "way", "kind"] (defScope s_may_hand) := ⟨rfl, rfl, rfl, by decide +kernel, rfl, by decide +kernel, by decide +kernel⟩
abbrev s_kind_at : Stmt := inClass (top 41) 6
abbrev N_kind_at : List Str := ["self", "name", "path", "found"]
theorem sc_kind_at : FnScope N_kind_at ["self", "name", "path"] (defScope s_kind_at) := ⟨rfl, rfl, rfl, by decide +kernel, rfl, by decide +kernel, by decide +kernel⟩
abbrev s_call_holds : Stmt := top 42
abbrev N_call_holds : List Str := ["scope", "one", "paper", "name", "place"]
theorem sc_call_holds : FnScope N_call_holds ["scope", "one"] (defScope s_call_holds) := ⟨rfl, rfl, rfl, by decide +kernel, rfl, by decide +kernel, by decide +kernel⟩
abbrev s_making_holds : Stmt := top 43
abbrev N_making_holds : List Str := ["scope", "one", "path", "kind"]
theorem sc_making_holds : FnScope N_making_holds ["scope", "one"] (defScope s_making_holds) := ⟨rfl, rfl, rfl, by decide +kernel, rfl, by decide +kernel, by decide +kernel⟩
abbrev s_changing_holds : Stmt := top 44
abbrev N_changing_holds : List Str := ["scope", "one", "kind"]
theorem sc_changing_holds : FnScope N_changing_holds ["scope", "one"] (defScope s_changing_holds) := ⟨rfl, rfl, rfl, by decide +kernel, rfl, by decide +kernel, by decide +kernel⟩
abbrev s_taking_holds : Stmt := top 45
abbrev N_taking_holds : List Str := ["scope", "one"]
theorem sc_taking_holds : FnScope N_taking_holds ["scope", "one"] (defScope s_taking_holds) := ⟨rfl, rfl, rfl, by decide +kernel, rfl, by decide +kernel, by decide +kernel⟩
abbrev s_statement_holds : Stmt := top 46
abbrev N_statement_holds : List Str := ["scope", "one", "word"]
theorem sc_statement_holds : FnScope N_statement_holds ["scope", "one"] (defScope s_statement_holds) := ⟨rfl, rfl, rfl, by decide +kernel, rfl, by decide +kernel, by decide +kernel⟩
abbrev s_body_holds : Stmt := top 47
abbrev N_body_holds : List Str := ["scope", "body", "one"]
theorem sc_body_holds : FnScope N_body_holds ["scope", "body"] (defScope s_body_holds) := ⟨rfl, rfl, rfl, by decide +kernel, rfl, by decide +kernel, by decide +kernel⟩
abbrev s_door_holds : Stmt := top 48
abbrev N_door_holds : List Str := ["papers", "shelves", "door", "paper", "name", "side", "kind", "worth", "place"]
theorem sc_door_holds : FnScope N_door_holds ["papers", "shelves", "door"] (defScope s_door_holds) := ⟨rfl, rfl, rfl, by decide +kernel, rfl, by decide +kernel, by decide +kernel⟩
abbrev s_is_program : Stmt := top 49
abbrev N_is_program : List Str := ["thing", "papers", "door"]
theorem sc_is_program : FnScope N_is_program ["thing"] (defScope s_is_program) := ⟨rfl, rfl, rfl, by decide +kernel, rfl, by decide +kernel, by decide +kernel⟩
abbrev s_law_draws : Stmt := top 51
abbrev N_law_draws : List Str := ["cell", "count", "row", "rest", "base", "more", "k", "stir"]
theorem sc_law_draws : FnScope N_law_draws ["cell", "count"] (defScope s_law_draws) := ⟨rfl, rfl, rfl, by decide +kernel, rfl, by decide +kernel, by decide +kernel⟩
abbrev s_law_word : Stmt := top 52
abbrev N_law_word : List Str := ["numbers", "one"]
theorem sc_law_word : FnScope N_law_word ["numbers"] (defScope s_law_word) := ⟨rfl, rfl, rfl, by decide +kernel, rfl, by decide +kernel, by decide +kernel⟩
abbrev s_law_names : Stmt := top 53
abbrev N_law_names : List Str := ["row", "word", "letter", "at", "own", "some", "k", "names", "one"]
theorem sc_law_names : FnScope N_law_names ["row"] (defScope s_law_names) := ⟨rfl, rfl, rfl, by decide +kernel, rfl, by decide +kernel, by decide +kernel⟩
abbrev s_law_worth : Stmt := top 54
abbrev N_law_worth : List Str := ["kind", "seed", "field", "k", "one"]
theorem sc_law_worth : FnScope N_law_worth ["kind", "seed"] (defScope s_law_worth) := ⟨rfl, rfl, rfl, by decide +kernel, rfl, by decide +kernel, by decide +kernel⟩
abbrev s_law_ladder : Stmt := top 55
abbrev N_law_ladder : List Str := ["row", "names", "kinds", "steps", "k", "one", "many", "lead", "fields", "j"]
theorem sc_law_ladder : FnScope N_law_ladder ["row", "names"] (defScope s_law_ladder) := ⟨rfl, rfl, rfl, by decide +kernel, rfl, by decide +kernel, by decide +kernel⟩
abbrev s_law_closed : Stmt := top 56
abbrev N_law_closed : List Str := ["frames", "frame"]
theorem sc_law_closed : FnScope N_law_closed ["frames"] (defScope s_law_closed) := ⟨rfl, rfl, rfl, by decide +kernel, rfl, by decide +kernel, by decide +kernel⟩
abbrev s_law_ended : Stmt := top 57
abbrev N_law_ended : List Str := ["frames"]
theorem sc_law_ended : FnScope N_law_ended ["frames"] (defScope s_law_ended) := ⟨rfl, rfl, rfl, by decide +kernel, rfl, by decide +kernel, by decide +kernel⟩
abbrev s_law_plans : Stmt := top 58
abbrev N_law_plans : List Str := ["names", "row", "doors", "ways", "d", "some", "places", "k", "result"]
theorem sc_law_plans : FnScope N_law_plans ["names", "row"] (defScope s_law_plans) := ⟨rfl, rfl, rfl, by decide +kernel, rfl, by decide +kernel, by decide +kernel⟩
abbrev s_law_shelves : Stmt := top 59
abbrev N_law_shelves : List Str := ["doors", "number", "seed", "found", "k", "one", "there", "door", "at", "way"]
theorem sc_law_shelves : FnScope N_law_shelves ["doors", "number", "seed"] (defScope s_law_shelves) := ⟨rfl, rfl, rfl, by decide +kernel, rfl, by decide +kernel, by decide +kernel⟩
abbrev s_law_named : Stmt := top 60
abbrev N_law_named : List Str := ["number", "bound", "odd", "draw", "some", "one"]
theorem sc_law_named : FnScope N_law_named ["number", "bound", "odd", "draw"] (defScope s_law_named) := ⟨rfl, rfl, rfl, by decide +kernel, rfl, by decide +kernel, by decide +kernel⟩
abbrev s_law_bound : Stmt := top 61
abbrev N_law_bound : List Str := ["door", "at", "way"]
theorem sc_law_bound : FnScope N_law_bound ["door"] (defScope s_law_bound) := ⟨rfl, rfl, rfl, by decide +kernel, rfl, by decide +kernel, by decide +kernel⟩
abbrev s_law_fitting : Stmt := top 62
abbrev N_law_fitting : List Str := ["word", "door", "x", "y", "last"]
theorem sc_law_fitting : FnScope N_law_fitting ["word", "door", "x", "y", "last"] (defScope s_law_fitting) := ⟨rfl, rfl, rfl, by decide +kernel, rfl, by decide +kernel, by decide +kernel⟩
abbrev s_law_calling : Stmt := top 63
abbrev N_law_calling : List Str := ["world", "own", "odd", "r", "door", "given", "z", "name", "at", "way", "one"]
theorem sc_law_calling : FnScope N_law_calling ["world", "own", "odd", "r"] (defScope s_law_calling) := ⟨rfl, rfl, rfl, by decide +kernel, rfl, by decide +kernel, by decide +kernel⟩
abbrev s_law_loose : Stmt := top 64
abbrev N_law_loose : List Str := ["world", "own", "odd", "r", "x", "y", "path", "word", "names", "kinds", "steps", "doors", "kind", "k"]
theorem sc_law_loose : FnScope N_law_loose ["world", "own", "odd", "r"] (defScope s_law_loose) := ⟨rfl, rfl, rfl, by decide +kernel, rfl, by decide +kernel, by decide +kernel⟩
abbrev s_law_begun : Stmt := top 65
abbrev N_law_begun : List Str := ["world", "shelves", "at", "all_made", "door", "there", "kinds", "rest", "k", "one", "way", "side"]
theorem sc_law_begun : FnScope N_law_begun ["world", "shelves", "at", "all_made"] (defScope s_law_begun) := ⟨rfl, rfl, rfl, by decide +kernel, rfl, by decide +kernel, by decide +kernel⟩
abbrev s_law_bodies : Stmt := top 66
abbrev N_law_bodies : List Str := ["world", "shelves", "all_made", "cells", "bodies", "frames", "cell", "r", "word", "odd", "x", "y", "k"]
theorem sc_law_bodies : FnScope N_law_bodies ["world", "shelves", "all_made", "cells"] (defScope s_law_bodies) := ⟨rfl, rfl, rfl, by decide +kernel, rfl, by decide +kernel, by decide +kernel⟩
abbrev s_law_program : Stmt := top 67
abbrev N_law_program : List Str := ["world", "shelves", "bodies", "made", "k", "kept", "names", "kinds", "steps", "doors", "result", "places", "at", "side", "way"]
theorem sc_law_program : FnScope N_law_program ["world", "shelves", "bodies"] (defScope s_law_program) := ⟨rfl, rfl, rfl, by decide +kernel, rfl, by decide +kernel, by decide +kernel⟩
abbrev s_law_by : Stmt := top 68
abbrev N_law_by : List Str := ["row", "names", "cells", "doors", "shelves", "world", "kinds", "steps"]
theorem sc_law_by : FnScope N_law_by ["row", "names", "cells"] (defScope s_law_by) := ⟨rfl, rfl, rfl, by decide +kernel, rfl, by decide +kernel, by decide +kernel⟩
abbrev s_law_same_told : Stmt := top 69
abbrev N_law_same_told : List Str := ["program", "due", "found"]
theorem sc_law_same_told : FnScope N_law_same_told ["program", "due"] (defScope s_law_same_told) := ⟨rfl, rfl, rfl, by decide +kernel, rfl, by decide +kernel, by decide +kernel⟩
abbrev s_law : Stmt := top 70
abbrev N_law : List Str := ["script", "row", "names", "program", "due", "turn", "ordered", "spare", "more", "said", "cut", "k", "other", "doors", "shelves", "paper", "body", "one", "place"]
theorem sc_law : FnScope N_law ["script"] (defScope s_law) := ⟨rfl, rfl, rfl, by decide +kernel, rfl, by decide +kernel, by decide +kernel⟩
end TG

/-! TgM: kinds, statements, programs by the names' numbers; what each is as data; what is_program tells of them -/
namespace TG
open PySem L2

inductive Kd where
  | num (w : Int)
  | text
  | row (k : Kd)
  | rc (fs : List (Nat × Kd))
  | pk (fs : List (Nat × Kd))
inductive Stp where
  | nm (n : Nat)
  | ix (i : Int)
inductive Sm where
  | new (x : Nat) (k : Kd) (seed : Int)
  | copy (x y : Nat)
  | part (x y : Nat) (p : List Stp)
  | put (y : Nat) (p : List Stp) (x : Nat)
  | add (y : Nat) (p : List Stp) (x : Nat)
  | drop (x : Nat)
  | say (x : Nat)
  | back (x : Nat)
  | fail (n : Int)
  | call (z : Option Nat) (door : Nat) (ns : List Nat)
  | same (x y : Nat) (a b : List Sm)
  | tr (a b : List Sm)
inductive Way where
  | copy | give | lend | lease
  deriving DecidableEq
structure Paper where
  name : Nat
  side : Int
  places : List (Nat × Way × Kd)
  res : Option Kd
structure Shelf where
  name : Nat
  side : Int
  kind : Kd
  seed : Int
structure Prog where
  doors : List (Paper × List Sm)
  shelves : List Shelf

/-! ### as data -/
section
variable (nm : Nat → Str)
mutual
def encK : Kd → PyData
  | .num w => .tuple [.str "num", .int w]
  | .text => .tuple [.str "text"]
  | .row k => .tuple [.str "row", encK k]
  | .rc fs => .tuple [.str "rec", .tuple (encFs fs)]
  | .pk fs => .tuple [.str "pick", .tuple (encFs fs)]
def encFs : List (Nat × Kd) → List PyData
  | [] => []
  | f :: r => encF f :: encFs r
def encF : Nat × Kd → PyData
  | (n, k) => .tuple [.str (nm n), encK k]
end
theorem encFs_map (fs : List (Nat × Kd)) : encFs nm fs = fs.map (encF nm) := by
  induction fs with
  | nil => rw [encFs, List.map_nil]
  | cons f r ih => rw [encFs, ih, List.map_cons]
def encS : Stp → PyData
  | .nm n => .str (nm n)
  | .ix i => .int i
def encP (p : List Stp) : PyData := .tuple (p.map (encS nm))
mutual
/-- the worth that the law makes of a kind and a number -/
def worD : Kd → Int → PyData
  | .num _, s => .int (s % 32768 - 9)
  | .text, s => .str (cutS "a b" none (some (s % 3)))
  | .row k, s => .tuple (List.replicate (s % 3).toNat (worD k (s / 3)))
  | .rc fs, s => .tuple (worFs fs (s / 2))
  | .pk fs, s => .tuple [.str (nm (fs.getD (s % (fs.length : Int)).toNat (0, .text)).1), (worFs fs (s / 2)).getD (s % (fs.length : Int)).toNat .none]
def worFs : List (Nat × Kd) → Int → List PyData
  | [], _ => []
  | f :: r, s => worF f s :: worFs r s
def worF : Nat × Kd → Int → PyData
  | (_, k), s => worD k s
end
theorem worFs_map (fs : List (Nat × Kd)) (s : Int) : worFs nm fs s = fs.map fun f => worD nm f.2 s := by
  induction fs with
  | nil => rw [worFs, List.map_nil]
  | cons f r ih =>
    obtain ⟨n, k⟩ := f
    rw [worFs, ih, List.map_cons, worF]
def encZ : Option Nat → PyData
  | none => .none
  | some z => .str (nm z)
mutual
def encM : Sm → PyData
  | .new x k s => .tuple [.str "new", .str (nm x), encK nm k, worD nm k s]
  | .copy x y => .tuple [.str "copy", .str (nm x), .str (nm y)]
  | .part x y p => .tuple [.str "part", .str (nm x), .str (nm y), encP nm p]
  | .put y p x => .tuple [.str "put", .str (nm y), encP nm p, .str (nm x)]
  | .add y p x => .tuple [.str "add", .str (nm y), encP nm p, .str (nm x)]
  | .drop x => .tuple [.str "drop", .str (nm x)]
  | .say x => .tuple [.str "say", .str (nm x)]
  | .back x => .tuple [.str "back", .str (nm x)]
  | .fail n => .tuple [.str "fail", .int n]
  | .call z d ns => .tuple [.str "call", encZ nm z, .str (nm d), .tuple (ns.map fun n => .str (nm n))]
  | .same x y a b => .tuple [.str "same", .str (nm x), .str (nm y), .tuple (encMs a), .tuple (encMs b)]
  | .tr a b => .tuple [.str "try", .tuple (encMs a), .tuple (encMs b)]
def encMs : List Sm → List PyData
  | [] => []
  | s :: r => encM s :: encMs r
end
theorem encMs_map (b : List Sm) : encMs nm b = b.map (encM nm) := by
  induction b with
  | nil => rw [encMs, List.map_nil]
  | cons f r ih => rw [encMs, ih, List.map_cons]
def encW : Way → PyData
  | .copy => .str "copy"
  | .give => .str "give"
  | .lend => .str "lend"
  | .lease => .str "lease"
def encPl (p : Nat × Way × Kd) : PyData := .tuple [.str (nm p.1), encW p.2.1, encK nm p.2.2]
def encR : Option Kd → PyData
  | none => .none
  | some k => encK nm k
def encPaper (p : Paper) : PyData := .tuple [.str (nm p.name), .int p.side, .tuple (p.places.map (encPl nm)), encR nm p.res]
def encDoor (d : Paper × List Sm) : PyData := .tuple [encPaper nm d.1, .tuple (encMs nm d.2)]
def encShelf (s : Shelf) : PyData := .tuple [.str (nm s.name), .int s.side, encK nm s.kind, worD nm s.kind s.seed]
def encProg (p : Prog) : PyData := .tuple [.tuple (p.doors.map (encDoor nm)), .tuple (p.shelves.map (encShelf nm))]
end

/-! ### which names are good -/
def letters : Str := "abcdefghijklmnopqrstuvwxyz"
def isNameS (s : Str) : Bool := decide (1 ≤ s.length) && decide (s.length ≤ 8) && s.cps.toList.all fun c => decide (c ∈ letters.cps.toList)
structure Good (nm : Nat → Str) : Prop where
  inj : ∀ i j, nm i = nm j → i = j
  ok : ∀ i, isNameS (nm i) = decide (i < 10)
  len : ∀ i, (nm i).length ≤ 1000000

/-! ### what the program tells of them -/
/-- is_kind_within -/
def isKW : Nat → Kd → Bool
  | 0, _ => false
  | _ + 1, .num w => decide (1 ≤ w) && decide (w ≤ 4)
  | _ + 1, .text => true
  | n + 1, .row k => isKW n k
  | n + 1, .rc fs => decide (1 ≤ fs.length) && decide (fs.length ≤ 6) && decide ((fs.map (·.1)).Nodup) && fs.all fun f => decide (f.1 < 10) && isKW n f.2
  | n + 1, .pk fs => decide (1 ≤ fs.length) && decide (fs.length ≤ 6) && decide ((fs.map (·.1)).Nodup) && fs.all fun f => decide (f.1 < 10) && isKW n f.2
abbrev isK (k : Kd) : Bool := isKW 5 k
/-- are_fields -/
def isFs (n : Nat) (fs : List (Nat × Kd)) : Bool := decide (1 ≤ fs.length) && decide (fs.length ≤ 6) && decide ((fs.map (·.1)).Nodup) && fs.all fun f => decide (f.1 < 10) && isKW n f.2
/-- field_kind -/
def fieldK (fs : List (Nat × Kd)) (n : Nat) : Option Kd := (fs.find? fun f => decide (f.1 = n)).map (·.2)
/-- step_kind -/
def stepK : Kd → Stp → Option Kd
  | .row k, .ix i => if 0 ≤ i ∧ i < 60 then some k else none
  | .rc fs, .nm n => fieldK fs n
  | .pk fs, .nm n => fieldK fs n
  | _, _ => none
/-- part_kind -/
def partK : Kd → List Stp → Option Kd
  | k, [] => some k
  | k, s :: r => (stepK k s).bind fun k' => partK k' r
mutual
/-- is_statement, at the body's depth d (of 5 - d) -/
def isSm : Nat → Sm → Bool
  | _, .new x k _ => decide (x < 10) && isK k
  | _, .copy x y => decide (x < 10) && decide (y < 10)
  | _, .part x y _ => decide (x < 10) && decide (y < 10)
  | _, .put y _ x => decide (y < 10) && decide (x < 10)
  | _, .add y _ x => decide (y < 10) && decide (x < 10)
  | _, .drop x => decide (x < 10)
  | _, .say x => decide (x < 10)
  | _, .back x => decide (x < 10)
  | _, .fail n => decide (0 ≤ n) && decide (n ≤ 999)
  | _, .call z d ns => (match z with | none => true | some z => decide (z < 10)) && decide (d < 10) && ns.all fun n => decide (n < 10)
  | n, .same x y a b => decide (x < 10) && decide (y < 10) && (decide (n ≠ 0) && isSms (n - 1) a) && (decide (n ≠ 0) && isSms (n - 1) b)
  | n, .tr a b => (decide (n ≠ 0) && isSms (n - 1) a) && (decide (n ≠ 0) && isSms (n - 1) b)
def isSms : Nat → List Sm → Bool
  | _, [] => true
  | n, s :: r => isSm n s && isSms n r
end
theorem isSms_all (n : Nat) (b : List Sm) : isSms n b = b.all (isSm n) := by
  induction b with
  | nil => rw [isSms, List.all_nil]
  | cons s r ih => rw [isSms, ih, List.all_cons]
def isRes : Option Kd → Bool
  | none => true
  | some k => isK k
/-- is_paper -/
def isPaper (p : Paper) : Bool := decide (p.name < 10) && (decide (0 ≤ p.side) && decide (p.side ≤ 1)) && ((p.places.all fun q => decide (q.1 < 10) && isK q.2.2) && decide ((p.places.map (·.1)).Nodup)) && isRes p.res
/-- are_doors: the body at depth 1, three depths below it -/
def isDoors (ds : List (Paper × List Sm)) : Bool := (ds.all fun d => isPaper d.1 && isSms 3 d.2) && decide ((ds.map (·.1.name)).Nodup)
def isShelf (s : Shelf) : Bool := decide (s.name < 10) && (decide (0 ≤ s.side) && decide (s.side ≤ 1)) && isK s.kind
/-- are_shelves -/
def isShelves (ss : List Shelf) : Bool := ss.all isShelf && decide ((ss.map fun s => (s.name, s.side)).Nodup)

/-! ### the rules -/
section
open Classical
/-- what a door's body is looked at with: the papers, its result, its places' ways -/
structure Ctx where
  papers : Nat → Option Paper
  res : Option Kd
  ways : Nat → Option Way
abbrev Kin := Nat → Option Kd
def bound (C : Ctx) (x : Nat) : Bool := C.ways x = some .lend ∨ C.ways x = some .lease
/-- may_make: None where it may not, else what is known behind it -/
noncomputable def mayMake (C : Ctx) (κ : Kin) (x : Nat) (k : Kd) : Option Kin :=
  if bound C x then none else match κ x with
    | none => some fun y => if y = x then some k else κ y
    | some k' => if k' = k then some κ else none
def knows (κ : Kin) (x : Nat) : Bool := (κ x).isSome
def mayChange (C : Ctx) (κ : Kin) (x : Nat) : Bool := knows κ x && decide (C.ways x ≠ some .lend)
def mayTake (C : Ctx) (κ : Kin) (x : Nat) : Bool := knows κ x && !bound C x
noncomputable def mayHand (C : Ctx) (κ : Kin) (x : Nat) (w : Way) (k : Kd) : Bool :=
  if κ x ≠ some k then false else if C.ways x = some .lend then decide (w = .copy) || decide (w = .lend) else decide (C.ways x ≠ some .lease) || decide (w ≠ .give)
def kindAt (κ : Kin) (x : Nat) (p : List Stp) : Option Kd := (κ x).bind fun k => partK k p
/-- making_holds for copy and part -/
noncomputable def makeOf (C : Ctx) (κ : Kin) (x y : Nat) (p : List Stp) : Option Kin := (kindAt κ y p).bind fun k => mayMake C κ x k
noncomputable def changeOk (C : Ctx) (κ : Kin) (y : Nat) (p : List Stp) (k : Option Kd) : Bool := k.isSome && mayChange C κ y && decide (kindAt κ y p = k)
noncomputable def handAll (C : Ctx) (κ : Kin) : List Nat → List (Nat × Way × Kd) → Bool
  | [], [] => true
  | n :: ns, q :: qs => mayHand C κ n q.2.1 q.2.2 && handAll C κ ns qs
  | _, _ => false
/-- call_holds -/
noncomputable def callH (C : Ctx) (κ : Kin) (z : Option Nat) (d : Nat) (ns : List Nat) : Option Kin :=
  match C.papers d with
  | none => none
  | some p => if handAll C κ ns p.places = true then (match z with
      | none => some κ
      | some z => match p.res with
        | none => none
        | some k => mayMake C κ z k) else none
def okIf (b : Bool) (κ : Kin) : Option Kin := if b then some κ else none
mutual
noncomputable def stH (C : Ctx) : Kin → Sm → Option Kin
  | κ, .new x k _ => mayMake C κ x k
  | κ, .copy x y => makeOf C κ x y []
  | κ, .part x y p => makeOf C κ x y p
  | κ, .put y p x => okIf (changeOk C κ y p (κ x)) κ
  | κ, .add y p x => okIf (changeOk C κ y p ((κ x).map .row)) κ
  | κ, .drop x => okIf (mayTake C κ x) κ
  | κ, .say x => okIf (knows κ x) κ
  | κ, .back x => okIf (mayTake C κ x && decide (κ x = C.res)) κ
  | κ, .fail _ => some κ
  | κ, .call z d ns => callH C κ z d ns
  | κ, .same x y a b => if knows κ x && knows κ y && decide (κ x = κ y) then (bodyH C κ a).bind fun κ' => bodyH C κ' b else none
  | κ, .tr a b => (bodyH C κ a).bind fun κ' => bodyH C κ' b
noncomputable def bodyH (C : Ctx) : Kin → List Sm → Option Kin
  | κ, [] => some κ
  | κ, s :: r => (stH C κ s).bind fun κ' => bodyH C κ' r
end
/-- the shelves' kinds, then the places' -/
def shelfKin (side : Int) : List Shelf → Kin → Kin
  | [], κ => κ
  | s :: r, κ => shelfKin side r (if s.side = side then fun y => if y = s.name then some s.kind else κ y else κ)
def placeKin : List (Nat × Way × Kd) → Kin → Kin
  | [], κ => κ
  | p :: r, κ => placeKin r fun y => if y = p.1 then some p.2.2 else κ y
def placeWays : List (Nat × Way × Kd) → (Nat → Option Way) → Nat → Option Way
  | [], w => w
  | p :: r, w => placeWays r fun y => if y = p.1 then some p.2.1 else w y
def papersOf : List (Paper × List Sm) → (Nat → Option Paper) → Nat → Option Paper
  | [], f => f
  | d :: r, f => papersOf r fun y => if y = d.1.name then some d.1 else f y
def doorCtx (papers : Nat → Option Paper) (p : Paper) : Ctx := ⟨papers, p.res, placeWays p.places fun _ => none⟩
def doorKin (shelves : List Shelf) (p : Paper) : Kin := placeKin p.places (shelfKin p.side shelves fun _ => none)
/-- door_holds -/
noncomputable def doorH (papers : Nat → Option Paper) (shelves : List Shelf) (d : Paper × List Sm) : Bool :=
  (shelves.all fun s => d.1.places.all fun q => !(decide (q.1 = s.name) && decide (s.side = d.1.side))) && (bodyH (doorCtx papers d.1) (doorKin shelves d.1) d.2).isSome
/-- is_program -/
noncomputable def isProg (p : Prog) : Bool := isDoors p.doors && isShelves p.shelves && p.doors.all (doorH (papersOf p.doors fun _ => none) p.shelves)
end
end TG

/-! TgF: loops that look whether all items are so -/
namespace TG
open PySem L2 PyProof.Rows

section
variable {X : Cx} {Γ : Gm} {tg iter : Expr} {body : List Stmt} {l l1 : List Sl} {O : Out} {pos : Pos} {i : Nat}
theorem all_take_succ {α : Type} {xs : List α} {p : α → Bool} {i : Nat} {x : α} (h : xs[i]? = some x) : (xs.take (i + 1)).all p = ((xs.take i).all p && p x) := by
  rw [List.take_add_one, h, List.all_append]
  simp
/-- for x in xs: .. return False where x is not so -/
theorem SX.forAll {α : Type} {xs : List α} {en : α → PyData} (p : α → Bool) (hp : PassesOwn (model X.prog X.w) X.A X.env X.xe) (hc : X.calm = true) (hi : IX X Γ tg iter l (xs.map en) l) (hg : ∀ d, GX X tg d [i] [d])
    (hb : ∀ x ∈ xs, ∀ a, SXs X Γ body ((l.set i a).set i (.dat (en x))) { nx := fun l3 => p x = true ∧ ∃ a, l3 = l.set i a, rt := fun d l3 => p x = false ∧ d = .bool false })
    (hn : xs.all p = true → ∀ a, O.nx (l.set i a)) (hf : xs.all p = false → ∀ l2, O.rt (.bool false) l2) (h0 : ∃ a, l = l.set i a)
    (hz : ∀ x, foldedSetIterable iter X.env x = pure x := by intro _; rfl) : SX X Γ (.For tg iter body [] pos) l O := by
  refine SX.for (is := [i]) (tv := fun d => [d]) hp hc hi (fun d _ => hg d) (fun j l2 => (xs.take j).all p = true ∧ ∃ a, l2 = l.set i a) ⟨by simp, h0⟩ ?_ ?_ hz
  · rintro j d l2 hd ⟨hj, a, rfl⟩
    rw [List.getElem?_map] at hd
    cases hx : xs[j]? with
    | none => rw [hx] at hd; cases hd
    | some x =>
      rw [hx] at hd
      cases hd
      have hm := List.mem_of_getElem? hx
      refine (hb x hm a).imp (fun l3 h => ⟨by rw [all_take_succ hx, hj, h.1]; rfl, h.2⟩) (fun d l3 h => ?_) (fun _ h => h.elim) (fun _ h => h.elim)
      obtain ⟨h1, rfl⟩ := h
      refine hf ?_ l3
      cases q : xs.all p with
      | false => rfl
      | true => rw [List.all_eq_true] at q; rw [q x hm] at h1; cases h1
  · rintro l2 ⟨h, a, rfl⟩
    rw [List.length_map, List.take_length] at h
    exact hn h a
theorem set_same {α : Type} {l : List α} {i : Nat} {a : α} (h : l[i]? = some a) : ∃ b, l = l.set i b := by
  refine ⟨a, ?_⟩
  refine List.ext_getElem? fun j => ?_
  by_cases e : j = i
  · subst e
    rw [List.getElem?_set_self (List.getElem?_eq_some_iff.mp h).1, h]
  · rw [List.getElem?_set_ne (Ne.symm e)]
end
end TG

/-! TgG: a body's own lists and dicts -/
namespace TG
open PySem L2 PyProof.Rows

section
variable {Γ : Gm} {G H G' H' : Hp} {σ : L2.St} {l : List Sl}
theorem HoldF.ownAt {F : Nat → List Addr} (h : HoldF Γ F G H σ l) {i : Nat} {ds : List PyData} (e : l[i]? = some (.own ds)) : ∃ p vs, F i = [p] ∧ σ[i]? = some (some (.ref p)) ∧ H p = some (.lst vs) ∧ IsAll G vs ds ∧ G p = none := by
  obtain ⟨s, h1, p, vs, hF, rfl, h3, h4⟩ := h.at_ i _ e
  exact ⟨p, vs, hF, h1, h3, h4, (h.own i p (by rw [hF]; simp)).1⟩
/-- an own list is written -/
theorem HoldF.wOwn {F : Nat → List Addr} (h : HoldF Γ F G H σ l) {i : Nat} {ds ds' : List PyData} {p : Addr} {vs : List V} (e : l[i]? = some (.own ds)) (hF : F i = [p]) (hs : σ[i]? = some (some (.ref p))) (r : IsAll G vs ds') : Hold Γ G (upd H p (.lst vs)) σ (l.set i (.own ds')) := by
  refine ⟨F, h.write (i := i) (fun a ha => upd_ne fun z => ha (by rw [hF, z]; simp)) (fun a ha => ?_) (fun s q => ?_) e rfl⟩
  · rw [hF] at ha
    have : a = p := by simpa using ha
    subst this
    rw [upd_same]; exact fun z => by cases z
  · rw [hs] at q
    cases q
    exact ⟨p, vs, hF, rfl, upd_same, r⟩
theorem HoldF.dkAt {F : Nat → List Addr} (h : HoldF Γ F G H σ l) {i : Nat} {ds : List (Key × PyData)} (e : l[i]? = some (.dk ds)) : ∃ p vs, F i = [p] ∧ σ[i]? = some (some (.ref p)) ∧ H p = some (.dK vs) ∧ IsK G vs ds ∧ G p = none := by
  obtain ⟨s, h1, p, vs, hF, rfl, h3, h4⟩ := h.at_ i _ e
  exact ⟨p, vs, hF, h1, h3, h4, (h.own i p (by rw [hF]; simp)).1⟩
theorem HoldF.wDk {F : Nat → List Addr} (h : HoldF Γ F G H σ l) {i : Nat} {ds ds' : List (Key × PyData)} {p : Addr} {vs : List (Key × V)} (e : l[i]? = some (.dk ds)) (hF : F i = [p]) (hs : σ[i]? = some (some (.ref p))) (r : IsK G vs ds') : Hold Γ G (upd H p (.dK vs)) σ (l.set i (.dk ds')) := by
  refine ⟨F, h.write (i := i) (fun a ha => upd_ne fun z => ha (by rw [hF, z]; simp)) (fun a ha => ?_) (fun s q => ?_) e rfl⟩
  · rw [hF] at ha
    have : a = p := by simpa using ha
    subst this
    rw [upd_same]; exact fun z => by cases z
  · rw [hs] at q
    cases q
    exact ⟨p, vs, hF, rfl, upd_same, r⟩
theorem HoldF.dtAt {F : Nat → List Addr} (h : HoldF Γ F G H σ l) {i : Nat} {ds : List (List Key × PyData)} (e : l[i]? = some (.dt ds)) : ∃ p vs, F i = [p] ∧ σ[i]? = some (some (.ref p)) ∧ H p = some (.dT vs) ∧ IsKT G vs ds ∧ G p = none := by
  obtain ⟨s, h1, p, vs, hF, rfl, h3, h4⟩ := h.at_ i _ e
  exact ⟨p, vs, hF, h1, h3, h4, (h.own i p (by rw [hF]; simp)).1⟩
theorem HoldF.wDt {F : Nat → List Addr} (h : HoldF Γ F G H σ l) {i : Nat} {ds ds' : List (List Key × PyData)} {p : Addr} {vs : List (List Key × V)} (e : l[i]? = some (.dt ds)) (hF : F i = [p]) (hs : σ[i]? = some (some (.ref p))) (r : IsKT G vs ds') : Hold Γ G (upd H p (.dT vs)) σ (l.set i (.dt ds')) := by
  refine ⟨F, h.write (i := i) (fun a ha => upd_ne fun z => ha (by rw [hF, z]; simp)) (fun a ha => ?_) (fun s q => ?_) e rfl⟩
  · rw [hF] at ha
    have : a = p := by simpa using ha
    subst this
    rw [upd_same]; exact fun z => by cases z
  · rw [hs] at q
    cases q
    exact ⟨p, vs, hF, rfl, upd_same, r⟩
end
theorem own_view {G H : Hp} {p : Addr} {vs : List V} (f : Same G H) (h : H p = some (.lst vs)) : Same (upd G p (.lst vs)) H := fun a u q => by
  by_cases z : a = p
  · subst z; rw [upd_same] at q; rw [← q]; exact h
  · rw [upd_ne z] at q; exact f a u q

section
variable {X : Cx} {Γ : Gm} {N : List Str} {m i : Nat} {n f : String} {pos p p2 apos cpos : Pos} {a b e : Expr} {l l1 l2 : List Sl} {x d : PyData} {ys ds : List PyData} {O : Out} {k : Bool} {j : Int}
/-- e op own list -/
theorem TX.cmpOwn {op : CmpOp} (T : Tab X N m) (hA : At N i n) (hi : i < m) (ha : EX X Γ a l x l1) (q : l1[i]? = some (.own ys)) (ho : OpD X (compareOp op) x (.list ys) (.bool k)) (hm : behindInMarks op (.Name (Str.ofString n) p) = false) : TX X Γ (.Compare a [op] [.Name (Str.ofString n) p] pos) l k l1 := ⟨fun G H σ Q hh kk => by
  obtain ⟨r, hr, hq⟩ := ho.run
  refine ⟨_, pt_cmpR hr pe_w (pe_var (T.at_ hA) (T.vis hA hi) (T.dbg i _ hi hA.get).1 (T.dbg i _ hi hA.get).2) hm, ?_⟩
  refine ha.run G H σ _ hh fun v G1 H1 h1 e1 i1 => ?_
  obtain ⟨F, hF⟩ := h1
  obtain ⟨c, vs, _, hs, hc, hd, hG⟩ := hF.ownAt q
  refine ⟨.ref c, hs, hq (upd G1 c (.lst vs)) H1 v (.ref c) _ (own_view hF.fx.f hc) (i1.mono (Same.new hG)) (.lst upd_same (hd.mono (Same.new hG))) fun w G3 H3 g i3 => ?_⟩
  exact ⟨k, i3.blInv, kk G1 H3 (Hold.grow ⟨F, hF⟩ ⟨Same.refl _, hF.fx.f.trans g.h, g.h, fun _ q _ => q⟩) e1⟩⟩
theorem EX.cmpOwn {op : CmpOp} (T : Tab X N m) (hA : At N i n) (hi : i < m) (ha : EX X Γ a l x l1) (q : l1[i]? = some (.own ys)) (ho : OpD X (compareOp op) x (.list ys) (.bool k)) (hm : behindInMarks op (.Name (Str.ofString n) p) = false) : EX X Γ (.Compare a [op] [.Name (Str.ofString n) p] pos) l (.bool k) l1 := ⟨fun G H σ Q hh kk => by
  obtain ⟨r, hr, hq⟩ := ho.run
  refine ⟨_, pe_cmpR hr pe_w (pe_var (T.at_ hA) (T.vis hA hi) (T.dbg i _ hi hA.get).1 (T.dbg i _ hi hA.get).2) hm, ?_⟩
  refine ha.run G H σ _ hh fun v G1 H1 h1 e1 i1 => ?_
  obtain ⟨F, hF⟩ := h1
  obtain ⟨c, vs, _, hs, hc, hd, hG⟩ := hF.ownAt q
  refine ⟨.ref c, hs, hq (upd G1 c (.lst vs)) H1 v (.ref c) _ (own_view hF.fx.f hc) (i1.mono (Same.new hG)) (.lst upd_same (hd.mono (Same.new hG))) fun w G3 H3 g i3 => ?_⟩
  rw [i3.blInv]
  exact kk _ G1 H3 (Hold.grow ⟨F, hF⟩ ⟨Same.refl _, hF.fx.f.trans g.h, g.h, fun _ q _ => q⟩) e1 (.bl k)⟩
/-- len of an own list -/
theorem EX.lenOwn (hf : f = "len") (B : Bi X.mg) (T : Tab X N m) (hA : At N i n) (hi : i < m) (q : l[i]? = some (.own ys)) (hg : Gl X "len" := by rfl) (hs : starEach [.Name (Str.ofString n) p2] X.env = (false, eval (.Name (Str.ofString n) p2) X.env) :: starEach [] X.env := by rfl)
    (hpl : (backTo pos (starEach [] X.env)).any (·.1) = false := by rfl) : EX X Γ (.Call (.Name (Str.ofString f) p) [.Name (Str.ofString n) p2] [] pos) l (.int (ys.length : Nat)) l := ⟨fun G H σ Q hh kk => by
  subst hf
  refine ⟨_, pe_callB call_len hg B.len PySem.boot_len (pa_cons (pe_var (T.at_ hA) (T.vis hA hi) (T.dbg i _ hi hA.get).1 (T.dbg i _ hi hA.get).2) pa_nil hs) (by decide) (by decide) hs hpl, ?_⟩
  obtain ⟨F, hF⟩ := hh
  obtain ⟨c, vs, _, hs, hc, hd, hG⟩ := hF.ownAt q
  exact ⟨.ref c, hs, .ref c, ys.length, rfl, .inl ⟨vs, SqL.of hc, hd.length.symm⟩, kk _ G H ⟨F, hF⟩ (Same.refl _) (.int _)⟩⟩
/-- an item of an own list -/
theorem EX.ixOwn (T : Tab X N m) (hA : At N i n) (hi : i < m) (hb : EX X Γ b l (.int j) l1) (q0 : l[i]? = some (.own ys)) (q : l1[i]? = some (.own ys)) (h : L2.atI ys j = some d) (hs : PlainIx b := by intro _ _; rfl) : EX X Γ (.Subscript (.Name (Str.ofString n) p) b pos) l d l1 := ⟨fun G H σ Q hh kk => by
  refine ⟨_, pe_ix ix_list (pe_var (T.at_ hA) (T.vis hA hi) (T.dbg i _ hi hA.get).1 (T.dbg i _ hi hA.get).2) pe_w hs, ?_⟩
  obtain ⟨F, hF⟩ := id hh
  obtain ⟨c, vs, _, hs, hc, hd, hG⟩ := hF.ownAt q0
  refine ⟨.ref c, hs, hb.run G H σ _ hh fun v G1 H1 h1 e1 i1 => ?_⟩
  obtain ⟨F1, hF1⟩ := id h1
  obtain ⟨c1, vs1, _, hs1, hc1, hd1, hG1⟩ := hF1.ownAt q
  rw [hs] at hs1
  cases hs1
  obtain ⟨r, r1, r2⟩ := hd1.atI h
  exact ⟨c, vs1, j, r, rfl, i1.intInv, SqL.of hc1, r1, kk r G1 H1 h1 e1 r2⟩⟩
/-- xs.append(e) -/
theorem SX.app (T : Tab X N m) (hA : At N i n) (hi : i < m) (hf : f = "append") (he : EX X Γ e l d l1) (q0 : l[i]? = some (.own ys)) (q : l1[i]? = some (.own ys)) (hz : ys.length < 1000000) (h : O.nx (l1.set i (.own (ys ++ [d]))))
    (h1 : attributeBase (.Name (Str.ofString n) p) (Str.ofString f) X.env (eval (.Name (Str.ofString n) p) X.env) = eval (.Name (Str.ofString n) p) X.env := by rfl)
    (h2 : ((backTo cpos (starEach [e] X.env)).all (fun x => !x.1) && (backToKw cpos (keywordEach [] X.env)).all (fun x => x.1.isSome) && decide (([e] : List Expr).length + ([] : List Keyword).length + (if ([] : List Keyword).isEmpty then 0 else 1) < 30)) = true := by rfl)
    (h3 : (apos.endLine == cpos.line) = true := by rfl) (h4 : starEach [e] X.env = (false, eval e X.env) :: starEach [] X.env := by rfl) (h5 : (backTo cpos (starEach [] X.env)).any (·.1) = false := by rfl)
    (h6 : swapsWith (.Call (.Attribute (.Name (Str.ofString n) p) (Str.ofString f) apos) [e] [] cpos) none pos.line X.env = pure false := by rfl) :
    SX X Γ (.Expr (.Call (.Attribute (.Name (Str.ofString n) p) (Str.ofString f) apos) [e] [] cpos) pos) l O := ⟨fun G H σ D hh kk => by
  subst hf
  refine ⟨_, ps_expr (pe_bm PySem.F.plainAttrs_list PySem.F.slot_list_append PySem.F.type_list_append mt_append (pe_var (T.at_ hA) (T.vis hA hi) (T.dbg i _ hi hA.get).1 (T.dbg i _ hi hA.get).2) (pa_cons pe_w pa_nil h4) h1 h2 h3 h4 h5) h6, ?_⟩
  obtain ⟨F, hF⟩ := id hh
  obtain ⟨c, vs, _, hs, hc, hd, hG⟩ := hF.ownAt q0
  refine ⟨.ref c, hs, .inl ⟨rfl, vs, SqL.of hc⟩, he.run G H σ _ hh fun v G1 H1 h1 e1 i1 => ?_⟩
  obtain ⟨F1, hF1⟩ := id h1
  obtain ⟨c1, vs1, hFi, hs1, hc1, hd1, hG1⟩ := hF1.ownAt q
  rw [hs] at hs1
  cases hs1
  refine ⟨c, vs1, v, rfl, rfl, hc1, by rw [hd1.length]; exact Nat.lt_of_lt_of_le hz (by decide), ?_⟩
  exact kk.nx σ G1 _ _ (hF1.wOwn q hFi hs (hd1.append (.one i1))) e1 h⟩
/-- xs[j] = e, j in bounds -/
theorem SX.setIx {jn : Nat} (T : Tab X N m) (hA : At N i n) (hi : i < m) (he : EX X Γ e l d l1) (hb : EX X Γ b l1 (.int (jn : Nat)) l2) (q1 : l1[i]? = some (.own ys)) (q : l2[i]? = some (.own ys)) (hj : jn < ys.length) (h : O.nx (l2.set i (.own (ys.set jn d))))
    (ha : ∀ v, assign (.Subscript (.Name (Str.ofString n) p) b p2) X.env v = (do
      let ov ← holding [v] (eval (.Name (Str.ofString n) p) X.env)
      let iv ← holding [v, ov] (eval b X.env)
      standAt p2
      holding [v, ov, iv] (setItem ov iv v)
      release [v, ov, iv] []) := by intro _; rfl)
    (hs : swapsWithSole [.Subscript (.Name (Str.ofString n) p) b p2] e pos.line X.env = pure false := by rfl) (hw : swappedStores [.Subscript (.Name (Str.ofString n) p) b p2] e X.env = pure none := by rfl)
    (h1 : (assignEach [.Subscript (.Name (Str.ofString n) p) b p2] X.env).map (·.2) = [assign (.Subscript (.Name (Str.ofString n) p) b p2) X.env] := by rfl) :
    SX X Γ (.Assign [.Subscript (.Name (Str.ofString n) p) b p2] e pos) l O := ⟨fun G H σ D hh kk => by
  refine ⟨_, ps_asg pe_w (pg_sub (pe_var (T.at_ hA) (T.vis hA hi) (T.dbg i _ hi hA.get).1 (T.dbg i _ hi hA.get).2) pe_w set_list ha) hs hw h1, ?_⟩
  refine he.run G H σ _ hh fun v G1 H1 h1 e1 i1 => ?_
  obtain ⟨F1, hF1⟩ := id h1
  obtain ⟨c, vs, _, hs, hc, hd, hG⟩ := hF1.ownAt q1
  refine ⟨.ref c, hs, hb.run G1 H1 σ _ h1 fun u G2 H2 h2 e2 i2 => ?_⟩
  obtain ⟨F2, hF2⟩ := id h2
  obtain ⟨c2, vs2, hFi, hs2, hc2, hd2, hG2⟩ := hF2.ownAt q
  rw [hs] at hs2
  cases hs2
  refine ⟨c, vs2, (jn : Nat), jn, rfl, i2.intInv, hc2, ?_, ?_⟩
  · unfold ixN
    rw [if_pos (by omega), if_pos (by rw [hd2.length]; omega), Int.toNat_natCast]
  · exact kk.nx σ G2 _ _ (hF2.wOwn q hFi hs (hd2.set jn (i1.mono e2))) (e1.trans e2) h⟩

/-! ### dicts -/
def valD {κ : Type} [DecidableEq κ] (kvs : List (κ × PyData)) (k : κ) : Option PyData := (kvs.find? fun kv => decide (kv.1 = k)).map (·.2)
def putD {κ : Type} [DecidableEq κ] (kvs : List (κ × PyData)) (k : κ) (v : PyData) : List (κ × PyData) :=
  if (kvs.any fun kv => decide (kv.1 = k)) = true then kvs.map (fun kv => if kv.1 = k then (kv.1, v) else kv) else kvs ++ [(k, v)]
theorem IsK.len {G : Hp} : ∀ {ws : List (Key × V)} {kvs : List (Key × PyData)}, IsK G ws kvs → ws.length = kvs.length
  | _, _, .nil => rfl
  | _, _, .cons _ r => congrArg (· + 1) r.len
theorem IsKT.len {G : Hp} : ∀ {ws : List (List Key × V)} {kvs : List (List Key × PyData)}, IsKT G ws kvs → ws.length = kvs.length
  | _, _, .nil => rfl
  | _, _, .cons _ r => congrArg (· + 1) r.len
theorem IsK.val {G : Hp} (k : Key) : ∀ {ws : List (Key × V)} {kvs : List (Key × PyData)}, IsK G ws kvs → (valV ws k = none ∧ valD kvs k = none) ∨ ∃ v d, valV ws k = some v ∧ valD kvs k = some d ∧ Is G v d
  | _, _, .nil => .inl ⟨rfl, rfl⟩
  | _, _, .cons (k := k') h r => by
    by_cases e : k' = k
    · exact .inr ⟨_, _, by simp [valV, e], by simp [valD, e], h⟩
    · rcases r.val k with ⟨h1, h2⟩ | ⟨v, d, h1, h2, h3⟩
      · exact .inl ⟨by simpa [valV, List.find?_cons, e] using h1, by simpa [valD, List.find?_cons, e] using h2⟩
      · exact .inr ⟨v, d, by simpa [valV, List.find?_cons, e] using h1, by simpa [valD, List.find?_cons, e] using h2, h3⟩
theorem IsKT.val {G : Hp} (k : List Key) : ∀ {ws : List (List Key × V)} {kvs : List (List Key × PyData)}, IsKT G ws kvs → (valV ws k = none ∧ valD kvs k = none) ∨ ∃ v d, valV ws k = some v ∧ valD kvs k = some d ∧ Is G v d
  | _, _, .nil => .inl ⟨rfl, rfl⟩
  | _, _, .cons (k := k') h r => by
    by_cases e : k' = k
    · exact .inr ⟨_, _, by simp [valV, e], by simp [valD, e], h⟩
    · rcases r.val k with ⟨h1, h2⟩ | ⟨v, d, h1, h2, h3⟩
      · exact .inl ⟨by simpa [valV, List.find?_cons, e] using h1, by simpa [valD, List.find?_cons, e] using h2⟩
      · exact .inr ⟨v, d, by simpa [valV, List.find?_cons, e] using h1, by simpa [valD, List.find?_cons, e] using h2, h3⟩
theorem IsK.any {G : Hp} (k : Key) : ∀ {ws : List (Key × V)} {kvs : List (Key × PyData)}, IsK G ws kvs → (ws.any fun kv => decide (kv.1 = k)) = kvs.any fun kv => decide (kv.1 = k)
  | _, _, .nil => rfl
  | _, _, .cons h r => by rw [List.any_cons, List.any_cons, r.any k]
theorem IsK.append {G : Hp} : ∀ {ws ws' : List (Key × V)} {kvs kvs' : List (Key × PyData)}, IsK G ws kvs → IsK G ws' kvs' → IsK G (ws ++ ws') (kvs ++ kvs')
  | _, _, _, _, .nil, s => s
  | _, _, _, _, .cons h r, s => .cons h (r.append s)
theorem IsK.put {G : Hp} {k : Key} {v : V} {d : PyData} (r : Is G v d) {ws : List (Key × V)} {kvs : List (Key × PyData)} (h : IsK G ws kvs) : IsK G (putK ws k v) (putD kvs k d) := by
  unfold putK putD
  rw [h.any k]
  split
  · rename_i hx
    clear hx
    induction h with
    | nil => exact .nil
    | @cons k' v' ws d' kvs h q ih =>
      rw [List.map_cons, List.map_cons]
      by_cases e : k' = k
      · rw [if_pos e, if_pos e]; exact .cons r ih
      · rw [if_neg e, if_neg e]; exact .cons h ih
  · exact h.append (.cons r .nil)
theorem IsKT.any {G : Hp} (k : List Key) : ∀ {ws : List (List Key × V)} {kvs : List (List Key × PyData)}, IsKT G ws kvs → (ws.any fun kv => decide (kv.1 = k)) = kvs.any fun kv => decide (kv.1 = k)
  | _, _, .nil => rfl
  | _, _, .cons h r => by rw [List.any_cons, List.any_cons, r.any k]
theorem IsKT.append {G : Hp} : ∀ {ws ws' : List (List Key × V)} {kvs kvs' : List (List Key × PyData)}, IsKT G ws kvs → IsKT G ws' kvs' → IsKT G (ws ++ ws') (kvs ++ kvs')
  | _, _, _, _, .nil, s => s
  | _, _, _, _, .cons h r, s => .cons h (r.append s)
theorem IsKT.put {G : Hp} {k : List Key} {v : V} {d : PyData} (r : Is G v d) {ws : List (List Key × V)} {kvs : List (List Key × PyData)} (h : IsKT G ws kvs) : IsKT G (putK ws k v) (putD kvs k d) := by
  unfold putK putD
  rw [h.any k]
  split
  · rename_i hx
    clear hx
    induction h with
    | nil => exact .nil
    | @cons k' v' ws d' kvs h q ih =>
      rw [List.map_cons, List.map_cons]
      by_cases e : k' = k
      · rw [if_pos e, if_pos e]; exact .cons r ih
      · rw [if_neg e, if_neg e]; exact .cons h ih
  · exact h.append (.cons r .nil)
theorem Is.key {G : Hp} {v : V} {k : Key} (h : Is G v (kD k)) : v = kV k := by
  cases k with
  | inl i => exact h.intInv
  | inr s => exact h.strInv
theorem IsAll.keys {G : Hp} : ∀ {ks : List Key} {vs : List V}, IsAll G vs (ks.map kD) → vs = ks.map kV
  | [], _, h => by cases h; rfl
  | _ :: _, _, h => by
    rw [List.map_cons] at h
    cases h with
    | cons h r => rw [h.key, r.keys, List.map_cons]
/-- e in a dict of the body's own -/
theorem TX.inDk {key : Key} {kvs : List (Key × PyData)} (hu : X.A.units + 1 < cLine) (T : Tab X N m) (hA : At N i n) (hi : i < m) (ha : EX X Γ a l (kD key) l1) (q : l1[i]? = some (.dk kvs)) (hm : behindInMarks .In (.Name (Str.ofString n) p) = false := by rfl) : TX X Γ (.Compare a [.In] [.Name (Str.ofString n) p] pos) l (valD kvs key).isSome l1 := ⟨fun G H σ Q hh kk => by
  refine ⟨_, pt_cmp (pc_din hu pe_w (pe_var (T.at_ hA) (T.vis hA hi) (T.dbg i _ hi hA.get).1 (T.dbg i _ hi hA.get).2)) hm, ?_⟩
  refine ha.run G H σ _ hh fun v G1 H1 h1 e1 i1 => ?_
  obtain ⟨F, hF⟩ := id h1
  obtain ⟨c, vs, _, hs, hc, hd, hG⟩ := hF.dkAt q
  rw [i1.key]
  refine ⟨.ref c, hs, c, _, rfl, DGet.k (k := key) hc, _, rfl, ?_⟩
  have e : (valV vs key).isSome = (valD kvs key).isSome := by
    rcases hd.val key with ⟨h1, h2⟩ | ⟨v, d, h1, h2, h3⟩ <;> rw [h1, h2] <;> rfl
  rw [e]
  exact kk G1 H1 h1 e1⟩
theorem TX.inDt {key : List Key} {kvs : List (List Key × PyData)} (hu : X.A.units + 1 < cLine) (T : Tab X N m) (hA : At N i n) (hi : i < m) (ha : EX X Γ a l (.tuple (key.map kD)) l1) (q : l1[i]? = some (.dt kvs)) (hm : behindInMarks .In (.Name (Str.ofString n) p) = false := by rfl) : TX X Γ (.Compare a [.In] [.Name (Str.ofString n) p] pos) l (valD kvs key).isSome l1 := ⟨fun G H σ Q hh kk => by
  refine ⟨_, pt_cmp (pc_din hu pe_w (pe_var (T.at_ hA) (T.vis hA hi) (T.dbg i _ hi hA.get).1 (T.dbg i _ hi hA.get).2)) hm, ?_⟩
  refine ha.run G H σ _ hh fun v G1 H1 h1 e1 i1 => ?_
  obtain ⟨F, hF⟩ := id h1
  obtain ⟨c, vs, _, hs, hc, hd, hG⟩ := hF.dtAt q
  obtain ⟨b, us, rfl, g1, g2⟩ := i1.tupInv
  rw [g2.keys] at g1
  refine ⟨.ref c, hs, c, _, rfl, DGet.t (k := key) hc (h1.f _ _ g1), _, rfl, ?_⟩
  have e : (valV vs key).isSome = (valD kvs key).isSome := by
    rcases hd.val key with ⟨h1, h2⟩ | ⟨v, d, h1, h2, h3⟩ <;> rw [h1, h2] <;> rfl
  rw [e]
  exact kk G1 H1 h1 e1⟩
/-- d[key] = e -/
theorem SX.dput {key : Key} {kvs : List (Key × PyData)} (hu : X.A.units + 1 < cLine) (T : Tab X N m) (hA : At N i n) (hi : i < m) (he : EX X Γ e l d l1) (hb : EX X Γ b l1 (kD key) l2) (q1 : l1[i]? = some (.dk kvs)) (q : l2[i]? = some (.dk kvs)) (hz : kvs.length < 1000000) (h : O.nx (l2.set i (.dk (putD kvs key d))))
    (hs : swapsWith e (some (.Subscript (.Name (Str.ofString n) p) b p2)) pos.line X.env = pure false := by rfl) : SX X Γ (.Assign [.Subscript (.Name (Str.ofString n) p) b p2] e pos) l O := ⟨fun G H σ D hh kk => by
  refine ⟨_, ps_dput hu (pe_var (T.at_ hA) (T.vis hA hi) (T.dbg i _ hi hA.get).1 (T.dbg i _ hi hA.get).2) pe_w pe_w hs, ?_⟩
  refine he.run G H σ _ hh fun v G1 H1 h1 e1 i1 => ?_
  obtain ⟨F1, hF1⟩ := id h1
  obtain ⟨c, vs, _, hs, hc, hd, hG⟩ := hF1.dkAt q1
  refine ⟨.ref c, hs, hb.run G1 H1 σ _ h1 fun u G2 H2 h2 e2 i2 => ?_⟩
  obtain ⟨F2, hF2⟩ := id h2
  obtain ⟨c2, vs2, hFi, hs2, hc2, hd2, hG2⟩ := hF2.dkAt q
  rw [hs] at hs2
  cases hs2
  rw [i2.key]
  refine ⟨c, _, rfl, DPut.k (k := key) hc2 (by rw [hd2.len]; exact Nat.lt_of_lt_of_le hz (by decide)), ?_⟩
  exact kk.nx σ G2 _ _ (hF2.wDk q hFi hs (hd2.put (i1.mono e2))) (e1.trans e2) h⟩
theorem SX.dputT {key : List Key} {kvs : List (List Key × PyData)} (hu : X.A.units + 1 < cLine) (T : Tab X N m) (hA : At N i n) (hi : i < m) (he : EX X Γ e l d l1) (hb : EX X Γ b l1 (.tuple (key.map kD)) l2) (q1 : l1[i]? = some (.dt kvs)) (q : l2[i]? = some (.dt kvs)) (hz : kvs.length < 1000000) (h : O.nx (l2.set i (.dt (putD kvs key d))))
    (hs : swapsWith e (some (.Subscript (.Name (Str.ofString n) p) b p2)) pos.line X.env = pure false := by rfl) : SX X Γ (.Assign [.Subscript (.Name (Str.ofString n) p) b p2] e pos) l O := ⟨fun G H σ D hh kk => by
  refine ⟨_, ps_dput hu (pe_var (T.at_ hA) (T.vis hA hi) (T.dbg i _ hi hA.get).1 (T.dbg i _ hi hA.get).2) pe_w pe_w hs, ?_⟩
  refine he.run G H σ _ hh fun v G1 H1 h1 e1 i1 => ?_
  obtain ⟨F1, hF1⟩ := id h1
  obtain ⟨c, vs, _, hs, hc, hd, hG⟩ := hF1.dtAt q1
  refine ⟨.ref c, hs, hb.run G1 H1 σ _ h1 fun u G2 H2 h2 e2 i2 => ?_⟩
  obtain ⟨F2, hF2⟩ := id h2
  obtain ⟨c2, vs2, hFi, hs2, hc2, hd2, hG2⟩ := hF2.dtAt q
  rw [hs] at hs2
  cases hs2
  obtain ⟨b, us, rfl, g1, g2⟩ := i2.tupInv
  rw [g2.keys] at g1
  refine ⟨c, _, rfl, DPut.t (k := key) hc2 (h2.f _ _ g1) (by rw [hd2.len]; exact Nat.lt_of_lt_of_le hz (by decide)), ?_⟩
  exact kk.nx σ G2 _ _ (hF2.wDt q hFi hs (hd2.put (i1.mono e2))) (e1.trans e2) h⟩
end
theorem valD_put {κ : Type} [DecidableEq κ] (kvs : List (κ × PyData)) (k j : κ) (y : PyData) : valD (putD kvs k y) j = if j = k then some y else valD kvs j := by
  unfold putD
  by_cases a : (kvs.any fun kv => decide (kv.1 = k)) = true
  · rw [if_pos a]
    induction kvs with
    | nil => simp at a
    | cons p r ih =>
      rw [List.map_cons]
      by_cases e : p.1 = k
      · rw [if_pos e]
        by_cases ej : j = k
        · rw [if_pos ej]; simp [valD, e, ej]
        · rw [if_neg ej]
          have nj : ¬ p.1 = j := fun z => ej (z.symm.trans e)
          have nj' : ¬ k = j := fun z => ej z.symm
          have : valD (r.map fun kv => if kv.1 = k then (kv.1, y) else kv) j = valD r j := by
            clear ih a
            induction r with
            | nil => rfl
            | cons q s ih2 =>
              rw [List.map_cons]
              by_cases e2 : q.1 = k
              · rw [if_pos e2]
                have : ¬ q.1 = j := fun z => ej (z.symm.trans e2)
                simpa [valD, List.find?_cons, this] using ih2
              · rw [if_neg e2]
                by_cases e3 : q.1 = j
                · simp [valD, List.find?_cons, e3]
                · simpa [valD, List.find?_cons, e3] using ih2
          simpa [valD, List.find?_cons, nj] using this
      · rw [if_neg e]
        rw [List.any_cons, decide_eq_false e, Bool.false_or] at a
        have ih := ih a
        by_cases ej : p.1 = j
        · have : ¬ j = k := fun z => e (ej.trans z)
          simp [valD, List.find?_cons, ej, this]
        · simpa [valD, List.find?_cons, ej] using ih
  · rw [if_neg a]
    induction kvs with
    | nil =>
      by_cases ej : j = k
      · simp [valD, ej]
      · have : ¬ k = j := fun z => ej z.symm
        simp [valD, ej, this]
    | cons p r ih =>
      rw [List.any_cons, Bool.or_eq_true, not_or] at a
      have e : ¬ p.1 = k := by simpa using a.1
      have ih := ih a.2
      rw [List.cons_append]
      by_cases ej : p.1 = j
      · have : ¬ j = k := fun z => e (ej.trans z)
        simp [valD, List.find?_cons, ej, this]
      · simpa [valD, List.find?_cons, ej] using ih
theorem len_putD {κ : Type} [DecidableEq κ] (kvs : List (κ × PyData)) (k : κ) (v : PyData) : (putD kvs k v).length ≤ kvs.length + 1 := by
  unfold putD
  split
  · rw [List.length_map]; omega
  · rw [List.length_append]; simp
section
variable {X : Cx} {Γ : Gm} {N : List Str} {m i : Nat} {n : String} {pos p p2 : Pos} {a b e : Expr} {l l1 l2 : List Sl} {d : PyData} {O : Out} {w : Str} {j : Int}
theorem TX.inDkS {kvs : List (Key × PyData)} (hu : X.A.units + 1 < cLine) (T : Tab X N m) (hA : At N i n) (hi : i < m) (ha : EX X Γ a l (.str w) l1) (q : l1[i]? = some (.dk kvs)) (hm : behindInMarks .In (.Name (Str.ofString n) p) = false) : TX X Γ (.Compare a [.In] [.Name (Str.ofString n) p] pos) l (valD kvs (.inr w)).isSome l1 :=
  TX.inDk (key := .inr w) hu T hA hi ha q hm
theorem SX.dputS {kvs : List (Key × PyData)} (hu : X.A.units + 1 < cLine) (T : Tab X N m) (hA : At N i n) (hi : i < m) (he : EX X Γ e l d l1) (hb : EX X Γ b l1 (.str w) l2) (q1 : l1[i]? = some (.dk kvs)) (q : l2[i]? = some (.dk kvs)) (hz : kvs.length < 1000000) (h : O.nx (l2.set i (.dk (putD kvs (.inr w) d))))
    (hs : swapsWith e (some (.Subscript (.Name (Str.ofString n) p) b p2)) pos.line X.env = pure false) : SX X Γ (.Assign [.Subscript (.Name (Str.ofString n) p) b p2] e pos) l O := SX.dput (key := .inr w) hu T hA hi he hb q1 q hz h hs
theorem TX.inDtS {kvs : List (List Key × PyData)} (hu : X.A.units + 1 < cLine) (T : Tab X N m) (hA : At N i n) (hi : i < m) (ha : EX X Γ a l (.tuple [.str w, .int j]) l1) (q : l1[i]? = some (.dt kvs)) (hm : behindInMarks .In (.Name (Str.ofString n) p) = false) : TX X Γ (.Compare a [.In] [.Name (Str.ofString n) p] pos) l (valD kvs [.inr w, .inl j]).isSome l1 :=
  TX.inDt (key := [.inr w, .inl j]) hu T hA hi ha q hm
theorem SX.dputTS {kvs : List (List Key × PyData)} (hu : X.A.units + 1 < cLine) (T : Tab X N m) (hA : At N i n) (hi : i < m) (he : EX X Γ e l d l1) (hb : EX X Γ b l1 (.tuple [.str w, .int j]) l2) (q1 : l1[i]? = some (.dt kvs)) (q : l2[i]? = some (.dt kvs)) (hz : kvs.length < 1000000) (h : O.nx (l2.set i (.dt (putD kvs [.inr w, .inl j] d))))
    (hs : swapsWith e (some (.Subscript (.Name (Str.ofString n) p) b p2)) pos.line X.env = pure false) : SX X Γ (.Assign [.Subscript (.Name (Str.ofString n) p) b p2] e pos) l O := SX.dputT (key := [.inr w, .inl j]) hu T hA hi he hb q1 q hz h hs
end
end TG

/-! TgX: defs that raise, try -/
namespace TG
open PySem L2 PyProof.Rows

/-- a def that may let out an exception of the class C -/
def spX (C : Addr) (R : List PyData → Option PyData → Prop) : Sp := fun vs H Q E => ∃ (G : Hp) (ds : List PyData) (o : Option PyData), R ds o ∧ Same G H ∧ IsAll G vs ds ∧ (∀ d v G' H', o = some d → Grow G H G' H' → Is G' v d → Q v H') ∧ (o = none → ∀ G' H', Grow G H G' H' → E (.ref C) none H')
structure CalX (P : Program) (w : World) (K : PySem.W.Frag) (mg : Str → Option Value) (base : Heap) (n : String) (k : Nat) (ps : List Str) (C : Addr) (R : List PyData → Option PyData → Prop) : Prop where
  ex : ∃ f fd, FnOk P w K mg base (L2.CX P w) k f fd ps (spX C R) ∧ mg (Str.ofString n) = some (.ref f) ∧ PySem.W.keepIn K (.ref f) = true ∧ Binds K fd ps []
/-- an exception class of the program's own -/
structure Exn (K : PySem.W.Frag) (mg : Str → Option Value) (x : String) (C : Addr) : Prop where
  ex : ∃ bmB B newId initId, ExcBaseFacts B newId initId bmB ∧ PySem.W.excIn K C bmB newId = true
  mg : mg (Str.ofString x) = some (.ref C)
  keep : PySem.W.keepIn K (.ref C) = true
  sub : PySem.W.subIn K (.ref C) (.type "BaseException") = some true
  ty : PySem.W.typeIn K (.ref C) = some (.type "type")
  exm : PySem.W.exmOne K (.ref C) (.ref C) = some true
/-- a statement that may let out an exception, where o is none; the slots are then l1 -/
structure SXr (X : Cx) (Γ : Gm) (st : Stmt) (l : List Sl) (O : Out) (W : L2.WX) (cls : Value) (o : Option PyData) (l1 : List Sl) : Prop where
  run : ∀ (G H : Hp) (σ : L2.St) (D : Ends), Hold Γ G H σ l → Lk Γ G O D → (o = none → ∀ G' H', Hold Γ G' H' σ l1 → Same G G' → W cls none σ H') → wS X st D σ H
section
variable {X : Cx} {Γ : Gm} {st : Stmt} {l l1 : List Sl} {O : Out} {W : L2.WX} {cls : Value} {o : Option PyData} {C : Addr} {n n2 x : String} {j k i m : Nat} {N ps : List Str} {R : List PyData → Option PyData → Prop} {e : Expr} {es : List Expr} {ds : List PyData} {pos pos' pos2 p p2 np : Pos}
theorem SXr.sx (h : SXr X Γ st l O W cls o l1) (q : o = none → ∀ G H σ, Hold Γ G H σ l1 → W cls none σ H) : SX X Γ st l O := ⟨fun G H σ D hh k => h.run G H σ D hh k fun en G' H' h1 _ => q en G' H' σ h1⟩
theorem SXr.setC (tk : Takes X W) (F : CalX X.prog X.w X.K X.mg X.base n j ps C R) (hr : Room k X.A) (hjk : j ≤ k) (hg : Gl X (Str.ofString n)) (T : Tab X N m) (hA : At N i n2) (hi : i < m) (h : AX X Γ (e :: es) l ds l1) (hR : R ds o) (hn : ∀ d, o = some d → O.nx (l1.set i (.dat d)))
    (hdb : (Str.ofString n == ("__debug__" : Str)) = false := by decide) (he : starEach (e :: es) X.env = (false, eval e X.env) :: starEach es X.env := by rfl) (hpl : (backTo pos2 (starEach es X.env)).any (·.1) = false := by rfl)
    (hs : swapsWith (.Call (.Name (Str.ofString n) p) (e :: es) [] pos2) (some (.Name (Str.ofString n2) pos')) pos.line X.env = pure false := by rfl) :
    SXr X Γ (.Assign [.Name (Str.ofString n2) pos'] (.Call (.Name (Str.ofString n) p) (e :: es) [] pos2) pos) l O W (.ref C) o l1 := by
  obtain ⟨f, fd, h1, h2, h3, h4⟩ := F.ex
  refine ⟨fun G H σ D hh k kx => ⟨_, ps_set T.ndX (T.at_ hA) (T.loc i _ hi hA.get) (pe_callS (E := WE W) h1 (hr.mono hjk) hg h2 h3 h4 (passAt tk) pa_w hdb he hpl) hs (.inl (T.fn _)), ?_⟩⟩
  refine h.run G H σ _ hh fun vs G1 H1 q1 e1 i1 => ?_
  exact ⟨G1, ds, o, hR, q1.f, i1, fun d v G' H' ed g r => k.nx _ G' H' _ ((q1.grow g).set r) (e1.trans g.g) (hn d ed), fun en G' H' g => kx en G' H' (q1.grow g) (e1.trans g.g)⟩
theorem SXr.raise {w : Str} {jj : Nat} (hc : X.calm = true) (tk : Takes X W) (E : Exn X.K X.mg x C) (hg : Gl X (Str.ofString x)) (hdb : (Str.ofString x == ("__debug__" : Str)) = false := by decide) : SXr X Γ (.Raise (some (.Call (.Name (Str.ofString x) p) [.Constant (.str w) jj p2] [] pos2)) none pos) l O W (.ref C) none l := by
  obtain ⟨bmB, B, newId, initId, F, q⟩ := E.ex
  exact ⟨fun G H σ D hh k kx => ⟨_, ps_raise hc tk (pmk_own F q E.mg E.keep (raises_own E.sub E.ty) hg hdb), kx rfl G H hh (Same.refl _)⟩⟩
/-- try: st, except x: suite -/
theorem SX.tryC {b₀ : Stmt} {suite : List Stmt} (hs : X.stack = X.env :: X.outer) (hf : X.env.frame = some X.env.locals) (E : Exn X.K X.mg x C) (hg : Gl X (Str.ofString x))
    (hb : ∀ (W : L2.WX) (pn : List (Addr × Obj)) (xe : Value → Shared → Prop), Takes (X.tr pn xe) W → SXr (X.tr pn xe) Γ st l O W (.ref C) o l1) (hsu : o = none → ∀ a pn, SXs (X.suite a pn) Γ (b₀ :: suite) l1 O) (hdb : (Str.ofString x == ("__debug__" : Str)) = false := by decide) :
    SX X Γ (.Try [st] [.ExceptHandler (some (.Name (Str.ofString x) np)) none (b₀ :: suite) pos'] [] [] pos) l O := by
  refine ⟨fun G H σ D hh k => ⟨_, ps_try_only (Wout := fun _ _ _ _ => False) (tb := fun W D σ H => ∀ pn xe, Takes (X.tr pn xe) W → wSs (X.tr pn xe) [st] D σ H) (ts := fun a cls d D σ H => ∀ pn, wSs (X.suite a pn) (b₀ :: suite) D σ H) hs hf ⟨hg, hdb, .inl E.mg⟩ takes0
    (fun W pn xe tk po => ⟨fun pins s σ H D I h => pss_w.run pins s σ H D I (h pn xe tk)⟩) (fun a oe cls d pn _ _ => ⟨fun pins s σ H D I h => pss_w.run pins s σ H D I (h _)⟩), ?_⟩⟩
  intro pn xe tk
  refine ⟨_, pss_cons ps_w pss_nil, ?_⟩
  exact (hb _ pn xe tk).run G H σ _ hh ⟨k.nx, k.rt, k.bk, k.ct⟩ fun en G' H' h1 e1 => ⟨true, E.exm, fun _ a _ pn => (hsu en a pn).run G' H' σ D h1 (k.mono e1), fun z => by cases z⟩
end
section
variable {P : Program} {w : World} {K : PySem.W.Frag} {mg : Str → Option Value} {base : Heap}
/-- the context of a raising def's body -/
abbrev bxX (P : Program) (w : World) (K : PySem.W.Frag) (mg : Str → Option Value) (base : Heap) (N : List Str) (qual : Str) (st : Stmt) (f : Addr) (cdv : Value) (A : Around) (outer : List Env) (s : Shared) (H : Hp) (E : XK) : Cx :=
  cxOf (L2.CX P w) P w K mg base N qual (defScope st) f cdv A outer s H E
theorem okXC {n : String} {st : Stmt} {N ps : List Str} {k : Nat} {C : Addr} {R : List PyData → Option PyData → Prop} (m : Nat) (pl : Pl K mg n st ps) (S : FnScope N ps (defScope st)) (ht : tabC N (defScope st) m = true) (hl : ∀ ds d, R ds d → ds.length = ps.length)
    (hb : ∀ (f : Addr) (cdv : Value) (A : Around) (outer : List Env) (s : Shared) (H : Hp) (E : XK) (Γ : Gm) (ds : List PyData) (o : Option PyData), Γ.fz = true → Room k (bxX P w K mg base N (Str.ofString n) st f cdv A outer s H E).A → Tab (bxX P w K mg base N (Str.ofString n) st f cdv A outer s H E) N m → R ds o →
      ∀ W, Takes (bxX P w K mg base N (Str.ofString n) st f cdv A outer s H E) W → (o = none → ∀ G H σ l, Hold Γ G H σ l → W (.ref C) none σ H) →
      SXs (bxX P w K mg base N (Str.ofString n) st f cdv A outer s H E) Γ (defBody st) (ds.map .dat ++ List.replicate (N.length - ds.length) .no) { nx := fun _ => o = some .none, rt := fun d' _ => o = some d' }) :
    CalX P w K mg base n (k + 1) ps C R := by
  obtain ⟨f, fd, F, h2, h3⟩ := pl.ex
  refine ⟨f, fd, ?_, h2, F.kp, h3⟩
  refine F.okX S (fun vs H Q E h => ?_) (fun cdv A outer s H vs Q E hr h => ?_)
  · obtain ⟨G, ds, d, hR, f, r, _⟩ := h
    rw [r.length]; exact hl ds d hR
  · obtain ⟨G, ds, o, hR, fs, r, q, qx⟩ := h
    obtain ⟨Γ, hΓ⟩ : ∃ Γ, Γ = gm0 G H := ⟨_, rfl⟩
    have hsx := hb f cdv A outer s H E Γ ds o (by rw [hΓ]) hr (tab_of rfl S.nd ht fun _ => rfl) hR (fun cls d _ H => E cls d H) (takes_of rfl rfl rfl rfl) (fun en G' H' σ' l' hh => qx en G' H' (by subst hΓ; exact hh.fx.toGrow))
    subst hΓ
    have h1 := hsx.run G H (L2.start N vs) { nx := fun _ H' => Q .non H', rt := Q } (Hold.start fs r)
      ⟨fun σ' G' H' l' a b c => q .none .non G' H' c a.fx.toGrow .non, fun v σ' G' H' d' l' a b i c => q d' v G' H' c a.fx.toGrow i, fun _ _ _ _ _ _ z => z.elim, fun _ _ _ _ _ _ z => z.elim⟩
    exact h1
end
end TG

/-! TgH: list comprehensions -/
namespace TG
open PySem L2 PyProof.Rows

/-! ### the slots of a block -/
def wipeL (l : List Sl) : List Nat → List Sl
  | [] => l
  | v :: vs => (wipeL l vs).set v .no
theorem wipeL_length (l : List Sl) : ∀ vs : List Nat, (wipeL l vs).length = l.length
  | [] => rfl
  | v :: vs => by unfold wipeL; rw [List.length_set, wipeL_length l vs]
theorem wipeL_out {l : List Sl} {i : Nat} : ∀ {vs : List Nat}, i ∉ vs → (wipeL l vs)[i]? = l[i]?
  | [], _ => rfl
  | v :: vs, h => by
    have h1 : v ≠ i := fun e => h (by rw [e]; exact List.mem_cons_self)
    unfold wipeL
    rw [List.getElem?_set_ne h1]
    exact wipeL_out fun m => h (List.mem_cons_of_mem _ m)
theorem wipeL_in {l : List Sl} {i : Nat} {s : Sl} : ∀ {vs : List Nat}, i ∈ vs → (wipeL l vs)[i]? = some s → s = .no
  | v :: vs, hm, h => by
    unfold wipeL at h
    by_cases e : v = i
    · subst e
      by_cases hv : v < (wipeL l vs).length
      · rw [List.getElem?_set_self hv] at h; cases h; rfl
      · rw [List.getElem?_eq_none (by simpa using hv)] at h; cases h
    · rw [List.getElem?_set_ne e] at h
      exact wipeL_in (by rcases List.mem_cons.mp hm with z | z; exact absurd z.symm e; exact z) h
theorem wipe_in {σ : L2.St} {i : Nat} : ∀ {vs : List Nat}, i ∈ vs → i < σ.length → (wipe σ vs)[i]? = some none
  | v :: vs, hm, hl => by
    unfold wipe
    by_cases e : v = i
    · subst e
      exact List.getElem?_set_self (by rw [wipe_length]; exact hl)
    · rw [List.getElem?_set_ne e]
      exact wipe_in (by rcases List.mem_cons.mp hm with z | z; exact absurd z.symm e; exact z) hl
theorem setA_length {α : Type} : ∀ (is : List Nat) (vs : List α) (xs : List α), (setA xs is vs).length = xs.length
  | [], _, _ => by simp [setA]
  | _ :: _, [], _ => rfl
  | i :: is, v :: vs, xs => by rw [setA, setA_length is vs, List.length_set]
theorem setA_out {α : Type} {j : Nat} : ∀ {is : List Nat} {vs : List α} {xs : List α}, j ∉ is → (setA xs is vs)[j]? = xs[j]?
  | [], _, _, _ => by simp [setA]
  | _ :: _, [], _, _ => rfl
  | i :: is, v :: vs, xs, h => by
    have h1 : i ≠ j := fun e => h (by rw [e]; exact List.mem_cons_self)
    rw [setA, setA_out (fun m => h (List.mem_cons_of_mem _ m)), List.getElem?_set_ne h1]
theorem wipe_setA {σ : L2.St} {is vs : List Nat} {xs : List (Option V)} (h : ∀ i ∈ is, i ∈ vs) : wipe (setA (wipe σ vs) is xs) vs = wipe σ vs := by
  refine List.ext_getElem? fun j => ?_
  by_cases hj : j ∈ vs
  · by_cases hl : j < σ.length
    · rw [wipe_in hj (by rw [setA_length, wipe_length]; exact hl), wipe_in hj hl]
    · rw [List.getElem?_eq_none (by rw [wipe_length, setA_length, wipe_length]; omega), List.getElem?_eq_none (by rw [wipe_length]; omega)]
  · rw [wipe_out hj, setA_out (fun m => hj (h j m)), wipe_out hj]

/-- the state within a block -/
def blkG (F : Nat → List Addr) (vs : List Nat) (G H : Hp) : Gm := ⟨fun a => ∃ i, i ∉ vs ∧ a ∈ F i, G, H, false⟩
theorem HoldF.enter {Γ : Gm} {F : Nat → List Addr} {G H : Hp} {σ : L2.St} {l : List Sl} (vs : List Nat) (h : HoldF Γ F G H σ l) : Hold (blkG F vs G H) G H (wipe σ vs) (wipeL l vs) := by
  refine ⟨fun i => if i ∈ vs then [] else F i, Fx.start _ h.fx.f, by rw [wipe_length, wipeL_length]; exact h.len, fun i sl e => ?_, fun i j a h1 h2 => ?_, fun i a ha => ?_, fun z => by cases z⟩
  · by_cases hi : i ∈ vs
    · have := wipeL_in hi e
      subst this
      have hl : i < l.length := by
        have := (List.getElem?_eq_some_iff.mp e).1
        rwa [wipeL_length] at this
      exact ⟨none, wipe_in hi (by rw [h.len]; exact hl), trivial⟩
    · rw [wipeL_out hi] at e
      obtain ⟨s, h1, h2⟩ := h.at_ i sl e
      exact ⟨s, by rw [wipe_out hi]; exact h1, by rw [if_neg hi]; exact h2⟩
  · by_cases hi : i ∈ vs
    · simp [hi] at h1
    · by_cases hj : j ∈ vs
      · simp [hj] at h2
      · rw [if_neg hi] at h1; rw [if_neg hj] at h2; exact h.dis i j a h1 h2
  · by_cases hi : i ∈ vs
    · simp [hi] at ha
    · rw [if_neg hi] at ha
      obtain ⟨h1, h2, h3⟩ := h.own i a ha
      exact ⟨h1, .inr ⟨i, hi, ha⟩, h3⟩
/-- behind a turn of a block: D, an object beside the slots, is as it was -/
theorem Hold.back {Γ : Gm} {F : Nat → List Addr} {G H G' H' : Hp} {σ σ2 : L2.St} {l l2 : List Sl} {vs : List Nat} {D : Addr} {o : HO} (h : HoldF Γ F G H σ l) (nD : ∀ i, D ∉ F i) (gD : G D = none) (hD0 : Γ.H D = none) (hD : H D = some o)
    (k : Hold (blkG F vs G H) G' H' σ2 l2) (e1 : ∀ i, i ∉ vs → σ2[i]? = σ[i]?) (e2 : ∀ i, i ∉ vs → l2[i]? = l[i]?) : HoldP Γ G' H' σ l D ∧ Same G G' ∧ H' D = some o := by
  obtain ⟨F2, k⟩ := k
  have gg : Same G G' := k.fx.g
  have nB : ∀ a i, i ∈ vs → a ∈ F i → ¬ (blkG F vs G H).B a := fun a i hi ha ⟨j, hj, haj⟩ => hj (h.dis i j a ha haj ▸ hi)
  have nBD : ¬ (blkG F vs G H).B D := fun ⟨i, _, ha⟩ => nD i ha
  have kp : ∀ a i, i ∈ vs → a ∈ F i → H' a = H a := fun a i hi ha => by
    obtain ⟨u, q⟩ := ne_some (h.own i a ha).2.2
    rw [q]; exact k.fx.h a u q (nB a i hi ha)
  have hx : ∀ i a, a ∈ F2 i → Γ.H a = none ∨ Γ.B a := fun i a ha => by
    rcases (k.own i a ha).2.1 with z | ⟨j, _, haj⟩
    · refine .inl ?_
      cases q : Γ.H a with
      | none => rfl
      | some u => exact absurd z (h.fx.s a (some_ne q))
    · exact (h.own j a haj).2.1
  refine ⟨⟨fun i => if i ∈ vs then F i else F2 i, ⟨⟨h.fx.g.trans gg, k.fx.f, fun a u q nb => ?_, fun a q => k.fx.s a (h.fx.s a q), fun a q1 q2 => k.fx.n a (h.fx.n a q1 q2) (h.fx.s a q2)⟩, h.len, fun i sl e => ?_, fun i j a q1 q2 => ?_, fun i a q => ?_, fun z i sl e en a ha => ?_⟩, fun i hm => ?_, k.fx.n D gD (some_ne hD), hD0⟩, gg, k.fx.h D o hD nBD⟩
  · refine k.fx.h a u (h.fx.h a u q nb) fun ⟨i, hi, ha⟩ => ?_
    rcases (h.own i a ha).2.1 with z | z
    · rw [z] at q; cases q
    · exact nb z
  · by_cases hi : i ∈ vs
    · obtain ⟨s, h1, h2⟩ := h.at_ i sl e
      exact ⟨s, h1, by rw [if_pos hi]; exact h2.frame gg fun a ha => kp a i hi ha⟩
    · obtain ⟨s, h1, h2⟩ := k.at_ i sl (by rw [e2 i hi]; exact e)
      exact ⟨s, by rw [← e1 i hi]; exact h1, by rw [if_neg hi]; exact h2⟩
  · have mix : ∀ i j, i ∈ vs → j ∉ vs → a ∈ F i → a ∈ F2 j → False := fun i j hi hj h1 h2 => by
      rcases (k.own j a h2).2.1 with z | z
      · exact (h.own i a h1).2.2 z
      · exact nB a i hi h1 z
    by_cases hi : i ∈ vs
    · by_cases hj : j ∈ vs
      · rw [if_pos hi] at q1; rw [if_pos hj] at q2; exact h.dis i j a q1 q2
      · rw [if_pos hi] at q1; rw [if_neg hj] at q2; exact (mix i j hi hj q1 q2).elim
    · by_cases hj : j ∈ vs
      · rw [if_neg hi] at q1; rw [if_pos hj] at q2; exact (mix j i hj hi q2 q1).elim
      · rw [if_neg hi] at q1; rw [if_neg hj] at q2; exact k.dis i j a q1 q2
  · by_cases hi : i ∈ vs
    · rw [if_pos hi] at q
      obtain ⟨h1, h2, h3⟩ := h.own i a q
      exact ⟨k.fx.n a h1 h3, h2, by rw [kp a i hi q]; exact h3⟩
    · rw [if_neg hi] at q
      exact ⟨(k.own i a q).1, hx i a q, (k.own i a q).2.2⟩
  · by_cases hi : i ∈ vs
    · rw [if_pos hi] at ha
      exact h.new z i sl e en a ha
    · rw [if_neg hi] at ha
      have sameF : F i = F2 i := by
        obtain ⟨s, h1, h2⟩ := h.at_ i sl e
        obtain ⟨s', h1', h2'⟩ := k.at_ i sl (by rw [e2 i hi]; exact e)
        rw [e1 i hi, h1] at h1'
        cases h1'
        cases sl with
        | own ds =>
          obtain ⟨p, _, r1, r2, _⟩ := h2
          obtain ⟨p', _, r1', r2', _⟩ := h2'
          rw [r2] at r2'; cases r2'; rw [r1, r1']
        | dk ds =>
          obtain ⟨p, _, r1, r2, _⟩ := h2
          obtain ⟨p', _, r1', r2', _⟩ := h2'
          rw [r2] at r2'; cases r2'; rw [r1, r1']
        | dt ds =>
          obtain ⟨p, _, r1, r2, _⟩ := h2
          obtain ⟨p', _, r1', r2', _⟩ := h2'
          rw [r2] at r2'; cases r2'; rw [r1, r1']
        | no => cases en
        | dat _ => cases en
        | sc _ => cases en
        | ob _ _ => cases en
        | fr _ => cases en
        | scr _ _ => cases en
      exact h.new z i sl e en a (by rw [sameF]; exact ha)
  · have hm : D ∈ if i ∈ vs then F i else F2 i := hm
    by_cases hi : i ∈ vs
    · rw [if_pos hi] at hm; exact nD i hm
    · rw [if_neg hi] at hm
      rcases (k.own i D hm).2.1 with z | z
      · rw [show (blkG F vs G H).H D = H D from rfl, hD] at z; cases z
      · exact nBD z

/-! ### a block's tests -/
structure TsX (X : Cx) (Γ : Gm) (es : List Expr) (l : List Sl) (b : Bool) : Prop where
  run : ∀ (G H : Hp) (σ : L2.St) (Q : Bool → Hp → Prop), Hold Γ G H σ l → (∀ G' H', Hold Γ G' H' σ l → Same G G' → Q b H') → ∃ t, PTs X es t ∧ t σ H Q
theorem TsX.nil {X : Cx} {Γ : Gm} {l : List Sl} : TsX X Γ [] l true := ⟨fun G H σ Q hh k => ⟨_, pts_nil, k G H hh (Same.refl _)⟩⟩
theorem TsX.one {X : Cx} {Γ : Gm} {c : Expr} {l : List Sl} {b : Bool} (h : TX X Γ c l b l) : TsX X Γ [c] l b := ⟨fun G H σ Q hh k => ⟨_, pts_one pt_w, h.run G H σ Q hh k⟩⟩

section
variable {X : Cx} {Γ : Gm} {elt tg iter : Expr} {ifs : List Expr} {scope : Scope} {pos py : Pos} {l l1 : List Sl} {O : Out} {own : List (Str × Nat)} {is : List Nat} {α : Type} {xs : List α} {en : α → PyData} {tv : α → List PyData}
/-- a block's context -/
abbrev bk (X : Cx) (scope : Scope) (s : Shared) (H : Hp) (C : Addr) (cl : List (Str × Addr)) (fp : List Addr) : Cx := X.blk s H scope (compEnvC scope cl C X.env) fp
/-- what a comprehension makes -/
theorem lcRun (b : α → Bool) (f : α → PyData) (hi : IX X Γ tg iter l (xs.map en) l1) (hin : ∀ i ∈ is, i ∈ own.map (·.2))
    (hg : ∀ s H C cl fp, ∀ x ∈ xs, GX (bk X scope s H C cl fp) tg (en x) is (tv x))
    (ht : ∀ s H C cl fp Γ', ∀ x ∈ xs, TsX (bk X scope s H C cl fp) Γ' ifs (setA (wipeL l1 (own.map (·.2))) is ((tv x).map .dat)) (b x))
    (he : ∀ s H C cl fp Γ', ∀ x ∈ xs, b x = true → EX (bk X scope s H C cl fp) Γ' elt (setA (wipeL l1 (own.map (·.2))) is ((tv x).map .dat)) (f x) (setA (wipeL l1 (own.map (·.2))) is ((tv x).map .dat)))
    (hz : xs.length ≤ 1000000) (G H : Hp) (σ : L2.St) (Q : VK) (hh : Hold Γ G H σ l)
    (k : ∀ p vs G' H', HoldP Γ G' H' σ l1 p → Same G G' → H' p = some (.lst vs) → IsAll G' vs ((xs.filter b).map f) → Q (.ref p) H') :
    tLc (wI X tg iter) (fun v σ H Q => ∀ s H0 C cl fp, wG (bk X scope s H0 C cl fp) tg v σ H Q) (fun σ H Q => ∀ s H0 C cl fp, ∃ t, PTs (bk X scope s H0 C cl fp) ifs t ∧ t σ H Q)
      (fun σ H Q => ∀ s H0 C cl fp, wE (bk X scope s H0 C cl fp) elt σ H Q) (own.map (·.2)) σ H Q := by
  unfold tLc
  refine hi.run G H σ _ hh fun J G1 H1 q1 e1 wk => ?_
  intro D hDn
  refine ⟨fun i m H2 => m = xs.length - i ∧ i ≤ xs.length ∧ ∃ G2 acc, HoldP Γ G2 H2 σ l1 D ∧ Same G1 G2 ∧ H2 D = some (.lst acc) ∧ IsAll G2 acc (((xs.take i).filter b).map f), ⟨xs.length, by simp, Nat.zero_le _, G1, [], q1.side hDn, Same.refl _, upd_same, .nil⟩, ?_⟩
  rintro i m H2 ⟨rfl, hle, G2, acc, hp, e2, hacc, iacc⟩
  have f2 := hp.hold.f
  by_cases hlt : i < xs.length
  · have hx : xs[i]? = some xs[i] := List.getElem?_eq_getElem hlt
    have hm : xs[i] ∈ xs := List.getElem_mem hlt
    refine .inr ⟨wk.go i H2 (e2.trans f2) (by rw [List.length_map]; exact hlt), fun H' => ∃ G2 acc, HoldP Γ G2 H' σ l1 D ∧ Same G1 G2 ∧ H' D = some (.lst acc) ∧ IsAll G2 acc (((xs.take (i + 1)).filter b).map f), fun H' ⟨G2, acc, z⟩ => ⟨xs.length - (i + 1), by omega, rfl, hlt, G2, acc, z⟩, fun x H' y => ?_⟩
    obtain ⟨G3, d, hd', gr, ix⟩ := wk.yld i G2 H2 x H' e2 f2 (by rw [List.length_map]; exact hlt) y
    rw [List.getElem?_map, hx] at hd'
    have hd'' : d = en xs[i] := by cases hd'; rfl
    subst hd''
    have hp3 := hp.grow gr (some_ne hacc)
    have hacc3 : H' D = some (.lst acc) := gr.h _ _ hacc
    have i3 := iacc.mono gr.g
    obtain ⟨F, hF, nD, gD, hD0⟩ := hp3
    have ent := hF.enter (own.map (·.2))
    intro s H0 C cl fp
    refine (hg s H0 C cl fp _ hm).run G3 H' _ x _ hF.fx.f ix fun vs r => ?_
    refine ⟨wipe_setA hin, fun s H0 C cl fp => ?_⟩
    have ent2 := ent.setA (is := is) r
    have out1 : ∀ j, j ∉ own.map (·.2) → (setA (wipe σ (own.map (·.2))) is (vs.map some))[j]? = σ[j]? := fun j hj => by rw [setA_out (fun m => hj (hin j m)), wipe_out hj]
    have out2 : ∀ j, j ∉ own.map (·.2) → (setA (wipeL l1 (own.map (·.2))) is ((tv xs[i]).map Sl.dat))[j]? = l1[j]? := fun j hj => by rw [setA_out (fun m => hj (hin j m)), wipeL_out hj]
    refine (ht s H0 C cl fp _ _ hm).run G3 H' _ _ ent2 fun G4 H4 q4 e4 => ?_
    by_cases hb : b xs[i] = true
    · rw [hb, if_pos rfl]
      intro s H0 C cl fp
      refine (he s H0 C cl fp _ _ hm hb).run G4 H4 _ _ q4 fun v G5 H5 q5 e5 i5 => ?_
      obtain ⟨hp5, g5, hD5⟩ := Hold.back hF nD gD hD0 hacc3 q5 out1 out2
      refine ⟨acc, hD5, ?_, G5, acc ++ [v], hp5.side, (e2.trans gr.g).trans g5, upd_same, ?_⟩
      · rw [i3.length, List.length_map]
        have := List.length_filter_le b (xs.take i)
        have h2 := List.length_take_le i xs
        exact Nat.lt_of_lt_of_le (show _ < 1000000 by omega) (by decide)
      · rw [List.take_add_one, hx, List.filter_append, List.map_append]
        have : ([xs[i]].filter b).map f = [f xs[i]] := by simp [hb]
        show IsAll G5 _ (_ ++ ([xs[i]].filter b).map f)
        rw [this]
        exact (i3.mono g5).append (.one i5)
    · rw [Bool.not_eq_true] at hb
      rw [hb, if_neg Bool.false_ne_true]
      obtain ⟨hp5, g5, hD5⟩ := Hold.back hF nD gD hD0 hacc3 q4 out1 out2
      refine ⟨G4, acc, hp5, (e2.trans gr.g).trans g5, hD5, ?_⟩
      rw [List.take_add_one, hx, List.filter_append, List.map_append]
      have : ([xs[i]].filter b).map f = [] := by simp [hb]
      show IsAll G4 _ (_ ++ ([xs[i]].filter b).map f)
      rw [this, List.append_nil]
      exact i3.mono g5
  · have e : i = xs.length := by omega
    subst e
    rw [List.take_length] at iacc
    have st := wk.stop H2 (e2.trans f2)
    rw [List.length_map] at st
    exact .inl ⟨st, k D acc G2 H2 hp (e1.trans e2) hacc iacc⟩
theorem EL.lc (b : α → Bool) (f : α → PyData) (hc : X.calm = true) (hN : X.N.Nodup) (ok : BlkOk X.N X.env.scope scope own) (hi : IX X Γ tg iter l (xs.map en) l1) (hin : ∀ i ∈ is, i ∈ own.map (·.2))
    (hg : ∀ s H C cl fp, ∀ x ∈ xs, GX (bk X scope s H C cl fp) tg (en x) is (tv x))
    (ht : ∀ s H C cl fp Γ', ∀ x ∈ xs, TsX (bk X scope s H C cl fp) Γ' ifs (setA (wipeL l1 (own.map (·.2))) is ((tv x).map .dat)) (b x))
    (he : ∀ s H C cl fp Γ', ∀ x ∈ xs, b x = true → EX (bk X scope s H C cl fp) Γ' elt (setA (wipeL l1 (own.map (·.2))) is ((tv x).map .dat)) (f x) (setA (wipeL l1 (own.map (·.2))) is ((tv x).map .dat)))
    (hz : xs.length ≤ 1000000) (hs : ∀ x, foldedSetIterable iter X.env x = pure x := by intro _; rfl) : EL X Γ (.ListComp elt [⟨tg, iter, ifs, 0⟩] scope pos) l ((xs.filter b).map f) l1 := ⟨fun G H σ Q hh k =>
  ⟨_, pe_lc (own := own) hc hN pi_w' ok (fun s H0 C cl fp => ⟨fun pins s' σ H v u Q I r h => pg_w.run pins s' σ H v u Q I r (h s H0 C cl fp)⟩)
      (fun s H0 C cl fp => ⟨fun pins s' σ H Q I h => let ⟨_, h1, h2⟩ := h s H0 C cl fp; h1.run pins s' σ H Q I h2⟩)
      (fun s H0 C cl fp => ⟨fun pins s' σ H Q I h => pe_w.run pins s' σ H Q I (h s H0 C cl fp)⟩) hs,
    lcRun b f hi hin hg ht he hz G H σ Q hh k⟩⟩
/-- name = [..] on one line -/
theorem SX.setLc {i : Nat} {y : Str} (b : α → Bool) (f : α → PyData) (hc : X.calm = true) (hN : X.N.Nodup) (hy : X.N[i]? = some y) (hyl : X.env.scope.names.lookup y = some .local) {spos : Pos}
    (hsw : swapsWith (.ListComp elt [⟨tg, iter, ifs, 0⟩] scope pos) (some (.Name y py)) spos.line X.env = pure true) (ok : BlkOk X.N X.env.scope scope own) (hi : IX X Γ tg iter l (xs.map en) l1) (hin : ∀ i ∈ is, i ∈ own.map (·.2))
    (hg : ∀ s H C cl fp, ∀ x ∈ xs, GX (bk X scope s H C cl fp) tg (en x) is (tv x))
    (ht : ∀ s H C cl fp Γ', ∀ x ∈ xs, TsX (bk X scope s H C cl fp) Γ' ifs (setA (wipeL l1 (own.map (·.2))) is ((tv x).map .dat)) (b x))
    (he : ∀ s H C cl fp Γ', ∀ x ∈ xs, b x = true → EX (bk X scope s H C cl fp) Γ' elt (setA (wipeL l1 (own.map (·.2))) is ((tv x).map .dat)) (f x) (setA (wipeL l1 (own.map (·.2))) is ((tv x).map .dat)))
    (hz : xs.length ≤ 1000000) (h : O.nx (l1.set i (.own ((xs.filter b).map f)))) (hs : ∀ x, foldedSetIterable iter X.env x = pure x := by intro _; rfl) : SX X Γ (.Assign [.Name y py] (.ListComp elt [⟨tg, iter, ifs, 0⟩] scope pos) spos) l O := ⟨fun G H σ D hh k =>
  ⟨_, ps_setLc (own := own) hc hN hy hyl hsw pi_w' ok (fun s H0 C cl fp => ⟨fun pins s' σ H v u Q I r h => pg_w.run pins s' σ H v u Q I r (h s H0 C cl fp)⟩)
      (fun s H0 C cl fp => ⟨fun pins s' σ H Q I h => let ⟨_, h1, h2⟩ := h s H0 C cl fp; h1.run pins s' σ H Q I h2⟩)
      (fun s H0 C cl fp => ⟨fun pins s' σ H Q I h => pe_w.run pins s' σ H Q I (h s H0 C cl fp)⟩) hs,
    lcRun b f hi hin hg ht he hz G H σ _ hh fun p vs G1 H1 h1 e1 hp i1 => k.nx _ G1 H1 _ (h1.set (i := i) (sl := .own ((xs.filter b).map f)) ⟨p, vs, rfl, rfl, hp, i1⟩ (some_ne hp)) e1 h⟩⟩
end

/-! ### names within a block -/
def tabVC (N : List Str) (sc : Scope) (own vis : List Nat) : Bool :=
  (own.all fun i => match N[i]? with | some n => decide (sc.names.lookup n = some .local) | none => true) &&
  (vis.all fun i => match N[i]? with | some n => (decide (sc.names.lookup n = some .local) || decide (sc.names.lookup n = some .cell) || decide (sc.names.lookup n = some .free)) && !(n == ("__debug__" : Str)) && !(n == ("__classdict__" : Str)) | none => true)
structure TabV (X : Cx) (N : List Str) (own vis : List Nat) : Prop where
  eN : X.N = N
  nd : N.Nodup
  loc : ∀ i n, i ∈ own → N[i]? = some n → X.env.scope.names.lookup n = some .local
  vis : ∀ i n, i ∈ vis → N[i]? = some n → Vis X.env.scope n ∧ (n == ("__debug__" : Str)) = false ∧ (n == ("__classdict__" : Str)) = false
theorem tabV_of {X : Cx} {N : List Str} {own vis : List Nat} (eN : X.N = N) (nd : N.Nodup) (h : tabVC N X.env.scope own vis = true) : TabV X N own vis := by
  unfold tabVC at h
  rw [Bool.and_eq_true, List.all_eq_true, List.all_eq_true] at h
  refine ⟨eN, nd, fun i n hi e => ?_, fun i n hi e => ?_⟩
  · have q := h.1 i hi
    simp only [e, decide_eq_true_eq] at q
    exact q
  · have q := h.2 i hi
    simp only [e, Bool.and_eq_true, Bool.or_eq_true, decide_eq_true_eq, Bool.not_eq_true'] at q
    refine ⟨?_, q.1.2, q.2⟩
    rcases q.1.1 with (z | z) | z
    · exact .inl z
    · exact .inr (.inl z)
    · exact .inr (.inr z)
section
variable {X : Cx} {Γ : Gm} {N : List Str} {own vis : List Nat} {i : Nat} {n : String} {pos : Pos} {l : List Sl} {d : PyData}
theorem EX.nmV (T : TabV X N own vis) (hA : At N i n) (hi : i ∈ vis) (q : l[i]? = some (.dat d)) : EX X Γ (.Name (Str.ofString n) pos) l d l :=
  EX.var (by rw [T.eN]; exact hA.get) (T.vis i _ hi hA.get).1 q (T.vis i _ hi hA.get).2.1 (T.vis i _ hi hA.get).2.2
theorem GX.nmV (T : TabV X N own vis) (hA : At N i n) (hi : i ∈ own) : GX X (.Name (Str.ofString n) pos) d [i] [d] :=
  GX.name (by rw [T.eN]; exact T.nd) (by rw [T.eN]; exact hA.get) (.inl (T.loc i _ hi hA.get)) (.inr (T.loc i _ hi hA.get))
theorem GsX.nmV {es : List Expr} {is : List Nat} (T : TabV X N own vis) (hA : At N i n) (hi : i ∈ own) (h : GsX X es is) (hs : (assignEach (.Name (Str.ofString n) pos :: es) X.env).map (·.2) = assign (.Name (Str.ofString n) pos) X.env :: (assignEach es X.env).map (·.2) := by rfl) :
    GsX X (.Name (Str.ofString n) pos :: es) (i :: is) := GsX.cons (by rw [T.eN]; exact T.nd) (by rw [T.eN]; exact hA.get) (.inl (T.loc i _ hi hA.get)) h (.inr (T.loc i _ hi hA.get)) hs
end
end TG

/-! TgZ: zip of a list and a tuple; zip as what is walked -/
namespace TG
open PySem L2 PyProof.Rows
section
variable {prog : Program} {w : World} {A : Around} {E : Value → Shared → Prop} {s : Shared}
/-- the turn of a zip whose first iterator is a list's, whose second is a tuple's -/
theorem mixItem {z T1 T2 m n a b : Addr} {k : Nat} {us vs : Array Value} {u v c d : Value} {Q : Value → Shared → Prop} (D : ZipApart z T1 T2 m n a b)
    (zz : IsZip s.heap z T1 T2 .none) (zI : IsPair s.heap T1 (.ref m) (.ref n)) (zO : IsPair s.heap T2 c d) (im : s.heap.IsListIter m a k) (jn : s.heap.IsTupleIter n b k) (la : s.heap.IsList a us) (tb : s.heap.IsTuple b vs) (eu : us[k]? = some u) (ev : vs[k]? = some v)
    (done : ∀ g, IsZip g z T1 T2 (rawInt s.heap.objs.size) → IsPair g T2 u v → g.IsListIter m a (k + 1) → g.IsTupleIter n b (k + 1) → IsPair g s.heap.objs.size u v → g.objs.size = s.heap.objs.size + 1 →
      (∀ e o, e ≠ z → e ≠ T2 → e ≠ m → e ≠ n → s.heap.get? e = some o → g.get? e = some o) → Q (.ref s.heap.objs.size) { s with heap := g }) : wpAny (model prog w) A (Builtin.«zip.__next__» ⟨[.ref z], []⟩) (fun fin s' => ∃ r, fin = .done (.ret r) ∧ Q r s') E s := by
  change wpAny _ _ (field (.ref z) 2 >>= _) _ _ _
  refine wpAny_bind (wpAny_field zz rfl (x := .bool false) rfl ?_)
  change wpAny _ _ (field (.ref z) 3 >>= _) _ _ _
  refine wpAny_bind (wpAny_field zz rfl (x := .ref T1) rfl (wpAny_bind (wpAny_seqItems zI rfl ?_)))
  change wpAny _ _ (Builtin.SmallTypes.ownedTupleIsFree (.ref z) >>= _) _ _ _
  refine wpAny_bind ?_
  unfold Builtin.SmallTypes.ownedTupleIsFree
  refine wpAny_bind (wpAny_field zz rfl (x := .none) rfl (wpAny_pure ?_))
  simp only [if_true]
  refine wpAny_bind (wpAny_rule (wpAny_bind (wpAny_field zz rfl (x := .ref T2) rfl (wpAny_bind (wpAny_setField_rec zz (by simp) fun g1 zz1 b1 => ?_)))))
  replace zz1 : IsZip g1 z T1 T2 .ellipsis := zz1
  refine wpAny_bind ?_
  simp only [List.zipIdx_cons, List.zipIdx_nil, List.forIn_cons, List.forIn_nil]
  refine wpAny_bind (wpAny_bind (wpAny_onRaise ?_))
  change wpAny _ _ (Builtin.SmallTypes.nextOf (.ref m) >>= _) _ _ _
  refine wpAny_bind (wpAny_nextOf_list_item (im.extBut b1.extBut D.i1z) (la.extBut b1.extBut D.l1z) eu fun g2 im2 b2 => wpAny_pure ?_)
  have zO2 : IsPair g2 T2 c d := b2.extBut _ _ D.TOi1 (b1.extBut _ _ D.TOz zO)
  refine wpAny_bind (wpAny_seqItems zO2 rfl (wpAny_bind (wpAny_updateSeq_pair zO2 fun g3 zO3 b3 => ?_)))
  replace zO3 : IsPair g3 T2 u d := zO3
  refine wpAny_bind (wpAny_letGo (wpAny_pure (wpAny_bind (wpAny_bind (wpAny_onRaise ?_)))))
  change wpAny _ _ (Builtin.SmallTypes.nextOf (.ref n) >>= _) _ _ _
  refine wpAny_bind (RZ.nextOf_tuple_item (((jn.extBut b1.extBut D.i2z).extBut b2.extBut D.i12.symm).extBut b3.extBut D.TOi2.symm) (((tb.extBut b1.extBut D.l2z).extBut b2.extBut D.l2i1).extBut b3.extBut D.l2TO) ev fun g4 jn4 b4 => wpAny_pure ?_)
  have zO4 : IsPair g4 T2 u d := b4.extBut _ _ D.TOi2 zO3
  refine wpAny_bind (wpAny_seqItems zO4 rfl (wpAny_bind (wpAny_updateSeq_pair zO4 fun g5 zO5 b5 => ?_)))
  replace zO5 : IsPair g5 T2 u v := zO5
  refine wpAny_bind (wpAny_letGo (wpAny_pure (wpAny_pure (wpAny_bind (wpAny_seqItems zO5 rfl (wpAny_bind (wpAny_newTuple ?_)))))))
  have sz : g5.objs.size = s.heap.objs.size := by rw [b5.1, b4.1, b3.1, b2.1, b1.1]
  have zz5 : IsZip g5 z T1 T2 .ellipsis := b5.extBut _ _ D.TOz.symm (b4.extBut _ _ D.i2z.symm (b3.extBut _ _ D.TOz.symm (b2.extBut _ _ D.i1z.symm zz1)))
  have kp : ∀ e o, e ≠ z → e ≠ T2 → e ≠ m → e ≠ n → s.heap.get? e = some o → g5.get? e = some o := fun e o e1 e2 e3 e4 q => b5.extBut _ _ e2 (b4.extBut _ _ e4 (b3.extBut _ _ e2 (b2.extBut _ _ e3 (b1.extBut _ _ e1 q))))
  have im5 : g5.IsListIter m a (k + 1) := ((im2.extBut b3.extBut D.TOi1.symm).extBut b4.extBut D.i12).extBut b5.extBut D.TOi1.symm
  have jn5 : g5.IsTupleIter n b (k + 1) := jn4.extBut b5.extBut D.TOi2.symm
  have lz : z < g5.objs.size := Heap.lt_size zz5
  change wpAny _ _ (Builtin.SmallTypes.ownedTupleHandOut (.ref z) (.ref g5.objs.size) >>= _) _ _ _
  refine wpAny_bind ?_
  unfold Builtin.SmallTypes.ownedTupleHandOut
  have zz6 : IsZip (g5.push { cls := .type "tuple", data := .seq #[u, v] }) z T1 T2 .ellipsis := Heap.get?_push_of_some _ zz5
  refine wpAny_bind (wpAny_setField_rec zz6 (by simp) fun g7 zz7 b7 => ?_)
  replace zz7 : IsZip g7 z T1 T2 (rawInt g5.objs.size) := zz7
  refine wpAny_setField_rec zz7 (by simp) fun g8 zz8 b8 => ?_
  replace zz8 : IsZip g8 z T1 T2 (rawInt g5.objs.size) := zz8
  have up : ∀ e o, e ≠ z → g5.get? e = some o → g8.get? e = some o := fun e o ne q => b8.extBut _ _ ne (b7.extBut _ _ ne (Heap.get?_push_of_some _ q))
  have new8 : IsPair g8 g5.objs.size u v := b8.extBut _ _ (Nat.ne_of_gt lz) (b7.extBut _ _ (Nat.ne_of_gt lz) (Heap.get?_push_size _ rfl))
  have sz8 : g8.objs.size = g5.objs.size + 1 := by rw [b8.1, b7.1, Heap.size_push]
  rw [sz] at zz8 new8 sz8
  refine wpAny_pure ⟨_, rfl, ?_⟩
  change Q (.ref g5.objs.size) _
  rw [sz]
  exact done g8 zz8 (up _ _ D.TOz zO5) (im5.at fun o q => up _ o D.i1z q) (jn5.at fun o q => up _ o D.i2z q) new8 sz8 fun e o e1 e2 e3 e4 q => up e o e1 (kp e o e1 e2 e3 e4 q)
/-- .. its end, both of one length -/
theorem mixEnd {z T1 T2 m n a b : Addr} {k : Nat} {us : Array Value} {c d : Value} {Q : Fin → Shared → Prop} (hh : A.handled = none) (D : ZipApart z T1 T2 m n a b)
    (zz : IsZip s.heap z T1 T2 .none) (zI : IsPair s.heap T1 (.ref m) (.ref n)) (zO : IsPair s.heap T2 c d) (im : s.heap.IsListIter m a k) (la : s.heap.IsList a us) (eu : us[k]? = none)
    (out : ∀ g e, (∀ c o, c ≠ z → c ≠ T2 → c ≠ m → c ≠ n → s.heap.get? c = some o → g.get? c = some o) → (∃ o, g.get? e = some o ∧ o.cls = .type "StopIteration") → E (.ref e) { s with heap := g }) : wpAny (model prog w) A (Builtin.«zip.__next__» ⟨[.ref z], []⟩) Q E s := by
  change wpAny _ _ (field (.ref z) 2 >>= _) _ _ _
  refine wpAny_bind (wpAny_field zz rfl (x := .bool false) rfl ?_)
  change wpAny _ _ (field (.ref z) 3 >>= _) _ _ _
  refine wpAny_bind (wpAny_field zz rfl (x := .ref T1) rfl (wpAny_bind (wpAny_seqItems zI rfl ?_)))
  change wpAny _ _ (Builtin.SmallTypes.ownedTupleIsFree (.ref z) >>= _) _ _ _
  refine wpAny_bind ?_
  unfold Builtin.SmallTypes.ownedTupleIsFree
  refine wpAny_bind (wpAny_field zz rfl (x := .none) rfl (wpAny_pure ?_))
  simp only [if_true]
  refine wpAny_bind (wpAny_rule (wpAny_bind (wpAny_field zz rfl (x := .ref T2) rfl (wpAny_bind (wpAny_setField_rec zz (by simp) fun g1 zz1 b1 => ?_)))))
  replace zz1 : IsZip g1 z T1 T2 .ellipsis := zz1
  refine wpAny_bind ?_
  simp only [List.zipIdx_cons, List.zipIdx_nil, List.forIn_cons, List.forIn_nil]
  refine wpAny_bind (wpAny_bind (wpAny_onRaise ?_))
  change wpAny _ _ (Builtin.SmallTypes.nextOf (.ref m) >>= _) _ _ _
  refine wpAny_bind (wpAny_nextOf_list_end hh (im.extBut b1.extBut D.i1z) (la.extBut b1.extBut D.l1z) eu fun g2 e b2 st => ?_)
  obtain ⟨oe, q1, q2⟩ := st
  have zz2 : IsZip g2 z T1 T2 .ellipsis := b2 _ _ D.i1z.symm zz1
  have ne : e ≠ z := fun r => by subst r; rw [zz2] at q1; cases q1; simp at q2
  exact wpAny_setField_rec zz2 (by simp) fun g3 _ b3 => out g3 e (fun c o c1 _ c3 _ r => b3.extBut _ _ c1 (b2 _ _ c3 (b1.extBut _ _ c1 r))) ⟨oe, b3.extBut _ _ ne q1, q2⟩
theorem mixNext {z T1 T2 m n a b : Addr} {k : Nat} {us vs : Array Value} {u v c d : Value} {Q : Option Value → Shared → Prop} (D : ZipApart z T1 T2 m n a b)
    (zz : IsZip s.heap z T1 T2 .none) (zI : IsPair s.heap T1 (.ref m) (.ref n)) (zO : IsPair s.heap T2 c d) (im : s.heap.IsListIter m a k) (jn : s.heap.IsTupleIter n b k) (la : s.heap.IsList a us) (tb : s.heap.IsTuple b vs) (eu : us[k]? = some u) (ev : vs[k]? = some v)
    (done : ∀ g, IsZip g z T1 T2 (rawInt s.heap.objs.size) → IsPair g T2 u v → g.IsListIter m a (k + 1) → g.IsTupleIter n b (k + 1) → IsPair g s.heap.objs.size u v → g.objs.size = s.heap.objs.size + 1 →
      (∀ e o, e ≠ z → e ≠ T2 → e ≠ m → e ≠ n → s.heap.get? e = some o → g.get? e = some o) → Q (some (.ref s.heap.objs.size)) { s with heap := g }) : wpAny (model prog w) A (pyNext (.ref z)) Q E s := by
  have ty : s.TypeIs (.ref z) "zip" := ⟨_, zz, rfl⟩
  unfold pyNext
  refine wpAny_bind (wpAny_attempt (wpAny_callSpecial?_slot (name := Str.ofString "__next__") ty F.slot_zip_next (wpAny_call_entry F.slot_zip_next ty F.entry_zip_next ?_ (F.args_zip_next_1 _))))
  exact mixItem D zz zI zO im jn la tb eu ev fun g p1 p2 p3 p4 p5 p6 p7 => wpAny_pure (done g p1 p2 p3 p4 p5 p6 p7)
theorem mixStop {z T1 T2 m n a b : Addr} {k : Nat} {us : Array Value} {c d : Value} {Q : Option Value → Shared → Prop} (hh : A.handled = none) (D : ZipApart z T1 T2 m n a b)
    (zz : IsZip s.heap z T1 T2 .none) (zI : IsPair s.heap T1 (.ref m) (.ref n)) (zO : IsPair s.heap T2 c d) (im : s.heap.IsListIter m a k) (la : s.heap.IsList a us) (eu : us[k]? = none)
    (out : ∀ g, (∀ c o, c ≠ z → c ≠ T2 → c ≠ m → c ≠ n → s.heap.get? c = some o → g.get? c = some o) → Q none { s with heap := g }) : wpAny (model prog w) A (pyNext (.ref z)) Q E s := by
  have ty : s.TypeIs (.ref z) "zip" := ⟨_, zz, rfl⟩
  unfold pyNext
  refine wpAny_bind (wpAny_attempt (wpAny_callSpecial?_slot (name := Str.ofString "__next__") ty F.slot_zip_next (wpAny_call_entry F.slot_zip_next ty F.entry_zip_next ?_ (F.args_zip_next_1 _))))
  refine mixEnd hh D zz zI zO im la eu fun g e kp ⟨o, q1, q2⟩ => ?_
  exact wpAny_bind (wpAny_isInstance (T := "StopIteration") (b := true) ⟨o, q1, q2⟩ isSubtype_stop (wpAny_pure (out _ kp)))
end

/-! ### the call zip(list, tuple) -/
abbrev mh1 (h : Heap) (a : Addr) : Heap := h.push { cls := .type "list_iterator", data := .fields #[.ref a, .int 0 0] }
abbrev mh2 (h : Heap) (a b : Addr) : Heap := (mh1 h a).push { cls := .type "tuple_iterator", data := .fields #[.ref b, .int 0 0] }
abbrev mh3 (h : Heap) (a b : Addr) : Heap := (mh2 h a b).push { cls := .type "tuple", data := .seq #[.ref h.objs.size, .ref (mh1 h a).objs.size] }
abbrev mh4 (h : Heap) (a b : Addr) : Heap := (mh3 h a b).push { cls := .type "tuple", data := .seq #[.none, .none] }
abbrev mh5 (h : Heap) (a b : Addr) : Heap := (mh4 h a b).push { cls := .type "zip", data := .fields #[.none, .bool false, .bool false, .ref (mh2 h a b).objs.size, .ref (mh3 h a b).objs.size] }
theorem mixNew (a b : Addr) (us vs : Array Value) : Meets (Builtin.«zip.__new__» ⟨[.type "zip", .ref a, .ref b], []⟩) (fun _ R s => s.heap.IsList a us ∧ s.heap.IsTuple b vs ∧ R (.ok (.ret (.ref (mh4 s.heap a b).objs.size))) { s with heap := mh5 s.heap a b }) :=
  .of_wp fun prog w A R s h => by
    obtain ⟨hp, g, d, tk, os⟩ := s
    obtain ⟨la, tb, h⟩ := h
    have sub := sub_zip
    have p1 : Heap.IsList (Shared.heap ⟨hp, g, d, tk, os⟩) a us := la
    have p2 : Heap.IsTuple (Shared.heap ⟨hp.push { cls := .type "list_iterator", data := .fields #[.ref a, .int 0 0] }, g, d, tk, os⟩) b vs := Heap.IsTuple.push tb _
    wp_walk using wpAny_pyIter_list p1, wpAny_pyIter_tuple p2
    exact ⟨_, rfl, h⟩
theorem mixCall {prog : Program} {w : World} {A : Around} {E : Value → Shared → Prop} {s : Shared} {a b : Addr} {us vs : Array Value} {Q : Value → Shared → Prop} (la : s.heap.IsList a us) (tb : s.heap.IsTuple b vs)
    (h : ∀ g, IsZip g (s.heap.objs.size + 4) (s.heap.objs.size + 2) (s.heap.objs.size + 3) .none → IsPair g (s.heap.objs.size + 2) (.ref s.heap.objs.size) (.ref (s.heap.objs.size + 1)) → IsPair g (s.heap.objs.size + 3) .none .none →
      g.IsListIter s.heap.objs.size a 0 → g.IsTupleIter (s.heap.objs.size + 1) b 0 → (∀ c o, s.heap.get? c = some o → g.get? c = some o) → Q (.ref (s.heap.objs.size + 4)) { s with heap := g }) : wpAny (model prog w) A (call (.type "zip") [.ref a, .ref b]) Q E s := by
  refine callType_new F.called_zip (by decide) (F.typeCall_zip_2 _ _) (F.newCall_zip_2 _ _) (fun obj => F.args_object_init_3 obj _ _) F.entry_zip_new (mixNew a b us vs) ⟨la, tb, ?_⟩
  have n1 : (mh1 s.heap a).objs.size = s.heap.objs.size + 1 := Heap.size_push ..
  have n2 : (mh2 s.heap a b).objs.size = s.heap.objs.size + 2 := by rw [Heap.size_push, n1]
  have n3 : (mh3 s.heap a b).objs.size = s.heap.objs.size + 3 := by rw [Heap.size_push, n2]
  have n4 : (mh4 s.heap a b).objs.size = s.heap.objs.size + 4 := by rw [Heap.size_push, n3]
  have o5 : (mh5 s.heap a b).get? (mh4 s.heap a b).objs.size = some _ := Heap.get?_push_size _ rfl
  have o4 : (mh5 s.heap a b).get? (mh3 s.heap a b).objs.size = some _ := Heap.get?_push_of_some _ (Heap.get?_push_size _ rfl)
  have o3 : (mh5 s.heap a b).get? (mh2 s.heap a b).objs.size = some _ := Heap.get?_push_of_some _ (Heap.get?_push_of_some _ (Heap.get?_push_size _ rfl))
  have o2 : (mh5 s.heap a b).get? (mh1 s.heap a).objs.size = some _ := Heap.get?_push_of_some _ (Heap.get?_push_of_some _ (Heap.get?_push_of_some _ (Heap.get?_push_size _ rfl)))
  have o1 : (mh5 s.heap a b).get? s.heap.objs.size = some _ := Heap.get?_push_of_some _ (Heap.get?_push_of_some _ (Heap.get?_push_of_some _ (Heap.get?_push_of_some _ (Heap.get?_push_size _ rfl))))
  change _ ∧ _
  rw [n2, n3, n4] at o5
  rw [n1, n2] at o3
  rw [n3] at o4
  rw [n1] at o2
  rw [n4]
  exact ⟨⟨_, o5, rfl⟩, h _ o5 o3 o4 ⟨_, o1, rfl, rfl⟩ ⟨_, o2, rfl, rfl⟩ fun c o q => Heap.get?_push_of_some _ (Heap.get?_push_of_some _ (Heap.get?_push_of_some _ (Heap.get?_push_of_some _ (Heap.get?_push_of_some _ q))))⟩

/-! ### as what is walked -/
def ItMix (K : PySem.W.Frag) (a b : Addr) : It :=
  ⟨fun i H => ∃ (us vs : List V) (u v : V), SqL K H a us ∧ SqT K H b vs ∧ us[i]? = some u ∧ vs[i]? = some v,
    fun i H r H' => ∃ T u v, r = .ref T ∧ H T = none ∧ H' = upd H T (.tup [u, v]) ∧ (∀ us, SqL K H a us → us[i]? = some u) ∧ ∀ vs, SqT K H b vs → vs[i]? = some v,
    fun i H => ∃ us : List V, SqL K H a us ∧ us.length ≤ i⟩
theorem turnMix {P : Program} {w : World} {K : PySem.W.Frag} {elts : List Expr} {kk : Nat} {tpos : Pos} {a b z T1 T2 m n : Addr} (D : ZipApart z T1 T2 m n a b) :
    Turn P w K (.Tuple elts kk tpos) (ItMix K a b) [z, T1, T2, m, n] z (fun i h => IsZip h z T1 T2 .none ∧ IsPair h T1 (.ref m) (.ref n) ∧ (∃ c d, IsPair h T2 c d) ∧ h.IsListIter m a i ∧ h.IsTupleIter n b i) where
  mem := by simp
  obj := fun i h st c hc => by
    obtain ⟨zz, zI, ⟨x, y, zO⟩, ⟨o1, e1, _, d1⟩, ⟨o2, e2, _, d2⟩⟩ := st
    simp only [List.mem_cons, List.not_mem_nil, or_false] at hc
    rcases hc with rfl | rfl | rfl | rfl | rfl
    · exact ⟨_, zz, fun v q => nomatch q⟩
    · exact ⟨_, zI, fun v q => nomatch q⟩
    · exact ⟨_, zO, fun v q => nomatch q⟩
    · exact ⟨o1, e1, fun v q => by rw [d1] at q; cases q⟩
    · exact ⟨o2, e2, fun v q => by rw [d2] at q; cases q⟩
  keep := fun i h h' st k => by
    obtain ⟨zz, zI, ⟨x, y, zO⟩, im, jn⟩ := st
    exact ⟨k z (by simp) _ zz, k T1 (by simp) _ zI, ⟨x, y, k T2 (by simp) _ zO⟩, im.at fun o q => k m (by simp) o q, jn.at fun o q => k n (by simp) o q⟩
  item := by
    intro X hP hw hK hc i pins s σ H E I hf st hg
    subst hP hw hK
    obtain ⟨zz, zI, ⟨c0, d0, zO⟩, im, jn⟩ := st
    obtain ⟨us, vs, u, v, qu, qv, eu, ev⟩ := hg
    obtain ⟨its, r1, p1, _⟩ := I.list qu
    obtain ⟨jts, r2, p2, _⟩ := I.tuple qv
    obtain ⟨u', hu, ru⟩ := r1.get eu
    obtain ⟨v', hv, rv⟩ := r2.get ev
    have lz : z < s.heap.objs.size := Heap.lt_size zz
    refine mixNext D zz zI zO im jn p1.isList p2 (u := u') (v := v') (by simpa using hu) (by simpa using hv) fun g z1 O1 m1 n1 new sz kp => ?_
    refine ⟨_, rfl, wpAny_letOwnedTupleGo_zip (s := { s with heap := g }) z1 fun g2 z2 sb => ?_⟩
    have new2 : g2.get? s.heap.objs.size = some { cls := .type "tuple", data := .seq #[u', v'] } := (sb.2 _ (Nat.ne_of_gt lz)).trans new
    have ob : ObjOk X.prog X.w (upd H s.heap.objs.size (.tup [u, v])) g2 s.heap.objs.size (.tup [u, v]) := ⟨by show 2 ≤ sizeLine; decide, [u', v'], .cons ru (.cons rv .nil), ⟨_, new2, rfl, _, rfl⟩⟩
    have I1 : Inv X pins σ (upd H s.heap.objs.size (.tup [u, v])) { s with heap := g2 } := I.turnedNew (t' := s.toks) (ch := [z, T1, T2, m, n]) (fun c o hb q => by
      simp only [List.mem_cons, List.not_mem_nil, or_false, not_or] at hb
      exact (sb.2 c hb.1).trans (kp c o hb.1 hb.2.2.1 hb.2.2.2.1 hb.2.2.2.2 q)) hf (Nat.le_refl _) ob
    refine ⟨.ref s.heap.objs.size, _, I1, rfl, ⟨_, u, v, rfl, I.hok.fresh (Nat.le_refl _), rfl, fun l hl => by rw [I.list_inj hl qu]; exact eu, fun l hl => by rw [I.tuple_inj hl qv]; exact ev⟩, ⟨z2, ?_, ⟨u', v', ?_⟩, ?_, ?_⟩, fun c hcm => ?_⟩
    · exact (sb.2 _ D.TIz).trans (kp _ _ D.TIz D.TITO D.TIi1 D.TIi2 zI)
    · exact (sb.2 _ D.TOz).trans O1
    · exact m1.at fun o q => (sb.2 _ D.i1z).trans q
    · exact n1.at fun o q => (sb.2 _ D.i2z).trans q
    · have lt : c < s.heap.objs.size := by
        have hcm' := hcm
        simp only [List.mem_cons, List.not_mem_nil, or_false] at hcm'
        rcases hcm' with rfl | rfl | rfl | rfl | rfl
        · exact lz
        · exact Heap.lt_size zI
        · exact Heap.lt_size zO
        · obtain ⟨_, e1, _⟩ := im; exact Heap.lt_size e1
        · obtain ⟨_, e2, _⟩ := jn; exact Heap.lt_size e2
      rw [upd_ne (Nat.ne_of_lt lt)]
      exact (hf c hcm).1
  done := by
    intro X hP hw hK hc i pins s σ H E I hf st hg
    subst hP hw hK
    obtain ⟨zz, zI, ⟨c0, d0, zO⟩, im, jn⟩ := st
    obtain ⟨us, qu, hend⟩ := hg
    obtain ⟨its, r1, p1, _⟩ := I.list qu
    have l1 := r1.length
    refine mixStop (b := b) (n := n) (I.ok.hd hc) D zz zI zO im p1.isList (by simp; omega) fun g kp => ⟨rfl, I.turnedL (t' := s.toks) (ch := [z, T1, T2, m, n]) (fun c o hb q => ?_) hf⟩
    simp only [List.mem_cons, List.not_mem_nil, or_false, not_or] at hb
    exact kp c o hb.1 hb.2.2.1 hb.2.2.2.1 hb.2.2.2.2 q
  self := fun A i s Q E st h => wpAny_pyIter_zip st.1 h
def iMix (K : PySem.W.Frag) (ta : TA) : TI := fun σ H R => ta σ H fun rs H1 => ∃ a b us vs, rs = [.ref a, .ref b] ∧ SqL K H1 a us ∧ SqT K H1 b vs ∧ R (ItMix K a b) H1
theorem pi_mix {X : Cx} {e e2 : Expr} {ta : TA} {p pos tpos : Pos} {elts : List Expr} {kk : Nat} (hg : Gl X "zip") (hm : X.mg "zip" = none) (ha : PA X [e, e2] ta)
    (hs : starEach [e, e2] X.env = (false, eval e X.env) :: starEach [e2] X.env := by rfl) (hpl : (backTo pos (starEach [e2] X.env)).any (·.1) = false := by rfl) : PI X (.Tuple elts kk tpos) (.Call (.Name "zip" p) [e, e2] [] pos) (iMix X.K ta) := by
  refine ⟨fun pins s σ H R I h => Call_ (ld_blt I hg hm PyProof.Rows.boot_zip (PyProof.Rows.callWith_type1 (thn (ha.run pos pins s σ H _ I h) fun us s1 ⟨vs, H1, I1, r1, q1⟩ => ?_) hs hpl))⟩
  obtain ⟨a, b, xs, ys, rfl, qx, qy, q⟩ := q1
  cases r1 with
  | cons r rr =>
    cases rr with
    | cons r' rr =>
      cases rr
      cases r
      cases r'
      obtain ⟨its, _, p1, _⟩ := I1.list qx
      obtain ⟨jts, _, p2, _⟩ := I1.tuple qy
      obtain ⟨o2, ho2, _⟩ := id p2
      refine mixCall p1.isList p2 fun g zz zI zO im jn kp => wpAny_pyIter_zip zz ?_
      have I2 : Inv X pins σ H1 { s1 with heap := g } := I1.kept (t' := s1.toks) kp
      refine ⟨s1.heap.objs.size + 4, [s1.heap.objs.size + 4, s1.heap.objs.size + 2, s1.heap.objs.size + 3, s1.heap.objs.size, s1.heap.objs.size + 1], _, _, H1, rfl, I2, turnMix (PySem.W.ktu_apart s1.heap.objs.size a b p1.lt (Heap.lt_size ho2)), ⟨zz, zI, ⟨_, _, zO⟩, im, jn⟩, fun c hc => ?_, q⟩
      have le : s1.heap.objs.size ≤ c := by
        simp only [List.mem_cons, List.not_mem_nil, or_false] at hc
        rcases hc with rfl | rfl | rfl | rfl | rfl <;> omega
      exact I1.fpOk le (I1.hok.fresh le)
section
variable {X : Cx} {Γ : Gm} {e e2 : Expr} {l l1 : List Sl} {α : Type} {xs : List α} {f g : α → PyData} {p pos tpos : Pos} {elts : List Expr} {kk : Nat}
theorem two_tup {G : Hp} {u v : V} {x y : PyData} {T : Addr} (h : G T = some (.tup [u, v])) (hu : Is G u x) (hv : Is G v y) : Is G (.ref T) (.tuple [x, y]) := .tup h (.cons hu (.cons hv .nil))
/-- zip of a list and a tuple of one length -/
theorem IX.zipM (B : Bi X.mg) (h : AX X Γ [e, e2] l [.list (xs.map f), .tuple (xs.map g)] l1) (hg : Gl X "zip" := by rfl)
    (hs : starEach [e, e2] X.env = (false, eval e X.env) :: starEach [e2] X.env := by rfl) (hpl : (backTo pos (starEach [e2] X.env)).any (·.1) = false := by rfl) : IX X Γ (.Tuple elts kk tpos) (.Call (.Name "zip" p) [e, e2] [] pos) l (xs.map fun x => .tuple [f x, g x]) l1 :=
  ⟨fun G H σ R hh k => ⟨_, pi_mix hg B.zip pa_w hs hpl, h.run G H σ _ hh fun vs G1 H1 h1 e1 i1 => by
    obtain ⟨u, v, rfl, i2, i3⟩ := i1.inv2
    obtain ⟨a, us, rfl, qa, ia⟩ := i2.lstInv
    obtain ⟨b, ws, rfl, qb, ib⟩ := i3.tupInv
    have sa : ∀ H, Same G1 H → SqL X.K H a us := fun H f => SqL.of (f _ _ qa)
    have sb : ∀ H, Same G1 H → SqT X.K H b ws := fun H f => SqT.of (f _ _ qb)
    have la : us.length = xs.length := by rw [ia.length, List.length_map]
    have lb : ws.length = xs.length := by rw [ib.length, List.length_map]
    refine ⟨a, b, us, ws, rfl, sa _ h1.f, sb _ h1.f, k _ G1 H1 h1 e1 ⟨fun i H f hi => ?_, fun i G2 H x H' f1 f2 hi y => ?_, fun H f => ?_⟩⟩
    · rw [List.length_map] at hi
      exact ⟨us, ws, us[i]'(by omega), ws[i]'(by omega), sa H f, sb H f, List.getElem?_eq_getElem _, List.getElem?_eq_getElem _⟩
    · rw [List.length_map] at hi
      obtain ⟨T, u, v, rfl, hT, rfl, y1, y2⟩ := y
      have z1 := y1 us (sa _ (f1.trans f2))
      have z2 := y2 ws (sb _ (f1.trans f2))
      have hx : xs[i]? = some xs[i] := List.getElem?_eq_getElem hi
      obtain ⟨u', w1, w2⟩ := ia.get (i := i) (d := f xs[i]) (by rw [List.getElem?_map, hx]; rfl)
      obtain ⟨v', w3, w4⟩ := ib.get (i := i) (d := g xs[i]) (by rw [List.getElem?_map, hx]; rfl)
      rw [z1] at w1; rw [z2] at w3
      cases w1; cases w3
      have gn : Same G2 (upd G2 T (.tup [u, v])) := Same.new (f2.free hT)
      exact ⟨upd G2 T (.tup [u, v]), _, by rw [List.getElem?_map, hx]; rfl, Grow.laid f2 hT, two_tup upd_same (w2.mono (f1.trans gn)) (w4.mono (f1.trans gn))⟩
    · rw [List.length_map]
      exact ⟨us, sa H f, by omega⟩⟩⟩
/-- zip of two tuples of one length -/
theorem IX.zipT (B : Bi X.mg) (h : AX X Γ [e, e2] l [.tuple (xs.map f), .tuple (xs.map g)] l1) (hg : Gl X "zip" := by rfl)
    (hs : starEach [e, e2] X.env = (false, eval e X.env) :: starEach [e2] X.env := by rfl) (hpl : (backTo pos (starEach [e2] X.env)).any (·.1) = false := by rfl) : IX X Γ (.Tuple elts kk tpos) (.Call (.Name "zip" p) [e, e2] [] pos) l (xs.map fun x => .tuple [f x, g x]) l1 :=
  ⟨fun G H σ R hh k => ⟨_, RZ.pi_zipA hg B.zip pa_w hs hpl, h.run G H σ _ hh fun vs G1 H1 h1 e1 i1 => by
    obtain ⟨u, v, rfl, i2, i3⟩ := i1.inv2
    obtain ⟨a, us, rfl, qa, ia⟩ := i2.tupInv
    obtain ⟨b, ws, rfl, qb, ib⟩ := i3.tupInv
    have sa : ∀ H, Same G1 H → SqT X.K H a us := fun H f => SqT.of (f _ _ qa)
    have sb : ∀ H, Same G1 H → SqT X.K H b ws := fun H f => SqT.of (f _ _ qb)
    have la : us.length = xs.length := by rw [ia.length, List.length_map]
    have lb : ws.length = xs.length := by rw [ib.length, List.length_map]
    refine ⟨a, b, us, ws, rfl, .inr ⟨sa _ h1.f, sb _ h1.f, k _ G1 H1 h1 e1 ⟨fun i H f hi => ?_, fun i G2 H x H' f1 f2 hi y => ?_, fun H f => ?_⟩⟩⟩
    · rw [List.length_map] at hi
      exact ⟨us, ws, us[i]'(by omega), ws[i]'(by omega), sa H f, sb H f, List.getElem?_eq_getElem _, List.getElem?_eq_getElem _⟩
    · rw [List.length_map] at hi
      obtain ⟨T, u, v, rfl, hT, rfl, y1, y2⟩ := y
      have z1 := y1 us (sa _ (f1.trans f2))
      have z2 := y2 ws (sb _ (f1.trans f2))
      have hx : xs[i]? = some xs[i] := List.getElem?_eq_getElem hi
      obtain ⟨u', w1, w2⟩ := ia.get (i := i) (d := f xs[i]) (by rw [List.getElem?_map, hx]; rfl)
      obtain ⟨v', w3, w4⟩ := ib.get (i := i) (d := g xs[i]) (by rw [List.getElem?_map, hx]; rfl)
      rw [z1] at w1; rw [z2] at w3
      cases w1; cases w3
      have gn : Same G2 (upd G2 T (.tup [u, v])) := Same.new (f2.free hT)
      exact ⟨upd G2 T (.tup [u, v]), _, by rw [List.getElem?_map, hx]; rfl, Grow.laid f2 hT, two_tup upd_same (w2.mono (f1.trans gn)) (w4.mono (f1.trans gn))⟩
    · rw [List.length_map]
      exact ⟨us, ws, sa H f, sb H f, .inl (by omega)⟩⟩⟩
end
theorem ix0 {x : PyData} {ds : List PyData} : ixD (.tuple (x :: ds)) 0 = some x := atI_nat' (j := 0) rfl
end TG
namespace TG
open PySem L2 PyProof.Rows
section
variable {X : Cx} {Γ : Gm} {N : List Str} {own vis : List Nat} {e tg : Expr} {es : List Expr} {l l' : List Sl} {d : PyData} {is : List Nat} {ds : List PyData} {b : Bool}
/-- a block's scope as it stands in the def's -/
def relS (scope sc : Scope) : Scope := { scope with names := scope.names.map fun (n, k) => if (k == .free && sc.kind == .function && sc.names.lookup n == some .cell) then (n, .cell) else (n, k) }
theorem EX.inB {scope : Scope} {s : Shared} {H : Hp} {C : Addr} {cl : List (Str × Addr)} {fp : List Addr} {sc : Scope} (eN : X.N = N) (nd : N.Nodup) (eS : X.env.scope = sc) (h : tabVC N (relS scope sc) own vis = true) (k : TabV (bk X scope s H C cl fp) N own vis → EX (bk X scope s H C cl fp) Γ e l d l') : EX (bk X scope s H C cl fp) Γ e l d l' := k (tabV_of eN nd (by subst eS; exact h))
theorem GX.inB {scope : Scope} {s : Shared} {H : Hp} {C : Addr} {cl : List (Str × Addr)} {fp : List Addr} {sc : Scope} (eN : X.N = N) (nd : N.Nodup) (eS : X.env.scope = sc) (h : tabVC N (relS scope sc) own vis = true) (k : TabV (bk X scope s H C cl fp) N own vis → GX (bk X scope s H C cl fp) tg d is ds) : GX (bk X scope s H C cl fp) tg d is ds := k (tabV_of eN nd (by subst eS; exact h))
theorem TsX.inB {scope : Scope} {s : Shared} {H : Hp} {C : Addr} {cl : List (Str × Addr)} {fp : List Addr} {sc : Scope} (eN : X.N = N) (nd : N.Nodup) (eS : X.env.scope = sc) (h : tabVC N (relS scope sc) own vis = true) (k : TabV (bk X scope s H C cl fp) N own vis → TsX (bk X scope s H C cl fp) Γ es l b) : TsX (bk X scope s H C cl fp) Γ es l b := k (tabV_of eN nd (by subst eS; exact h))
/-- without tests -/
theorem EL.lcA {α : Type} {xs : List α} {en : α → PyData} {tv : α → List PyData} {elt iter : Expr} {scope : Scope} {ow : List (Str × Nat)} {pos : Pos} {l1 : List Sl} (f : α → PyData) (hc : X.calm = true) (hN : X.N.Nodup) (ok : BlkOk X.N X.env.scope scope ow) (hi : IX X Γ tg iter l (xs.map en) l1) (hin : ∀ i ∈ is, i ∈ ow.map (·.2))
    (hg : ∀ s H C cl fp, ∀ x ∈ xs, GX (bk X scope s H C cl fp) tg (en x) is (tv x))
    (he : ∀ s H C cl fp Γ', ∀ x ∈ xs, EX (bk X scope s H C cl fp) Γ' elt (setA (wipeL l1 (ow.map (·.2))) is ((tv x).map .dat)) (f x) (setA (wipeL l1 (ow.map (·.2))) is ((tv x).map .dat)))
    (hz : xs.length ≤ 1000000) (hs : ∀ x, foldedSetIterable iter X.env x = pure x := by intro _; rfl) : EL X Γ (.ListComp elt [⟨tg, iter, [], 0⟩] scope pos) l (xs.map f) l1 := by
  have h := EL.lc (fun _ => true) f hc hN ok hi hin hg (fun _ _ _ _ _ _ _ _ => TsX.nil) (fun s H C cl fp Γ' x hx _ => he s H C cl fp Γ' x hx) hz hs (pos := pos)
  rwa [List.filter_eq_self.mpr fun _ _ => rfl] at h
theorem SX.setLcA {O : Out} {py : Pos} {α : Type} {xs : List α} {en : α → PyData} {tv : α → List PyData} {elt iter : Expr} {scope : Scope} {ow : List (Str × Nat)} {pos : Pos} {l1 : List Sl} {i : Nat} {y : Str} (f : α → PyData) (hc : X.calm = true) (hN : X.N.Nodup) (hy : X.N[i]? = some y) (hyl : X.env.scope.names.lookup y = some .local) {spos : Pos}
    (hsw : swapsWith (.ListComp elt [⟨tg, iter, [], 0⟩] scope pos) (some (.Name y py)) spos.line X.env = pure true) (ok : BlkOk X.N X.env.scope scope ow) (hi : IX X Γ tg iter l (xs.map en) l1) (hin : ∀ i ∈ is, i ∈ ow.map (·.2))
    (hg : ∀ s H C cl fp, ∀ x ∈ xs, GX (bk X scope s H C cl fp) tg (en x) is (tv x))
    (he : ∀ s H C cl fp Γ', ∀ x ∈ xs, EX (bk X scope s H C cl fp) Γ' elt (setA (wipeL l1 (ow.map (·.2))) is ((tv x).map .dat)) (f x) (setA (wipeL l1 (ow.map (·.2))) is ((tv x).map .dat)))
    (hz : xs.length ≤ 1000000) (h : O.nx (l1.set i (.own (xs.map f)))) (hs : ∀ x, foldedSetIterable iter X.env x = pure x := by intro _; rfl) : SX X Γ (.Assign [.Name y py] (.ListComp elt [⟨tg, iter, [], 0⟩] scope pos) spos) l O := by
  refine SX.setLc (fun _ => true) f hc hN hy hyl hsw ok hi hin hg (fun _ _ _ _ _ _ _ _ => TsX.nil) (fun s H C cl fp Γ' x hx _ => he s H C cl fp Γ' x hx) hz ?_ hs
  rwa [List.filter_eq_self.mpr fun _ _ => rfl]
def itemsD : PyData → List PyData
  | .tuple ds => ds
  | _ => []
theorem GX.tupM {α : Type} {xs : List α} {f : α → List PyData} {n : Nat} {k : Nat} {pos : Pos} (hc : X.calm = true) (h : GsX X es is) (hf : ∀ x, (f x).length = is.length) (hn : (assignEach es X.env).length = is.length := by rfl) (hst : (assignEach es X.env).findIdx? (·.1) = none := by rfl) :
    ∀ d ∈ xs.map (fun x => PyData.tuple (f x)), GX X (.Tuple es k pos) d is (itemsD d) := fun d hd => by
  obtain ⟨x, _, rfl⟩ := List.mem_map.mp hd
  exact GX.tup hc h (hf x) hn hst
end
end TG

/-! TgY: sizes; further rules -/
namespace TG
open PySem L2 PyProof.Rows
theorem le_size {n : Nat} (h : n ≤ 1000000) : n ≤ sizeLine := Nat.le_trans h (by decide)
end TG

/-! TgS: scopes -/
namespace TG
open PySem L2 PyProof.Rows

theorem nodup_le {α : Type} [DecidableEq α] : ∀ {xs ys : List α}, xs.Nodup → (∀ x ∈ xs, x ∈ ys) → xs.length ≤ ys.length
  | [], _, _, _ => Nat.zero_le _
  | x :: xs, ys, nd, h => by
    rw [List.nodup_cons] at nd
    have hm : x ∈ ys := h x (by simp)
    have := nodup_le (xs := xs) (ys := ys.erase x) nd.2 fun y hy => (List.mem_erase_of_ne (fun e => nd.1 (by rw [← e]; exact hy))).mpr (h y (by simp [hy]))
    rw [List.length_erase_of_mem hm] at this
    have := List.length_pos_of_mem hm
    rw [List.length_cons]; omega
section
variable {G H : Hp} {c : Addr} {f : Key → Option PyData} {dom : List Key}
theorem DkAt.get (h : DkAt G H c f dom) (k : Key) : ∃ ws, H c = some (.dK ws) ∧ ws.length ≤ dom.length ∧ ((valV ws k = none ∧ f k = none) ∨ ∃ v d, valV ws k = some v ∧ f k = some d ∧ Is G v d) := by
  obtain ⟨ws, kvs, h1, h2, h3, h4, h5⟩ := h
  refine ⟨ws, h1, ?_, ?_⟩
  · have := nodup_le h4 h5
    rw [List.length_map] at this
    rw [h2.len]; exact this
  · rw [← h3 k]; exact h2.val k
theorem mem_putD {kvs : List (Key × PyData)} {key k : Key} {d : PyData} (h : k ∈ (putD kvs key d).map (·.1)) : k ∈ kvs.map (·.1) ∨ k = key := by
  unfold putD at h
  split at h
  · rw [List.map_map] at h
    obtain ⟨kv, h1, h2⟩ := List.mem_map.mp h
    refine .inl (List.mem_map.mpr ⟨kv, h1, ?_⟩)
    simp only [Function.comp_apply] at h2
    split at h2 <;> exact h2
  · rw [List.map_append] at h
    rcases List.mem_append.mp h with h | h
    · exact .inl h
    · exact .inr (by simpa using h)
theorem nodup_putD {kvs : List (Key × PyData)} {key : Key} {d : PyData} (h : (kvs.map (·.1)).Nodup) : ((putD kvs key d).map (·.1)).Nodup := by
  unfold putD
  split
  · rw [List.map_map]
    have : kvs.map ((fun x => x.1) ∘ fun kv => if kv.1 = key then (kv.1, d) else kv) = kvs.map (·.1) := by
      refine List.map_congr_left fun kv _ => ?_
      simp only [Function.comp_apply]
      split <;> rfl
    rw [this]; exact h
  · rename_i hx
    rw [List.map_append, List.nodup_append]
    refine ⟨h, by simp, fun a ha b hb e => hx ?_⟩
    have hb : b = key := by simpa using hb
    subst hb e
    rw [List.any_eq_true]
    obtain ⟨kv, h1, h2⟩ := List.mem_map.mp ha
    exact ⟨kv, h1, by simpa using h2⟩
theorem DkAt.put {ws : List (Key × V)} (h : DkAt G H c f dom) (hc : H c = some (.dK ws)) {key : Key} (hk : key ∈ dom) {v : V} {d : PyData} (r : Is G v d) :
    DkAt G (upd H c (.dK (putK ws key v))) c (fun k => if k = key then some d else f k) dom := by
  obtain ⟨ws', kvs, h1, h2, h3, h4, h5⟩ := h
  rw [hc] at h1
  cases h1
  refine ⟨_, putD kvs key d, upd_same, h2.put r, fun k => ?_, nodup_putD h4, fun k hm => ?_⟩
  · show valD _ _ = if k = key then some d else f k
    rw [valD_put]
    by_cases e : k = key
    · rw [if_pos e, if_pos e]
    · rw [if_neg e, if_neg e]; exact h3 k
  · rcases mem_putD hm with z | z
    · exact h5 k z
    · rw [z]; exact hk
end

/-! ### the state with a scope -/
section
variable {Γ : Gm} {F : Nat → List Addr} {G H G' H' : Hp} {σ : L2.St} {l : List Sl} {i : Nat} {st : Sco}
theorem HoldF.scAt (h : HoldF Γ F G H σ l) (e : l[i]? = some (.sc st)) : F i = [st.p, st.b, st.c] ∧ σ[i]? = some (some (.ref st.p)) ∧ ScoAt G H st := by
  obtain ⟨s, h1, h2, h3, h4⟩ := h.at_ i _ e
  exact ⟨h2, by rw [h1, h3], h4⟩
theorem HoldF.obAt {k : Nat} (h : HoldF Γ F G H σ l) (e : l[i]? = some (.ob st k)) : σ[i]? = some (some (.ref st.p)) ∧ ObAt G H st (F i) k := by
  obtain ⟨s, h1, h3, h4⟩ := h.at_ i _ e
  exact ⟨by rw [h1, h3], h4⟩
/-- the slot's objects fs were written, some of them new -/
theorem HoldF.rew (h : HoldF Γ F G H σ l) {fs : List Addr} {sl sl0 : Sl} (k : ∀ a, a ∉ fs → H' a = H a) (t : ∀ a, a ∈ fs → H' a ≠ none) (old : ∀ a, a ∈ fs → a ∈ F i ∨ H a = none) (r : ∀ s, σ[i]? = some s → SlOk G H' s fs sl) (hi : l[i]? = some sl0) (en : sl.isNew = false) (sub : ∀ a, a ∈ F i → a ∈ fs) :
    Hold Γ G H' σ (l.set i sl) := by
  have hil : i < l.length := (List.getElem?_eq_some_iff.mp hi).1
  have gone : ∀ a, H a = none → Γ.H a = none ∧ G a = none := fun a q => ⟨by
    cases z : Γ.H a with
    | none => rfl
    | some u => exact absurd q (h.fx.s a (some_ne z)), h.fx.f.free q⟩
  have fsG : ∀ a, a ∈ fs → G a = none ∧ (Γ.H a = none ∨ Γ.B a) := fun a ha => by
    rcases old a ha with z | z
    · exact ⟨(h.own i a z).1, (h.own i a z).2.1⟩
    · exact ⟨(gone a z).2, .inl (gone a z).1⟩
  have fsF : ∀ j a, j ≠ i → a ∈ F j → a ∉ fs := fun j a hj ha hm => by
    rcases old a hm with z | z
    · exact hj (h.dis j i a ha z)
    · exact (h.own j a ha).2.2 z
  refine ⟨fun j => if j = i then fs else F j, ⟨h.fx.g, fun a u q => ?_, fun a u q1 q2 => ?_, fun a q => ?_, h.fx.n⟩, by rw [List.length_set]; exact h.len, fun j sl' e => ?_, fun j j' a q1 q2 => ?_, fun j a q => ?_, fun z j sl' e en' a ha => ?_⟩
  · rw [k a fun hm => by rw [(fsG a hm).1] at q; cases q]; exact h.fx.f a u q
  · have : a ∉ fs := fun hm => by
      rcases (fsG a hm).2 with z | z
      · rw [z] at q1; cases q1
      · exact q2 z
    rw [k a this]; exact h.fx.h a u q1 q2
  · by_cases hm : a ∈ fs
    · exact t a hm
    · rw [k a hm]; exact h.fx.s a q
  · by_cases hj : j = i
    · subst hj
      rw [List.getElem?_set_self hil] at e
      cases e
      have hs : j < σ.length := by rw [h.len]; exact hil
      exact ⟨σ[j], List.getElem?_eq_getElem hs, by rw [if_pos rfl]; exact r _ (List.getElem?_eq_getElem hs)⟩
    · rw [List.getElem?_set_ne (Ne.symm hj)] at e
      obtain ⟨s, h1, h2⟩ := h.at_ j sl' e
      exact ⟨s, h1, by rw [if_neg hj]; exact h2.frame (Same.refl _) fun a ha => k a (fsF j a hj ha)⟩
  · by_cases hj : j = i
    · by_cases hj' : j' = i
      · rw [hj, hj']
      · rw [if_pos hj] at q1; rw [if_neg hj'] at q2; exact absurd q1 (fsF j' a hj' q2)
    · by_cases hj' : j' = i
      · rw [if_neg hj] at q1; rw [if_pos hj'] at q2; exact absurd q2 (fsF j a hj q1)
      · rw [if_neg hj] at q1; rw [if_neg hj'] at q2; exact h.dis j j' a q1 q2
  · by_cases hj : j = i
    · rw [if_pos hj] at q
      exact ⟨(fsG a q).1, (fsG a q).2, t a q⟩
    · rw [if_neg hj] at q
      obtain ⟨h1, h2, h3⟩ := h.own j a q
      exact ⟨h1, h2, by rw [k a (fsF j a hj q)]; exact h3⟩
  · by_cases hj : j = i
    · subst hj
      rw [List.getElem?_set_self hil] at e
      cases e
      rw [en] at en'; cases en'
    · rw [if_neg hj] at ha
      rw [List.getElem?_set_ne (Ne.symm hj)] at e
      exact h.new z j sl' e en' a ha
/-- behind what touches the scope alone -/
theorem HoldF.scDone {k' : Key → Option PyData} (h : HoldF Γ F G H σ l) (e : l[i]? = some (.sc st)) (x : Fx ⟨fun a => a = st.p ∨ a = st.b ∨ a = st.c, G, H, true⟩ G' H') (r : ScoAt G' H' { st with kinds := k' }) : Hold Γ G' H' σ (l.set i (.sc { st with kinds := k' })) := by
  obtain ⟨hF, hs, _⟩ := h.scAt e
  have hil : i < l.length := (List.getElem?_eq_some_iff.mp e).1
  have mem : ∀ a, (a = st.p ∨ a = st.b ∨ a = st.c) → a ∈ F i := fun a ha => by rw [hF]; rcases ha with rfl | rfl | rfl <;> simp
  have kp : ∀ j a, j ≠ i → a ∈ F j → H' a = H a := fun j a hj ha => by
    obtain ⟨o, q⟩ := ne_some (h.own j a ha).2.2
    rw [q]; exact x.h a o q fun z => hj (h.dis j i a ha (mem a z))
  refine ⟨F, ⟨h.fx.g.trans x.g, x.f, fun a u q1 q2 => ?_, fun a q => x.s a (h.fx.s a q), fun a q1 q2 => x.n a (h.fx.n a q1 q2) (h.fx.s a q2)⟩, by rw [List.length_set]; exact h.len, fun j sl' e' => ?_, h.dis, fun j a q => ?_, fun z j sl' e' en' a ha => ?_⟩
  · refine x.h a u (h.fx.h a u q1 q2) fun z => ?_
    rcases (h.own i a (mem a z)).2.1 with y | y
    · rw [y] at q1; cases q1
    · exact q2 y
  · by_cases hj : j = i
    · subst hj
      rw [List.getElem?_set_self hil] at e'
      cases e'
      exact ⟨_, hs, hF, rfl, r⟩
    · rw [List.getElem?_set_ne (Ne.symm hj)] at e'
      obtain ⟨s, h1, h2⟩ := h.at_ j sl' e'
      exact ⟨s, h1, h2.frame x.g fun a ha => kp j a hj ha⟩
  · obtain ⟨h1, h2, h3⟩ := h.own j a q
    exact ⟨x.n a h1 h3, h2, x.s a h3⟩
  · by_cases hj : j = i
    · subst hj
      rw [List.getElem?_set_self hil] at e'
      cases e'; cases en'
    · rw [List.getElem?_set_ne (Ne.symm hj)] at e'
      exact h.new z j sl' e' en' a ha
end

/-- the class's facts -/
structure ScC (K : PySem.W.Frag) (C : Addr) : Prop where
  cls : Cls K C
  nP : NoAttr K C "door_papers"
  nR : NoAttr K C "result_kind"
  nW : NoAttr K C "name_ways"
  nK : NoAttr K C "name_kinds"
section
variable {X : Cx} {Γ : Gm} {N : List Str} {m i : Nat} {n f g : String} {pos p p2 p3 apos cpos : Pos} {a b e : Expr} {l l1 l2 : List Sl} {d : PyData} {O : Out} {st : Sco} {key : Key}
theorem EX.scRes (c : ScC X.K st.C) (T : Tab X N m) (hA : At N i n) (hi : i < m) (hf : f = "result_kind") (q : l[i]? = some (.sc st)) (hb : attributeBase (.Name (Str.ofString n) p) (Str.ofString f) X.env (eval (.Name (Str.ofString n) p) X.env) = eval (.Name (Str.ofString n) p) X.env := by rfl) :
    EX X Γ (.Attribute (.Name (Str.ofString n) p) (Str.ofString f) pos) l st.res l := ⟨fun G H σ Q hh kk => by
  subst hf
  obtain ⟨F, hF⟩ := id hh
  obtain ⟨_, hs, _, _, _, ⟨dx, a, v, h1, h2, h3⟩, _⟩ := hF.scAt q
  exact ⟨_, pe_fld (pe_var (T.at_ hA) (T.vis hA hi) (T.dbg i _ hi hA.get).1 (T.dbg i _ hi hA.get).2) hb, .ref st.p, hs, st.p, st.C, dx, _, v, rfl, h1, c.cls, c.nR, rfl, kk v G H hh (Same.refl _) h3⟩⟩
theorem EX.scPapers (c : ScC X.K st.C) (T : Tab X N m) (hA : At N i n) (hi : i < m) (hf : f = "door_papers") (q : l[i]? = some (.sc st)) (hb : attributeBase (.Name (Str.ofString n) p) (Str.ofString f) X.env (eval (.Name (Str.ofString n) p) X.env) = eval (.Name (Str.ofString n) p) X.env := by rfl) :
    EX X Γ (.Attribute (.Name (Str.ofString n) p) (Str.ofString f) pos) l st.papers l := ⟨fun G H σ Q hh kk => by
  subst hf
  obtain ⟨F, hF⟩ := id hh
  obtain ⟨_, hs, _, _, _, ⟨dx, a, v, h1, h2, h3⟩, _⟩ := hF.scAt q
  exact ⟨_, pe_fld (pe_var (T.at_ hA) (T.vis hA hi) (T.dbg i _ hi hA.get).1 (T.dbg i _ hi hA.get).2) hb, .ref st.p, hs, st.p, st.C, dx, _, .ref a, rfl, h1, c.cls, c.nP, rfl, kk _ G H hh (Same.refl _) h2⟩⟩
/-- a in self.name_kinds -/
theorem TX.scIn (hu : X.A.units + 1 < cLine) (c : ScC X.K st.C) (T : Tab X N m) (hA : At N i n) (hi : i < m) (hf : f = "name_kinds") (ha : EX X Γ a l (kD key) l1) (q : l1[i]? = some (.sc st)) (hb : attributeBase (.Name (Str.ofString n) p) (Str.ofString f) X.env (eval (.Name (Str.ofString n) p) X.env) = eval (.Name (Str.ofString n) p) X.env := by rfl)
    (hm : behindInMarks .In (.Attribute (.Name (Str.ofString n) p) (Str.ofString f) p2) = false := by rfl) : TX X Γ (.Compare a [.In] [.Attribute (.Name (Str.ofString n) p) (Str.ofString f) p2] pos) l (st.kinds key).isSome l1 := ⟨fun G H σ Q hh kk => by
  subst hf
  refine ⟨_, pt_cmp (pc_din hu pe_w (pe_fld (pe_var (T.at_ hA) (T.vis hA hi) (T.dbg i _ hi hA.get).1 (T.dbg i _ hi hA.get).2) hb)) hm, ?_⟩
  refine ha.run G H σ _ hh fun v G1 H1 h1 e1 i1 => ?_
  obtain ⟨F, hF⟩ := id h1
  obtain ⟨_, hs, _, _, _, ⟨dx, a, v, g1, g2, g3⟩, _, g5⟩ := hF.scAt q
  obtain ⟨ws, r1, _, r2⟩ := g5.get key
  rw [i1.key]
  refine ⟨.ref st.p, hs, st.p, st.C, dx, _, .ref st.c, rfl, g1, c.cls, c.nK, rfl, st.c, _, rfl, DGet.k (k := key) r1, _, rfl, ?_⟩
  have e : (valV ws key).isSome = (st.kinds key).isSome := by
    rcases r2 with ⟨h1, h2⟩ | ⟨v, d, h1, h2, h3⟩ <;> rw [h1, h2] <;> rfl
  rw [e]
  exact kk G1 H1 h1 e1⟩
theorem EX.scIn (hu : X.A.units + 1 < cLine) (c : ScC X.K st.C) (T : Tab X N m) (hA : At N i n) (hi : i < m) (hf : f = "name_kinds") (ha : EX X Γ a l (kD key) l1) (q : l1[i]? = some (.sc st)) (hb : attributeBase (.Name (Str.ofString n) p) (Str.ofString f) X.env (eval (.Name (Str.ofString n) p) X.env) = eval (.Name (Str.ofString n) p) X.env := by rfl)
    (hm : behindInMarks .In (.Attribute (.Name (Str.ofString n) p) (Str.ofString f) p2) = false := by rfl) : EX X Γ (.Compare a [.In] [.Attribute (.Name (Str.ofString n) p) (Str.ofString f) p2] pos) l (.bool (st.kinds key).isSome) l1 := ⟨fun G H σ Q hh kk => by
  subst hf
  refine ⟨_, pe_cmp (pc_din hu pe_w (pe_fld (pe_var (T.at_ hA) (T.vis hA hi) (T.dbg i _ hi hA.get).1 (T.dbg i _ hi hA.get).2) hb)) hm, ?_⟩
  refine ha.run G H σ _ hh fun v G1 H1 h1 e1 i1 => ?_
  obtain ⟨F, hF⟩ := id h1
  obtain ⟨_, hs, _, _, _, ⟨dx, a, v, g1, g2, g3⟩, _, g5⟩ := hF.scAt q
  obtain ⟨ws, r1, _, r2⟩ := g5.get key
  rw [i1.key]
  refine ⟨.ref st.p, hs, st.p, st.C, dx, _, .ref st.c, rfl, g1, c.cls, c.nK, rfl, st.c, _, rfl, DGet.k (k := key) r1, ?_⟩
  have e : (valV ws key).isSome = (st.kinds key).isSome := by
    rcases r2 with ⟨h1, h2⟩ | ⟨v, d, h1, h2, h3⟩ <;> rw [h1, h2] <;> rfl
  rw [e]
  exact kk _ G1 H1 h1 e1 (.bl _)⟩
/-- self.name_kinds[b] -/
theorem EX.scKind (hu : X.A.units + 1 < cLine) (c : ScC X.K st.C) (T : Tab X N m) (hA : At N i n) (hi : i < m) (hf : f = "name_kinds") (hx : EX X Γ b l (kD key) l) (q : l[i]? = some (.sc st)) (hd : st.kinds key = some d) (hb : attributeBase (.Name (Str.ofString n) p) (Str.ofString f) X.env (eval (.Name (Str.ofString n) p) X.env) = eval (.Name (Str.ofString n) p) X.env := by rfl)
    (hs : NoSl b := by intro _ _; rfl) : EX X Γ (.Subscript (.Attribute (.Name (Str.ofString n) p) (Str.ofString f) p2) b pos) l d l := ⟨fun G H σ Q hh kk => by
  subst hf
  refine ⟨_, pe_dget hu (pe_fld (pe_var (T.at_ hA) (T.vis hA hi) (T.dbg i _ hi hA.get).1 (T.dbg i _ hi hA.get).2) hb) pe_w hs, ?_⟩
  obtain ⟨F0, hF0⟩ := id hh
  obtain ⟨_, hs0, _, _, _, ⟨dx0, a0, v0, g1, g2, g3⟩, _⟩ := hF0.scAt q
  refine ⟨.ref st.p, hs0, st.p, st.C, dx0, _, .ref st.c, rfl, g1, c.cls, c.nK, rfl, hx.run G H σ _ hh fun v G1 H1 h1 e1 i1 => ?_⟩
  obtain ⟨F, hF⟩ := id h1
  obtain ⟨_, hs, _, _, _, ⟨dx, a, v, g1, g2, g3⟩, _, g5⟩ := hF.scAt q
  obtain ⟨ws, r1, _, r2⟩ := g5.get key
  rw [i1.key]
  rcases r2 with ⟨h1', h2⟩ | ⟨u, d', h1', h2, h3⟩
  · rw [hd] at h2; cases h2
  · rw [hd] at h2; cases h2
    exact ⟨st.c, u, rfl, by rw [← h1']; exact DGet.k (k := key) r1, kk u G1 H1 h1 e1 h3⟩⟩
/-- self.name_ways.get(b) -/
theorem EX.scWay (hu : X.A.units + 1 < cLine) (c : ScC X.K st.C) (T : Tab X N m) (hA : At N i n) (hi : i < m) (hf : f = "name_ways") (hg : g = "get") (hx : EX X Γ b l (kD key) l) (q : l[i]? = some (.sc st)) (hb : attributeBase (.Name (Str.ofString n) p) (Str.ofString f) X.env (eval (.Name (Str.ofString n) p) X.env) = eval (.Name (Str.ofString n) p) X.env := by rfl)
    (m1 : M1 X (.Attribute (.Name (Str.ofString n) p) (Str.ofString f) p2) (Str.ofString g) apos b cpos := by exact ⟨rfl, rfl, rfl, rfl⟩) : EX X Γ (.Call (.Attribute (.Attribute (.Name (Str.ofString n) p) (Str.ofString f) p2) (Str.ofString g) apos) [b] [] cpos) l ((st.ways key).getD .none) l := ⟨fun G H σ Q hh kk => by
  subst hf hg
  refine ⟨_, pe_dget1 hu (pe_fld (pe_var (T.at_ hA) (T.vis hA hi) (T.dbg i _ hi hA.get).1 (T.dbg i _ hi hA.get).2) hb) pe_w m1, ?_⟩
  obtain ⟨F0, hF0⟩ := id hh
  obtain ⟨_, hs0, _, _, _, ⟨dx0, a0, v0, g1, g2, g3⟩, g4, _⟩ := hF0.scAt q
  obtain ⟨ws0, r0, _⟩ := g4.get key
  refine ⟨.ref st.p, hs0, st.p, st.C, dx0, _, .ref st.b, rfl, g1, c.cls, c.nW, rfl, st.b, rfl, .inl ⟨_, .inl r0⟩, hx.run G H σ _ hh fun v G1 H1 h1 e1 i1 => ?_⟩
  obtain ⟨F, hF⟩ := id h1
  obtain ⟨_, hs, _, _, _, ⟨dx, a, v, g1, g2, g3⟩, g5, _⟩ := hF.scAt q
  obtain ⟨ws, r1, _, r2⟩ := g5.get key
  rw [i1.key]
  refine ⟨_, DGet.k (k := key) r1, ?_⟩
  rcases r2 with ⟨h1', h2⟩ | ⟨u, d', h1', h2, h3⟩
  · rw [h1']
    rw [h2] at kk
    exact kk _ G1 H1 h1 e1 .non
  · rw [h1']
    rw [h2] at kk
    exact kk _ G1 H1 h1 e1 h3⟩
def setdS (st : Sco) (key : Key) (d : PyData) : Sco := match st.kinds key with
  | some _ => st
  | none => { st with kinds := fun k => if k = key then some d else st.kinds k }
/-- self.name_kinds.setdefault(b, e) -/
theorem EX.scSetd (c : ScC X.K st.C) (T : Tab X N m) (hA : At N i n) (hi : i < m) (hf : f = "name_kinds") (hg : g = "setdefault") (hx : EX X Γ b l (kD key) l) (he : EX X Γ e l d l) (q : l[i]? = some (.sc st)) (hk : key ∈ st.dom) (hdom : st.dom.length < 1000000) (hb : attributeBase (.Name (Str.ofString n) p) (Str.ofString f) X.env (eval (.Name (Str.ofString n) p) X.env) = eval (.Name (Str.ofString n) p) X.env := by rfl)
    (m2 : M2 X (.Attribute (.Name (Str.ofString n) p) (Str.ofString f) p2) (Str.ofString g) apos b e cpos := by exact ⟨rfl, rfl, rfl, rfl⟩) : EX X Γ (.Call (.Attribute (.Attribute (.Name (Str.ofString n) p) (Str.ofString f) p2) (Str.ofString g) apos) [b, e] [] cpos) l ((st.kinds key).getD d) (l.set i (.sc (setdS st key d))) := ⟨fun G H σ Q hh kk => by
  subst hf hg
  refine ⟨_, pe_dsetd (pe_fld (pe_var (T.at_ hA) (T.vis hA hi) (T.dbg i _ hi hA.get).1 (T.dbg i _ hi hA.get).2) hb) pe_w pe_w m2, ?_⟩
  obtain ⟨F0, hF0⟩ := id hh
  obtain ⟨_, hs0, _, _, _, ⟨dx0, a0, v0, g1, g2, g3⟩, _, g4⟩ := hF0.scAt q
  obtain ⟨ws0, r0, _⟩ := g4.get key
  refine ⟨.ref st.p, hs0, st.p, st.C, dx0, _, .ref st.c, rfl, g1, c.cls, c.nK, rfl, st.c, rfl, .inl ⟨_, .inl r0⟩, hx.run G H σ _ hh fun v G1 H1 h1 e1 i1 => ?_⟩
  refine he.run G1 H1 σ _ h1 fun w G2 H2 h2 e2 i2 => ?_
  obtain ⟨F, hF⟩ := id h2
  obtain ⟨hFi, hs, n1, n2, n3, ⟨dx, a, v', q1, q2, q3⟩, q4, q5⟩ := hF.scAt q
  obtain ⟨ws, r1, rl, r2⟩ := q5.get key
  rw [i1.key]
  refine ⟨ws, key, r1, rfl, Nat.lt_of_le_of_lt rl (Nat.lt_of_lt_of_le hdom (by decide)), fun u hu => ?_, fun hn => ?_⟩
  · rcases r2 with ⟨h1', h2'⟩ | ⟨u', d', h1', h2', h3⟩
    · rw [hu] at h1'; cases h1'
    · rw [hu] at h1'; cases h1'
      rw [h2'] at kk
      have es : setdS st key d = st := by unfold setdS; rw [h2']
      rw [es] at kk
      have el : l.set i (.sc st) = l := by
        refine List.ext_getElem? fun j => ?_
        by_cases hj : j = i
        · subst hj; rw [List.getElem?_set_self (List.getElem?_eq_some_iff.mp q).1, q]
        · rw [List.getElem?_set_ne (Ne.symm hj)]
      rw [el] at kk
      exact kk u G2 H2 h2 (e1.trans e2) h3
  · rcases r2 with ⟨h1', h2'⟩ | ⟨u', d', h1', h2', h3⟩
    · have es : setdS st key d = { st with kinds := fun k => if k = key then some d else st.kinds k } := by unfold setdS; rw [h2']
      rw [h2', es] at kk
      refine kk w G2 _ (hF.rew (i := i) (fs := F i) (fun a ha => upd_ne fun z => ha (by rw [hFi, z]; simp)) (fun a ha => ?_) (fun a ha => .inl ha) (fun s hs' => ?_) q rfl fun a ha => ha) (e1.trans e2) i2
      · by_cases z : a = st.c
        · subst z; rw [upd_same]; exact fun z => by cases z
        · rw [upd_ne z]; exact (hF.own i a ha).2.2
      · rw [hs] at hs'
        cases hs'
        exact ⟨hFi, rfl, n1, n2, n3, ⟨dx, a, v', by rw [upd_ne n2]; exact q1, q2, q3⟩, q4.frame (Same.refl _) (upd_ne n3), q5.put r1 hk i2⟩
    · rw [hn] at h1'; cases h1'⟩
end

/-! ### defs and methods with a scope -/
def spS (R : Sco → List PyData → PyData → (Key → Option PyData) → Prop) : Sp := fun vs H Q _ => ∃ (G : Hp) (st : Sco) (us : List V) (ds : List PyData) (d : PyData) (k' : Key → Option PyData), vs = .ref st.p :: us ∧ R st ds d k' ∧ Same G H ∧ ScoAt G H st ∧ G st.p = none ∧ G st.b = none ∧ G st.c = none ∧ IsAll G us ds ∧
  ∀ v G' H', Fx ⟨fun a => a = st.p ∨ a = st.b ∨ a = st.c, G, H, true⟩ G' H' → ScoAt G' H' { st with kinds := k' } → Is G' v d → Q v H'
structure CalS (P : Program) (w : World) (K : PySem.W.Frag) (mg : Str → Option Value) (base : Heap) (n : String) (k : Nat) (ps : List Str) (R : Sco → List PyData → PyData → (Key → Option PyData) → Prop) : Prop where
  ex : ∃ f fd, FnOk P w K mg base CX0 k f fd ps (spS R) ∧ mg (Str.ofString n) = some (.ref f) ∧ PySem.W.keepIn K (.ref f) = true ∧ Binds K fd ps []
structure CalM (P : Program) (w : World) (K : PySem.W.Frag) (mg : Str → Option Value) (base : Heap) (C : Addr) (n : String) (k : Nat) (ps : List Str) (R : Sco → List PyData → PyData → (Key → Option PyData) → Prop) : Prop where
  ex : ∃ f fd, FnOk P w K mg base CX0 k f fd ps (spS R) ∧ Meth K C (Str.ofString n) f ∧ Binds K fd ps []
/-- where a method stands -/
structure PlM (K : PySem.W.Frag) (C : Addr) (n q : String) (st : Stmt) (ps : List Str) : Prop where
  ex : ∃ f fd, Fun K (Str.ofString n) (Str.ofString q) st f fd ∧ Meth K C (Str.ofString n) f ∧ Binds K fd ps []
section
variable {X : Cx} {Γ : Gm} {N : List Str} {m i j k : Nat} {n f : String} {pos p p2 apos : Pos} {e : Expr} {es : List Expr} {l : List Sl} {d : PyData} {ds : List PyData} {st : Sco} {k' : Key → Option PyData} {ps : List Str} {R : Sco → List PyData → PyData → (Key → Option PyData) → Prop}
theorem scRun {G H : Hp} {σ : L2.St} {Q : VK} (hh : Hold Γ G H σ l) (q : l[i]? = some (.sc st)) (h : AX X Γ es l ds l) (hR : R st ds d k') (kk : ∀ v G' H', Hold Γ G' H' σ (l.set i (.sc { st with kinds := k' })) → Same G G' → Is G' v d → Q v H') :
    wA X es σ H fun vs H1 => spS R (.ref st.p :: (vs ++ [])) H1 Q E0 := h.run G H σ _ hh fun vs G1 H1 h1 e1 i1 => by
  rw [List.append_nil]
  obtain ⟨F, hF⟩ := id h1
  obtain ⟨hFi, hs, sc⟩ := hF.scAt q
  have own : ∀ a, a ∈ F i → G1 a = none := fun a ha => (hF.own i a ha).1
  exact ⟨G1, st, vs, ds, d, k', rfl, hR, h1.f, sc, own _ (by rw [hFi]; simp), own _ (by rw [hFi]; simp), own _ (by rw [hFi]; simp), i1, fun v G2 H2 x r iv => kk v G2 H2 (hF.scDone q x r) (e1.trans x.g) iv⟩
/-- s.m(e, ..) -/
theorem EX.scMeth (c : ScC X.K st.C) (M : CalM X.prog X.w X.K X.mg X.base st.C f j ps R) (hr : Room k X.A) (hjk : j ≤ k) (T : Tab X N m) (hA : At N i n) (hi : i < m) (q : l[i]? = some (.sc st)) (h : AX X Γ (e :: es) l ds l) (hR : R st ds d k') (hno : (Str.ofString f == Str.ofString "door_papers") = false ∧ (Str.ofString f == Str.ofString "result_kind") = false ∧ (Str.ofString f == Str.ofString "name_ways") = false ∧ (Str.ofString f == Str.ofString "name_kinds") = false) {pl : Sem Bool}
    (hst : starEach (e :: es) X.env = (false, eval e X.env) :: starEach es X.env := by rfl) (hpl : (backTo pos (starEach es X.env)).any (·.1) = false := by rfl)
    (ht : eval (.Call (.Attribute (.Name (Str.ofString n) p) (Str.ofString f) apos) (e :: es) [] pos) X.env = (do
      let ov ← eval (.Name (Str.ofString n) p) X.env
      standAt apos.atName
      let (f, first) ← holding [ov] (getMethod ov (Str.ofString f) pl)
      callWith pos f first (backTo pos (starEach (e :: es) X.env)) (backToKw pos (keywordEach [] X.env))) := by rfl) :
    EX X Γ (.Call (.Attribute (.Name (Str.ofString n) p) (Str.ofString f) apos) (e :: es) [] pos) l d (l.set i (.sc { st with kinds := k' })) := ⟨fun G H σ Q hh kk => by
  obtain ⟨g, fd, h1, h2, h3⟩ := M.ex
  refine ⟨_, pe_meth (pe_var (T.at_ hA) (T.vis hA hi) (T.dbg i _ hi hA.get).1 (T.dbg i _ hi hA.get).2) c.cls h2 h1 (hr.mono hjk) h3 .nil (pass0 : Passes CX0 X E0) pa_w hst hpl ht, ?_⟩
  obtain ⟨F, hF⟩ := id hh
  obtain ⟨hFi, hs, _, _, _, ⟨dx, a, v, g1, g2, g3⟩, _⟩ := hF.scAt q
  refine ⟨.ref st.p, hs, st.p, dx, _, rfl, g1, ?_, scRun hh q h hR kk⟩
  simp only [List.lookup_cons]
  rw [hno.1, hno.2.1, hno.2.2.1, hno.2.2.2]
  rfl⟩
/-- f(s, e, ..) -/
theorem EX.scFun (C : CalS X.prog X.w X.K X.mg X.base f j ps R) (hr : Room k X.A) (hjk : j ≤ k) (hg : Gl X (Str.ofString f)) (T : Tab X N m) (hA : At N i n) (hi : i < m) (q : l[i]? = some (.sc st)) (h : AX X Γ es l ds l) (hR : R st ds d k')
    (hdb : (Str.ofString f == ("__debug__" : Str)) = false := by decide) (he : starEach (.Name (Str.ofString n) p2 :: es) X.env = (false, eval (.Name (Str.ofString n) p2) X.env) :: starEach es X.env := by rfl) (hpl : (backTo pos (starEach es X.env)).any (·.1) = false := by rfl) :
    EX X Γ (.Call (.Name (Str.ofString f) p) (.Name (Str.ofString n) p2 :: es) [] pos) l d (l.set i (.sc { st with kinds := k' })) := ⟨fun G H σ Q hh kk => by
  obtain ⟨g, fd, h1, h2, h3, h4⟩ := C.ex
  refine ⟨_, pe_call h1 (hr.mono hjk) hg h2 h3 h4 .nil (pass0 : Passes CX0 X E0) (pa_cons (pe_var (T.at_ hA) (T.vis hA hi) (T.dbg i _ hi hA.get).1 (T.dbg i _ hi hA.get).2) pa_w he) hdb he hpl, ?_⟩
  obtain ⟨F, hF⟩ := id hh
  obtain ⟨hFi, hs, _⟩ := hF.scAt q
  exact ⟨.ref st.p, hs, scRun hh q h hR kk⟩⟩
end
end TG

/-! TgU: defs with a scope by their bodies; making a scope; dicts as data -/
namespace TG
open PySem L2 PyProof.Rows

section
variable {P : Program} {w : World} {K : PySem.W.Frag} {mg : Str → Option Value} {base : Heap}
abbrev scB (st : Sco) : Addr → Prop := fun a => a = st.p ∨ a = st.b ∨ a = st.c
theorem Hold.startS {G H : Hp} {N : List Str} {vs : List V} {ds : List PyData} {st : Sco} (f : Same G H) (r : IsAll G vs ds) (sc : ScoAt G H st) (n1 : G st.p = none) (n2 : G st.b = none) (n3 : G st.c = none) :
    Hold ⟨scB st, G, H, true⟩ G H (L2.start N (.ref st.p :: vs)) (.sc st :: ds.map .dat ++ List.replicate (N.length - (ds.length + 1)) .no) := by
  have hs := sc
  obtain ⟨_, _, _, ⟨dx, a, v, h1, _, _⟩, ⟨ws, _, h4, _⟩, ⟨ks, _, h5, _⟩⟩ := hs
  have hl := r.length
  refine ⟨fun i => if i = 0 then [st.p, st.b, st.c] else [], Fx.start _ f, by simp [L2.start]; omega, fun i sl e => ?_, fun i j a h h' => ?_, fun i a h => ?_, fun _ i sl e en a h => ?_⟩
  · cases i with
    | zero =>
      have : sl = .sc st := by simpa using e.symm
      subst this
      exact ⟨some (.ref st.p), by simp [L2.start], rfl, rfl, sc⟩
    | succ i =>
      rw [List.cons_append, List.getElem?_cons_succ] at e
      unfold L2.start
      rw [List.map_cons, List.cons_append, List.getElem?_cons_succ]
      by_cases hi : i < ds.length
      · rw [List.getElem?_append_left (by simpa using hi)] at e
        rw [List.getElem?_map] at e
        cases q : ds[i]? with
        | none => rw [q] at e; cases e
        | some d =>
          rw [q] at e
          cases e
          obtain ⟨v, h1, h2⟩ := r.get q
          refine ⟨some v, ?_, v, rfl, h2⟩
          rw [List.getElem?_append_left (by simp; omega), List.getElem?_map, h1]
          rfl
      · rw [List.getElem?_append_right (by simpa using hi)] at e
        rw [List.getElem?_replicate] at e
        split at e
        · cases e
          refine ⟨none, ?_, trivial⟩
          rw [List.getElem?_append_right (by simp; omega), List.getElem?_replicate]
          rw [if_pos (by simp at *; omega)]
        · cases e
  · by_cases hi : i = 0
    · by_cases hj : j = 0
      · rw [hi, hj]
      · simp [hj] at h'
    · simp [hi] at h
  · by_cases hi : i = 0
    · have h : a ∈ [st.p, st.b, st.c] := by simpa [hi] using h
      have h : a = st.p ∨ a = st.b ∨ a = st.c := by simpa using h
      refine ⟨?_, .inr h, ?_⟩
      · rcases h with rfl | rfl | rfl <;> assumption
      · rcases h with rfl | rfl | rfl
        · exact some_ne h1
        · exact some_ne h4
        · exact some_ne h5
    · simp [hi] at h
  · by_cases hi : i = 0
    · subst hi
      have : sl = .sc st := by simpa using e.symm
      subst this
      cases en
    · simp [hi] at h
theorem okSf {x qual : Str} {st : Stmt} {f : Addr} {fd : FuncData} {N ps : List Str} {k : Nat} {R : Sco → List PyData → PyData → (Key → Option PyData) → Prop} (F : Fun K x qual st f fd) (S : FnScope N ps (defScope st)) (hl : ∀ sc ds d k', R sc ds d k' → ds.length + 1 = ps.length)
    (hb : ∀ (cdv : Value) (A : Around) (outer : List Env) (s : Shared) (H : Hp) (E : XK) (Γ : Gm) (sc : Sco) (ds : List PyData) (d : PyData) (k' : Key → Option PyData), Γ.fz = true → Room k (A.deeper (envOfC qual (defScope st) s.heap.objs.size f cdv)) → R sc ds d k' →
      SXs (cxOf CX0 P w K mg base N qual (defScope st) f cdv A outer s H E).nox Γ (defBody st) (.sc sc :: ds.map .dat ++ List.replicate (N.length - (ds.length + 1)) .no) { nx := fun l => d = .none ∧ l[0]? = some (.sc { sc with kinds := k' }), rt := fun d' l => d' = d ∧ l[0]? = some (.sc { sc with kinds := k' }) }) :
    FnOk P w K mg base CX0 (k + 1) f fd ps (spS R) := by
  refine F.ok S (fun vs H Q E h => ?_) (fun cdv A outer s H vs Q E hr h => ?_)
  · obtain ⟨G, sc, us, ds, d, k', rfl, hR, f, _, _, _, _, r, _⟩ := h
    rw [List.length_cons, r.length]; exact hl sc ds d k' hR
  · obtain ⟨G, sc, us, ds, d, k', rfl, hR, f, hsc, n1, n2, n3, r, q⟩ := h
    have fin : ∀ σ' G' H' l', Hold ⟨scB sc, G, H, true⟩ G' H' σ' l' → l'[0]? = some (.sc { sc with kinds := k' }) → ScoAt G' H' { sc with kinds := k' } := fun σ' G' H' l' ⟨F, hF⟩ e => (hF.scAt e).2.2
    have h1 := (hb cdv A outer s H E ⟨scB sc, G, H, true⟩ sc ds d k' rfl hr hR).run G H (L2.start N (.ref sc.p :: us)) { nx := fun _ H' => Q .non H', rt := Q } (Hold.startS f r hsc n1 n2 n3)
      ⟨fun σ' G' H' l' a b c => q .non G' H' a.fx (fin σ' G' H' l' a c.2) (by rw [c.1]; exact .non), fun v σ' G' H' d' l' a b i c => q v G' H' a.fx (fin σ' G' H' l' a c.2) (by rw [← c.1]; exact i), fun _ _ _ _ _ _ z => z.elim, fun _ _ _ _ _ _ z => z.elim⟩
    exact h1
/-- a def whose first parameter is a scope -/
theorem okS {n : String} {st : Stmt} {N ps : List Str} {k : Nat} {R : Sco → List PyData → PyData → (Key → Option PyData) → Prop} (m : Nat) (pl : Pl K mg n st ps) (S : FnScope N ps (defScope st)) (ht : tabC N (defScope st) m = true) (hl : ∀ sc ds d k', R sc ds d k' → ds.length + 1 = ps.length)
    (hb : ∀ (f : Addr) (cdv : Value) (A : Around) (outer : List Env) (s : Shared) (H : Hp) (E : XK) (Γ : Gm) (sc : Sco) (ds : List PyData) (d : PyData) (k' : Key → Option PyData), Γ.fz = true → Room k (bx P w K mg base N (Str.ofString n) st f cdv A outer s H E).A → Tab (bx P w K mg base N (Str.ofString n) st f cdv A outer s H E) N m → R sc ds d k' →
      SXs (bx P w K mg base N (Str.ofString n) st f cdv A outer s H E) Γ (defBody st) (.sc sc :: ds.map .dat ++ List.replicate (N.length - (ds.length + 1)) .no) { nx := fun l => d = .none ∧ l[0]? = some (.sc { sc with kinds := k' }), rt := fun d' l => d' = d ∧ l[0]? = some (.sc { sc with kinds := k' }) }) :
    CalS P w K mg base n (k + 1) ps R := by
  obtain ⟨f, fd, h1, h2, h3⟩ := pl.ex
  refine ⟨f, fd, okSf h1 S hl fun cdv A outer s H E Γ sc ds d k' fz hr hR => ?_, h2, h1.kp, h3⟩
  exact hb f cdv A outer s H E Γ sc ds d k' fz hr (tab_of rfl S.nd ht fun _ => rfl) hR
/-- a method -/
theorem okM {C : Addr} {n qq : String} {st : Stmt} {N ps : List Str} {k : Nat} {R : Sco → List PyData → PyData → (Key → Option PyData) → Prop} (m : Nat) (pl : PlM K C n qq st ps) (S : FnScope N ps (defScope st)) (ht : tabC N (defScope st) m = true) (hl : ∀ sc ds d k', R sc ds d k' → ds.length + 1 = ps.length)
    (hb : ∀ (f : Addr) (cdv : Value) (A : Around) (outer : List Env) (s : Shared) (H : Hp) (E : XK) (Γ : Gm) (sc : Sco) (ds : List PyData) (d : PyData) (k' : Key → Option PyData), Γ.fz = true → Room k (bx P w K mg base N (Str.ofString qq) st f cdv A outer s H E).A → Tab (bx P w K mg base N (Str.ofString qq) st f cdv A outer s H E) N m → R sc ds d k' →
      SXs (bx P w K mg base N (Str.ofString qq) st f cdv A outer s H E) Γ (defBody st) (.sc sc :: ds.map .dat ++ List.replicate (N.length - (ds.length + 1)) .no) { nx := fun l => d = .none ∧ l[0]? = some (.sc { sc with kinds := k' }), rt := fun d' l => d' = d ∧ l[0]? = some (.sc { sc with kinds := k' }) }) :
    CalM P w K mg base C n (k + 1) ps R := by
  obtain ⟨f, fd, h1, h2, h3⟩ := pl.ex
  refine ⟨f, fd, okSf h1 S hl fun cdv A outer s H E Γ sc ds d k' fz hr hR => ?_, h2, h3⟩
  exact hb f cdv A outer s H E Γ sc ds d k' fz hr (tab_of rfl S.nd ht fun _ => rfl) hR
end

/-! ### a dict as data -/
def dkD (kvs : List (Key × PyData)) : List (PyData × PyData) := kvs.map fun kv => (kD kv.1, kv.2)
theorem kD_inj {a b : Key} (h : kD a = kD b) : a = b := by
  cases a <;> cases b <;> cases h <;> rfl
theorem IsKv.toK {G : Hp} : ∀ {ws : List (Key × V)} {kvs : List (Key × PyData)}, IsKv G ws (dkD kvs) → IsK G ws kvs
  | _, [], h => by cases h; exact .nil
  | _, kv :: kvs, h => by
    unfold dkD at h
    rw [List.map_cons] at h
    generalize hk : kD kv.1 = kk at h
    cases h with
    | @cons k _ _ _ _ h r =>
      have : kv.1 = k := kD_inj hk
      obtain ⟨a, b⟩ := kv
      subst this
      exact .cons h r.toK
theorem IsK.toKv {G : Hp} : ∀ {ws : List (Key × V)} {kvs : List (Key × PyData)}, IsK G ws kvs → IsKv G ws (dkD kvs)
  | _, _, .nil => .nil
  | _, _, .cons h r => .cons h r.toKv
theorem Is.dicInv {G : Hp} {v : V} {kvs : List (Key × PyData)} (h : Is G v (.dict (dkD kvs))) : ∃ a ws, v = .ref a ∧ G a = some (.dK ws) ∧ IsK G ws kvs := by
  generalize hd : PyData.dict (dkD kvs) = d at h
  cases h with
  | dic h r =>
    cases hd
    exact ⟨_, _, rfl, h, r.toK⟩
  | _ => cases hd
section
variable {Γ : Gm} {G H : Hp} {σ : L2.St} {l : List Sl} {F : Nat → List Addr}
/-- an own dict becomes data -/
theorem HoldF.freezeD (h : HoldF Γ F G H σ l) {i : Nat} {kvs : List (Key × PyData)} (fz : Γ.fz = true) (e : l[i]? = some (.dk kvs)) : ∃ G', Same G G' ∧ HoldF Γ (fun j => if j = i then [] else F j) G' H σ (l.set i (.dat (.dict (dkD kvs)))) := by
  obtain ⟨s, h1, p, vs, hF, h2, h3, h4⟩ := h.at_ i _ e
  subst h2
  have hp := h.own i p (by rw [hF]; simp)
  have g1 : Same G (upd G p (.dK vs)) := Same.new hp.1
  have hlt : i < l.length := (List.getElem?_eq_some_iff.mp e).1
  have hf : Same (upd G p (.dK vs)) H := fun a u q => by
    by_cases z : a = p
    · subst z; rw [upd_same] at q; rw [← q]; exact h3
    · rw [upd_ne z] at q; exact h.fx.f a u q
  have h0 : Γ.H p = none := h.new fz i _ e rfl p (by rw [hF]; simp)
  have hG0 : Γ.G p = none := h.fx.g.free hp.1
  refine ⟨upd G p (.dK vs), g1, ⟨h.fx.g.trans g1, hf, h.fx.h, h.fx.s, fun a q1 q2 => ?_⟩, by rw [List.length_set]; exact h.len, fun j sl q => ?_, fun j k a q1 q2 => ?_, fun j a q1 => ?_, fun fz' j sl q en a ha => ?_⟩
  · by_cases z : a = p
    · subst z; exact absurd h0 q2
    · rw [upd_ne z]; exact h.fx.n a q1 q2
  · by_cases hj : j = i
    · subst hj
      rw [List.getElem?_set_self hlt] at q
      cases q
      exact ⟨_, h1, _, rfl, .dic upd_same (h4.mono g1).toKv⟩
    · rw [List.getElem?_set_ne (Ne.symm hj)] at q
      obtain ⟨s, q1, q2⟩ := h.at_ j sl q
      exact ⟨s, q1, by rw [if_neg hj]; exact q2.frame g1 fun _ _ => rfl⟩
  · by_cases hj : j = i
    · simp [hj] at q1
    · by_cases hk : k = i
      · simp [hk] at q2
      · rw [if_neg hj] at q1; rw [if_neg hk] at q2; exact h.dis j k a q1 q2
  · by_cases hj : j = i
    · simp [hj] at q1
    · rw [if_neg hj] at q1
      obtain ⟨r1, r2, r3⟩ := h.own j a q1
      have : a ≠ p := fun z => hj (h.dis j i a q1 (by rw [hF, z]; simp))
      exact ⟨by rw [upd_ne this]; exact r1, r2, r3⟩
  · by_cases hj : j = i
    · simp [hj] at ha
    · rw [if_neg hj] at ha
      rw [List.getElem?_set_ne (Ne.symm hj)] at q
      exact h.new fz j sl q en a ha
end
section
variable {X : Cx} {Γ : Gm} {body : List Stmt} {l l1 l2 : List Sl} {O : Out} {i : Nat} {kvs : List (Key × PyData)} {a b : Expr} {key : Key} {pos : Pos} {d : PyData}
theorem SXs.freezeD (fz : Γ.fz = true) (q : l[i]? = some (.dk kvs)) (h : SXs X Γ body (l.set i (.dat (.dict (dkD kvs)))) O) : SXs X Γ body l O := ⟨fun G H σ D ⟨F, hh⟩ k => by
  obtain ⟨G', g, h'⟩ := hh.freezeD fz q
  exact h.run G' H σ D ⟨_, h'⟩ (k.mono g)⟩
/-- a not in b, b a dict -/
theorem TX.notInD (hu : X.A.units + 1 < cLine) (ha : EX X Γ a l (kD key) l1) (hb : EX X Γ b l1 (.dict (dkD kvs)) l2) (hm : behindInMarks .NotIn b = false := by rfl) : TX X Γ (.Compare a [.NotIn] [b] pos) l (!(valD kvs key).isSome) l2 := ⟨fun G H σ Q hh kk => by
  refine ⟨_, pt_cmp (pc_dnotin hu pe_w pe_w) hm, ?_⟩
  refine ha.run G H σ _ hh fun v G1 H1 h1 e1 i1 => hb.run G1 H1 σ _ h1 fun u G2 H2 h2 e2 i2 => ?_
  obtain ⟨c, ws, rfl, g1, g2⟩ := i2.dicInv
  rw [i1.key]
  refine ⟨c, _, rfl, DGet.k (k := key) (h2.f _ _ g1), _, rfl, ?_⟩
  have e : (valV ws key).isSome = (valD kvs key).isSome := by
    rcases g2.val key with ⟨h1, h2⟩ | ⟨v, d, h1, h2, h3⟩ <;> rw [h1, h2] <;> rfl
  rw [e]
  exact kk G2 H2 h2 (e1.trans e2)⟩
/-- a[b], a a dict -/
theorem EX.getD (hu : X.A.units + 1 < cLine) (ha : EX X Γ a l (.dict (dkD kvs)) l1) (hb : EX X Γ b l1 (kD key) l2) (hd : valD kvs key = some d) (hs : NoSl b := by intro _ _; rfl) : EX X Γ (.Subscript a b pos) l d l2 := ⟨fun G H σ Q hh kk => by
  refine ⟨_, pe_dget hu pe_w pe_w hs, ?_⟩
  refine ha.run G H σ _ hh fun v G1 H1 h1 e1 i1 => hb.run G1 H1 σ _ h1 fun u G2 H2 h2 e2 i2 => ?_
  obtain ⟨c, ws, rfl, g1, g2⟩ := (i1.mono e2).dicInv
  rw [i2.key]
  rcases g2.val key with ⟨h1', h2'⟩ | ⟨v, d', h1', h2', h3'⟩
  · rw [hd] at h2'; cases h2'
  · rw [hd] at h2'; cases h2'
    exact ⟨c, v, rfl, by rw [← h1']; exact DGet.k (k := key) (h2.f _ _ g1), kk v G2 H2 h2 (e1.trans e2) h3'⟩⟩
end

/-! ### making a scope -/
section
variable {X : Cx} {Γ : Gm} {N : List Str} {m i : Nat} {n f : String} {pos p p2 p3 pos' : Pos} {b e : Expr} {l l1 : List Sl} {d : PyData} {kvs : List (Key × PyData)} {O : Out} {st : Sco} {key : Key}
theorem SX.obP (c : ScC X.K st.C) (T : Tab X N m) (hA : At N i n) (hi : i < m) (hf : f = "door_papers") (he : EX X Γ e l (.dict (dkD kvs)) l) (q : l[i]? = some (.ob st 0)) (hp : st.papers = .dict (dkD kvs)) (h : O.nx (l.set i (.ob st 1))) (hs : swapsWith e (some (.Attribute (.Name (Str.ofString n) p) (Str.ofString f) pos')) pos.line X.env = pure false := by rfl) :
    SX X Γ (.Assign [.Attribute (.Name (Str.ofString n) p) (Str.ofString f) pos'] e pos) l O := ⟨fun G H σ D hh kk => by
  subst hf
  refine ⟨_, ps_fld (pe_var (T.at_ hA) (T.vis hA hi) (T.dbg i _ hi hA.get).1 (T.dbg i _ hi hA.get).2) pe_w hs, ?_⟩
  refine he.run G H σ _ hh fun v G1 H1 h1 e1 i1 => ?_
  obtain ⟨F, hF⟩ := id h1
  obtain ⟨hs, hFi, dx, g1⟩ := hF.obAt q
  obtain ⟨a, ws, rfl, r1, r2⟩ := id i1.dicInv
  refine ⟨.ref st.p, hs, st.p, st.C, dx, [], rfl, g1, c.cls, c.nP, by decide, kk.nx σ G1 _ _ (hF.rew (i := i) (fs := F i) (fun a ha => upd_ne fun z => ha (by rw [hFi, z]; simp)) (fun a ha => ?_) (fun a ha => .inl ha) (fun s hs' => ?_) q rfl fun a ha => ha) e1 h⟩
  · have : a = st.p := by rw [hFi] at ha; simpa using ha
    rw [this, upd_same]; exact fun z => by cases z
  · rw [hs] at hs'
    cases hs'
    exact ⟨rfl, hFi, dx, a, upd_same, by rw [hp]; exact i1⟩⟩
theorem SX.obR (c : ScC X.K st.C) (T : Tab X N m) (hA : At N i n) (hi : i < m) (hf : f = "result_kind") (he : EX X Γ e l st.res l) (q : l[i]? = some (.ob st 1)) (h : O.nx (l.set i (.ob st 2))) (hs : swapsWith e (some (.Attribute (.Name (Str.ofString n) p) (Str.ofString f) pos')) pos.line X.env = pure false := by rfl) :
    SX X Γ (.Assign [.Attribute (.Name (Str.ofString n) p) (Str.ofString f) pos'] e pos) l O := ⟨fun G H σ D hh kk => by
  subst hf
  refine ⟨_, ps_fld (pe_var (T.at_ hA) (T.vis hA hi) (T.dbg i _ hi hA.get).1 (T.dbg i _ hi hA.get).2) pe_w hs, ?_⟩
  refine he.run G H σ _ hh fun v G1 H1 h1 e1 i1 => ?_
  obtain ⟨F, hF⟩ := id h1
  obtain ⟨hs, hFi, dx, a, g1, g2⟩ := hF.obAt q
  refine ⟨.ref st.p, hs, st.p, st.C, dx, _, rfl, g1, c.cls, c.nR, by simp only [List.length_cons, List.length_nil]; omega, kk.nx σ G1 _ _ (hF.rew (i := i) (fs := F i) (fun a ha => upd_ne fun z => ha (by rw [hFi, z]; simp)) (fun a ha => ?_) (fun a ha => .inl ha) (fun s hs' => ?_) q rfl fun a ha => ha) e1 h⟩
  · have : a = st.p := by rw [hFi] at ha; simpa using ha
    rw [this, upd_same]; exact fun z => by cases z
  · rw [hs] at hs'
    cases hs'
    exact ⟨rfl, hFi, dx, a, v, upd_same, g2, i1⟩⟩
/-- self.name_ways = {} -/
theorem SX.obW {dp : Pos} (c : ScC X.K st.C) (T : Tab X N m) (hA : At N i n) (hi : i < m) (hf : f = "name_ways") (q : l[i]? = some (.ob st 2)) (h : ∀ b, O.nx (l.set i (.ob { st with b := b } 3))) (hs : swapsWith (.Dict [] [] dp) (some (.Attribute (.Name (Str.ofString n) p) (Str.ofString f) pos')) pos.line X.env = pure false := by rfl) :
    SX X Γ (.Assign [.Attribute (.Name (Str.ofString n) p) (Str.ofString f) pos'] (.Dict [] [] dp) pos) l O := ⟨fun G H σ D hh kk => by
  subst hf
  refine ⟨_, ps_fld (pe_var (T.at_ hA) (T.vis hA hi) (T.dbg i _ hi hA.get).1 (T.dbg i _ hi hA.get).2) pe_dnewK hs, fun b hb => ?_⟩
  obtain ⟨F, hF⟩ := id hh
  obtain ⟨hs, hFi, dx, a, v, g1, g2, g3⟩ := hF.obAt q
  have hpb : st.p ≠ b := fun z => by rw [z, hb] at g1; cases g1
  refine ⟨.ref st.p, hs, st.p, st.C, dx, _, rfl, by rw [upd_ne hpb]; exact g1, c.cls, c.nW, by simp only [List.length_cons, List.length_nil]; omega, kk.nx σ G _ _ (hF.rew (i := i) (fs := [st.p, b]) (sl := .ob { st with b := b } 3) (fun a ha => ?_) (fun a ha => ?_) (fun a ha => ?_) (fun s hs' => ?_) q rfl fun a ha => ?_) (Same.refl _) (h b)⟩
  · have ha : a ≠ st.p ∧ a ≠ b := by simpa using ha
    rw [upd_ne ha.1, upd_ne ha.2]
  · have ha : a = st.p ∨ a = b := by simpa using ha
    rcases ha with rfl | rfl
    · rw [upd_same]; exact fun z => by cases z
    · rw [upd_ne (Ne.symm hpb), upd_same]; exact fun z => by cases z
  · have ha : a = st.p ∨ a = b := by simpa using ha
    rcases ha with rfl | rfl
    · exact .inl (by rw [hFi]; simp)
    · exact .inr hb
  · rw [hs] at hs'
    cases hs'
    exact ⟨rfl, rfl, hpb, ⟨dx, a, v, upd_same, g2, g3⟩, by show upd _ _ _ b = _; rw [upd_ne (Ne.symm hpb), upd_same]⟩
  · rw [hFi] at ha
    have : a = st.p := by simpa using ha
    rw [this]; simp⟩
/-- self.name_kinds = {} -/
theorem SX.obK {dp : Pos} (c : ScC X.K st.C) (T : Tab X N m) (hA : At N i n) (hi : i < m) (hf : f = "name_kinds") (q : l[i]? = some (.ob st 3)) (h : ∀ c, O.nx (l.set i (.sc { st with c := c, ways := fun _ => none, kinds := fun _ => none }))) (hs : swapsWith (.Dict [] [] dp) (some (.Attribute (.Name (Str.ofString n) p) (Str.ofString f) pos')) pos.line X.env = pure false := by rfl) :
    SX X Γ (.Assign [.Attribute (.Name (Str.ofString n) p) (Str.ofString f) pos'] (.Dict [] [] dp) pos) l O := ⟨fun G H σ D hh kk => by
  subst hf
  refine ⟨_, ps_fld (pe_var (T.at_ hA) (T.vis hA hi) (T.dbg i _ hi hA.get).1 (T.dbg i _ hi hA.get).2) pe_dnewK hs, fun b hb => ?_⟩
  obtain ⟨F, hF⟩ := id hh
  obtain ⟨hs, hFi, hn, ⟨dx, a, v, g1, g2, g3⟩, g4⟩ := hF.obAt q
  have hpb : st.p ≠ b := fun z => by rw [z, hb] at g1; cases g1
  have hbb : st.b ≠ b := fun z => by rw [z, hb] at g4; cases g4
  refine ⟨.ref st.p, hs, st.p, st.C, dx, _, rfl, by rw [upd_ne hpb]; exact g1, c.cls, c.nK, by simp only [List.length_cons, List.length_nil]; omega, kk.nx σ G _ _ (hF.rew (i := i) (fs := [st.p, st.b, b]) (sl := .sc { st with c := b, ways := fun _ => none, kinds := fun _ => none }) (fun a ha => ?_) (fun a ha => ?_) (fun a ha => ?_) (fun s hs' => ?_) q rfl fun a ha => ?_) (Same.refl _) (h b)⟩
  · have ha : a ≠ st.p ∧ a ≠ st.b ∧ a ≠ b := by simpa using ha
    rw [upd_ne ha.1, upd_ne ha.2.2]
  · have ha : a = st.p ∨ a = st.b ∨ a = b := by simpa using ha
    rcases ha with rfl | rfl | rfl
    · rw [upd_same]; exact fun z => by cases z
    · rw [upd_ne (Ne.symm hn), upd_ne hbb, g4]; exact fun z => by cases z
    · rw [upd_ne (Ne.symm hpb), upd_same]; exact fun z => by cases z
  · have ha : a = st.p ∨ a = st.b ∨ a = b := by simpa using ha
    rcases ha with rfl | rfl | rfl
    · exact .inl (by rw [hFi]; simp)
    · exact .inl (by rw [hFi]; simp)
    · exact .inr hb
  · rw [hs] at hs'
    cases hs'
    refine ⟨rfl, rfl, hn, hpb, hbb, ⟨dx, a, v, upd_same, g2, g3⟩, ⟨[], [], ?_, .nil, fun _ => rfl, by simp, fun k hk => by simp at hk⟩, ⟨[], [], ?_, .nil, fun _ => rfl, by simp, fun k hk => by simp at hk⟩⟩
    · show upd _ _ _ st.b = _
      rw [upd_ne (Ne.symm hn), upd_ne hbb]; exact g4
    · show upd _ _ _ b = _
      rw [upd_ne (Ne.symm hpb), upd_same]
  · rw [hFi] at ha
    have : a = st.p ∨ a = st.b := by simpa using ha
    rcases this with rfl | rfl <;> simp⟩
/-- self.name_kinds[b] = e -/
theorem SX.scPutK (hu : X.A.units + 1 < cLine) (c : ScC X.K st.C) (T : Tab X N m) (hA : At N i n) (hi : i < m) (hf : f = "name_kinds") (he : EX X Γ e l d l) (hb : EX X Γ b l (kD key) l) (q : l[i]? = some (.sc st)) (hk : key ∈ st.dom) (hdom : st.dom.length < 1000000) (h : O.nx (l.set i (.sc { st with kinds := fun k => if k = key then some d else st.kinds k })))
    (ha : attributeBase (.Name (Str.ofString n) p) (Str.ofString f) X.env (eval (.Name (Str.ofString n) p) X.env) = eval (.Name (Str.ofString n) p) X.env := by rfl) (hs : swapsWith e (some (.Subscript (.Attribute (.Name (Str.ofString n) p) (Str.ofString f) p2) b p3)) pos.line X.env = pure false := by rfl) :
    SX X Γ (.Assign [.Subscript (.Attribute (.Name (Str.ofString n) p) (Str.ofString f) p2) b p3] e pos) l O := ⟨fun G H σ D hh kk => by
  subst hf
  refine ⟨_, ps_dput hu (pe_fld (pe_var (T.at_ hA) (T.vis hA hi) (T.dbg i _ hi hA.get).1 (T.dbg i _ hi hA.get).2) ha) pe_w pe_w hs, ?_⟩
  refine he.run G H σ _ hh fun v G1 H1 h1 e1 i1 => ?_
  obtain ⟨F0, hF0⟩ := id h1
  obtain ⟨_, hs0, _, _, _, ⟨dx0, a0, v0, g1, g2, g3⟩, _⟩ := hF0.scAt q
  refine ⟨.ref st.p, hs0, st.p, st.C, dx0, _, .ref st.c, rfl, g1, c.cls, c.nK, rfl, hb.run G1 H1 σ _ h1 fun u G2 H2 h2 e2 i2 => ?_⟩
  obtain ⟨F, hF⟩ := id h2
  obtain ⟨hFi, hs, n1, n2, n3, ⟨dx, a, v', q1, q2, q3⟩, q4, q5⟩ := hF.scAt q
  obtain ⟨ws, r1, rl, _⟩ := q5.get key
  rw [i2.key]
  refine ⟨st.c, _, rfl, DPut.k (k := key) r1 (Nat.lt_of_le_of_lt rl (Nat.lt_of_lt_of_le hdom (by decide))), ?_⟩
  refine kk.nx σ G2 _ _ (hF.rew (i := i) (fs := F i) (fun a ha => upd_ne fun z => ha (by rw [hFi, z]; simp)) (fun a ha => ?_) (fun a ha => .inl ha) (fun s hs' => ?_) q rfl fun a ha => ha) (e1.trans e2) h
  · by_cases z : a = st.c
    · subst z; rw [upd_same]; exact fun z => by cases z
    · rw [upd_ne z]; exact (hF.own i a ha).2.2
  · rw [hs] at hs'
    cases hs'
    exact ⟨hFi, rfl, n1, n2, n3, ⟨dx, a, v', by rw [upd_ne n2]; exact q1, q2, q3⟩, q4.frame (Same.refl _) (upd_ne n3), q5.put r1 hk (i1.mono e2)⟩⟩
theorem SX.scPutW (hu : X.A.units + 1 < cLine) (c : ScC X.K st.C) (T : Tab X N m) (hA : At N i n) (hi : i < m) (hf : f = "name_ways") (he : EX X Γ e l d l) (hb : EX X Γ b l (kD key) l) (q : l[i]? = some (.sc st)) (hk : key ∈ st.dom) (hdom : st.dom.length < 1000000) (h : O.nx (l.set i (.sc { st with ways := fun k => if k = key then some d else st.ways k })))
    (ha : attributeBase (.Name (Str.ofString n) p) (Str.ofString f) X.env (eval (.Name (Str.ofString n) p) X.env) = eval (.Name (Str.ofString n) p) X.env := by rfl) (hs : swapsWith e (some (.Subscript (.Attribute (.Name (Str.ofString n) p) (Str.ofString f) p2) b p3)) pos.line X.env = pure false := by rfl) :
    SX X Γ (.Assign [.Subscript (.Attribute (.Name (Str.ofString n) p) (Str.ofString f) p2) b p3] e pos) l O := ⟨fun G H σ D hh kk => by
  subst hf
  refine ⟨_, ps_dput hu (pe_fld (pe_var (T.at_ hA) (T.vis hA hi) (T.dbg i _ hi hA.get).1 (T.dbg i _ hi hA.get).2) ha) pe_w pe_w hs, ?_⟩
  refine he.run G H σ _ hh fun v G1 H1 h1 e1 i1 => ?_
  obtain ⟨F0, hF0⟩ := id h1
  obtain ⟨_, hs0, _, _, _, ⟨dx0, a0, v0, g1, g2, g3⟩, _⟩ := hF0.scAt q
  refine ⟨.ref st.p, hs0, st.p, st.C, dx0, _, .ref st.b, rfl, g1, c.cls, c.nW, rfl, hb.run G1 H1 σ _ h1 fun u G2 H2 h2 e2 i2 => ?_⟩
  obtain ⟨F, hF⟩ := id h2
  obtain ⟨hFi, hs, n1, n2, n3, ⟨dx, a, v', q1, q2, q3⟩, q4, q5⟩ := hF.scAt q
  obtain ⟨ws, r1, rl, _⟩ := q4.get key
  rw [i2.key]
  refine ⟨st.b, _, rfl, DPut.k (k := key) r1 (Nat.lt_of_le_of_lt rl (Nat.lt_of_lt_of_le hdom (by decide))), ?_⟩
  refine kk.nx σ G2 _ _ (hF.rew (i := i) (fs := F i) (fun a ha => upd_ne fun z => ha (by rw [hFi, z]; simp)) (fun a ha => ?_) (fun a ha => .inl ha) (fun s hs' => ?_) q rfl fun a ha => ha) (e1.trans e2) h
  · by_cases z : a = st.b
    · subst z; rw [upd_same]; exact fun z => by cases z
    · rw [upd_ne z]; exact (hF.own i a ha).2.2
  · rw [hs] at hs'
    cases hs'
    exact ⟨hFi, rfl, n1, n2, n3, ⟨dx, a, v', by rw [upd_ne n1]; exact q1, q2, q3⟩, q4.put r1 hk (i1.mono e2), q5.frame (Same.refl _) (upd_ne (Ne.symm n3))⟩⟩
end

/-! ### the class's __init__, and a new scope handed to a def -/
/-- what a new scope holds -/
structure ScN where
  papers : PyData
  res : PyData
  ways : Key → Option PyData
  kinds : Key → Option PyData
  dom : List Key
def ScN.at_ (s : ScN) (C p b c : Addr) : Sco := ⟨C, p, b, c, s.papers, s.res, s.ways, s.kinds, s.dom⟩
def spI (C : Addr) (R : List PyData → ScN → Prop) : Sp := fun vs H Q _ => ∃ (G : Hp) (p dx : Addr) (us : List V) (ds : List PyData) (s : ScN), vs = .ref p :: us ∧ H p = some (.ins C dx []) ∧ G p = none ∧ Same G H ∧ IsAll G us ds ∧ R ds s ∧
  ∀ G' H' b c, Fx ⟨fun a => a = p, G, H, true⟩ G' H' → H b = none → H c = none → G' b = none → G' c = none → ScoAt G' H' (s.at_ C p b c) → Q .non H'
section
variable {P : Program} {w : World} {K : PySem.W.Frag} {mg : Str → Option Value} {base : Heap} {C : Addr}
structure CalI (P : Program) (w : World) (K : PySem.W.Frag) (mg : Str → Option Value) (base : Heap) (x : String) (C : Addr) (k : Nat) (ps : List Str) (R : List PyData → ScN → Prop) : Prop where
  ex : ∃ f fd, FnOk P w K mg base CX0 k f fd ps (spI C R) ∧ Mk K C f ∧ mg (Str.ofString x) = some (.ref C) ∧ Binds K fd ps []
theorem Hold.startI {G H : Hp} {N : List Str} {vs : List V} {ds : List PyData} {st : Sco} {dx : Addr} (f : Same G H) (r : IsAll G vs ds) (hp : H st.p = some (.ins st.C dx [])) (n1 : G st.p = none) :
    Hold ⟨fun a => a = st.p, G, H, true⟩ G H (L2.start N (.ref st.p :: vs)) (.ob st 0 :: ds.map .dat ++ List.replicate (N.length - (ds.length + 1)) .no) := by
  have hl := r.length
  refine ⟨fun i => if i = 0 then [st.p] else [], Fx.start _ f, by simp [L2.start]; omega, fun i sl e => ?_, fun i j a h h' => ?_, fun i a h => ?_, fun _ i sl e en a h => ?_⟩
  · cases i with
    | zero =>
      have : sl = .ob st 0 := by simpa using e.symm
      subst this
      exact ⟨some (.ref st.p), by simp [L2.start], rfl, rfl, dx, hp⟩
    | succ i =>
      rw [List.cons_append, List.getElem?_cons_succ] at e
      unfold L2.start
      rw [List.map_cons, List.cons_append, List.getElem?_cons_succ]
      by_cases hi : i < ds.length
      · rw [List.getElem?_append_left (by simpa using hi)] at e
        rw [List.getElem?_map] at e
        cases q : ds[i]? with
        | none => rw [q] at e; cases e
        | some d =>
          rw [q] at e
          cases e
          obtain ⟨v, h1, h2⟩ := r.get q
          refine ⟨some v, ?_, v, rfl, h2⟩
          rw [List.getElem?_append_left (by simp; omega), List.getElem?_map, h1]
          rfl
      · rw [List.getElem?_append_right (by simpa using hi)] at e
        rw [List.getElem?_replicate] at e
        split at e
        · cases e
          refine ⟨none, ?_, trivial⟩
          rw [List.getElem?_append_right (by simp; omega), List.getElem?_replicate]
          rw [if_pos (by simp at *; omega)]
        · cases e
  · by_cases hi : i = 0
    · by_cases hj : j = 0
      · rw [hi, hj]
      · simp [hj] at h'
    · simp [hi] at h
  · by_cases hi : i = 0
    · have h : a = st.p := by simpa [hi] using h
      subst h
      exact ⟨n1, .inr rfl, some_ne hp⟩
    · simp [hi] at h
  · by_cases hi : i = 0
    · subst hi
      have : sl = .ob st 0 := by simpa using e.symm
      subst this
      cases en
    · simp [hi] at h
/-- where __init__ stands -/
structure PlI (K : PySem.W.Frag) (mg : Str → Option Value) (x : String) (C : Addr) (q : String) (st : Stmt) (ps : List Str) : Prop where
  ex : ∃ f fd, Fun K "__init__" (Str.ofString q) st f fd ∧ Mk K C f ∧ mg (Str.ofString x) = some (.ref C) ∧ Binds K fd ps []
theorem okI {x q : String} {st : Stmt} {N ps : List Str} {k : Nat} {R : List PyData → ScN → Prop} (m : Nat) (pl : PlI K mg x C q st ps) (S : FnScope N ps (defScope st)) (ht : tabC N (defScope st) m = true) (hl : ∀ ds s, R ds s → ds.length + 1 = ps.length)
    (hb : ∀ (f : Addr) (cdv : Value) (A : Around) (outer : List Env) (s : Shared) (H : Hp) (E : XK) (Γ : Gm) (p : Addr) (ds : List PyData) (sn : ScN), Γ.fz = true → Room k (bx P w K mg base N (Str.ofString q) st f cdv A outer s H E).A → Tab (bx P w K mg base N (Str.ofString q) st f cdv A outer s H E) N m → R ds sn →
      SXs (bx P w K mg base N (Str.ofString q) st f cdv A outer s H E) Γ (defBody st) (.ob (sn.at_ C p p p) 0 :: ds.map .dat ++ List.replicate (N.length - (ds.length + 1)) .no) { nx := fun l => ∃ b c, l[0]? = some (.sc (sn.at_ C p b c)), rt := fun _ _ => False }) :
    CalI P w K mg base x C (k + 1) ps R := by
  obtain ⟨f, fd, F, h2, h3, h4⟩ := pl.ex
  refine ⟨f, fd, ?_, h2, h3, h4⟩
  refine F.ok S (fun vs H Q E h => ?_) (fun cdv A outer s H vs Q E hr h => ?_)
  · obtain ⟨G, p, dx, us, ds, s, rfl, _, _, f, r, hR, _⟩ := h
    rw [List.length_cons, r.length]; exact hl ds s hR
  · obtain ⟨G, p, dx, us, ds, sn, rfl, hp, n1, fs, r, hR, q⟩ := h
    have fin : ∀ σ' G' H' l', Hold ⟨fun a => a = p, G, H, true⟩ G' H' σ' l' → (∃ b c, l'[0]? = some (.sc (sn.at_ C p b c))) → Q .non H' := fun σ' G' H' l' a ⟨b0, c0, e⟩ => ?_
    · have h1 := (hb f cdv A outer s H E ⟨fun a => a = p, G, H, true⟩ p ds sn rfl hr (tab_of rfl S.nd ht fun _ => rfl) hR).run G H (L2.start N (.ref p :: us)) { nx := fun _ H' => Q .non H', rt := Q } (Hold.startI (st := sn.at_ C p p p) fs r hp n1)
        ⟨fun σ' G' H' l' a b c => fin σ' G' H' l' a c, fun v σ' G' H' d' l' a b i c => c.elim, fun _ _ _ _ _ _ z => z.elim, fun _ _ _ _ _ _ z => z.elim⟩
      exact h1
    have fx := a.fx
    obtain ⟨F', hF⟩ := a
    obtain ⟨hFi, _, sc⟩ := hF.scAt e
    have nb : ∀ z, z ∈ F' 0 → z ≠ p → H z = none ∧ G' z = none := fun z hz ne => by
      obtain ⟨h1, h2, _⟩ := hF.own 0 z hz
      rcases h2 with h2 | h2
      · exact ⟨h2, h1⟩
      · exact absurd h2 ne
    obtain ⟨n1', n2', n3', _⟩ := id sc
    have hb := nb b0 (by rw [hFi]; simp [ScN.at_]) (Ne.symm n1')
    have hc := nb c0 (by rw [hFi]; simp [ScN.at_]) (Ne.symm n2')
    exact q G' H' b0 c0 fx hb.1 hc.1 hb.2 hc.2 sc
end
section
variable {X : Cx} {Γ : Gm} {C : Addr} {j j2 k : Nat} {f x : String} {pos pos2 p p2 : Pos} {e e2 : Expr} {es : List Expr} {l : List Sl} {d d2 : PyData} {ds : List PyData} {ps ps2 : List Str} {RI : List PyData → ScN → Prop} {R : Sco → List PyData → PyData → (Key → Option PyData) → Prop} {sn : ScN} {kk : Addr → Addr → Addr → Key → Option PyData}
theorem blkNil {F : Nat → List Addr} {G H : Hp} {σ : L2.St} (h : HoldF Γ F G H σ l) : Hold (blkG F [] G H) G H σ l := h.enter []
theorem HoldF.back0 {F F2 : Nat → List Addr} {G H G' H' : Hp} {σ : L2.St} (h : HoldF Γ F G H σ l) (k : HoldF (blkG F [] G H) F2 G' H' σ l) : HoldF Γ F2 G' H' σ l := by
  refine ⟨⟨h.fx.g.trans k.fx.g, k.fx.f, fun a u q nb => ?_, fun a q => k.fx.s a (h.fx.s a q), fun a q1 q2 => k.fx.n a (h.fx.n a q1 q2) (h.fx.s a q2)⟩, k.len, k.at_, k.dis, fun i a ha => ?_, fun z i sl e en a ha => ?_⟩
  · refine k.fx.h a u (h.fx.h a u q nb) fun ⟨i, _, ha⟩ => ?_
    rcases (h.own i a ha).2.1 with z | z
    · rw [z] at q; cases q
    · exact nb z
  · obtain ⟨h1, h2, h3⟩ := k.own i a ha
    refine ⟨h1, ?_, h3⟩
    rcases h2 with z | ⟨j, _, hj⟩
    · refine .inl ?_
      cases q : Γ.H a with
      | none => rfl
      | some u => exact absurd z (h.fx.s a (some_ne q))
    · exact (h.own j a hj).2.1
  · have same : F i = F2 i := by
      obtain ⟨s, h1, h2⟩ := h.at_ i sl e
      obtain ⟨s', h1', h2'⟩ := k.at_ i sl e
      rw [h1] at h1'
      cases h1'
      cases sl with
      | own ds =>
        obtain ⟨p, _, r1, r2, _⟩ := h2
        obtain ⟨p', _, r1', r2', _⟩ := h2'
        rw [r2] at r2'; cases r2'; rw [r1, r1']
      | dk ds =>
        obtain ⟨p, _, r1, r2, _⟩ := h2
        obtain ⟨p', _, r1', r2', _⟩ := h2'
        rw [r2] at r2'; cases r2'; rw [r1, r1']
      | dt ds =>
        obtain ⟨p, _, r1, r2, _⟩ := h2
        obtain ⟨p', _, r1', r2', _⟩ := h2'
        rw [r2] at r2'; cases r2'; rw [r1, r1']
      | _ => cases en
    exact h.new z i sl e en a (by rw [same]; exact ha)
theorem HoldF.away {F : Nat → List Addr} {G H G' H' : Hp} {σ : L2.St} {B : Addr → Prop} {z : Bool} (h : HoldF Γ F G H σ l) (x : Fx ⟨B, G, H, z⟩ G' H') (nF : ∀ a, B a → (∀ i, a ∉ F i) ∧ Γ.H a = none) : HoldF Γ F G' H' σ l := by
  refine ⟨⟨h.fx.g.trans x.g, x.f, fun a u q nb => x.h a u (h.fx.h a u q nb) fun hb => ?_, fun a q => x.s a (h.fx.s a q), fun a q1 q2 => x.n a (h.fx.n a q1 q2) (h.fx.s a q2)⟩, h.len, fun i sl e => ?_, h.dis, fun i a ha => ?_, h.new⟩
  · rw [(nF a hb).2] at q; cases q
  · obtain ⟨s, h1, h2⟩ := h.at_ i sl e
    refine ⟨s, h1, h2.frame x.g fun a ha => ?_⟩
    obtain ⟨o, q⟩ := ne_some (h.own i a ha).2.2
    rw [q]; exact x.h a o q fun hb => (nF a hb).1 i ha
  · obtain ⟨h1, h2, h3⟩ := h.own i a ha
    exact ⟨x.n a h1 h3, h2, x.s a h3⟩
/-- f(C(es), e2) -/
theorem EX.scNew (CI : CalI X.prog X.w X.K X.mg X.base x C j ps RI) (CB : CalS X.prog X.w X.K X.mg X.base f j2 ps2 R) (hr : Room k X.A) (hj : j + 1 ≤ k) (hj2 : j2 ≤ k) (hgx : Gl X (Str.ofString x)) (hgf : Gl X (Str.ofString f)) (h : AX X Γ (e :: es) l ds l) (h2 : ∀ Γ', EX X Γ' e2 l d2 l) (hRI : RI ds sn) (hR : ∀ p b c, R (sn.at_ C p b c) [d2] d (kk p b c))
    (hdx : (Str.ofString x == ("__debug__" : Str)) = false := by decide) (hdf : (Str.ofString f == ("__debug__" : Str)) = false := by decide) (he : starEach (e :: es) X.env = (false, eval e X.env) :: starEach es X.env := by rfl) (hpl : (backTo pos2 (starEach es X.env)).any (·.1) = false := by rfl)
    (he1 : starEach [.Call (.Name (Str.ofString x) p2) (e :: es) [] pos2, e2] X.env = (false, eval (.Call (.Name (Str.ofString x) p2) (e :: es) [] pos2) X.env) :: starEach [e2] X.env := by rfl) (he2 : starEach [e2] X.env = (false, eval e2 X.env) :: starEach [] X.env := by rfl) (hpl2 : (backTo pos (starEach [e2] X.env)).any (·.1) = false := by rfl) :
    EX X Γ (.Call (.Name (Str.ofString f) p) [.Call (.Name (Str.ofString x) p2) (e :: es) [] pos2, e2] [] pos) l d l := ⟨fun G H σ Q hh kq => by
  obtain ⟨fi, fdi, i1, i2, i3, i4⟩ := CI.ex
  obtain ⟨ff, fdf, f1, f2, f3, f4⟩ := CB.ex
  refine ⟨_, pe_call f1 (hr.mono hj2) hgf f2 f3 f4 .nil (pass0 : Passes CX0 X E0) (pa_cons (pe_make i2 i1 (hr.mono hj) hgx i3 i4 .nil (pass0 : Passes CX0 X E0) pa_w hdx he hpl) (pa_cons pe_w pa_nil he2) he1) hdf he1 hpl2, ?_⟩
  refine h.run G H σ _ hh fun vs G1 H1 q1 e1 iv => ?_
  intro o dx ho hdx' hne
  rw [List.append_nil]
  have g1 : G1 o = none := q1.f.free ho
  have sm : Same H1 (upd (upd H1 dx (.own o)) o (.ins C dx [])) := (Same.new hdx').trans (Same.new (by rw [upd_ne (Ne.symm hne)]; exact ho))
  refine ⟨G1, o, dx, vs, ds, sn, rfl, upd_same, g1, q1.f.trans sm, iv, hRI, fun G2 H2 b c fx hb hc gb gc sc => ⟨rfl, ?_⟩⟩
  have gr : Grow G1 H1 G2 H2 := ⟨fx.g, fx.f, fun a u q => fx.h a u (sm _ _ q) (fun z => (by
    have z : a = o := z
    rw [z, ho] at q; exact nomatch q)), fun a q1 q2 => fx.n a q1 (Same.there sm q2)⟩
  obtain ⟨F, hF⟩ := q1
  have hF2 := hF.grow gr
  have old : ∀ a, H1 a = none → ∀ i, a ∉ F i := fun a ha i hm => (hF.own i a hm).2.2 ha
  have hb1 : H1 b = none := by
    cases q : H1 b with
    | none => rfl
    | some u => rw [sm _ _ q] at hb; cases hb
  have hc1 : H1 c = none := by
    cases q : H1 c with
    | none => rfl
    | some u => rw [sm _ _ q] at hc; cases hc
  have go2 : G2 o = none := fx.n o g1 (by show upd _ _ _ o ≠ none; rw [upd_same]; exact fun z => by cases z)
  have sc0 := sc
  obtain ⟨_, _, _, ⟨dx2, a2, v2, r1, _, _⟩, ⟨ws, _, r2, _⟩, ⟨ks, _, r3, _⟩⟩ := sc0
  have r1 : H2 o = some _ := r1
  have r2 : H2 b = some _ := r2
  have r3 : H2 c = some _ := r3
  refine (h2 (blkG F [] G2 H2)).run G2 H2 σ _ (blkNil hF2) fun v G3 H3 q3 e3 i3 => ?_
  have x3 := q3.fx
  obtain ⟨F3, hF3⟩ := q3
  have nB : ∀ a, H1 a = none → ¬ (blkG F [] G2 H2).B a := fun a ha ⟨i, _, hm⟩ => old a ha i hm
  have z0 : ∀ a, H1 a = none → Γ.H a = none := fun a ha => by
    cases q : Γ.H a with
    | none => rfl
    | some u => exact absurd ha (hF.fx.s a (some_ne q))
  have nF3 : ∀ a, H1 a = none → H2 a ≠ none → ∀ i, a ∉ F3 i := fun a ha hp i hm => by
    rcases (hF3.own i a hm).2.1 with z | z
    · exact hp z
    · exact nB a ha z
  have sc3 : ScoAt G3 H3 (sn.at_ C o b c) := sc.frame e3 fun a ha => by
    rcases ha with ha | ha | ha
    · have ha : a = o := ha
      rw [ha, r1]; exact x3.h o _ r1 (nB o ho)
    · have ha : a = b := ha
      rw [ha, r2]; exact x3.h b _ r2 (nB b hb1)
    · have ha : a = c := ha
      rw [ha, r3]; exact x3.h c _ r3 (nB c hc1)
  refine ⟨G3, sn.at_ C o b c, [v], [d2], d, kk o b c, rfl, hR o b c, x3.f, sc3, x3.n o go2 (some_ne r1), x3.n b gb (some_ne r2), x3.n c gc (some_ne r3), .one i3, fun v4 G4 H4 x4 sc4 i4 => ?_⟩
  refine kq v4 G4 H4 ⟨F3, (hF2.back0 hF3).away x4 fun a ha => ?_⟩ (((e1.trans gr.g).trans e3).trans x4.g) i4
  rcases ha with ha | ha | ha
  · have ha : a = o := ha
    rw [ha]; exact ⟨nF3 o ho (some_ne r1), z0 o ho⟩
  · have ha : a = b := ha
    rw [ha]; exact ⟨nF3 b hb1 (some_ne r2), z0 b hb1⟩
  · have ha : a = c := ha
    rw [ha]; exact ⟨nF3 c hc1 (some_ne r3), z0 c hc1⟩⟩
end
end TG

/-! TgV: rules for scopes, as the macros ask for them -/
namespace TG
open PySem L2 PyProof.Rows
section
variable {X : Cx} {Γ : Gm} {N : List Str} {m i j k : Nat} {n f g : String} {pos p p2 p3 apos cpos : Pos} {a b e : Expr} {es : List Expr} {l l1 : List Sl} {d : PyData} {ds : List PyData} {O : Out} {st : Sco} {w : Str} {ps : List Str} {R : Sco → List PyData → PyData → (Key → Option PyData) → Prop}
theorem set_at {α : Type} {l : List α} {i : Nat} {a : α} (q : l[i]? = some a) : l.set i a = l := by
  refine List.ext_getElem? fun j => ?_
  by_cases hj : j = i
  · subst hj; rw [List.getElem?_set_self (List.getElem?_eq_some_iff.mp q).1, q]
  · rw [List.getElem?_set_ne (Ne.symm hj)]
theorem EX.scInS (hu : X.A.units + 1 < cLine) (c : ScC X.K st.C) (T : Tab X N m) (hA : At N i n) (hi : i < m) (hf : f = "name_kinds") (ha : EX X Γ a l (.str w) l) (q : l[i]? = some (.sc st)) (hb : attributeBase (.Name (Str.ofString n) p) (Str.ofString f) X.env (eval (.Name (Str.ofString n) p) X.env) = eval (.Name (Str.ofString n) p) X.env)
    (hm : behindInMarks .In (.Attribute (.Name (Str.ofString n) p) (Str.ofString f) p2) = false) : EX X Γ (.Compare a [.In] [.Attribute (.Name (Str.ofString n) p) (Str.ofString f) p2] pos) l (.bool (st.kinds (.inr w)).isSome) l := EX.scIn (key := .inr w) hu c T hA hi hf ha q hb hm
theorem EX.scKindS (hu : X.A.units + 1 < cLine) (c : ScC X.K st.C) (T : Tab X N m) (hA : At N i n) (hi : i < m) (hf : f = "name_kinds") (hx : EX X Γ b l (.str w) l) (q : l[i]? = some (.sc st)) (hd : st.kinds (.inr w) = some d) (hb : attributeBase (.Name (Str.ofString n) p) (Str.ofString f) X.env (eval (.Name (Str.ofString n) p) X.env) = eval (.Name (Str.ofString n) p) X.env)
    (hs : NoSl b) : EX X Γ (.Subscript (.Attribute (.Name (Str.ofString n) p) (Str.ofString f) p2) b pos) l d l := EX.scKind (key := .inr w) hu c T hA hi hf hx q hd hb hs
theorem EX.scWayS (hu : X.A.units + 1 < cLine) (c : ScC X.K st.C) (T : Tab X N m) (hA : At N i n) (hi : i < m) (hf : f = "name_ways") (hg : g = "get") (hx : EX X Γ b l (.str w) l) (q : l[i]? = some (.sc st)) (hb : attributeBase (.Name (Str.ofString n) p) (Str.ofString f) X.env (eval (.Name (Str.ofString n) p) X.env) = eval (.Name (Str.ofString n) p) X.env)
    (m1 : M1 X (.Attribute (.Name (Str.ofString n) p) (Str.ofString f) p2) (Str.ofString g) apos b cpos) : EX X Γ (.Call (.Attribute (.Attribute (.Name (Str.ofString n) p) (Str.ofString f) p2) (Str.ofString g) apos) [b] [] cpos) l ((st.ways (.inr w)).getD .none) l := EX.scWay (key := .inr w) hu c T hA hi hf hg hx q hb m1
theorem EX.scSetdS (c : ScC X.K st.C) (T : Tab X N m) (hA : At N i n) (hi : i < m) (hf : f = "name_kinds") (hg : g = "setdefault") (hx : EX X Γ b l (.str w) l) (he : EX X Γ e l d l) (q : l[i]? = some (.sc st)) (hk : .inr w ∈ st.dom) (hdom : st.dom.length < 1000000) (hb : attributeBase (.Name (Str.ofString n) p) (Str.ofString f) X.env (eval (.Name (Str.ofString n) p) X.env) = eval (.Name (Str.ofString n) p) X.env)
    (m2 : M2 X (.Attribute (.Name (Str.ofString n) p) (Str.ofString f) p2) (Str.ofString g) apos b e cpos) : EX X Γ (.Call (.Attribute (.Attribute (.Name (Str.ofString n) p) (Str.ofString f) p2) (Str.ofString g) apos) [b, e] [] cpos) l ((st.kinds (.inr w)).getD d) (l.set i (.sc (setdS st (.inr w) d))) := EX.scSetd (key := .inr w) c T hA hi hf hg hx he q hk hdom hb m2
/-- a method that leaves the scope as it is -/
theorem EX.scMethQ (c : ScC X.K st.C) (M : CalM X.prog X.w X.K X.mg X.base st.C f j ps R) (hr : Room k X.A) (hjk : j ≤ k) (T : Tab X N m) (hA : At N i n) (hi : i < m) (q : l[i]? = some (.sc st)) (h : AX X Γ (e :: es) l ds l) (hR : R st ds d st.kinds) (hno : (Str.ofString f == Str.ofString "door_papers") = false ∧ (Str.ofString f == Str.ofString "result_kind") = false ∧ (Str.ofString f == Str.ofString "name_ways") = false ∧ (Str.ofString f == Str.ofString "name_kinds") = false) {pl : Sem Bool}
    (hst : starEach (e :: es) X.env = (false, eval e X.env) :: starEach es X.env) (hpl : (backTo pos (starEach es X.env)).any (·.1) = false)
    (ht : eval (.Call (.Attribute (.Name (Str.ofString n) p) (Str.ofString f) apos) (e :: es) [] pos) X.env = (do
      let ov ← eval (.Name (Str.ofString n) p) X.env
      standAt apos.atName
      let (f, first) ← holding [ov] (getMethod ov (Str.ofString f) pl)
      callWith pos f first (backTo pos (starEach (e :: es) X.env)) (backToKw pos (keywordEach [] X.env)))) :
    EX X Γ (.Call (.Attribute (.Name (Str.ofString n) p) (Str.ofString f) apos) (e :: es) [] pos) l d l := by
  have := EX.scMeth c M hr hjk T hA hi q h hR hno hst hpl ht
  rwa [show ({ st with kinds := st.kinds } : Sco) = st from rfl, set_at q] at this
theorem SX.scPutKS (hu : X.A.units + 1 < cLine) (c : ScC X.K st.C) (T : Tab X N m) (hA : At N i n) (hi : i < m) (hf : f = "name_kinds") (he : EX X Γ e l d l) (hb : EX X Γ b l (.str w) l) (q : l[i]? = some (.sc st)) (hk : .inr w ∈ st.dom) (hdom : st.dom.length < 1000000) (h : O.nx (l.set i (.sc { st with kinds := fun k => if k = .inr w then some d else st.kinds k })))
    (ha : attributeBase (.Name (Str.ofString n) p) (Str.ofString f) X.env (eval (.Name (Str.ofString n) p) X.env) = eval (.Name (Str.ofString n) p) X.env) (hs : swapsWith e (some (.Subscript (.Attribute (.Name (Str.ofString n) p) (Str.ofString f) p2) b p3)) pos.line X.env = pure false) :
    SX X Γ (.Assign [.Subscript (.Attribute (.Name (Str.ofString n) p) (Str.ofString f) p2) b p3] e pos) l O := SX.scPutK (key := .inr w) hu c T hA hi hf he hb q hk hdom h ha hs
theorem SX.scPutWS (hu : X.A.units + 1 < cLine) (c : ScC X.K st.C) (T : Tab X N m) (hA : At N i n) (hi : i < m) (hf : f = "name_ways") (he : EX X Γ e l d l) (hb : EX X Γ b l (.str w) l) (q : l[i]? = some (.sc st)) (hk : .inr w ∈ st.dom) (hdom : st.dom.length < 1000000) (h : O.nx (l.set i (.sc { st with ways := fun k => if k = .inr w then some d else st.ways k })))
    (ha : attributeBase (.Name (Str.ofString n) p) (Str.ofString f) X.env (eval (.Name (Str.ofString n) p) X.env) = eval (.Name (Str.ofString n) p) X.env) (hs : swapsWith e (some (.Subscript (.Attribute (.Name (Str.ofString n) p) (Str.ofString f) p2) b p3)) pos.line X.env = pure false) :
    SX X Γ (.Assign [.Subscript (.Attribute (.Name (Str.ofString n) p) (Str.ofString f) p2) b p3] e pos) l O := SX.scPutW (key := .inr w) hu c T hA hi hf he hb q hk hdom h ha hs
end
end TG

/-! TgW: reversed tuples and texts; join, extend; the script -/
namespace TG
open PySem L2 PyProof.Rows

section
variable {prog : Program} {w : World} {A : Around} {E : Value → Shared → Prop} {s : Shared}
theorem rev_pick (xs : Array Value) : ((List.range xs.size).filterMap fun (k : Nat) => xs[(((xs.size : Int) - 1) + (k : Int) * (-1)).toNat]?).toArray = xs.toList.reverse.toArray := by
  have e : (List.range xs.size).filterMap (fun (k : Nat) => xs[(((xs.size : Int) - 1) + (k : Int) * (-1)).toNat]?) = xs.toList.reverse := by
    have h0 : ∀ (l : List Nat) (f g : Nat → Option Value), (∀ k ∈ l, f k = g k) → l.filterMap f = l.filterMap g := by
      intro l f g
      induction l with
      | nil => intro _; rfl
      | cons x r ih => intro h; rw [List.filterMap_cons, List.filterMap_cons, h x (by simp), ih fun k hk => h k (by simp [hk])]
    have h1 : (List.range xs.size).filterMap (fun (k : Nat) => xs[(((xs.size : Int) - 1) + (k : Int) * (-1)).toNat]?) = (List.range xs.size).filterMap (fun k => xs.toList.reverse[k]?) := by
      refine h0 _ _ _ fun k hk => ?_
      have hk := List.mem_range.mp hk
      rw [List.getElem?_reverse (by simpa using hk)]
      have : (((xs.size : Int) - 1) + (k : Int) * (-1)).toNat = xs.toList.length - 1 - k := by
        rw [Array.length_toList]; omega
      rw [this, Array.getElem?_toList]
    rw [h1]
    have h2 : ∀ (l : List Value) (n : Nat), (List.range n).filterMap (fun k => l[k]?) = l.take n := by
      intro l n
      induction n with
      | zero => simp
      | succ n ih => rw [List.range_succ, List.filterMap_append, ih, List.take_add_one]; congr 1 <;> (cases h : l[n]? <;> simp [h])
    rw [h2, List.take_of_length_le (by simp)]
  rw [e]
theorem getItem_tuple_rev {t sl : Addr} {items : Array Value} {vs : Value} {Q : Value → Shared → Prop} (ht : IsTup s.heap t items) (hs : s.heap.IsSliceOf sl .none .none vs) (ps : IsPart vs (some (-1)))
    (h : Q (.ref s.heap.objs.size) { s with heap := s.heap.push { cls := .type "tuple", data := .seq items.toList.reverse.toArray } }) (hsz : items.size ≤ sizeLine) : wpAny (model prog w) A (getItem (.ref t) (.ref sl)) Q E s := by
  have hfit : sizeOk (.seq items.toList.reverse.toArray) := by
    show items.toList.reverse.toArray.size ≤ sizeLine
    rw [List.size_toArray, List.length_reverse, Array.length_toList]; exact hsz
  obtain ⟨os, hos, hcs, hds⟩ := id hs
  have hTs : s.TypeIs (.ref sl) "slice" := ⟨os, hos, hcs⟩
  unfold getItem
  try with_reducible refine wpAny_holding ?_
  first | refine wpAny_bind (wpAny_pure ?_) | skip
  refine wpAny_bind (wpAny_sequenceKey ht.typeIs (by decide) ?_)
  refine wpAny_bind (wpAny_callSpecial?_slot (name := Str.ofString "__getitem__") ht.typeIs PyProof.Rows.slot_tuple_getitem (wpAny_call_entry PyProof.Rows.slot_tuple_getitem ht.typeIs PyProof.Rows.entry_tuple_getitem ?_ (PyProof.Rows.args_tuple_getitem _ _)))
  change wpAny _ _ (Builtin.Tuple.tupleItemsOf (.ref t) >>= _) _ _ s
  refine wpAny_bind (PyProof.Rows.tupleItemsOf_ ht (wpAny_bind (wpAny_typeOf hTs ?_)))
  rw [if_pos (by decide)]
  have ap : ∀ (A : Around) (E : Value → Shared → Prop), wpAny (model prog w) A (Builtin.Slice.sliceApplied (.ref sl) (pure (items.size : Int))) (fun r s' => r = ((items.size : Int) - 1, -1, items.size) ∧ s' = s) E s := by
    intro A E
    unfold Builtin.Slice.sliceApplied Builtin.Slice.sliceFields
    refine wpAny_bind (wpAny_bind (wpAny_field hos hds (x := .none) rfl (wpAny_bind (wpAny_field hos hds (x := .none) rfl (wpAny_bind (wpAny_field hos hds (x := vs) rfl (wpAny_pure ?_)))))))
    refine wpAny_bind (HT.slicePart_ ps ?_)
    change wpAny _ _ (if ((-1 : Int) == 0) = true then _ else _) _ _ s
    rw [if_neg (by decide)]
    refine wpAny_bind (HT.slicePart_ .none (wpAny_bind (HT.slicePart_ .none (wpAny_bind (wpAny_pure (wpAny_pure ⟨?_, rfl⟩))))))
    have e1 : Builtin.Slice.sliceAdjust none none (-1) (items.size : Int) = ((items.size : Int) - 1, -1) := rfl
    change ((Builtin.Slice.sliceAdjust none none (-1) (items.size : Int)).1, (-1 : Int), Builtin.Slice.slicePlaces (Builtin.Slice.sliceAdjust none none (-1) (items.size : Int)).1 (Builtin.Slice.sliceAdjust none none (-1) (items.size : Int)).2 (-1)) = _
    rw [e1]
    have e2 : Builtin.Slice.slicePlaces ((items.size : Int) - 1) (-1) (-1) = items.size := by
      unfold Builtin.Slice.slicePlaces
      rw [if_neg (by omega)]
      split
      · have : ((items.size : Int) - 1 - -1 - 1) / (- -1) = (items.size : Int) - 1 := by
          rw [show (- -1 : Int) = 1 by omega, Int.ediv_one]; omega
        rw [this]; omega
      · omega
    rw [e2]
  refine wpAny_bind (wpAny_mono (ap _ _) (fun r s' hr => ?_) fun _ _ x => x)
  obtain ⟨rfl, rfl⟩ := hr
  change wpAny _ _ (if (((items.size : Int) - 1) == 0 && (-1 : Int) == 1 && items.size == items.size) = true then _ else _) _ _ _
  rw [if_neg (by simp), rev_pick]
  first
    | exact wpAny_bind (m := Builtin.Tuple.tupleExact _) (wpAny_newObj_type (wpAny_pure ⟨_, rfl, wpAny_pure h⟩) hfit)
    | exact wpAny_bind (m := Builtin.Tuple.tupleExact _) (wpAny_newObj_type (wpAny_bind (wpAny_pure (wpAny_pure ⟨_, rfl, wpAny_pure h⟩))) hfit)
    | exact wpAny_bind (wpAny_bind (m := Builtin.Tuple.tupleExact _) (wpAny_newObj_type (wpAny_pure (wpAny_pure ⟨_, rfl, wpAny_pure h⟩)) hfit))
    | exact wpAny_bind (wpAny_bind (m := Builtin.Tuple.tupleExact _) (wpAny_newObj_type (wpAny_pure ⟨_, rfl, wpAny_pure h⟩) hfit))
end
section
variable {X : Cx} {e : Expr} {te : TE} {k : Nat} {p1 p2 p3 pos : Pos}
theorem pe_revT (he : PE X e te) : PE X (.Subscript e (.Slice none none (some (.UnaryOp .USub (.Constant (.int 1) k p1) p2)) p3) pos) (fun σ H Q => te σ H fun x H1 => ∃ a xs, x = .ref a ∧ SqT X.K H1 a xs ∧ ∀ p, H1 p = none → Q (.ref p) (upd H1 p (.tup xs.reverse))) := by
  refine ⟨fun pins s σ H Q I h => Subscript_ (thn (he.run pins s σ H _ I h) fun v s1 ⟨x, H1, I1, r1, q1⟩ => ?_)⟩
  obtain ⟨a, xs, rfl, hx, q⟩ := q1
  cases r1
  have hst : PO X (some (.UnaryOp .USub (.Constant (.int 1) k p1) p2)) (tPart (tUn (rU fun i => .int (-i)) (tC (.int 1)))) := po_some (pe_un un_neg pe_int)
  refine wpAny_Slice (thn (po_none.run pins s1 σ H1 (fun o G => o = none ∧ G = H1) I1 ⟨rfl, rfl⟩) fun vl s2 ⟨l, H2, I2, pl, el, e2⟩ => ?_)
  subst el e2
  refine thn (po_none.run pins s2 σ H2 (fun o G => o = none ∧ G = H2) I2 ⟨rfl, rfl⟩) fun vu s3 ⟨u, H3, I3, pu, eu, e3⟩ => ?_
  subst eu e3
  refine thn (hst.run pins s3 σ H3 (fun o G => o = some (-1) ∧ G = H3) I3 ⟨1, rfl, -1, rfl, rfl, rfl⟩) fun vs s4 ⟨o, H4, I4, ps, eo, e4⟩ => ?_
  subst eo e4
  cases pl
  cases pu
  have I5 : Inv X pins σ H4 { s4 with heap := s4.heap.push { cls := .type "slice", data := .fields #[.none, .none, vs] } } := I4.kept (t' := s4.toks) fun b ob q => Heap.get?_push_of_some _ q
  obtain ⟨its, r, ht, hz⟩ := I5.tuple hx
  have hlen := r.length
  change wpAny (model X.prog X.w) X.A (subscriptTail e (.Slice none none (some (.UnaryOp .USub (.Constant (.int 1) k p1) p2)) p3) (.ref a) (.ref s4.heap.objs.size)) (EP X pins σ Q) X.xe { s4 with heap := s4.heap.push { cls := .type "slice", data := .fields #[.none, .none, vs] } }
  refine tail_any (ops := [.ref a, .ref s4.heap.objs.size]) ht.typeIs (PyProof.Rows.slot_tuple_getitem.lookup) ?_ (by with_unfolding_all rfl)
  refine getItem_tuple_rev ht (Heap.IsSliceOf.new _ .none .none vs) ps ?_ (by rw [List.size_toArray]; omega)
  refine ⟨.ref _, _, I5.laid (t' := s4.toks) (o := .tup xs.reverse) (fun b ob q => Heap.get?_push_of_some _ q) (Nat.le_refl _) ?_, rfl, q _ (I5.hok.fresh (Nat.le_refl _))⟩
  exact ⟨by rw [List.length_reverse]; omega, its.reverse, r.reverse, ⟨_, Heap.get?_push_size _ rfl, rfl, _, rfl⟩⟩
end
/-- a text, turned -/
def revS (z : Str) : Str := ⟨z.cps.toList.reverse.toArray⟩
theorem rev_made (z : Str) : ((Builtin.Str.strSliceIndices none none (-1) z.length).filterMap (z.cps[·]?)).toArray = z.cps.toList.reverse.toArray := by
  have e : Builtin.Str.strSliceIndices none none (-1) z.length = sliceRange ((z.cps.size : Int) - 1) (-1) (-1) := rfl
  rw [e, PySem.W.krv_sliceRange, PySem.W.krv_range, List.filterMap_reverse]
  congr 2
  have h2 : ∀ (l : List Nat) (n : Nat), (List.range n).filterMap (fun k => l[k]?) = l.take n := by
    intro l n
    induction n with
    | zero => simp
    | succ n ih => rw [List.range_succ, List.filterMap_append, ih, List.take_add_one]; congr 1 <;> (cases h : l[n]? <;> simp [h])
  have := h2 z.cps.toList z.cps.size
  rw [List.take_of_length_le (by simp)] at this
  rw [← this]
  simp
section
variable {X : Cx} {e : Expr} {te : TE} {k : Nat} {p1 p2 p3 pos : Pos}
theorem pe_revS (he : PE X e te) : PE X (.Subscript e (.Slice none none (some (.UnaryOp .USub (.Constant (.int 1) k p1) p2)) p3) pos) (fun σ H Q => te σ H fun x H1 => ∃ z : Str, x = .str z ∧ z.length ≤ sizeLine ∧ Q (.str (revS z)) H1) := by
  refine ⟨fun pins s σ H Q I h => Subscript_ (thn (he.run pins s σ H _ I h) fun v s1 ⟨x, H1, I1, r1, q1⟩ => ?_)⟩
  obtain ⟨z, rfl, hz, q⟩ := q1
  obtain ⟨t, rfl⟩ := r1
  have hst : PO X (some (.UnaryOp .USub (.Constant (.int 1) k p1) p2)) (tPart (tUn (rU fun i => .int (-i)) (tC (.int 1)))) := po_some (pe_un un_neg pe_int)
  refine wpAny_Slice (thn (po_none.run pins s1 σ H1 (fun o G => o = none ∧ G = H1) I1 ⟨rfl, rfl⟩) fun vl s2 ⟨l, H2, I2, pl, el, e2⟩ => ?_)
  subst el e2
  refine thn (po_none.run pins s2 σ H2 (fun o G => o = none ∧ G = H2) I2 ⟨rfl, rfl⟩) fun vu s3 ⟨u, H3, I3, pu, eu, e3⟩ => ?_
  subst eu e3
  refine thn (hst.run pins s3 σ H3 (fun o G => o = some (-1) ∧ G = H3) I3 ⟨1, rfl, -1, rfl, rfl, rfl⟩) fun vs s4 ⟨o, H4, I4, ps, eo, e4⟩ => ?_
  subst eo e4
  cases pl
  cases pu
  obtain ⟨st, rfl, hst2⟩ := IsPart.raw ps
  have I5 : Inv X pins σ H4 { s4 with heap := s4.heap.push { cls := .type "slice", data := .fields #[.none, .none, partValue st] } } := I4.kept (t' := s4.toks) fun b ob q => Heap.get?_push_of_some _ q
  change wpAny (model X.prog X.w) X.A (subscriptTail e (.Slice none none (some (.UnaryOp .USub (.Constant (.int 1) k p1) p2)) p3) (.str z t) (.ref s4.heap.objs.size)) (EP X pins σ Q) X.xe { s4 with heap := s4.heap.push { cls := .type "slice", data := .fields #[.none, .none, partValue st] } }
  refine tail_any (ops := [.ref s4.heap.objs.size, .str z t]) (typeIs_str _ _ _) (F.slot_str_getitem.lookup) ?_ (by with_unfolding_all rfl)
  refine wpAny_getItem_str_slice (l := none) (u := none) (st := st) ⟨_, Heap.get?_push_size _ rfl, rfl, rfl⟩ (by rw [hst2]; rfl) ?_
  unfold sliceMade slicePicked
  rw [hst2]
  change Made.post (if ((-1 : Int) == 1 && (Builtin.Str.strSliceIndices none none (-1) z.length).length == z.length) = true then Made.val (.str z t) else Made.str ⟨((Builtin.Str.strSliceIndices none none (-1) z.length).filterMap (z.cps[·]?)).toArray⟩) (EP X pins σ Q) _
  rw [if_neg (by simp), rev_made]
  refine ⟨?_, .str (revS z), H4, I5.tok _, ⟨_, rfl⟩, q⟩
  change (z.cps.toList.reverse.toArray).size ≤ sizeLine
  rw [List.size_toArray, List.length_reverse, Array.length_toList]; exact hz
end

/-! ### as rules -/
section
variable {X : Cx} {Γ : Gm} {N : List Str} {m i : Nat} {n f : String} {pos p p1 p2 p3 apos cpos : Pos} {a b e : Expr} {l l1 l2 : List Sl} {d : PyData} {ds ys zs : List PyData} {O : Out} {z : Str} {ns : List Int} {k : Nat}
theorem EX.revT (h : EX X Γ e l (.tuple ds) l1) : EX X Γ (.Subscript e (.Slice none none (some (.UnaryOp .USub (.Constant (.int 1) k p1) p2)) p3) pos) l (.tuple ds.reverse) l1 := ⟨fun G H σ Q hh kk => by
  refine ⟨_, pe_revT pe_w, h.run G H σ _ hh fun v G1 H1 h1 e1 i1 => ?_⟩
  obtain ⟨c, vs, rfl, q1, q2⟩ := i1.tupInv
  exact ⟨c, vs, rfl, SqT.of (h1.f _ _ q1), fun r hr => kk _ _ _ (h1.grow (Grow.laid h1.f hr)) (e1.trans (Same.new (h1.f.free hr))) (.tup upd_same (q2.reverse.mono (Same.new (h1.f.free hr))))⟩⟩
theorem EX.revS (h : EX X Γ e l (.str z) l1) (hz : z.length ≤ 1000000) : EX X Γ (.Subscript e (.Slice none none (some (.UnaryOp .USub (.Constant (.int 1) k p1) p2)) p3) pos) l (.str (revS z)) l1 := ⟨fun G H σ Q hh kk =>
  ⟨_, pe_revS pe_w, h.run G H σ _ hh fun v G1 H1 h1 e1 i1 => ⟨z, i1.strInv, le_size hz, kk _ G1 H1 h1 e1 (.str _)⟩⟩⟩
theorem IsAll.strs {G : Hp} : ∀ {ws : List Str} {vs : List V}, IsAll G vs (ws.map .str) → vs = ws.map .str
  | [], _, h => by cases h; rfl
  | _ :: _, _, h => by
    rw [List.map_cons] at h
    cases h with
    | cons h r => rw [h.strInv, r.strs, List.map_cons]
/-- a.join(b) -/
theorem EX.join {ws : List Str} (hf : f = "join") (ha : EX X Γ a l (.str z) l1) (hb : EX X Γ b l1 (.list (ws.map .str)) l2) (hz : (ws.map (·.length)).sum + ws.length * z.length ≤ 16777216) (hs : starEach [b] X.env = [(false, eval b X.env)] := by rfl) (hbase : attributeBase a (Str.ofString f) X.env (eval a X.env) = eval a X.env := by rfl)
    (hline : (apos.endLine == pos.line) = true := by rfl) : EX X Γ (.Call (.Attribute a (Str.ofString f) apos) [b] [] pos) l (.str (Txt.join z ws)) l2 := ⟨fun G H σ Q hh kk => by
  subst hf
  refine ⟨_, pe_join pe_w pe_w hs hbase hline, ha.run G H σ _ hh fun v G1 H1 h1 e1 i1 => ⟨⟨z, i1.strInv⟩, hb.run G1 H1 σ _ h1 fun u G2 H2 h2 e2 i2 => ?_⟩⟩
  obtain ⟨c, vs, rfl, q1, q2⟩ := i2.lstInv
  rw [q2.strs] at q1
  exact ⟨z, c, ws, i1.strInv, rfl, .inl (SqL.of (h2.f _ _ q1)), hz, kk _ G2 H2 h2 (e1.trans e2) (.str _)⟩⟩
/-- xs.extend(e), e a new list -/
theorem SX.ext (T : Tab X N m) (hA : At N i n) (hi : i < m) (hf : f = "extend") (he : EL X Γ e l zs l1) (q0 : l[i]? = some (.own ys)) (q : l1[i]? = some (.own ys)) (hz : ys.length + zs.length ≤ 1000000) (h : O.nx (l1.set i (.own (ys ++ zs))))
    (h1 : attributeBase (.Name (Str.ofString n) p) (Str.ofString f) X.env (eval (.Name (Str.ofString n) p) X.env) = eval (.Name (Str.ofString n) p) X.env := by rfl)
    (h2 : ((backTo cpos (starEach [e] X.env)).all (fun x => !x.1) && (backToKw cpos (keywordEach [] X.env)).all (fun x => x.1.isSome) && decide (([e] : List Expr).length + ([] : List Keyword).length + (if ([] : List Keyword).isEmpty then 0 else 1) < 30)) = true := by rfl)
    (h3 : (apos.endLine == cpos.line) = true := by rfl) (h4 : starEach [e] X.env = (false, eval e X.env) :: starEach [] X.env := by rfl) (h5 : (backTo cpos (starEach [] X.env)).any (·.1) = false := by rfl)
    (h6 : swapsWith (.Call (.Attribute (.Name (Str.ofString n) p) (Str.ofString f) apos) [e] [] cpos) none pos.line X.env = pure false := by rfl) :
    SX X Γ (.Expr (.Call (.Attribute (.Name (Str.ofString n) p) (Str.ofString f) apos) [e] [] cpos) pos) l O := ⟨fun G H σ D hh kk => by
  subst hf
  refine ⟨_, ps_expr (pe_bm PySem.F.plainAttrs_list PySem.F.slot_list_extend PySem.F.type_list_extend mt_extend (pe_var (T.at_ hA) (T.vis hA hi) (T.dbg i _ hi hA.get).1 (T.dbg i _ hi hA.get).2) (pa_cons pe_w pa_nil h4) h1 h2 h3 h4 h5) h6, ?_⟩
  obtain ⟨F, hF⟩ := id hh
  obtain ⟨c, vs, _, hs, hc, hd, hG⟩ := hF.ownAt q0
  refine ⟨.ref c, hs, .inl ⟨rfl, vs, SqL.of hc⟩, he.run G H σ _ hh fun r ws G1 H1 h1 e1 hr i1 => ?_⟩
  obtain ⟨F1, hF1, _⟩ := id h1
  obtain ⟨c1, vs1, hFi, hs1, hc1, hd1, hG1⟩ := hF1.ownAt q
  rw [hs] at hs1
  cases hs1
  refine ⟨c, r, vs1, ws, rfl, rfl, hc1, hr, by rw [hd1.length, i1.length]; exact le_size hz, ?_⟩
  exact kk.nx σ G1 _ _ (hF1.wOwn q hFi hs (hd1.append i1)) e1 h⟩
/-- an item of an own list, within a block -/
theorem EX.ixOwnV {own vis : List Nat} {j : Int} (T : TabV X N own vis) (hA : At N i n) (hi : i ∈ vis) (hb : EX X Γ b l (.int j) l) (q : l[i]? = some (.own ys)) (h : L2.atI ys j = some d) (hs : PlainIx b := by intro _ _; rfl) : EX X Γ (.Subscript (.Name (Str.ofString n) p) b pos) l d l := ⟨fun G H σ Q hh kk => by
  refine ⟨_, pe_ix ix_list (pe_var (by rw [T.eN]; exact hA.get) (T.vis i _ hi hA.get).1 (T.vis i _ hi hA.get).2.1 (T.vis i _ hi hA.get).2.2) pe_w hs, ?_⟩
  obtain ⟨F, hF⟩ := id hh
  obtain ⟨c, vs, _, hs, hc, hd, hG⟩ := hF.ownAt q
  refine ⟨.ref c, hs, hb.run G H σ _ hh fun v G1 H1 h1 e1 i1 => ?_⟩
  obtain ⟨F1, hF1⟩ := id h1
  obtain ⟨c1, vs1, _, hs1, hc1, hd1, hG1⟩ := hF1.ownAt q
  rw [hs] at hs1
  cases hs1
  obtain ⟨r, r1, r2⟩ := hd1.atI h
  exact ⟨c, vs1, j, r, rfl, i1.intInv, SqL.of hc1, r1, kk r G1 H1 h1 e1 r2⟩⟩
/-- a list and a list, a new list -/
theorem EL.cat (ha : EX X Γ a l (.list ys) l1) (hb : EX X Γ b l1 (.list zs) l2) (hz : ys.length + zs.length ≤ 1000000) : EL X Γ (.BinOp a .Add b pos) l (ys ++ zs) l2 := ⟨fun G H σ Q hh kk => by
  refine ⟨_, pe_op op_cat pe_w pe_w, ha.run G H σ _ hh fun v G1 H1 h1 e1 i1 => hb.run G1 H1 σ _ h1 fun u G2 H2 h2 e2 i2 => ?_⟩
  obtain ⟨c, vs, rfl, q1, q2⟩ := (i1.mono e2).lstInv
  obtain ⟨c2, ws, rfl, q3, q4⟩ := i2.lstInv
  exact ⟨c, c2, vs, ws, rfl, rfl, h2.f _ _ q1, h2.f _ _ q3, by rw [q2.length, q4.length]; exact le_size hz, fun r hr => kk r _ G2 _ (h2.side hr) (e1.trans e2) upd_same (q2.append q4)⟩⟩
theorem ixR {row : List Int} {j : Int} (h0 : 0 ≤ j) (h : j < row.length) : ixD (.list (row.map .int)) j = some (.int (row.getD j.toNat 0)) := by
  obtain ⟨k, rfl⟩ : ∃ k : Nat, j = (k : Int) := ⟨j.toNat, by omega⟩
  refine atI_nat' ?_
  have hk : k < row.length := by omega
  rw [List.getElem?_map, List.getElem?_eq_getElem hk, Int.toNat_natCast, List.getD_eq_getElem?_getD, List.getElem?_eq_getElem hk]
  rfl
theorem cutG_map {α β : Type} (f : α → β) (xs : List α) (lo hi : Option Int) : cutG (xs.map f) lo hi = (cutG xs lo hi).map f := by
  unfold cutG
  rw [List.length_map, List.map_take, List.map_drop]
theorem cutG_len {α : Type} (xs : List α) (lo hi : Option Int) : (cutG xs lo hi).length ≤ xs.length := by
  unfold cutG
  rw [List.length_take, List.length_drop]; omega
end
end TG

/-! TgL: defs that return a list of their own -/
namespace TG
open PySem L2 PyProof.Rows

theorem SX.iteJ {X : Cx} {Γ : Gm} {c : Expr} {A B : List Stmt} {l l1 l2 : List Sl} {O : Out} {pos : Pos} {b : Bool} (hc : TX X Γ c l b l1) (h1 : b = true → SXs X Γ A l1 { O with nx := fun l3 => l3 = l2 }) (h2 : b = false → SXs X Γ B l1 { O with nx := fun l3 => l3 = l2 }) (h : O.nx l2) : SX X Γ (.If c A B pos) l O :=
  SX.ite hc (fun e => (h1 e).imp (fun _ q => q ▸ h) (fun _ _ q => q) (fun _ q => q) fun _ q => q) fun e => (h2 e).imp (fun _ q => q ▸ h) (fun _ _ q => q) (fun _ q => q) fun _ q => q

/-- statements that end in the return of a new list -/
structure LXs (X : Cx) (Γ : Gm) (body : List Stmt) (l : List Sl) (R : List PyData → Prop) : Prop where
  run : ∀ (G H : Hp) (σ : L2.St) (D : Ends), Hold Γ G H σ l → (∀ p vs σ' G' H' ds l', HoldP Γ G' H' σ' l' p → Same G G' → H' p = some (.lst vs) → IsAll G' vs ds → R ds → D.rt (.ref p) H') → wSs X body D σ H
section
variable {X : Cx} {Γ : Gm} {st : Stmt} {rest A : List Stmt} {l l1 l2 l' : List Sl} {e c : Expr} {ds : List PyData} {pos : Pos} {i : Nat} {R : List PyData → Prop}
theorem LXs.ret (he : EL X Γ e l ds l') (h : R ds) : LXs X Γ (.Return (some e) pos :: rest) l R := ⟨fun G H σ D hh k =>
  ⟨_, pss_cons (ps_ret pe_w) pss_w, he.run G H σ _ hh fun p vs G1 H1 h1 e1 hp i1 => k p vs σ G1 H1 ds l' h1 e1 hp i1 h⟩⟩
theorem LXs.cons (h : SX X Γ st l { nx := fun l1 => LXs X Γ rest l1 R, rt := fun _ _ => False }) : LXs X Γ (st :: rest) l R := ⟨fun G H σ D hh k =>
  ⟨_, pss_cons ps_w pss_w, h.run G H σ _ hh ⟨fun σ' G' H' l' a b q => q.run G' H' σ' D a fun p vs σ2 G2 H2 ds l2 x1 x2 x3 x4 x5 => k p vs σ2 G2 H2 ds l2 x1 (b.trans x2) x3 x4 x5,
    fun _ _ _ _ _ _ _ _ _ z => z.elim, fun _ _ _ _ _ _ z => z.elim, fun _ _ _ _ _ _ z => z.elim⟩⟩⟩
theorem LXs.ite {b : Bool} (hc : TX X Γ c l b l1) (h1 : b = true → LXs X Γ A l1 R) (h2 : b = false → LXs X Γ rest l1 R) : LXs X Γ (.If c A [] pos :: rest) l R := ⟨fun G H σ D hh k =>
  ⟨_, pss_cons (ps_if pt_w pss_w pss_nil) pss_w, hc.run G H σ _ hh fun G1 H1 q1 e1 => by
    have k' : ∀ p vs σ' G' H' ds l', HoldP Γ G' H' σ' l' p → Same G1 G' → H' p = some (.lst vs) → IsAll G' vs ds → R ds → D.rt (.ref p) H' := fun p vs σ' G' H' ds l' x1 x2 x3 x4 x5 => k p vs σ' G' H' ds l' x1 (e1.trans x2) x3 x4 x5
    cases b with
    | true => exact iteT ((h1 rfl).run G1 H1 σ _ q1 k')
    | false => exact iteF ((h2 rfl).run G1 H1 σ D q1 k')⟩⟩
theorem LXs.freeze (fz : Γ.fz = true) (q : l[i]? = some (.own ds)) (h : LXs X Γ A (l.set i (.dat (.list ds))) R) : LXs X Γ A l R := ⟨fun G H σ D ⟨F, hh⟩ k => by
  obtain ⟨G', g, h'⟩ := hh.freeze fz q
  exact h.run G' H σ D ⟨_, h'⟩ fun p vs σ' G2 H' ds l' x1 x2 x3 x4 x5 => k p vs σ' G2 H' ds l' x1 (g.trans x2) x3 x4 x5⟩
theorem LXs.reL (e : l = l') (h : LXs X Γ A l' R) : LXs X Γ A l R := e ▸ h
end
def spL (R : List PyData → List PyData → Prop) : Sp := fun vs H Q _ => ∃ (G : Hp) (ds ds' : List PyData), R ds ds' ∧ Same G H ∧ IsAll G vs ds ∧ ∀ p us G' H', Grow G H G' H' → G' p = none → H p = none → H' p = some (.lst us) → IsAll G' us ds' → Q (.ref p) H'
structure CalL (P : Program) (w : World) (K : PySem.W.Frag) (mg : Str → Option Value) (base : Heap) (n : String) (k : Nat) (ps : List Str) (R : List PyData → List PyData → Prop) : Prop where
  ex : ∃ f fd, FnOk P w K mg base CX0 k f fd ps (spL R) ∧ mg (Str.ofString n) = some (.ref f) ∧ PySem.W.keepIn K (.ref f) = true ∧ Binds K fd ps []
theorem EL.cal {X : Cx} {Γ : Gm} {e : Expr} {es : List Expr} {l l' : List Sl} {ds ds' : List PyData} {pos p : Pos} {j k : Nat} {ps : List Str} {n : String} {R : List PyData → List PyData → Prop}
    (C : CalL X.prog X.w X.K X.mg X.base n j ps R) (hr : Room k X.A) (hjk : j ≤ k) (hg : Gl X (Str.ofString n)) (h : AX X Γ (e :: es) l ds l') (hR : R ds ds') (hdb : (Str.ofString n == ("__debug__" : Str)) = false := by decide)
    (he : starEach (e :: es) X.env = (false, eval e X.env) :: starEach es X.env := by rfl) (hpl : (backTo pos (starEach es X.env)).any (·.1) = false := by rfl) : EL X Γ (.Call (.Name (Str.ofString n) p) (e :: es) [] pos) l ds' l' := ⟨fun G H σ Q hh q => by
  obtain ⟨f, fd, F, hm, hk, hb⟩ := C.ex
  refine ⟨_, pe_call F (hr.mono hjk) hg hm hk hb .nil pass0 pa_w hdb he hpl, h.run G H σ _ hh fun vs G1 H1 h1 e1 i1 => ?_⟩
  rw [List.append_nil]
  refine ⟨G1, ds, ds', hR, h1.f, i1, fun p us G2 H2 g n1 n2 hp i2 => ?_⟩
  obtain ⟨F1, hF⟩ := h1
  refine q p us G2 H2 ⟨F1, hF.grow g, fun i hm => (hF.own i p hm).2.2 n2, n1, ?_⟩ (e1.trans g.g) hp i2
  cases z : Γ.H p with
  | none => rfl
  | some u => exact absurd n2 (hF.fx.s p (some_ne z))⟩
section
variable {P : Program} {w : World} {K : PySem.W.Frag} {mg : Str → Option Value} {base : Heap}
theorem okDL {x qual : Str} {st : Stmt} {f : Addr} {fd : FuncData} {N ps : List Str} {k : Nat} {R : List PyData → List PyData → Prop} (F : Fun K x qual st f fd) (S : FnScope N ps (defScope st)) (hl : ∀ ds d, R ds d → ds.length = ps.length)
    (hb : ∀ (cdv : Value) (A : Around) (outer : List Env) (s : Shared) (H : Hp) (E : XK) (Γ : Gm) (ds : List PyData) (d : List PyData), Γ.fz = true → Room k (A.deeper (envOfC qual (defScope st) s.heap.objs.size f cdv)) → R ds d →
      LXs (cxOf CX0 P w K mg base N qual (defScope st) f cdv A outer s H E).nox Γ (defBody st) (ds.map .dat ++ List.replicate (N.length - ds.length) .no) fun d' => d' = d) :
    FnOk P w K mg base CX0 (k + 1) f fd ps (spL R) := by
  refine F.ok S (fun vs H Q E h => ?_) (fun cdv A outer s H vs Q E hr h => ?_)
  · obtain ⟨G, ds, d, hR, f, r, _⟩ := h
    rw [r.length]; exact hl ds d hR
  · obtain ⟨G, ds, d, hR, f, r, q⟩ := h
    have h1 := (hb cdv A outer s H E (gm0 G H) ds d rfl hr hR).run G H (L2.start N vs) { nx := fun _ H' => Q .non H', rt := Q } (Hold.start f r)
      fun p us σ' G' H' d' l' ⟨F', hF, n1, n2, n3⟩ b hp i c => q p us G' H' hF.fx.toGrow n2 n3 hp (by rw [← c]; exact i)
    exact h1
theorem okCL {n : String} {st : Stmt} {N ps : List Str} {k : Nat} {R : List PyData → List PyData → Prop} (m : Nat) (pl : Pl K mg n st ps) (S : FnScope N ps (defScope st)) (ht : tabC N (defScope st) m = true) (hl : ∀ ds d, R ds d → ds.length = ps.length)
    (hb : ∀ (f : Addr) (cdv : Value) (A : Around) (outer : List Env) (s : Shared) (H : Hp) (E : XK) (Γ : Gm) (ds : List PyData) (d : List PyData), Γ.fz = true → Room k (bx P w K mg base N (Str.ofString n) st f cdv A outer s H E).A → Tab (bx P w K mg base N (Str.ofString n) st f cdv A outer s H E) N m → R ds d →
      LXs (bx P w K mg base N (Str.ofString n) st f cdv A outer s H E) Γ (defBody st) (ds.map .dat ++ List.replicate (N.length - ds.length) .no) fun d' => d' = d) :
    CalL P w K mg base n (k + 1) ps R := by
  obtain ⟨f, fd, h1, h2, h3⟩ := pl.ex
  refine ⟨f, fd, okDL h1 S hl fun cdv A outer s H E Γ ds d fz hr hR => ?_, h2, h1.kp, h3⟩
  exact hb f cdv A outer s H E Γ ds d fz hr (tab_of rfl S.nd ht fun _ => rfl) hR
end
end TG

namespace TG
open PySem L2 PyProof.Rows
/-! ### frames on the heap -/
def FrsAt (G H : Hp) (p : Addr) (qs : List (Addr × Addr)) (gs : List Frm) : Prop :=
  (p :: feet qs).Nodup ∧ H p = some (.lst (qs.map fun q => .ref q.1)) ∧ FrmsAt G H qs gs ∧ ∀ a ∈ p :: feet qs, G a = none
def spFr (R : List Frm → List Frm → PyData → Prop) : Sp := fun vs H Q _ => ∃ (G : Hp) (p : Addr) (qs : List (Addr × Addr)) (gs gs' : List Frm) (d : PyData), vs = [.ref p] ∧ R gs gs' d ∧ Same G H ∧ FrsAt G H p qs gs ∧
  ∀ v G' H' qs', Fx ⟨fun a => a ∈ p :: feet qs, G, H, true⟩ G' H' → FrsAt G' H' p qs' gs' → (∀ a ∈ feet qs', H a = none ∨ a ∈ p :: feet qs) → Is G' v d → Q v H'
structure CalFr (P : Program) (w : World) (K : PySem.W.Frag) (mg : Str → Option Value) (base : Heap) (n : String) (k : Nat) (ps : List Str) (R : List Frm → List Frm → PyData → Prop) : Prop where
  ex : ∃ f fd, FnOk P w K mg base CX0 k f fd ps (spFr R) ∧ mg (Str.ofString n) = some (.ref f) ∧ PySem.W.keepIn K (.ref f) = true ∧ Binds K fd ps []
def RClosed (gs gs' : List Frm) (d : PyData) : Prop := d = .none ∧
  ((∃ gs0 f, f.first = .none ∧ gs = gs0 ++ [f] ∧ gs' = gs0 ++ [⟨f.head, .tuple f.items, []⟩]) ∨
   (∃ gs0 g f, isN f.first = false ∧ f.head.length ≤ 10 ∧ g.items.length ≤ 1000 ∧ gs = gs0 ++ [g, f] ∧ gs' = gs0 ++ [⟨g.head, g.first, g.items ++ [.tuple (f.head ++ [f.first, .tuple f.items])]⟩]))
theorem feet_app (a b : List (Addr × Addr)) : feet (a ++ b) = feet a ++ feet b := by
  induction a with
  | nil => rfl
  | cons x r ih => obtain ⟨q, s⟩ := x; simp [feet, ih]
theorem FrmsAt.app {G H : Hp} {gs hs : List Frm} : ∀ {qs : List (Addr × Addr)}, FrmsAt G H qs (gs ++ hs) → ∃ qa qb, qs = qa ++ qb ∧ FrmsAt G H qa gs ∧ FrmsAt G H qb hs := by
  induction gs with
  | nil => exact fun {qs} h => ⟨[], qs, rfl, .nil, h⟩
  | cons g r ih =>
    intro qs h
    cases h with
    | cons h1 h2 =>
      obtain ⟨qa, qb, rfl, h3, h4⟩ := ih h2
      exact ⟨_ :: qa, qb, rfl, .cons h1 h3, h4⟩
theorem FrmsAt.cat {G H : Hp} {gs hs : List Frm} : ∀ {qa qb : List (Addr × Addr)}, FrmsAt G H qa gs → FrmsAt G H qb hs → FrmsAt G H (qa ++ qb) (gs ++ hs)
  | _, _, .nil, h => h
  | _, _, .cons h1 h2, h => .cons h1 (h2.cat h)
theorem FrmsAt.one {G H : Hp} {f : Frm} {qs : List (Addr × Addr)} (h : FrmsAt G H qs [f]) : ∃ q r, qs = [(q, r)] ∧ FrmAt G H q r f := by
  cases h with
  | cons h1 h2 => cases h2; exact ⟨_, _, rfl, h1⟩
theorem FrmsAt.ne {G H : Hp} : ∀ {qs : List (Addr × Addr)} {gs : List Frm}, FrmsAt G H qs gs → ∀ a ∈ feet qs, H a ≠ none
  | _, _, .nil => fun a ha => by simp [feet] at ha
  | _, _, .cons ⟨v, u, vs, h1, _, _, h4, _⟩ r => fun a ha => by
    rcases List.mem_cons.mp ha with rfl | ha
    · exact some_ne h1
    · rcases List.mem_cons.mp ha with rfl | ha
      · exact some_ne h4
      · exact r.ne a ha
theorem Fx.write {Γ : Gm} {G H : Hp} {a : Addr} {o : HO} (x : Fx Γ G H) (hB : Γ.B a ∨ Γ.H a = none) (hG : G a = none) : Fx Γ G (upd H a o) :=
  ⟨x.g, fun b u q => by rw [upd_ne (ne_of_none q hG)]; exact x.f b u q, fun b u q1 q2 => by
    by_cases e : b = a
    · subst e
      rcases hB with z | z
      · exact absurd z q2
      · rw [z] at q1; cases q1
    · rw [upd_ne e]; exact x.h b u q1 q2, fun b q => by
    by_cases e : b = a
    · subst e; rw [upd_same]; exact fun z => by cases z
    · rw [upd_ne e]; exact x.s b q, x.n⟩
section
variable {P : Program} {w : World} {K : PySem.W.Frag} {mg : Str → Option Value} {base : Heap}
theorem ok_law_closed (pl : Pl K mg "_law_closed" s_law_closed ["frames"]) (B : Bi mg) : CalFr P w K mg base "_law_closed" 1 ["frames"] RClosed := by
  obtain ⟨f, fd, h1, h2, h3⟩ := pl.ex
  refine ⟨f, fd, h1.ok sc_law_closed (fun vs H Q E h => ?_) (fun cdv A outer s H vs Q E hr h => ?_), h2, h1.kp, h3⟩
  · obtain ⟨G, p, qs, gs, gs', d, rfl, _⟩ := h; rfl
  · obtain ⟨G, p, qs, gs, gs', d, rfl, hR, fS, ⟨nd, hp, hfr, hG⟩, q⟩ := h
    have T : Tab (bx P w K mg base N_law_closed (Str.ofString "_law_closed") s_law_closed f cdv A outer s H E) N_law_closed 2 := tab_of rfl sc_law_closed.nd (show tabC N_law_closed (defScope s_law_closed) 2 = true by decide +kernel) fun _ => rfl
    have v0 : ∀ {ps : Pos}, PE (bx P w K mg base N_law_closed (Str.ofString "_law_closed") s_law_closed f cdv A outer s H E) (.Name "frames" ps) _ := fun {ps} => pe_var (pos := ps) (T.at_ .z) (T.vis .z (by decide)) (T.dbg 0 _ (by decide) rfl).1 (T.dbg 0 _ (by decide) rfl).2
    have v1 : ∀ {ps : Pos}, PE (bx P w K mg base N_law_closed (Str.ofString "_law_closed") s_law_closed f cdv A outer s H E) (.Name "frame" ps) _ := fun {ps} => pe_var (pos := ps) (T.at_ (.s .z)) (T.vis (.s .z) (by decide)) (T.dbg 1 _ (by decide) rfl).1 (T.dbg 1 _ (by decide) rfl).2
    have len : ∀ {p1 p2 p3 : Pos}, PE (bx P w K mg base N_law_closed (Str.ofString "_law_closed") s_law_closed f cdv A outer s H E) (.Call (.Name "len" p1) [.Name "frames" p2] [] p3) _ := fun {p1 p2 p3} => pe_callB (pos := p3) (p := p1) call_len rfl B.len PySem.boot_len (pa_cons (v0 (ps := p2)) pa_nil)
    refine ⟨_, pss_cons (ps_set T.ndX (T.at_ (.s .z)) (T.loc 1 _ (by decide) rfl) (pe_ix ix_list v0 (pe_op op_sub len pe_int) fun _ _ => rfl))
      (pss_cons (ps_if (pt_cmpR op_isN (pe_ix ix_list v1 pe_int fun _ _ => rfl) pe_non rfl)
        (pss_cons (ps_asg (pe_callTy call_tuple_of rfl B.tuple (by decide +kernel) (pa_cons (pe_ix ix_list v1 pe_int fun _ _ => rfl) pa_nil)) (pg_sub v1 pe_int set_list))
          (pss_cons (ps_asg (pe_lst pa_nil) (pg_sub v1 pe_int set_list)) pss_nil))
        (pss_cons (ps_expr (pe_bm0 PySem.F.plainAttrs_list PySem.F.slot_list_pop PySem.F.type_list_pop mt_pop v0))
          (pss_cons (ps_expr (pe_bm PySem.F.plainAttrs_list PySem.F.slot_list_append PySem.F.type_list_append mt_append (pe_ix ix_list (pe_ix ix_list v0 (pe_op op_sub len pe_int) fun _ _ => rfl) pe_int fun _ _ => rfl)
            (pa_cons (pe_op op_catA (pe_ix ix_list v1 pe_int fun _ _ => rfl) (pe_tup (pa_cons (pe_ix ix_list v1 pe_int fun _ _ => rfl) (pa_cons (pe_callTy call_tuple_of rfl B.tuple (by decide +kernel) (pa_cons (pe_ix ix_list v1 pe_int fun _ _ => rfl) pa_nil)) pa_nil)))) pa_nil))) pss_nil))) pss_nil), ?_⟩
    obtain ⟨rfl, hR⟩ := hR
    have hne : ∀ a ∈ p :: feet qs, H a ≠ none := fun a ha => by
      rcases List.mem_cons.mp ha with rfl | ha
      · exact some_ne hp
      · exact hfr.ne a ha
    rcases hR with ⟨gs0, fr, hfn, rfl, rfl⟩ | ⟨gs0, g, fr, hfn, hz1, hz2, rfl, rfl⟩
    · obtain ⟨qs0, qb, rfl, hf0, hb⟩ := hfr.app
      obtain ⟨q1, r1, rfl, v, u, vs, hq, iv, iu, hr1, ivs⟩ := hb.one
      rw [hfn] at iu
      cases iu
      rw [feet_app] at nd hG hne
      have hq1 : q1 ∈ p :: (feet qs0 ++ feet [(q1, r1)]) := by simp [feet]
      have hr1m : r1 ∈ p :: (feet qs0 ++ feet [(q1, r1)]) := by simp [feet]
      obtain ⟨n, hn⟩ : ∃ n, n = ((qs0 ++ [(q1, r1)]).map fun q => V.ref q.1).length := ⟨_, rfl⟩
      have hat : L2.atI ((qs0 ++ [(q1, r1)]).map fun q => V.ref q.1) ((n : Int) - 1) = some (.ref q1) := by
        have e : ((n : Int) - 1) = ((qs0.length : Nat) : Int) := by rw [hn]; simp
        rw [e]
        refine atI_nat' ?_
        simp
      refine ⟨.ref p, rfl, .ref p, rfl, .ref p, n, rfl, .inl ⟨_, SqL.of hp, hn⟩, (n : Int), 1, rfl, rfl, p, _, (n : Int) - 1, .ref q1, rfl, rfl, SqL.of hp, hat, ?_⟩
      refine ⟨.ref q1, rfl, q1, _, 1, .non, rfl, rfl, SqL.of hq, rfl, rfl, true, by simp, iteT ?_⟩
      refine ⟨.ref q1, rfl, q1, _, 2, .ref r1, rfl, rfl, SqL.of hq, rfl, r1, vs, rfl, .inl ⟨SqL.of hr1, fun l hl => ?_⟩⟩
      have nl : ∀ a ∈ p :: (feet qs0 ++ feet [(q1, r1)]), a ≠ l := fun a ha e => hne a ha (by rw [e]; exact hl)
      have hqa : upd H l (.tup vs) q1 = some (.lst [v, .non, .ref r1]) := by rw [upd_ne (nl _ hq1)]; exact hq
      refine ⟨.ref q1, rfl, q1, _, 1, 1, rfl, rfl, hqa, rfl, ?_⟩
      refine ⟨by decide, fun l2 hl2 => ?_⟩
      have ml2 : l2 ≠ q1 := fun e => by rw [e, upd_same] at hl2; cases hl2
      rw [upd_ne ml2] at hl2
      have ml : l2 ≠ l := fun e => by rw [e, upd_same] at hl2; cases hl2
      rw [upd_ne ml] at hl2
      have nl2 : ∀ a ∈ p :: (feet qs0 ++ feet [(q1, r1)]), a ≠ l2 := fun a ha e => hne a ha (by rw [e]; exact hl2)
      refine ⟨.ref q1, rfl, q1, [v, .ref l, .ref r1], 2, 2, rfl, rfl, by rw [upd_ne ml2.symm, upd_same]; rfl, rfl, ?_⟩
      have gl : G l = none := fS.free hl
      have g1 : Same G (upd G l (.tup vs)) := Same.new gl
      have x0 : Fx ⟨fun a => a ∈ p :: feet (qs0 ++ [(q1, r1)]), G, H, true⟩ G H := Fx.start _ fS
      have x1 := x0.grow (Grow.laid (o := .tup vs) fS hl)
      have hB1 : q1 ∈ p :: feet (qs0 ++ [(q1, r1)]) := by rw [feet_app]; exact hq1
      have gq : (upd G l (HO.tup vs)) q1 = none := by rw [upd_ne (nl _ hq1)]; exact hG _ hq1
      have gl2 : (upd G l (HO.tup vs)) l2 = none := by rw [upd_ne ml]; exact fS.free hl2
      have x2 := x1.write (a := q1) (o := .lst [v, .ref l, .ref r1]) (.inl hB1) gq
      have x3 := x2.write (a := l2) (o := .lst []) (.inr hl2) gl2
      have x4 := x3.write (a := q1) (o := .lst [v, .ref l, .ref l2]) (.inl hB1) gq
      have e1 : p :: (feet qs0 ++ feet [(q1, r1)]) = (p :: (feet qs0 ++ [q1])) ++ [r1] := by simp [feet]
      have e2 : p :: (feet qs0 ++ feet [(q1, l2)]) = (p :: (feet qs0 ++ [q1])) ++ [l2] := by simp [feet]
      rw [e1] at nd
      have ndx := (List.nodup_append.mp nd).1
      have np : p ≠ q1 := fun e => (List.nodup_cons.mp ndx).1 (by rw [e]; simp)
      have n0 : ∀ a ∈ feet qs0, a ≠ q1 := fun a ha e => by
        have := (List.nodup_append.mp (List.nodup_cons.mp ndx).2).2.2 a ha q1 (by simp)
        exact this e
      have fin : ∀ a, a ≠ q1 → a ≠ l → a ≠ l2 → upd (upd (upd (upd H l (HO.tup vs)) q1 (HO.lst [v, .ref l, .ref r1])) l2 (HO.lst [])) q1 (HO.lst [v, .ref l, .ref l2]) a = H a := fun a h1 h2 h3 => by
        rw [upd_ne h1, upd_ne h3, upd_ne h1, upd_ne h2]
      refine q .non _ _ (qs0 ++ [(q1, l2)]) x4 ⟨?_, ?_, ?_, ?_⟩ ?_ .non
      · rw [feet_app, e2]
        refine List.nodup_append.mpr ⟨ndx, by simp, fun a ha b hb => ?_⟩
        have : b = l2 := by simpa using hb
        rw [this]
        exact nl2 a (by rw [e1]; exact List.mem_append_left _ ha)
      · refine (fin p np (nl p (by simp)) (nl2 p (by simp))).trans ?_
        rw [hp]
        simp
      · refine FrmsAt.cat (hf0.frame g1 fun a ha => ?_) (.cons ⟨v, .ref l, [], ?_, iv.mono g1, .tup upd_same (ivs.mono g1), ?_, .nil⟩ .nil)
        · exact fin a (n0 a ha) (nl a (by simp [ha])) (nl2 a (by simp [ha]))
        · exact upd_same
        · rw [upd_ne ml2, upd_same]
      · intro a ha
        rw [feet_app, e2] at ha
        rcases List.mem_append.mp ha with h | h
        · have hm : a ∈ p :: (feet qs0 ++ feet [(q1, r1)]) := by rw [e1]; exact List.mem_append_left _ h
          rw [upd_ne (nl a hm)]; exact hG a hm
        · have : a = l2 := by simpa using h
          rw [this]; exact gl2
      · intro a ha
        rw [feet_app] at ha
        rcases List.mem_append.mp ha with h | h
        · exact .inr (by rw [feet_app]; simp [h])
        · have h : a = q1 ∨ a = l2 := by simpa [feet] using h
          rcases h with rfl | rfl
          · exact .inr hB1
          · exact .inl hl2
    · obtain ⟨qs0, qb, rfl, hf0, hb⟩ := hfr.app
      obtain ⟨qc, qd, rfl, hc, hd⟩ := FrmsAt.app (gs := [g]) (hs := [fr]) hb
      obtain ⟨q1, r1, rfl, v1', u1, vs1, hq1, iv1, iu1, hr1, ivs1⟩ := hc.one
      obtain ⟨q2, r2, rfl, v2, u2, vs2, hq2, iv2, iu2, hr2, ivs2⟩ := hd.one
      rw [feet_app] at nd hG hne
      have eF : feet ([(q1, r1)] ++ [(q2, r2)]) = [q1, r1, q2, r2] := rfl
      rw [eF] at nd hG hne
      have np : ∀ a ∈ feet qs0 ++ [q1, r1, q2, r2], a ≠ p := fun a ha e => (List.nodup_cons.mp nd).1 (by rw [← e]; exact ha)
      have ndr := (List.nodup_append.mp (List.nodup_cons.mp nd).2)
      have nr : r1 ≠ q2 ∧ r1 ≠ r2 ∧ q1 ≠ r1 := by
        have := ndr.2.1
        simp only [List.nodup_cons, List.mem_cons, List.not_mem_nil, or_false, not_or] at this
        exact ⟨this.2.1.1, this.2.1.2, this.1.1⟩
      have n0 : ∀ a ∈ feet qs0, a ≠ r1 := fun a ha e => ndr.2.2 a ha r1 (by simp) e
      obtain ⟨n, hn⟩ : ∃ n, n = ((qs0 ++ ([(q1, r1)] ++ [(q2, r2)])).map fun q => V.ref q.1).length := ⟨_, rfl⟩
      obtain ⟨m, hm⟩ : ∃ m, m = ((qs0 ++ [(q1, r1)]).map fun q => V.ref q.1).length := ⟨_, rfl⟩
      have hat : L2.atI ((qs0 ++ ([(q1, r1)] ++ [(q2, r2)])).map fun q => V.ref q.1) ((n : Int) - 1) = some (.ref q2) := by
        have e : ((n : Int) - 1) = ((qs0.length + 1 : Nat) : Int) := by rw [hn]; simp; omega
        rw [e]
        refine atI_nat' ?_
        simp
      have hat2 : L2.atI ((qs0 ++ [(q1, r1)]).map fun q => V.ref q.1) ((m : Int) - 1) = some (.ref q1) := by
        have e : ((m : Int) - 1) = ((qs0.length : Nat) : Int) := by rw [hm]; simp
        rw [e]
        refine atI_nat' ?_
        simp
      refine ⟨.ref p, rfl, .ref p, rfl, .ref p, n, rfl, .inl ⟨_, SqL.of hp, hn⟩, (n : Int), 1, rfl, rfl, p, _, (n : Int) - 1, .ref q2, rfl, rfl, SqL.of hp, hat, ?_⟩
      have hu2 : decide (u2 = .non) = false := by rw [iu2.nonIff]; exact hfn
      refine ⟨.ref q2, rfl, q2, _, 1, u2, rfl, rfl, SqL.of hq2, rfl, rfl, false, by rw [hu2], iteF ?_⟩
      refine ⟨.ref p, rfl, .inl ⟨rfl, _, SqL.of hp⟩, p, _, .ref q2, rfl, rfl, hp, by simp, ?_⟩
      have edl : (((qs0 ++ ([(q1, r1)] ++ [(q2, r2)])).map fun q => V.ref q.1)).dropLast = (qs0 ++ [(q1, r1)]).map fun q => V.ref q.1 := by
        rw [← List.append_assoc, List.map_append, List.map_singleton, List.dropLast_concat]
      rw [edl]
      generalize hH1 : upd H p (HO.lst ((qs0 ++ [(q1, r1)]).map fun q => V.ref q.1)) = H1
      have hp1 : H1 p = some (.lst ((qs0 ++ [(q1, r1)]).map fun q => V.ref q.1)) := by rw [← hH1, upd_same]
      have h1e : ∀ a ∈ feet qs0 ++ [q1, r1, q2, r2], H1 a = H a := fun a ha => by rw [← hH1, upd_ne (np a ha)]
      have hq1' : H1 q1 = some (.lst [v1', u1, .ref r1]) := by rw [h1e q1 (by simp)]; exact hq1
      have hq2' : H1 q2 = some (.lst [v2, u2, .ref r2]) := by rw [h1e q2 (by simp)]; exact hq2
      have hr1' : H1 r1 = some (.lst vs1) := by rw [h1e r1 (by simp)]; exact hr1
      have hr2' : H1 r2 = some (.lst vs2) := by rw [h1e r2 (by simp)]; exact hr2
      have x0 : Fx ⟨fun a => a ∈ p :: feet (qs0 ++ ([(q1, r1)] ++ [(q2, r2)])), G, H, true⟩ G H := Fx.start _ fS
      have x1 : Fx ⟨fun a => a ∈ p :: feet (qs0 ++ ([(q1, r1)] ++ [(q2, r2)])), G, H, true⟩ G H1 := by
        rw [← hH1]; exact x0.write (.inl (by simp)) (hG p (by simp))
      have f1 := x1.f
      have done : ∀ wv Gx Hx, Grow G H1 Gx Hx → Is Gx wv (.tuple (fr.head ++ [fr.first, .tuple fr.items])) → rAppend (.ref r1) [wv] Hx fun _ H' => Q .non H' := fun wv Gx Hx gr iw => by
        have hrx : Hx r1 = some (.lst vs1) := gr.h _ _ hr1'
        refine ⟨r1, vs1, wv, rfl, rfl, hrx, Nat.lt_of_le_of_lt (by rw [ivs1.length]; exact hz2) (by decide), ?_⟩
        have gr1 : Gx r1 = none := gr.n _ (hG r1 (by simp)) (some_ne hr1')
        have x2 := x1.grow gr
        have x3 := x2.write (a := r1) (o := .lst (vs1 ++ [wv])) (.inl (by rw [feet_app, eF]; simp)) gr1
        have keep : ∀ a o, H1 a = some o → a ≠ r1 → upd Hx r1 (.lst (vs1 ++ [wv])) a = some o := fun a o e ne => by rw [upd_ne ne]; exact gr.h _ _ e
        refine q .non Gx _ (qs0 ++ [(q1, r1)]) x3 ⟨?_, ?_, ?_, ?_⟩ ?_ .non
        · rw [feet_app]
          have e : p :: (feet qs0 ++ [q1, r1, q2, r2]) = (p :: (feet qs0 ++ feet [(q1, r1)])) ++ [q2, r2] := by simp [feet]
          rw [e] at nd
          exact (List.nodup_append.mp nd).1
        · exact keep p _ hp1 (np r1 (by simp)).symm
        · refine FrmsAt.cat (hf0.frame gr.g fun a ha => ?_) (.cons ⟨v1', u1, vs1 ++ [wv], ?_, iv1.mono gr.g, iu1.mono gr.g, upd_same, (ivs1.mono gr.g).append (.one iw)⟩ .nil)
          · obtain ⟨o, e⟩ := ne_some (hne a (by simp [ha]))
            rw [e]
            exact keep a o (by rw [h1e a (by simp [ha])]; exact e) (n0 a ha)
          · exact keep q1 _ hq1' nr.2.2
        · intro a ha
          have hm : a ∈ p :: (feet qs0 ++ [q1, r1, q2, r2]) := by
            rw [feet_app] at ha
            rcases List.mem_cons.mp ha with rfl | ha
            · simp
            · rcases List.mem_append.mp ha with h | h
              · simp [h]
              · have h : a = q1 ∨ a = r1 := by simpa [feet] using h
                rcases h with rfl | rfl <;> simp
          refine gr.n a (hG a hm) ?_
          rcases List.mem_cons.mp hm with rfl | h
          · exact some_ne hp1
          · rw [h1e a h]; exact hne a hm
        · intro a ha
          refine .inr ?_
          rw [feet_app] at ha ⊢
          rcases List.mem_append.mp ha with h | h
          · simp [h]
          · have h : a = q1 ∨ a = r1 := by simpa [feet] using h
            rw [eF]
            rcases h with rfl | rfl <;> simp
      obtain ⟨av, hs, rfl, hav, ihs⟩ := iv2.tupInv
      refine ⟨.ref p, rfl, .ref p, rfl, .ref p, m, rfl, .inl ⟨_, SqL.of hp1, hm⟩, (m : Int), 1, rfl, rfl, p, _, (m : Int) - 1, .ref q1, rfl, rfl, SqL.of hp1, hat2, ?_⟩
      refine ⟨q1, _, 2, .ref r1, rfl, rfl, SqL.of hq1', rfl, .inl ⟨rfl, _, SqL.of hr1'⟩, ?_⟩
      refine ⟨.ref q2, rfl, q2, _, 0, .ref av, rfl, rfl, SqL.of hq2', rfl, .ref q2, rfl, q2, _, 1, u2, rfl, rfl, SqL.of hq2', rfl, .ref q2, rfl, q2, _, 2, .ref r2, rfl, rfl, SqL.of hq2', rfl, r2, vs2, rfl, .inl ⟨SqL.of hr2', fun l hl => ⟨(show 2 ≤ sizeLine by decide), fun l2 hl2 => ?_⟩⟩⟩
      have gA := Grow.laid (o := .tup vs2) f1 hl
      have gB := Grow.laid (o := .tup [u2, .ref l]) gA.f hl2
      have gAB := gA.trans gB
      have gl : G l = none := f1.free hl
      have gl2 : upd G l (.tup vs2) l2 = none := gA.f.free hl2
      have iss : IsAll (upd (upd G l (.tup vs2)) l2 (.tup [u2, .ref l])) [u2, .ref l] [fr.first, .tuple fr.items] :=
        .cons (iu2.mono gAB.g) (.one ((Is.tup upd_same (ivs2.mono gA.g)).mono gB.g))
      have hav2 : upd (upd H1 l (.tup vs2)) l2 (.tup [u2, .ref l]) av = some (.tup hs) := gAB.h _ _ (f1 _ _ hav)
      refine ⟨av, l2, hs, [u2, .ref l], rfl, rfl, SqT.of hav2, SqT.of upd_same, Nat.le_trans (show hs.length + 2 ≤ 1000000 by rw [ihs.length]; omega) (by decide), fun e => ?_, fun _ e => ?_, fun _ _ l3 hl3 => ?_⟩
      · refine done _ _ _ gAB ?_
        subst e
        have : fr.head = [] := by
          have := ihs.length
          exact List.length_eq_zero_iff.mp this.symm
        rw [this]
        exact .tup upd_same iss
      · cases e
      · have gC := Grow.laid (o := .tup (hs ++ [u2, .ref l])) gAB.f hl3
        refine done _ _ _ (gAB.trans gC) ?_
        exact .tup upd_same (((ihs.mono gAB.g).append iss).mono gC.g)
end
end TG

namespace TG
open PySem L2 PyProof.Rows
/-- closed until one frame is left -/
inductive REnd : Nat → List Frm → Frm → Prop
  | one {n : Nat} {f : Frm} : REnd n [f] f
  | step {n : Nat} {gs gs' : List Frm} {f : Frm} : 2 ≤ gs.length → RClosed gs gs' .none → REnd n gs' f → REnd (n + 1) gs f
def REnded (gs gs' : List Frm) (d : PyData) : Prop := ∃ n f, REnd n gs f ∧ gs' = [f] ∧ d = .tuple f.items
theorem FrmsAt.len {G H : Hp} : ∀ {qs : List (Addr × Addr)} {gs : List Frm}, FrmsAt G H qs gs → qs.length = gs.length
  | _, _, .nil => rfl
  | _, _, .cons _ r => congrArg (· + 1) r.len
/-- what two doings do -/
theorem frs_trans {G H G1 H1 G2 H2 : Hp} {p : Addr} {qs qs1 : List (Addr × Addr)} {z z1 : Bool} (x : Fx ⟨fun a => a ∈ p :: feet qs, G, H, z⟩ G1 H1) (fr : ∀ a ∈ feet qs1, H a = none ∨ a ∈ p :: feet qs) (y : Fx ⟨fun a => a ∈ p :: feet qs1, G1, H1, z1⟩ G2 H2) : Fx ⟨fun a => a ∈ p :: feet qs, G, H, z⟩ G2 H2 :=
  ⟨x.g.trans y.g, y.f, fun a o q1 q2 => y.h a o (x.h a o q1 q2) fun hb => by
    rcases List.mem_cons.mp hb with rfl | hb
    · exact q2 (by simp)
    · rcases fr a hb with e | e
      · have q1 : H a = some o := q1
        rw [e] at q1; cases q1
      · exact q2 e, fun a q => y.s a (x.s a q), fun a q1 q2 => y.n a (x.n a q1 q2) (x.s a q2)⟩
theorem fresh_trans {G H G1 H1 : Hp} {p : Addr} {qs qs1 qs2 : List (Addr × Addr)} {z : Bool} (x : Fx ⟨fun a => a ∈ p :: feet qs, G, H, z⟩ G1 H1) (fr : ∀ a ∈ feet qs1, H a = none ∨ a ∈ p :: feet qs) (fr2 : ∀ a ∈ feet qs2, H1 a = none ∨ a ∈ p :: feet qs1) : ∀ a ∈ feet qs2, H a = none ∨ a ∈ p :: feet qs := fun a ha => by
  rcases fr2 a ha with e | e
  · refine .inl ?_
    cases q : H a with
    | none => rfl
    | some o => exact absurd e (x.s a (some_ne q))
  · rcases List.mem_cons.mp e with rfl | e
    · exact .inr (by simp)
    · exact fr a e
section
variable {P : Program} {w : World} {K : PySem.W.Frag} {mg : Str → Option Value} {base : Heap}
theorem ok_law_ended (pl : Pl K mg "_law_ended" s_law_ended ["frames"]) (B : Bi mg) (C : CalFr P w K mg base "_law_closed" 1 ["frames"] RClosed) : CalFr P w K mg base "_law_ended" 2 ["frames"] REnded := by
  obtain ⟨f, fd, h1, h2, h3⟩ := pl.ex
  obtain ⟨fc, fcd, c1, c2, c3, c4⟩ := C.ex
  refine ⟨f, fd, h1.ok sc_law_ended (fun vs H Q E h => ?_) (fun cdv A outer s H vs Q E hr h => ?_), h2, h1.kp, h3⟩
  · obtain ⟨G, p, qs, gs, gs', d, rfl, _⟩ := h; rfl
  · obtain ⟨G, p, qs, gs, gs', d, rfl, hR, fS, hfrs, q⟩ := h
    have T : Tab (bx P w K mg base N_law_ended (Str.ofString "_law_ended") s_law_ended f cdv A outer s H E) N_law_ended 1 := tab_of rfl sc_law_ended.nd (show tabC N_law_ended (defScope s_law_ended) 1 = true by decide +kernel) fun _ => rfl
    have v0 : ∀ {ps : Pos}, PE (bx P w K mg base N_law_ended (Str.ofString "_law_ended") s_law_ended f cdv A outer s H E) (.Name "frames" ps) _ := fun {ps} => pe_var (pos := ps) (T.at_ .z) (T.vis .z (by decide)) (T.dbg 0 _ (by decide) rfl).1 (T.dbg 0 _ (by decide) rfl).2
    refine ⟨_, pss_cons (ps_while PassesOwn.never (pt_cmpR op_gt (pe_callB call_len rfl B.len PySem.boot_len (pa_cons v0 pa_nil)) pe_int rfl)
        (pss_cons (ps_expr (pe_call c1 (hr.mono (by decide)) rfl c2 c3 c4 .nil pass0 (pa_cons v0 pa_nil))) pss_nil))
      (pss_cons (ps_ret (pe_callTy call_tuple_of rfl B.tuple (by decide +kernel) (pa_cons (pe_ix ix_list (pe_ix ix_list v0 pe_int fun _ _ => rfl) pe_int fun _ _ => rfl) pa_nil))) pss_nil), ?_⟩
    obtain ⟨n, fl, hE, rfl, rfl⟩ := hR
    refine ⟨fun m σ H2 => σ = L2.start N_law_ended [.ref p] ∧ ∃ G2 qs2 gs2, Fx ⟨fun a => a ∈ p :: feet qs, G, H, true⟩ G2 H2 ∧ FrsAt G2 H2 p qs2 gs2 ∧ (∀ a ∈ feet qs2, H a = none ∨ a ∈ p :: feet qs) ∧ REnd m gs2 fl, ⟨n, rfl, G, qs, gs, Fx.start _ fS, hfrs, fun a ha => .inr (by simp [ha]), hE⟩, ?_⟩
    rintro m σ H2 ⟨rfl, G2, qs2, gs2, x2, hfrs2, fr2, hE2⟩
    obtain ⟨nd, hp, hf, hG⟩ := id hfrs2
    refine ⟨.ref p, rfl, .ref p, (qs2.map fun q => V.ref q.1).length, rfl, .inl ⟨_, SqL.of hp, rfl⟩, _, _, rfl, rfl, decide ((1 : Int) < (((qs2.map fun q => V.ref q.1).length : Nat) : Int)), rfl, ?_⟩
    have hlen : (qs2.map fun q => V.ref q.1).length = gs2.length := by rw [List.length_map, hf.len]
    rw [hlen]
    cases hE2 with
    | one =>
      refine iteF ?_
      obtain ⟨q1, r1, rfl, v, u, vs, hq, iv, iu, hr1, ivs⟩ := hf.one
      refine ⟨.ref p, rfl, p, _, 0, .ref q1, rfl, rfl, SqL.of hp, rfl, q1, _, 2, .ref r1, rfl, rfl, SqL.of hq, rfl, r1, vs, rfl, .inl ⟨SqL.of hr1, fun l hl => ?_⟩⟩
      have gr := Grow.laid (o := .tup vs) x2.f hl
      have nl : ∀ a ∈ p :: feet [(q1, r1)], a ≠ l := fun a ha e => by
        rcases List.mem_cons.mp ha with rfl | ha
        · rw [e, hl] at hp; cases hp
        · exact hf.ne a ha (by rw [e]; exact hl)
      refine q _ _ _ [(q1, r1)] (x2.grow gr) ⟨nd, gr.h _ _ hp, hf.frame gr.g fun a ha => upd_ne (nl a (by simp [ha])), fun a ha => by rw [upd_ne (nl a ha)]; exact hG a ha⟩ fr2 ?_
      exact .tup upd_same (ivs.mono gr.g)
    | step h2 hc hE3 =>
      rename_i m' gs3
      rw [decide_eq_true (by omega)]
      refine iteT ⟨fun σ' H' => σ' = L2.start N_law_ended [.ref p] ∧ ∃ G2 qs2 gs2, Fx ⟨fun a => a ∈ p :: feet qs, G, H, true⟩ G2 H' ∧ FrsAt G2 H' p qs2 gs2 ∧ (∀ a ∈ feet qs2, H a = none ∨ a ∈ p :: feet qs) ∧ REnd m' gs2 fl, fun σ' H' z => ⟨m', by omega, z⟩, ?_⟩
      refine ⟨.ref p, rfl, G2, p, qs2, gs2, gs3, .none, rfl, hc, x2.f, hfrs2, fun v G3 H3 qs3 x3 hfrs3 fr3 _ => ?_⟩
      exact ⟨rfl, G3, qs3, gs3, frs_trans x2 fr2 x3, hfrs3, fresh_trans x2 fr2 fr3, hE3⟩
end

/-! ### a slot of frames -/
section
variable {Γ : Gm} {F : Nat → List Addr} {G H G' H' : Hp} {σ : L2.St} {l : List Sl} {i : Nat} {gs gs' : List Frm}
theorem HoldF.frAt (h : HoldF Γ F G H σ l) (e : l[i]? = some (.fr gs)) : ∃ p qs, F i = p :: feet qs ∧ σ[i]? = some (some (.ref p)) ∧ FrsAt G H p qs gs := by
  obtain ⟨s, h1, p, qs, hF, nd, rfl, h3, h4⟩ := h.at_ i _ e
  exact ⟨p, qs, hF, h1, nd, h3, h4, fun a ha => (h.own i a (by rw [hF]; exact ha)).1⟩
theorem HoldF.frDone {p : Addr} {qs qs' : List (Addr × Addr)} (h : HoldF Γ F G H σ l) (e : l[i]? = some (.fr gs)) (hF : F i = p :: feet qs) (hs : σ[i]? = some (some (.ref p))) (x : Fx ⟨fun a => a ∈ p :: feet qs, G, H, true⟩ G' H') (r : FrsAt G' H' p qs' gs') (fr : ∀ a ∈ feet qs', H a = none ∨ a ∈ p :: feet qs) : Hold Γ G' H' σ (l.set i (.fr gs')) := by
  have hil : i < l.length := (List.getElem?_eq_some_iff.mp e).1
  have kp : ∀ j a, j ≠ i → a ∈ F j → H' a = H a := fun j a hj ha => by
    obtain ⟨o, q⟩ := ne_some (h.own j a ha).2.2
    rw [q]; exact x.h a o q fun z => hj (h.dis j i a ha (by rw [hF]; exact z))
  have mem : ∀ a ∈ p :: feet qs', H a = none ∨ a ∈ F i := fun a ha => by
    rw [hF]
    rcases List.mem_cons.mp ha with rfl | ha
    · exact .inr (by simp)
    · exact fr a ha
  obtain ⟨nd, hp, hf, hG⟩ := r
  have hne : ∀ a ∈ p :: feet qs', H' a ≠ none := fun a ha => by
    rcases List.mem_cons.mp ha with rfl | ha
    · exact some_ne hp
    · exact hf.ne a ha
  refine ⟨fun j => if j = i then p :: feet qs' else F j, ⟨h.fx.g.trans x.g, x.f, fun a u q1 q2 => ?_, fun a q => x.s a (h.fx.s a q), fun a q1 q2 => x.n a (h.fx.n a q1 q2) (h.fx.s a q2)⟩, by rw [List.length_set]; exact h.len, fun j sl' e' => ?_, fun j k a h1 h2 => ?_, fun j a q => ?_, fun z j sl' e' en' a ha => ?_⟩
  · refine x.h a u (h.fx.h a u q1 q2) fun z => ?_
    rcases (h.own i a (by rw [hF]; exact z)).2.1 with y | y
    · rw [y] at q1; cases q1
    · exact q2 y
  · by_cases hj : j = i
    · subst hj
      rw [List.getElem?_set_self hil] at e'
      cases e'
      refine ⟨_, hs, ?_⟩
      rw [if_pos rfl]
      exact ⟨p, qs', rfl, nd, rfl, hp, hf⟩
    · rw [List.getElem?_set_ne (Ne.symm hj)] at e'
      obtain ⟨s, h1, h2⟩ := h.at_ j sl' e'
      refine ⟨s, h1, ?_⟩
      rw [if_neg hj]
      exact h2.frame x.g fun a ha => kp j a hj ha
  · have cross : ∀ j k, j = i → k ≠ i → a ∈ p :: feet qs' → a ∈ F k → False := fun j k hj hk m1 m2 => by
      rcases mem a m1 with z | z
      · exact (h.own k a m2).2.2 z
      · exact hk (h.dis k i a m2 z)
    by_cases hj : j = i
    · by_cases hk : k = i
      · rw [hj, hk]
      · rw [if_pos hj] at h1; rw [if_neg hk] at h2
        exact (cross j k hj hk h1 h2).elim
    · by_cases hk : k = i
      · rw [if_neg hj] at h1; rw [if_pos hk] at h2
        exact (cross k j hk hj h2 h1).elim
      · rw [if_neg hj] at h1; rw [if_neg hk] at h2
        exact h.dis j k a h1 h2
  · by_cases hj : j = i
    · rw [if_pos hj] at q
      refine ⟨hG a q, ?_, hne a q⟩
      rcases mem a q with z | z
      · refine .inl ?_
        cases y : Γ.H a with
        | none => rfl
        | some o => exact absurd z (h.fx.s a (some_ne y))
      · exact (h.own i a z).2.1
    · rw [if_neg hj] at q
      obtain ⟨h1, h2, h3⟩ := h.own j a q
      exact ⟨x.n a h1 h3, h2, x.s a h3⟩
  · by_cases hj : j = i
    · subst hj
      rw [List.getElem?_set_self hil] at e'
      cases e'; cases en'
    · rw [List.getElem?_set_ne (Ne.symm hj)] at e'
      rw [if_neg hj] at ha
      exact h.new z j sl' e' en' a ha
/-- a slot apart -/
theorem HoldF.apart (h : HoldF Γ F G H σ l) (i : Nat) : HoldF (blkG F [i] G H) (fun j => if j = i then [] else F j) G H σ (l.set i .no) := by
  refine ⟨Fx.start _ h.fx.f, by rw [List.length_set]; exact h.len, fun j sl e => ?_, fun j k a h1 h2 => ?_, fun j a h1 => ?_, fun z => by cases z⟩
  · by_cases hj : j = i
    · subst hj
      have hlt : j < l.length := by
        have := (List.getElem?_eq_some_iff.mp e).1
        rwa [List.length_set] at this
      rw [List.getElem?_set_self hlt] at e
      cases e
      exact ⟨σ[j]'(by rw [h.len]; exact hlt), List.getElem?_eq_getElem _, trivial⟩
    · rw [List.getElem?_set_ne (Ne.symm hj)] at e
      obtain ⟨s, h1, h2⟩ := h.at_ j sl e
      exact ⟨s, h1, by rw [if_neg hj]; exact h2⟩
  · by_cases hj : j = i
    · simp [hj] at h1
    · by_cases hk : k = i
      · simp [hk] at h2
      · rw [if_neg hj] at h1; rw [if_neg hk] at h2; exact h.dis j k a h1 h2
  · by_cases hj : j = i
    · simp [hj] at h1
    · rw [if_neg hj] at h1
      exact ⟨(h.own j a h1).1, .inr ⟨j, by simpa using hj, h1⟩, (h.own j a h1).2.2⟩
theorem HoldF.together {F2 : Nat → List Addr} (h : HoldF Γ F G H σ l) (k : HoldF (blkG F [i] G H) F2 G' H' σ (l.set i .no)) : HoldF Γ (fun j => if j = i then F i else F2 j) G' H' σ l ∧ ∀ a ∈ F i, H' a = H a := by
  have nb : ∀ a ∈ F i, ¬ (blkG F [i] G H).B a := fun a ha ⟨j, hj, ha'⟩ => hj (by rw [h.dis j i a ha' ha]; simp)
  have keep : ∀ a ∈ F i, H' a = H a := fun a ha => by
    obtain ⟨o, q⟩ := ne_some (h.own i a ha).2.2
    rw [q]; exact k.fx.h a o q (nb a ha)
  have back : ∀ a, H a = none → Γ.H a = none := fun a z => by
    cases q : Γ.H a with
    | none => rfl
    | some u => exact absurd z (h.fx.s a (some_ne q))
  refine ⟨⟨⟨h.fx.g.trans k.fx.g, k.fx.f, fun a u q nb' => ?_, fun a q => k.fx.s a (h.fx.s a q), fun a q1 q2 => k.fx.n a (h.fx.n a q1 q2) (h.fx.s a q2)⟩, h.len, fun j sl e => ?_, fun j m a h1 h2 => ?_, fun j a h1 => ?_, fun z j sl e en a ha => ?_⟩, keep⟩
  · refine k.fx.h a u (h.fx.h a u q nb') fun ⟨j, _, ha⟩ => ?_
    rcases (h.own j a ha).2.1 with z | z
    · rw [z] at q; cases q
    · exact nb' z
  · by_cases hj : j = i
    · subst hj
      obtain ⟨s, h1, h2⟩ := h.at_ j sl e
      exact ⟨s, h1, by rw [if_pos rfl]; exact h2.frame k.fx.g keep⟩
    · obtain ⟨s, h1, h2⟩ := k.at_ j sl (by rw [List.getElem?_set_ne (Ne.symm hj)]; exact e)
      exact ⟨s, h1, by rw [if_neg hj]; exact h2⟩
  · have cross : ∀ m, m ≠ i → a ∈ F i → a ∈ F2 m → False := fun m hm m1 m2 => by
      rcases (k.own m a m2).2.1 with z | z
      · exact (h.own i a m1).2.2 z
      · exact nb a m1 z
    by_cases hj : j = i
    · by_cases hm : m = i
      · rw [hj, hm]
      · rw [if_pos hj] at h1; rw [if_neg hm] at h2; exact (cross m hm h1 h2).elim
    · by_cases hm : m = i
      · rw [if_neg hj] at h1; rw [if_pos hm] at h2; exact (cross j hj h2 h1).elim
      · rw [if_neg hj] at h1; rw [if_neg hm] at h2; exact k.dis j m a h1 h2
  · by_cases hj : j = i
    · rw [if_pos hj] at h1
      obtain ⟨q1, q2, q3⟩ := h.own i a h1
      exact ⟨k.fx.n a q1 q3, q2, by rw [keep a h1]; exact q3⟩
    · rw [if_neg hj] at h1
      obtain ⟨q1, q2, q3⟩ := k.own j a h1
      refine ⟨q1, ?_, q3⟩
      rcases q2 with z | ⟨m, _, hm⟩
      · exact .inl (back a z)
      · exact (h.own m a hm).2.1
  · by_cases hj : j = i
    · subst hj
      rw [if_pos rfl] at ha
      exact h.new z j sl e en a ha
    · rw [if_neg hj] at ha
      have same : F j = F2 j := by
        obtain ⟨s, h1, h2⟩ := h.at_ j sl e
        obtain ⟨s', h1', h2'⟩ := k.at_ j sl (by rw [List.getElem?_set_ne (Ne.symm hj)]; exact e)
        rw [h1] at h1'
        cases h1'
        cases sl with
        | own ds =>
          obtain ⟨p, _, r1, r2, _⟩ := h2
          obtain ⟨p', _, r1', r2', _⟩ := h2'
          rw [r2] at r2'; cases r2'; rw [r1, r1']
        | dk ds =>
          obtain ⟨p, _, r1, r2, _⟩ := h2
          obtain ⟨p', _, r1', r2', _⟩ := h2'
          rw [r2] at r2'; cases r2'; rw [r1, r1']
        | dt ds =>
          obtain ⟨p, _, r1, r2, _⟩ := h2
          obtain ⟨p', _, r1', r2', _⟩ := h2'
          rw [r2] at r2'; cases r2'; rw [r1, r1']
        | _ => cases en
      exact h.new z j sl e en a (by rw [same]; exact ha)
end
end TG

namespace TG
open PySem L2 PyProof.Rows
section
variable {X : Cx} {Γ : Gm} {N : List Str} {m i j k : Nat} {n f : String} {pos p p2 p3 p4 p5 p6 p7 p8 p9 pos' apos cpos : Pos} {a b e : Expr} {l l1 l2 : List Sl} {x d : PyData} {ds : List PyData} {O : Out} {ps : List Str} {gs gs' : List Frm} {R : List Frm → List Frm → PyData → Prop}
/-- f(frames) -/
theorem EX.frFun (C : CalFr X.prog X.w X.K X.mg X.base f j ps R) (hr : Room k X.A) (hjk : j ≤ k) (hg : Gl X (Str.ofString f)) (T : Tab X N m) (hA : At N i n) (hi : i < m) (q : l[i]? = some (.fr gs)) (hR : R gs gs' d)
    (hdb : (Str.ofString f == ("__debug__" : Str)) = false := by decide) (he : starEach [.Name (Str.ofString n) p2] X.env = (false, eval (.Name (Str.ofString n) p2) X.env) :: starEach [] X.env := by rfl) (hpl : (backTo pos (starEach [] X.env)).any (·.1) = false := by rfl) :
    EX X Γ (.Call (.Name (Str.ofString f) p) [.Name (Str.ofString n) p2] [] pos) l d (l.set i (.fr gs')) := ⟨fun G H σ Q hh kk => by
  obtain ⟨g, fd, h1, h2, h3, h4⟩ := C.ex
  refine ⟨_, pe_call h1 (hr.mono hjk) hg h2 h3 h4 .nil (pass0 : Passes CX0 X E0) (pa_cons (pe_var (T.at_ hA) (T.vis hA hi) (T.dbg i _ hi hA.get).1 (T.dbg i _ hi hA.get).2) pa_nil he) hdb he hpl, ?_⟩
  obtain ⟨F, hF⟩ := id hh
  obtain ⟨pp, qs, hFi, hs, fr⟩ := hF.frAt q
  exact ⟨.ref pp, hs, G, pp, qs, gs, gs', d, rfl, hR, hF.fx.f, fr, fun v G' H' qs' x r fre iv => kk v G' H' (hF.frDone q hFi hs x r fre) x.g iv⟩⟩
/-- len(frames) -/
theorem EX.frLen (hf : f = "len") (B : Bi X.mg) (T : Tab X N m) (hA : At N i n) (hi : i < m) (q : l[i]? = some (.fr gs)) (hg : Gl X "len" := by rfl) (hs : starEach [.Name (Str.ofString n) p2] X.env = (false, eval (.Name (Str.ofString n) p2) X.env) :: starEach [] X.env := by rfl)
    (hpl : (backTo pos (starEach [] X.env)).any (·.1) = false := by rfl) : EX X Γ (.Call (.Name (Str.ofString f) p) [.Name (Str.ofString n) p2] [] pos) l (.int (gs.length : Nat)) l := ⟨fun G H σ Q hh kk => by
  subst hf
  refine ⟨_, pe_callB call_len hg B.len PySem.boot_len (pa_cons (pe_var (T.at_ hA) (T.vis hA hi) (T.dbg i _ hi hA.get).1 (T.dbg i _ hi hA.get).2) pa_nil hs) (by decide) (by decide) hs hpl, ?_⟩
  obtain ⟨F, hF⟩ := hh
  obtain ⟨pp, qs, hFi, hs, nd, hp, fr, _⟩ := hF.frAt q
  exact ⟨.ref pp, hs, .ref pp, gs.length, rfl, .inl ⟨_, SqL.of hp, by rw [List.length_map, fr.len]⟩, kk _ G H ⟨F, hF⟩ (Same.refl _) (.int _)⟩⟩
/-- frames.append([e, None, []]) -/
theorem SX.frPush {hd : List PyData} {j1 : Nat} {x1 : Nat} (T : Tab X N m) (hA : At N i n) (hi : i < m) (hf : f = "append") (he : ∀ Γ', EX X Γ' e (l.set i .no) (.tuple hd) (l.set i .no)) (q : l[i]? = some (.fr gs)) (hz : gs.length < 1000000) (h : O.nx (l.set i (.fr (gs ++ [⟨hd, .none, []⟩]))))
    (h0 : starEach [e, .Constant .none j1 p3, .List [] p4] X.env = (false, eval e X.env) :: starEach [.Constant .none j1 p3, .List [] p4] X.env := by rfl)
    (h1 : attributeBase (.Name (Str.ofString n) p) (Str.ofString f) X.env (eval (.Name (Str.ofString n) p) X.env) = eval (.Name (Str.ofString n) p) X.env := by rfl)
    (h2 : ((backTo cpos (starEach [.List [e, .Constant .none j1 p3, .List [] p4] p5] X.env)).all (fun x => !x.1) && (backToKw cpos (keywordEach [] X.env)).all (fun x => x.1.isSome) && decide (([.List [e, .Constant .none j1 p3, .List [] p4] p5] : List Expr).length + ([] : List Keyword).length + (if ([] : List Keyword).isEmpty then 0 else 1) < 30)) = true := by rfl)
    (h3 : (apos.endLine == cpos.line) = true := by rfl) (h4 : starEach [.List [e, .Constant .none j1 p3, .List [] p4] p5] X.env = (false, eval (.List [e, .Constant .none j1 p3, .List [] p4] p5) X.env) :: starEach [] X.env := by rfl) (h5 : (backTo cpos (starEach [] X.env)).any (·.1) = false := by rfl)
    (h6 : swapsWith (.Call (.Attribute (.Name (Str.ofString n) p) (Str.ofString f) apos) [.List [e, .Constant .none j1 p3, .List [] p4] p5] [] cpos) none pos.line X.env = pure false := by rfl) :
    SX X Γ (.Expr (.Call (.Attribute (.Name (Str.ofString n) p) (Str.ofString f) apos) [.List [e, .Constant .none j1 p3, .List [] p4] p5] [] cpos) pos) l O := ⟨fun G H σ D hh kk => by
  subst hf
  refine ⟨_, ps_expr (pe_bm PySem.F.plainAttrs_list PySem.F.slot_list_append PySem.F.type_list_append mt_append (pe_var (T.at_ hA) (T.vis hA hi) (T.dbg i _ hi hA.get).1 (T.dbg i _ hi hA.get).2) (pa_cons (pe_lst (pa_cons pe_w (pa_cons pe_non (pa_cons (pe_lst pa_nil) pa_nil)) h0)) pa_nil h4) h1 h2 h3 h4 h5) h6, ?_⟩
  obtain ⟨F, hF⟩ := id hh
  obtain ⟨pp, qs, hFi, hs, _, hp, _, _⟩ := hF.frAt q
  refine ⟨.ref pp, hs, .inl ⟨rfl, _, SqL.of hp⟩, (he _).run G H σ _ ⟨_, hF.apart i⟩ fun v G1 H1 q1 e1 i1 => ?_⟩
  obtain ⟨F2, hF2⟩ := q1
  obtain ⟨hF1, keep⟩ := hF.together hF2
  obtain ⟨pp', qs', hFi', hs', fr1⟩ := hF1.frAt q
  rw [hs] at hs'
  cases hs'
  obtain ⟨nd1, hp1, hf1, hG1⟩ := id fr1
  refine ⟨by decide, fun r hr => ⟨(show 3 ≤ sizeLine by decide), fun o ho => ?_⟩⟩
  have hr' := hr
  have ho' : H1 o = none ∧ o ≠ r := by
    have : o ≠ r := fun z => by rw [z, upd_same] at ho; cases ho
    rw [upd_ne this] at ho
    exact ⟨ho, this⟩
  have hne : ∀ a ∈ pp :: feet qs', H1 a ≠ none := fun a ha => (hF1.own i a (by rw [hFi']; exact ha)).2.2
  have ne1 : ∀ a ∈ pp :: feet qs', a ≠ r ∧ a ≠ o := fun a ha => ⟨fun z => hne a ha (by rw [z]; exact hr), fun z => hne a ha (by rw [z]; exact ho'.1)⟩
  have npp := ne1 pp (by simp)
  refine ⟨pp, qs'.map fun q => V.ref q.1, .ref o, rfl, rfl, by rw [upd_ne npp.2, upd_ne npp.1]; exact hp1, Nat.lt_of_lt_of_le (show (qs'.map fun q => V.ref q.1).length < 1000000 by rw [List.length_map, hf1.len]; exact hz) (by decide), ?_⟩
  have x0 : Fx ⟨fun a => a ∈ pp :: feet qs', G1, H1, true⟩ G1 H1 := Fx.start _ hF1.fx.f
  have gr0 : G1 r = none := hF1.fx.f.free hr
  have go0 : G1 o = none := hF1.fx.f.free ho'.1
  have x1 := x0.write (a := r) (o := .lst []) (.inr hr) gr0
  have x2 := x1.write (a := o) (o := .lst [v, .non, .ref r]) (.inr ho'.1) go0
  have x3 := x2.write (a := pp) (o := .lst (qs'.map (fun q => V.ref q.1) ++ [.ref o])) (.inl (by simp)) (hG1 pp (by simp))
  refine kk.nx σ G1 _ _ (hF1.frDone (qs' := qs' ++ [(o, r)]) q hFi' hs x3 ⟨?_, ?_, ?_, ?_⟩ ?_) e1 h
  · rw [feet_app]
    have : pp :: (feet qs' ++ feet [(o, r)]) = (pp :: feet qs') ++ [o, r] := rfl
    rw [this]
    refine List.nodup_append.mpr ⟨nd1, by simp [ho'.2], fun a ha b hb => ?_⟩
    have hb : b = o ∨ b = r := by simpa using hb
    rcases hb with rfl | rfl
    · exact (ne1 a ha).2
    · exact (ne1 a ha).1
  · rw [upd_same, List.map_append, List.map_singleton]
  · refine FrmsAt.cat (hf1.frame (Same.refl _) fun a ha => ?_) (.cons ⟨v, .non, [], ?_, i1, .non, ?_, .nil⟩ .nil)
    · have hm : a ∈ pp :: feet qs' := by simp [ha]
      have : a ≠ pp := fun z => (List.nodup_cons.mp nd1).1 (by rw [← z]; exact ha)
      rw [upd_ne this, upd_ne (ne1 a hm).2, upd_ne (ne1 a hm).1]
    · rw [upd_ne npp.2.symm, upd_same]
    · rw [upd_ne npp.1.symm, upd_ne ho'.2.symm, upd_same]
  · intro a ha
    rw [feet_app] at ha
    have ha : a ∈ (pp :: feet qs') ++ [o, r] := ha
    rcases List.mem_append.mp ha with z | z
    · exact hG1 a z
    · have z : a = o ∨ a = r := by simpa using z
      rcases z with rfl | rfl
      · exact go0
      · exact gr0
  · intro a ha
    rw [feet_app] at ha
    rcases List.mem_append.mp ha with z | z
    · exact .inr (by simp [z])
    · have z : a = o ∨ a = r := by simpa [feet] using z
      rcases z with rfl | rfl
      · exact .inl ho'.1
      · exact .inl hr⟩
/-- frames[len(frames) - 1][2].append(e) -/
theorem SX.frApp {g : Frm} {lf : String} {j1 j2 : Nat} (T : Tab X N m) (hA : At N i n) (hi : i < m) (hf : f = "append" ∧ lf = "len") (B : Bi X.mg) (he : ∀ Γ', EX X Γ' e (l.set i .no) d (l.set i .no)) (q : l[i]? = some (.fr (gs ++ [g]))) (hz : g.items.length < 1000000) (h : O.nx (l.set i (.fr (gs ++ [⟨g.head, g.first, g.items ++ [d]⟩]))))
    (hg : Gl X "len" := by rfl) (hs0 : starEach [.Name (Str.ofString n) p3] X.env = (false, eval (.Name (Str.ofString n) p3) X.env) :: starEach [] X.env := by rfl) (hpl : (backTo p4 (starEach [] X.env)).any (·.1) = false := by rfl)
    (h1 : attributeBase (.Subscript (.Subscript (.Name (Str.ofString n) p) (.BinOp (.Call (.Name (Str.ofString lf) p2) [.Name (Str.ofString n) p3] [] p4) .Sub (.Constant (.int 1) j1 p5) p6) p7) (.Constant (.int 2) j2 p8) p9) (Str.ofString f) X.env (eval (.Subscript (.Subscript (.Name (Str.ofString n) p) (.BinOp (.Call (.Name (Str.ofString lf) p2) [.Name (Str.ofString n) p3] [] p4) .Sub (.Constant (.int 1) j1 p5) p6) p7) (.Constant (.int 2) j2 p8) p9) X.env) = eval (.Subscript (.Subscript (.Name (Str.ofString n) p) (.BinOp (.Call (.Name (Str.ofString lf) p2) [.Name (Str.ofString n) p3] [] p4) .Sub (.Constant (.int 1) j1 p5) p6) p7) (.Constant (.int 2) j2 p8) p9) X.env := by rfl)
    (h2 : ((backTo cpos (starEach [e] X.env)).all (fun x => !x.1) && (backToKw cpos (keywordEach [] X.env)).all (fun x => x.1.isSome) && decide (([e] : List Expr).length + ([] : List Keyword).length + (if ([] : List Keyword).isEmpty then 0 else 1) < 30)) = true := by rfl)
    (h3 : (apos.endLine == cpos.line) = true := by rfl) (h4 : starEach [e] X.env = (false, eval e X.env) :: starEach [] X.env := by rfl) (h5 : (backTo cpos (starEach [] X.env)).any (·.1) = false := by rfl)
    (h6 : swapsWith (.Call (.Attribute (.Subscript (.Subscript (.Name (Str.ofString n) p) (.BinOp (.Call (.Name (Str.ofString lf) p2) [.Name (Str.ofString n) p3] [] p4) .Sub (.Constant (.int 1) j1 p5) p6) p7) (.Constant (.int 2) j2 p8) p9) (Str.ofString f) apos) [e] [] cpos) none pos.line X.env = pure false := by rfl) :
    SX X Γ (.Expr (.Call (.Attribute (.Subscript (.Subscript (.Name (Str.ofString n) p) (.BinOp (.Call (.Name (Str.ofString lf) p2) [.Name (Str.ofString n) p3] [] p4) .Sub (.Constant (.int 1) j1 p5) p6) p7) (.Constant (.int 2) j2 p8) p9) (Str.ofString f) apos) [e] [] cpos) pos) l O := ⟨fun G H σ D hh kk => by
  obtain ⟨rfl, rfl⟩ := hf
  have v0 : ∀ {ps : Pos}, PE X (.Name (Str.ofString n) ps) _ := fun {ps} => pe_var (pos := ps) (T.at_ hA) (T.vis hA hi) (T.dbg i _ hi hA.get).1 (T.dbg i _ hi hA.get).2
  refine ⟨_, ps_expr (pe_bm PySem.F.plainAttrs_list PySem.F.slot_list_append PySem.F.type_list_append mt_append
    (pe_ix ix_list (pe_ix ix_list v0 (pe_op op_sub (pe_callB call_len hg B.len PySem.boot_len (pa_cons v0 pa_nil hs0) (by decide) (by decide) hs0 hpl) pe_int) fun _ _ => rfl) pe_int fun _ _ => rfl) (pa_cons pe_w pa_nil h4) h1 h2 h3 h4 h5) h6, ?_⟩
  obtain ⟨F, hF⟩ := id hh
  obtain ⟨pp, qs, hFi, hs, nd, hp, hfr, hG⟩ := hF.frAt q
  obtain ⟨qs0, qb, rfl, hf0, hb⟩ := hfr.app
  obtain ⟨q1, r1, rfl, v, u, vs, hq, iv, iu, hr1, ivs⟩ := hb.one
  obtain ⟨cn, hn⟩ : ∃ cn, cn = ((qs0 ++ [(q1, r1)]).map fun q => V.ref q.1).length := ⟨_, rfl⟩
  have hat : L2.atI ((qs0 ++ [(q1, r1)]).map fun q => V.ref q.1) ((cn : Int) - 1) = some (.ref q1) := by
    have e : ((cn : Int) - 1) = ((qs0.length : Nat) : Int) := by rw [hn]; simp
    rw [e]
    refine atI_nat' ?_
    simp
  refine ⟨.ref pp, hs, .ref pp, hs, .ref pp, cn, rfl, .inl ⟨_, SqL.of hp, hn⟩, (cn : Int), 1, rfl, rfl, pp, _, (cn : Int) - 1, .ref q1, rfl, rfl, SqL.of hp, hat, ?_⟩
  refine ⟨q1, _, 2, .ref r1, rfl, rfl, SqL.of hq, rfl, .inl ⟨rfl, _, SqL.of hr1⟩, (he _).run G H σ _ ⟨_, hF.apart i⟩ fun w G1 H1 z1 e1 i1 => ?_⟩
  obtain ⟨F2, hF2⟩ := z1
  obtain ⟨hF1, keep⟩ := hF.together hF2
  have keep : ∀ a ∈ pp :: feet (qs0 ++ [(q1, r1)]), H1 a = H a := fun a ha => keep a (by rw [hFi]; exact ha)
  have hFi1 : (fun j => if j = i then F i else F2 j) i = pp :: feet (qs0 ++ [(q1, r1)]) := by simp [hFi]
  have own1 : ∀ a ∈ pp :: feet (qs0 ++ [(q1, r1)]), G1 a = none := fun a ha => (hF1.own i a (by show a ∈ if i = i then F i else F2 i; rw [if_pos rfl, hFi]; exact ha)).1
  rw [feet_app] at keep nd own1
  have hr1' : H1 r1 = some (.lst vs) := by rw [keep r1 (by simp [feet])]; exact hr1
  have hq1' : H1 q1 = some (.lst [v, u, .ref r1]) := by rw [keep q1 (by simp [feet])]; exact hq
  have hp1' : H1 pp = some (.lst ((qs0 ++ [(q1, r1)]).map fun q => V.ref q.1)) := by rw [keep pp (by simp)]; exact hp
  refine ⟨r1, vs, w, rfl, rfl, hr1', Nat.lt_of_lt_of_le (show vs.length < 1000000 by rw [ivs.length]; exact hz) (by decide), ?_⟩
  have x0 : Fx ⟨fun a => a ∈ pp :: feet (qs0 ++ [(q1, r1)]), G1, H1, true⟩ G1 H1 := Fx.start _ hF1.fx.f
  have x1 := x0.write (a := r1) (o := .lst (vs ++ [w])) (.inl (by simp [feet_app, feet])) (own1 r1 (by simp [feet]))
  have e1' : pp :: (feet qs0 ++ feet [(q1, r1)]) = (pp :: (feet qs0 ++ [q1])) ++ [r1] := by simp [feet]
  have nd2 := nd
  rw [e1'] at nd2
  have nr : ∀ a ∈ pp :: (feet qs0 ++ [q1]), a ≠ r1 := fun a ha => (List.nodup_append.mp nd2).2.2 a ha r1 (by simp)
  refine kk.nx σ G1 _ _ (hF1.frDone (qs' := qs0 ++ [(q1, r1)]) q hFi1 hs x1 ⟨?_, ?_, ?_, ?_⟩ ?_) e1 h
  · rw [feet_app]; exact nd
  · rw [upd_ne (nr pp (by simp))]; exact hp1'
  · refine FrmsAt.cat (hf0.frame e1 fun a ha => ?_) (.cons ⟨v, u, vs ++ [w], ?_, iv.mono e1, iu.mono e1, upd_same, (ivs.mono e1).append (.one i1)⟩ .nil)
    · rw [upd_ne (nr a (by simp [ha]))]; exact keep a (by simp [ha])
    · rw [upd_ne (nr q1 (by simp))]; exact hq1'
  · rw [feet_app]; exact own1
  · exact fun a ha => .inr (by simp [ha])⟩
/-- frames = [[(), None, e]] -/
theorem SX.frNew {j1 x1 : Nat} (T : Tab X N m) (hA : At N i n) (hi : i < m) (he : EL X Γ e l ds l1) (hil : i < l1.length) (h : O.nx (l1.set i (.fr [⟨[], .none, ds⟩])))
    (h0 : starEach [.Tuple [] x1 p2, .Constant .none j1 p3, e] X.env = (false, eval (.Tuple [] x1 p2) X.env) :: starEach [.Constant .none j1 p3, e] X.env := by rfl)
    (h1 : starEach [.Constant .none j1 p3, e] X.env = (false, eval (.Constant .none j1 p3) X.env) :: starEach [e] X.env := by rfl) (h2 : starEach [e] X.env = (false, eval e X.env) :: starEach [] X.env := by rfl)
    (h3 : starEach [.List [.Tuple [] x1 p2, .Constant .none j1 p3, e] p4] X.env = (false, eval (.List [.Tuple [] x1 p2, .Constant .none j1 p3, e] p4) X.env) :: starEach [] X.env := by rfl)
    (hs : swapsWith (.List [.List [.Tuple [] x1 p2, .Constant .none j1 p3, e] p4] p5) (some (.Name (Str.ofString n) pos')) pos.line X.env = pure false := by rfl) :
    SX X Γ (.Assign [.Name (Str.ofString n) pos'] (.List [.List [.Tuple [] x1 p2, .Constant .none j1 p3, e] p4] p5) pos) l O := ⟨fun G H σ D hh kk => by
  refine ⟨_, ps_set T.ndX (T.at_ hA) (T.loc i _ hi hA.get) (pe_lst (pa_cons (pe_lst (pa_cons (pe_tup pa_nil) (pa_cons pe_non (pa_cons pe_w pa_nil h2) h1) h0)) pa_nil h3)) hs (.inl (T.fn _)), ?_⟩
  refine ⟨by decide, fun z hz => ?_⟩
  have hf := hh.f
  have hh1 := hh.grow (Grow.laid (o := .tup []) hf hz)
  refine he.run _ _ σ _ hh1 fun r vs G2 H2 hP e2 hr i2 => ?_
  obtain ⟨F, hF, nF, gr, hr0⟩ := hP
  refine ⟨(show 3 ≤ sizeLine by decide), fun q hq => ⟨(show 1 ≤ sizeLine by decide), fun c hc => ?_⟩⟩
  have qr : q ≠ r := fun y => by rw [y, hr] at hq; cases hq
  have cq : c ≠ q := fun y => by rw [y, upd_same] at hc; cases hc
  rw [upd_ne cq] at hc
  have cr : c ≠ r := fun y => by rw [y, hr] at hc; cases hc
  have back : ∀ a, H2 a = none → Γ.H a = none := fun a y => by
    cases w : Γ.H a with
    | none => rfl
    | some u => exact absurd y (hF.fx.s a (some_ne w))
  have nq : ∀ j, q ∉ F j := fun j y => (hF.own j q y).2.2 hq
  have nc : ∀ j, c ∉ F j := fun j y => (hF.own j c y).2.2 hc
  have gq : G2 q = none := hF.fx.f.free hq
  have gc : G2 c = none := hF.fx.f.free hc
  have hF3 := hF.side (o := .lst [.ref z, .non, .ref r]) nq gq (back q hq)
  have hF4 := hF3.side (o := .lst [.ref q]) nc gc (back c hc)
  have hz2 : G2 z = some (.tup []) := e2 _ _ upd_same
  have g0 : Same G G2 := (Same.new (hf.free hz)).trans e2
  have all : ∀ a ∈ [c, q, r], (∀ j, a ∉ F j) ∧ G2 a = none ∧ Γ.H a = none ∧ upd (upd H2 q (.lst [.ref z, .non, .ref r])) c (.lst [.ref q]) a ≠ none := fun a ha => by
    have ha : a = c ∨ a = q ∨ a = r := by simpa using ha
    rcases ha with rfl | rfl | rfl
    · exact ⟨nc, gc, back _ hc, by rw [upd_same]; exact fun y => by cases y⟩
    · exact ⟨nq, gq, back _ hq, by rw [upd_ne cq.symm, upd_same]; exact fun y => by cases y⟩
    · exact ⟨nF, gr, hr0, by rw [upd_ne cr.symm, upd_ne qr.symm, hr]; exact fun y => by cases y⟩
  refine kk.nx _ G2 _ _ ⟨fun j => if j = i then [c, q, r] else F j, hF4.fx, by rw [List.length_set, List.length_set]; exact hF4.len, fun j sl' e' => ?_, fun j k a h1 h2 => ?_, fun j a h1 => ?_, fun fz j sl' e' en a ha => ?_⟩ g0 h
  · by_cases hj : j = i
    · subst hj
      rw [List.getElem?_set_self hil] at e'
      cases e'
      refine ⟨_, List.getElem?_set_self (by rw [hF4.len]; exact hil), ?_⟩
      rw [if_pos rfl]
      refine ⟨c, [(q, r)], rfl, by simp [feet, cq, cr, qr], rfl, by rw [upd_same]; rfl, .cons ⟨.ref z, .non, vs, by rw [upd_ne cq.symm, upd_same], .tup hz2 .nil, .non, by rw [upd_ne cr.symm, upd_ne qr.symm]; exact hr, i2⟩ .nil⟩
    · rw [List.getElem?_set_ne (Ne.symm hj)] at e'
      obtain ⟨s, h1, h2⟩ := hF4.at_ j sl' e'
      exact ⟨s, by rw [List.getElem?_set_ne (Ne.symm hj)]; exact h1, by rw [if_neg hj]; exact h2⟩
  · by_cases hj : j = i
    · by_cases hk : k = i
      · rw [hj, hk]
      · rw [if_pos hj] at h1; rw [if_neg hk] at h2
        exact absurd h2 ((all a h1).1 k)
    · by_cases hk : k = i
      · rw [if_neg hj] at h1; rw [if_pos hk] at h2
        exact absurd h1 ((all a h2).1 j)
      · rw [if_neg hj] at h1; rw [if_neg hk] at h2; exact hF4.dis j k a h1 h2
  · by_cases hj : j = i
    · rw [if_pos hj] at h1
      exact ⟨(all a h1).2.1, .inl (all a h1).2.2.1, (all a h1).2.2.2⟩
    · rw [if_neg hj] at h1; exact hF4.own j a h1
  · by_cases hj : j = i
    · subst hj
      rw [List.getElem?_set_self hil] at e'
      cases e'; cases en
    · rw [if_neg hj] at ha
      rw [List.getElem?_set_ne (Ne.symm hj)] at e'
      exact hF4.new fz j sl' e' en a ha⟩
end
end TG

/-! TgK: the script -/
namespace TG
open PySem L2 PyProof.Rows
/-- list.__add__ of lists that may have slots of their own -/
theorem list_add_sl (a : Addr) (us : Array Value) (i : Nat) (sl : Array (Option Value)) (b : Addr) (vs : Array Value) (j : Nat) (hz : us.size + vs.size ≤ sizeLine) :
    Meets (Builtin.«list.__add__» ⟨[.ref a, .ref b], []⟩) (fun _ R s => s.heap.get? a = some { cls := .type "list", dict := none, data := .seq us i, slots := sl } ∧
      s.heap.get? b = some { cls := .type "list", dict := none, data := .seq vs j, slots := #[] } ∧ R (.ok (.ret (.ref s.heap.objs.size))) { s with heap := s.heap.push { cls := .type "list", data := .seq (us ++ vs) }, toks := s.toks }) := by
  refine .of_wp fun P w A R s hh => ?_
  obtain ⟨hp, g, d, tk, os⟩ := s
  obtain ⟨ha, hb, k⟩ := hh
  have q1 := AutoSeq1.idx_int
  have q2 := AutoSeq1.sub_tuple_tuple
  have q3 := AutoSeq1.sub_list_list
  have q4 := AutoSeq1.sub_tuple_list
  have q5 := AutoSeq1.sub_list_tuple
  wp_walk using AutoSeq1.wpAny_loadPart' ha, AutoSeq1.wpAny_loadPart' hb
  exact ⟨_, rfl, k⟩
def rCatS (K : PySem.W.Frag) : R2 := fun x y H Q => ∃ l b xs zs, x = .ref l ∧ y = .ref b ∧ SqL K H l xs ∧ H b = some (.lst zs) ∧ xs.length + zs.length ≤ sizeLine ∧ ∀ p, H p = none → Q (.ref p) (upd H p (.lst (xs ++ zs)))
theorem op_catS {X : Cx} : OpR X (binaryOp .Add) (rCatS X.K) := by
  intro pins s σ H x y v u Q I rx ry h
  obtain ⟨l, b, xs, zs, rfl, rfl, hH, hB, hz, q⟩ := h
  cases rx
  cases ry
  obtain ⟨its, r, ⟨o, n, e, oc, od, odt⟩, hl⟩ := I.list hH
  obtain ⟨z2, its2, n2, r2, hl2, e2⟩ := I.lstM hB
  have lr := r.length
  obtain ⟨c0, d0, t0, s0⟩ := o
  simp only at oc od odt
  subst oc od odt
  refine concat_meets ⟨_, e, rfl⟩ ⟨_, e2, rfl⟩ noFill_list_add seq_list_add F.slot_list_add F.entry_list_add (F.args_list_add_2 _ _) (list_add_sl l its.toArray n s0 b its2.toArray n2 (by rw [List.size_toArray, List.size_toArray]; omega)) ⟨e, e2, ?_⟩
  have ea : its.toArray ++ its2.toArray = (its ++ its2).toArray := by simp
  rw [ea]
  exact ⟨.ref _, _, I.lnew (t' := s.toks) (r.append r2) (by rw [List.length_append]; omega), rfl, q _ I.fresh⟩
theorem IsAll.ints {G : Hp} (ns : List Int) : IsAll G (ns.map V.int) (ns.map PyData.int) := by
  induction ns with
  | nil => exact .nil
  | cons n r ih => exact .cons (.int n) ih
theorem Hold.scr {Γ : Gm} {G H : Hp} {σ : L2.St} {l : List Sl} {K : PySem.W.Frag} {ns : List Int} (h : Hold Γ G H σ l) {i : Nat} (e : l[i]? = some (.scr K ns)) : ∃ a, σ[i]? = some (some (.ref a)) ∧ SqL K G a (ns.map V.int) := by
  obtain ⟨F, hF⟩ := h
  obtain ⟨s, h1, a, rfl, h2⟩ := hF.at_ i _ e
  exact ⟨a, h1, h2⟩
section
variable {X : Cx} {Γ : Gm} {N : List Str} {m i : Nat} {n : String} {pos p p2 : Pos} {b : Expr} {lo hi' : Option Expr} {il ih : Option Int} {l : List Sl} {ds : List PyData} {ns : List Int}
/-- script + e -/
theorem EL.scrCat (T : Tab X N m) (hA : At N i n) (hi : i < m) (hb : EX X Γ b l (.list ds) l) (q : l[i]? = some (.scr X.K ns)) (hz : ns.length + ds.length ≤ 1000000) : EL X Γ (.BinOp (.Name (Str.ofString n) p) .Add b pos) l (ns.map .int ++ ds) l := ⟨fun G H σ Q hh k => by
  refine ⟨_, pe_op op_catS (pe_var (T.at_ hA) (T.vis hA hi) (T.dbg i _ hi hA.get).1 (T.dbg i _ hi hA.get).2) pe_w, ?_⟩
  obtain ⟨a, hs, hq⟩ := hh.scr q
  refine ⟨.ref a, hs, hb.run G H σ _ hh fun v G1 H1 h1 e1 i1 => ?_⟩
  obtain ⟨c, vs, rfl, hc, iv⟩ := i1.lstInv
  exact ⟨a, c, ns.map V.int, vs, rfl, rfl, (e1.trans h1.f).seq hq, h1.f _ _ hc, Nat.le_trans (show (ns.map V.int).length + vs.length ≤ 1000000 by rw [List.length_map, iv.length]; exact hz) (by decide), fun r hr =>
    k r _ G1 _ (h1.side hr) e1 upd_same ((IsAll.ints ns).append iv)⟩⟩
/-- script[lo:hi] -/
theorem EL.scrSl (T : Tab X N m) (hA : At N i n) (hi : i < m) (hl : OX X Γ lo l il l) (hu : OX X Γ hi' l ih l) (q : l[i]? = some (.scr X.K ns)) : EL X Γ (.Subscript (.Name (Str.ofString n) p) (.Slice lo hi' none p2) pos) l (cutG (ns.map .int) il ih) l := ⟨fun G H σ Q hh k => by
  refine ⟨_, pe_slice sl_list (pe_var (T.at_ hA) (T.vis hA hi) (T.dbg i _ hi hA.get).1 (T.dbg i _ hi hA.get).2) po_w po_w, ?_⟩
  obtain ⟨a, hs, hq⟩ := hh.scr q
  refine ⟨.ref a, hs, hl.run G H σ _ hh fun G1 H1 h1 e1 => hu.run G1 H1 σ _ h1 fun G2 H2 h2 e2 => ?_⟩
  exact ⟨a, _, rfl, ((e1.trans e2).trans h2.f).seq hq, fun r hr => k r _ G2 _ (h2.side hr) (e1.trans e2) upd_same ((IsAll.ints ns).cut il ih)⟩⟩
end
/-- the law's promise -/
def spLaw (K : PySem.W.Frag) : Sp := fun vs H Q _ => ∃ (a : Addr) (ns : List Int), vs = [.ref a] ∧ SqL K H a (ns.map V.int) ∧ ns.length ≤ 63 ∧ ∀ H', Q (.bl true) H'
theorem Hold.startScr {K : PySem.W.Frag} {H : Hp} {N : List Str} {a : Addr} {ns : List Int} (h : SqL K H a (ns.map V.int)) : Hold (gm0 H H) H H (L2.start N [.ref a]) (.scr K ns :: List.replicate (N.length - 1) .no) := by
  refine ⟨fun _ => [], Fx.start _ (Same.refl _), by simp [L2.start], fun i sl e => ?_, fun i j a h => by simp at h, fun i a h => by simp at h, fun _ i sl _ _ a h => by simp at h⟩
  cases i with
  | zero =>
    have : sl = .scr K ns := by simpa using e.symm
    subst this
    exact ⟨some (.ref a), by simp [L2.start], a, rfl, h⟩
  | succ i =>
    rw [List.getElem?_cons_succ, List.getElem?_replicate] at e
    split at e
    · cases e
      refine ⟨none, ?_, trivial⟩
      unfold L2.start
      rw [List.map_cons, List.map_nil, List.singleton_append, List.getElem?_cons_succ, List.getElem?_replicate]
      rw [if_pos (by simp at *; omega)]
    · cases e
section
variable {P : Program} {w : World} {K : PySem.W.Frag} {mg : Str → Option Value} {base : Heap}
theorem okLaw {n : String} {st : Stmt} {N : List Str} {x : Str} {k : Nat} (m : Nat) {f : Addr} {fd : FuncData} (F : Fun K (Str.ofString n) (Str.ofString n) st f fd) (S : FnScope N [x] (defScope st)) (ht : tabC N (defScope st) m = true)
    (hb : ∀ (cdv : Value) (A : Around) (outer : List Env) (s : Shared) (H : Hp) (E : XK) (Γ : Gm) (ns : List Int), Γ.fz = true → Room k (bx P w K mg base N (Str.ofString n) st f cdv A outer s H E).A → Tab (bx P w K mg base N (Str.ofString n) st f cdv A outer s H E) N m → ns.length ≤ 63 →
      SXs (bx P w K mg base N (Str.ofString n) st f cdv A outer s H E) Γ (defBody st) (.scr K ns :: List.replicate (N.length - 1) .no) { nx := fun _ => False, rt := fun d _ => d = .bool true }) :
    FnOk P w K mg base CX0 (k + 1) f fd [x] (spLaw K) := by
  refine F.ok S (fun vs H Q E h => ?_) (fun cdv A outer s H vs Q E hr h => ?_)
  · obtain ⟨a, ns, rfl, _⟩ := h; rfl
  · obtain ⟨a, ns, rfl, hS, hl, q⟩ := h
    have h1 := (hb cdv A outer s H E (gm0 H H) ns rfl hr (tab_of rfl S.nd ht fun _ => rfl) hl).run H H (L2.start N [.ref a]) { nx := fun _ H' => Q .non H', rt := Q } (Hold.startScr hS)
      ⟨fun _ _ _ _ _ _ z => z.elim, fun v σ' G' H' d' l' _ _ i c => by rw [c] at i; rw [i.blInv]; exact q H', fun _ _ _ _ _ _ z => z.elim, fun _ _ _ _ _ _ z => z.elim⟩
    exact h1
end
end TG

set_option maxHeartbeats 1000000
namespace TG
open PySem L2 PyProof.Rows
local macro_rules | `(tactic| walk_at "sz") => `(tactic| first | decide | (refine le_size ?_; simp only [List.length_cons, List.length_nil, List.length_append, List.length_map]; omega))
local macro_rules | `(tactic| walk_at "At") => `(tactic| first | with_reducible exact At.z | (with_reducible refine' At.s ?k1; (case k1 => walk_at "At")))
local macro_rules | `(tactic| walk_at "ix") => `(tactic| first | assumption | rfl | exact ix0 | exact ixR (by omega) (by omega))
local macro_rules | `(tactic| walk_at "lo") => `(tactic| first | trivial | assumption | (show _ ≤ _; omega))
local macro_rules | `(tactic| walk_at "mk") => `(tactic| first | exact nomark _ | rfl)
local macro_rules | `(tactic| walk_at "R") => `(tactic| first | assumption | rfl | exact ⟨_, rfl, rfl⟩ | exact ⟨_, _, rfl, rfl⟩ | exact ⟨_, Good.len (by assumption) _, rfl, rfl⟩)
local macro_rules | `(tactic| walk_at "fl") => `(tactic| first | rfl | assumption)
local macro_rules | `(tactic| walk_at "O") => `(tactic| first
  | exact opEqS | exact opEqI | exact opNeS | exact opNeI | exact opLt | exact opLe | exact opGt | exact opGe | exact opIs | exact opIsNot | exact opEqSI | exact opEqIS | exact opEqB
  | exact opAddI | exact opSub | exact opMod (by omega) | exact opDiv ⟨by omega, by omega⟩ | exact opNotInS | exact opAddS (by assumption) | exact opAddL (by walk_at "sz") | exact opAddT (by walk_at "sz") | exact opMulI (by assumption) | exact opPow (by assumption) | exact opRep (by assumption) (by assumption)
  | exact opInF (.inl rfl) (by rfl) (by walk_at "fl") | exact opInF (.inr rfl) (by rfl) (by walk_at "fl") | exact opNotInF (.inl rfl) (by rfl) (by walk_at "fl") | exact opNotInF (.inr rfl) (by rfl) (by walk_at "fl"))
local macro_rules | `(tactic| walk_at "A") => `(tactic| first | exact AX.nil | (refine' AX.cons ?k1 ?k2 ?k3; (case k1 => walk_at "E"); (case k2 => walk_at "A"); (case k3 => rfl)))
local macro_rules | `(tactic| walk_at "OX") => `(tactic| first | exact OX.none | (refine' OX.some ?k1; (case k1 => walk_at "E")))
local macro_rules | `(tactic| walk_at "SL") => `(tactic| first
  | (refine' EL.ex (EL.slL ?k1 ?k2 ?k3); (case k1 => walk_at "E"); (case k2 => walk_at "OX"); (case k3 => walk_at "OX"))
  | (refine' EX.slT ?k1 ?k2 ?k3; (case k1 => walk_at "E"); (case k2 => walk_at "OX"); (case k3 => walk_at "OX"))
  | (refine' EX.slS ?k1 ?k2 ?k3 ?k4; (case k1 => walk_at "E"); (case k2 => walk_at "OX"); (case k3 => walk_at "OX"); (case k4 => first | assumption | exact le_size (by assumption)))
  | (refine' EX.revT ?k1; (case k1 => walk_at "E"))
  | (refine' EX.revS ?k1 ?k2; (case k1 => walk_at "E"); (case k2 => assumption))
  | (refine' EL.ex (EL.lst ?k1 ?k2); (case k1 => walk_at "A"); (case k2 => walk_at "sz"))
  | (refine' EX.lenOwn ?k1 ?k2 ?k3 ?k4 ?k5 ?k6 ?k7 ?k8 ?k9; (case k1 => rfl); (case k2 => assumption); (case k3 => assumption); (case k4 => walk_at "At"); (case k5 => decide); (case k6 => rfl); (case k7 => rfl); (case k8 => rfl); (case k9 => rfl)))
local macro_rules | `(tactic| walk_at "EC") => `(tactic| first
  | (refine' EX.cal ?k1 ?k2 ?k3 ?k4 ?k5 ?k6 ?k7 ?k8 ?k9; (case k1 => assumption); (case k2 => assumption); (case k3 => first | decide | omega); (case k4 => rfl); (case k5 => walk_at "A"); (case k6 => walk_at "R"); (case k7 => decide); (case k8 => rfl); (case k9 => rfl))
  | (refine' EX.len ?k1 ?k2 ?k3 ?k4 ?k5 ?k6 ?k7; (case k1 => rfl); (case k2 => assumption); (case k3 => walk_at "E"); (case k4 => walk_at "lo"); (case k5 => rfl); (case k6 => rfl); (case k7 => rfl))
  | (refine' EX.isiT ?k1 ?k2 ?k3 ?k4 ?k5 ?k6 ?k7 ?k8; (case k1 => exact ⟨rfl, rfl⟩); (case k2 => assumption); (case k3 => walk_at "E"); (case k4 => rfl); (case k5 => rfl); (case k6 => rfl); (case k7 => rfl); (case k8 => rfl))
  | (refine' EX.isiS ?k1 ?k2 ?k3 ?k4 ?k5 ?k6 ?k7 ?k8; (case k1 => exact ⟨rfl, rfl⟩); (case k2 => assumption); (case k3 => walk_at "E"); (case k4 => rfl); (case k5 => rfl); (case k6 => rfl); (case k7 => rfl); (case k8 => rfl))
  | (refine' EX.isiI ?k1 ?k2 ?k3 ?k4 ?k5 ?k6 ?k7 ?k8; (case k1 => exact ⟨rfl, rfl⟩); (case k2 => assumption); (case k3 => walk_at "E"); (case k4 => rfl); (case k5 => rfl); (case k6 => rfl); (case k7 => rfl); (case k8 => rfl))
  | (refine' EX.isiB ?k1 ?k2 ?k3 ?k4 ?k5 ?k6 ?k7 ?k8; (case k1 => exact ⟨rfl, rfl⟩); (case k2 => assumption); (case k3 => walk_at "E"); (case k4 => rfl); (case k5 => rfl); (case k6 => rfl); (case k7 => rfl); (case k8 => rfl))
  | (refine' EX.tupOf ?k1 ?k2 ?k3 ?k4 ?k5 ?k6; (case k1 => rfl); (case k2 => assumption); (case k3 => walk_at "E"); (case k4 => rfl); (case k5 => rfl); (case k6 => rfl))
  | (refine' EX.intOf ?k1 ?k2 ?k3 ?k4 ?k5 ?k6; (case k1 => rfl); (case k2 => assumption); (case k3 => walk_at "E"); (case k4 => rfl); (case k5 => rfl); (case k6 => rfl)))
local macro_rules | `(tactic| walk_at "SC") => `(tactic| first
  | (refine' EX.scInS ?k0 ?k1 ?k2 ?k3 ?k4 ?k5 ?k6 ?k7 ?k8 ?k9; (case k0 => assumption); (case k1 => assumption); (case k2 => assumption); (case k3 => walk_at "At"); (case k4 => decide); (case k5 => rfl); (case k6 => walk_at "E"); (case k7 => rfl); (case k8 => rfl); (case k9 => rfl))
  | (refine' EX.scKindS ?k0 ?k1 ?k2 ?k3 ?k4 ?k5 ?k6 ?k7 ?kd ?k8 ?k9; (case k0 => assumption); (case k1 => assumption); (case k2 => assumption); (case k3 => walk_at "At"); (case k4 => decide); (case k5 => rfl); (case k6 => walk_at "E"); (case k7 => rfl); (case kd => assumption); (case k8 => rfl); (case k9 => (intro _ _; rfl)))
  | (refine' EX.scWayS ?k0 ?k1 ?k2 ?k3 ?k4 ?k5 ?k6 ?k7 ?k8 ?k9 ?k10; (case k0 => assumption); (case k1 => assumption); (case k2 => assumption); (case k3 => walk_at "At"); (case k4 => decide); (case k5 => rfl); (case k6 => rfl); (case k7 => walk_at "E"); (case k8 => rfl); (case k9 => rfl); (case k10 => exact ⟨rfl, rfl, rfl, rfl⟩))
  | (refine' EX.scMethQ (pl := ?kp) ?k1 ?k2 ?k3 ?k4 ?k5 ?k6 ?k7 ?k8 ?k9 ?k10 ?k11 ?k12 ?k13 ?k14; (case k1 => assumption); (case k2 => assumption); (case k3 => assumption); (case k4 => first | decide | omega); (case k5 => assumption); (case k6 => walk_at "At"); (case k7 => decide); (case k8 => rfl); (case k9 => walk_at "A"); (case k10 => walk_at "R"); (case k11 => exact ⟨rfl, rfl, rfl, rfl⟩); (case k12 => rfl); (case k13 => rfl); (case k14 => rfl))
  | (refine' EX.scRes ?k1 ?k2 ?k3 ?k4 ?k5 ?k6 ?k7; (case k1 => assumption); (case k2 => assumption); (case k3 => walk_at "At"); (case k4 => decide); (case k5 => rfl); (case k6 => rfl); (case k7 => rfl))
  | (refine' EX.scPapers ?k1 ?k2 ?k3 ?k4 ?k5 ?k6 ?k7; (case k1 => assumption); (case k2 => assumption); (case k3 => walk_at "At"); (case k4 => decide); (case k5 => rfl); (case k6 => rfl); (case k7 => rfl)))
local macro_rules | `(tactic| walk_at "E") => `(tactic| first
  | exact EX.int | exact EX.str | exact EX.non | exact EX.bl
  | (refine' EX.nm ?k1 ?k2 ?k3 ?k4; (case k1 => assumption); (case k2 => walk_at "At"); (case k3 => decide); (case k4 => rfl))
  | (refine' EX.nmV ?k1 ?k2 ?k3 ?k4; (case k1 => assumption); (case k2 => walk_at "At"); (case k3 => decide); (case k4 => rfl))
  | (refine' EX.glI ?k1 ?k2 ?k3; (case k1 => assumption); (case k2 => rfl); (case k3 => decide))
  | (refine' EX.glS ?k1 ?k2 ?k3; (case k1 => assumption); (case k2 => rfl); (case k3 => decide))
  | (refine' EX.ix ?k1 ?k2 ?k3 ?k4 ?k5; (case k1 => walk_at "E"); (case k2 => walk_at "E"); (case k3 => walk_at "ix"); (case k4 => (intro z q; cases q)); (case k5 => (intro _ _; rfl)))
  | (refine' EX.cmp ?k1 ?k2 ?k3 ?k4; (case k1 => walk_at "E"); (case k2 => walk_at "E"); (case k3 => walk_at "O"); (case k4 => walk_at "mk"))
  | (refine' EX.bin ?k1 ?k2 ?k3; (case k1 => walk_at "E"); (case k2 => walk_at "E"); (case k3 => walk_at "O"))
  | walk_at "EC"
  | walk_at "SC"
  | walk_at "SL"
  | (refine' EX.one ?k1; (case k1 => walk_at "E"))
  | (refine' EX.and ?k1 ?k2; (case k1 => walk_at "E"); (case k2 => (intro hb; first | walk_at "E" | exact absurd (show false = true from hb) Bool.false_ne_true | cases (show true = false from hb) | exact absurd hb (by decide))))
  | (refine' EX.or ?k1 ?k2; (case k1 => walk_at "E"); (case k2 => (intro hb; first | walk_at "E" | exact absurd (show false = true from hb) Bool.false_ne_true | cases (show true = false from hb) | exact absurd hb (by decide))))
  | (refine' EX.not ?k1; (case k1 => walk_at "E"))
  | (refine' EX.un ?k1 unNeg; (case k1 => walk_at "E"))
  | (refine' EX.tup ?k1 ?k2; (case k1 => walk_at "A"); (case k2 => walk_at "sz")))
local macro_rules | `(tactic| walk_at "T") => `(tactic| first
  | (refine' TX.cmp ?k1 ?k2 ?k3 ?k4; (case k1 => walk_at "E"); (case k2 => walk_at "E"); (case k3 => walk_at "O"); (case k4 => walk_at "mk"))
  | (refine' TX.cmpOwn ?k1 ?k2 ?k3 ?k4 ?k5 ?k6 ?k7; (case k1 => assumption); (case k2 => walk_at "At"); (case k3 => decide); (case k4 => walk_at "E"); (case k5 => rfl); (case k6 => walk_at "O"); (case k7 => walk_at "mk"))
  | (refine' TX.inDkS ?k0 ?k1 ?k2 ?k3 ?k4 ?k5 ?k6; (case k0 => assumption); (case k1 => assumption); (case k2 => walk_at "At"); (case k3 => decide); (case k4 => walk_at "E"); (case k5 => rfl); (case k6 => rfl))
  | (refine' TX.inDtS ?k0 ?k1 ?k2 ?k3 ?k4 ?k5 ?k6; (case k0 => assumption); (case k1 => assumption); (case k2 => walk_at "At"); (case k3 => decide); (case k4 => walk_at "E"); (case k5 => rfl); (case k6 => rfl))
  | (refine' TX.not ?k1; (case k1 => walk_at "T"))
  | (refine' TX.ofW ?k1; (case k1 => walk_at "W"))
  | (refine' TX.val ?k1 ?k2; (case k1 => walk_at "E"); (case k2 => (intro _; rfl))))
local macro_rules | `(tactic| walk_at "W") => `(tactic| first
  | (refine' WX.and1 ?k1; (case k1 => walk_at "T")) | (refine' WX.or1 ?k1; (case k1 => walk_at "T"))
  | (refine' WX.and ?k1 ?k2; (case k1 => walk_at "T"); (case k2 => (intro hb; first | walk_at "W" | exact absurd (show false = true from hb) Bool.false_ne_true | cases (show true = false from hb) | exact absurd hb (by decide))))
  | (refine' WX.or ?k1 ?k2; (case k1 => walk_at "T"); (case k2 => (intro hb; first | walk_at "W" | exact absurd (show false = true from hb) Bool.false_ne_true | cases (show true = false from hb) | exact absurd hb (by decide)))))
local macro_rules | `(tactic| walk_at "S") => `(tactic| first
  | (refine' SXs.cons (SX.ret ?k1 ?k2); (case k1 => walk_at "E"))
  | (refine' SXs.cons (SX.ite ?k1 ?k2 ?k3); (case k1 => walk_at "T"))
  | (refine' SXs.cons (SX.app ?k1 ?k2 ?k3 ?k4 ?k5 ?k6 ?k7 ?kz ?k ?h1 ?h2 ?h3 ?h4 ?h5 ?h6); (case k1 => assumption); (case k2 => walk_at "At"); (case k3 => decide); (case k4 => rfl); (case k5 => walk_at "E"); (case k6 => rfl); (case k7 => rfl); (case h1 => rfl); (case h2 => rfl); (case h3 => rfl); (case h4 => rfl); (case h5 => rfl); (case h6 => rfl))
  | (refine' SXs.cons (SX.stL ?k1 ?k2 ?k3 (EL.lst AX.nil (by decide)) ?k5 ?k6); (case k1 => assumption); (case k2 => walk_at "At"); (case k3 => decide); (case k6 => rfl))
  | (refine' SXs.cons (SX.stD ?k1 ?k2 ?k3 ?k5 ?k6); (case k1 => assumption); (case k2 => walk_at "At"); (case k3 => decide); (case k6 => rfl))
  | (refine' SXs.cons (SX.dputS ?k0 ?k1 ?k2 ?k3 ?k4 ?k5 ?k6 ?k7 ?kz ?k ?k8); (case k0 => assumption); (case k1 => assumption); (case k2 => walk_at "At"); (case k3 => decide); (case k4 => walk_at "E"); (case k5 => walk_at "E"); (case k6 => rfl); (case k7 => rfl); (case k8 => rfl))
  | (refine' SXs.cons (SX.dputTS ?k0 ?k1 ?k2 ?k3 ?k4 ?k5 ?k6 ?k7 ?kz ?k ?k8); (case k0 => assumption); (case k1 => assumption); (case k2 => walk_at "At"); (case k3 => decide); (case k4 => walk_at "E"); (case k5 => walk_at "E"); (case k6 => rfl); (case k7 => rfl); (case k8 => rfl))
  | (refine' SXs.cons (SX.pass ?k))
  | (refine' SXs.cons (SX.st ?k1 ?k2 ?k3 ?k4 ?k5 ?k6); (case k1 => assumption); (case k2 => walk_at "At"); (case k3 => decide); (case k4 => walk_at "E"); (case k6 => rfl)))
local macro_rules | `(tactic| walk_at "F") => `(tactic| (refine' SXs.cons (SX.forAll ?pp PassesOwn.never rfl ?k1 ?k2 ?k3 ?k4 ?k5 (set_same ?k6)); (case k2 => (intro d; refine' GX.nm ?m1 ?m2 ?m3; (case m1 => assumption); (case m2 => walk_at "At"); (case m3 => decide))); (case k6 => rfl)))
local macro_rules | `(tactic| walk_at "L") => `(tactic| (refine' SXs.cons (SX.for (tv := fun d => [d]) PassesOwn.never rfl ?k1 ?k2 ?W ?k3 ?k4 ?k5); (case k2 => (intro d _; refine' GX.nm ?m1 ?m2 ?m3; (case m1 => assumption); (case m2 => walk_at "At"); (case m3 => decide)))))
local macro_rules | `(tactic| walk_at "no") => `(tactic| first | decide | (intro h; exact absurd (show false = true from h) Bool.false_ne_true) | (intro h; cases (show true = false from h)) | (simp [isTupD, isStrD, isIntD, isBoolD, lenD, isN]; done) | (simp [isTupD, isStrD, isIntD, isBoolD, lenD, isN]; omega))
local macro_rules | `(tactic| walk_at "go") => `(tactic| first
  | (refine' SXs.cons (SX.ret ?k1 ?k2); (case k1 => walk_at "E"))
  | (refine' SXs.cons (SX.ite ?k1 ?k2 ?k3); (case k1 => walk_at "T"); first
      | ((case k2 => (intro hb; exfalso; revert hb; walk_at "no")); intro hb; walk_at "go")
      | ((case k3 => (intro hb; exfalso; revert hb; walk_at "no")); intro hb; walk_at "go"))
  | (refine' SXs.nil ?k; walk_at "go")
  | (refine' SXs.cons (SX.st ?k1 ?k2 ?k3 ?k4 ?k5 ?k6); (case k1 => assumption); (case k2 => walk_at "At"); (case k3 => decide); (case k4 => walk_at "E"); (case k6 => rfl); walk_at "go")
  | skip)
local macro_rules | `(tactic| walk_at "M") => `(tactic| (refine' SXs.reL ?e ?h; (case e => rw [encM])))
local macro_rules | `(tactic| walk_at "SM") => `(tactic| (refine' EX.scMeth (pl := ?kp) ?k1 ?k2 ?k3 ?k4 ?k5 ?k6 ?k7 ?k8 ?k9 ?k10 ?k11 ?k12 ?k13 ?k14; (case k1 => assumption); (case k2 => assumption); (case k3 => assumption); (case k4 => first | decide | omega); (case k5 => assumption); (case k6 => walk_at "At"); (case k7 => decide); (case k8 => rfl); (case k9 => walk_at "A"); (case k10 => walk_at "R"); (case k11 => exact ⟨rfl, rfl, rfl, rfl⟩); (case k12 => rfl); (case k13 => rfl); (case k14 => rfl)))
local macro_rules | `(tactic| walk_at "SF") => `(tactic| (refine' EX.scFun ?k1 ?k2 ?k3 ?k4 ?k5 ?k6 ?k7 ?k8 ?k9 ?k10 ?k11 ?k12 ?k13; (case k1 => assumption); (case k2 => assumption); (case k3 => first | decide | omega); (case k4 => rfl); (case k5 => assumption); (case k6 => walk_at "At"); (case k7 => decide); (case k8 => rfl); (case k9 => walk_at "A"); (case k10 => walk_at "R"); (case k11 => decide); (case k12 => rfl); (case k13 => rfl)))
local macro_rules | `(tactic| walk_at "RF") => `(tactic| (refine' SXs.cons (SX.ret ?a ?b); (case a => walk_at "SF"); (case b => exact ⟨rfl, rfl⟩)))
local macro_rules | `(tactic| walk_at "TE") => `(tactic| (refine' TX.eq ?t ?e; (case t => walk_at "T"); (case e => first | rfl | decide)))
section
variable {P : Program} {w : World} {K : PySem.W.Frag} {mg : Str → Option Value} {base : Heap}
def isWhole (x : PyData) : Bool := isIntD x && !isBoolD x
def R_is_whole : List PyData → PyData → Prop := fun ds d => ∃ x, ds = [x] ∧ d = .bool (isWhole x)
theorem ok_is_whole (pl : Pl K mg "is_whole" s_is_whole ["thing"]) (B : Bi mg) : Cal P w K mg base "is_whole" 1 ["thing"] R_is_whole := by
  refine okC 1 pl sc_is_whole (by decide +kernel) (by rintro _ _ ⟨x, rfl, _⟩; rfl) ?_
  rintro f cdv A outer s H E Γ _ _ fz hr T ⟨x, rfl, rfl⟩
  refine SXs.reL (l' := [.dat x]) rfl ?_
  walk_at "S"
  rfl
theorem lenRange (n m : Nat) : (!(decide ((n : Int) < 1) || decide ((m : Int) < (n : Int)))) = (decide (1 ≤ n) && decide (n ≤ m)) := by
  by_cases h1 : 1 ≤ n <;> by_cases h2 : n ≤ m
  · rw [decide_eq_false (by omega : ¬ ((n : Int) < 1)), decide_eq_false (by omega : ¬ ((m : Int) < (n : Int))), decide_eq_true h1, decide_eq_true h2]; rfl
  · rw [decide_eq_false (by omega : ¬ ((n : Int) < 1)), decide_eq_true (by omega : ((m : Int) < (n : Int))), decide_eq_true h1, decide_eq_false h2]; rfl
  · rw [decide_eq_true (by omega : ((n : Int) < 1)), decide_eq_false h1]; rfl
  · rw [decide_eq_true (by omega : ((n : Int) < 1)), decide_eq_false h1]; rfl
def R_is_name : List PyData → PyData → Prop := fun ds d => ∃ s : Str, s.length ≤ 1000000 ∧ ds = [.str s] ∧ d = .bool (isNameS s)
theorem ok_is_name (pl : Pl K mg "is_name" s_is_name ["thing"]) (B : Bi mg) (gL : GlS mg "LETTERS" letters) : Cal P w K mg base "is_name" 1 ["thing"] R_is_name := by
  refine okC 2 pl sc_is_name (by decide +kernel) (by rintro _ _ ⟨x, _, rfl, _⟩; rfl) ?_
  rintro f cdv A outer s H E Γ _ _ fz hr T ⟨x, hx, rfl, rfl⟩
  refine SXs.reL (l' := [.dat (.str x), .no]) rfl ?_
  have e : isNameS x = ((!(!isStrD (PyData.str x) || (decide (lenD (PyData.str x) < 1) || decide (8 < lenD (PyData.str x))))) && x.cps.toList.all fun c => decide (c ∈ letters.cps.toList)) := by
    unfold isNameS
    rw [← lenRange x.length 8]
    rfl
  walk_at "S"
  case k2 =>
    intro hb
    walk_at "S"
    show _ = PyData.bool _
    rw [e, hb]; rfl
  case k3 =>
    intro hb
    rw [hb] at e
    refine SXs.nil ?_
    walk_at "F"
    case pp => exact fun c => decide (c ∈ letters.cps.toList)
    case k1 => exact IX.str (by walk_at "E")
    case k3 =>
      intro c hc a
      refine SXs.reL (l' := [.dat (.str x), .dat (.str ⟨#[c]⟩)]) rfl ?_
      walk_at "S"
      case k2 =>
        intro hb2
        walk_at "S"
        exact ⟨by simpa using hb2, rfl⟩
      case k3 =>
        intro hb2
        refine SXs.nil (SXs.nil ⟨by simpa using hb2, _, rfl⟩)
    case k4 =>
      intro hp a
      walk_at "S"
      show _ = PyData.bool _
      rw [e, hp]; rfl
    case k5 =>
      intro hp l2
      show _ = PyData.bool _
      rw [e, hp]; rfl
end
section
variable {P : Program} {w : World} {K : PySem.W.Frag} {mg : Str → Option Value} {base : Heap} {nm : Nat → Str}
theorem any_nm {α : Type} (g : Good nm) (f : α → Nat) (n : Nat) : ∀ xs : List α, ((xs.map fun x => PyData.str (nm (f x))).any fun z => PyData.eqv z (.str (nm n))) = decide (n ∈ xs.map f)
  | [] => by simp
  | x :: r => by
    rw [List.map_cons, List.any_cons, any_nm g f n r, List.map_cons]
    show ((nm (f x) == nm n) || _) = _
    by_cases e : f x = n
    · rw [e]; simp
    · have : (nm (f x) == nm n) = false := beq_eq_false_iff_ne.mpr fun z => e (g.inj _ _ z)
      rw [this, Bool.false_or, Bool.eq_iff_iff]
      simp only [decide_eq_true_eq, List.mem_cons]
      exact ⟨.inr, fun z => z.resolve_left fun q => e q.symm⟩
theorem all_flat_str {α : Type} (f : α → Str) : ∀ xs : List α, (xs.map fun x => PyData.str (f x)).all flatD = true
  | [] => rfl
  | x :: r => by rw [List.map_cons, List.all_cons, all_flat_str f r]; rfl
local macro_rules | `(tactic| walk_at "fl") => `(tactic| exact all_flat_str _ _)
def R_KW (nm : Nat → Str) (n : Nat) : List PyData → PyData → Prop := fun ds d => ∃ k, ds = [encK nm k, .int (n : Int)] ∧ d = .bool (isKW n k)
def R_are_fields (nm : Nat → Str) (n : Nat) : List PyData → PyData → Prop := fun ds d => ∃ fs, ds = [.tuple (encFs nm fs), .int (n : Int)] ∧ d = .bool (isFs n fs)
theorem nodup_take_succ {α β : Type} [DecidableEq β] {xs : List α} {f : α → β} {j : Nat} {x : α} (h : xs[j]? = some x) (hn : ((xs.take j).map f).Nodup) (hx : ¬ f x ∈ (xs.take j).map f) : ((xs.take (j + 1)).map f).Nodup := by
  rw [List.take_add_one, h, List.map_append]
  exact nd_snoc hn hx
theorem not_nodup {α β : Type} [DecidableEq β] {xs : List α} {f : α → β} {j : Nat} {x : α} (h : xs[j]? = some x) (hx : f x ∈ (xs.take j).map f) : ¬ (xs.map f).Nodup := fun nd => by
  have hj := (List.getElem?_eq_some_iff.mp h).1
  have e : xs = xs.take j ++ x :: xs.drop (j + 1) := by
    conv => lhs; rw [← List.take_append_drop j xs]
    rw [List.drop_eq_getElem_cons hj, (List.getElem?_eq_some_iff.mp h).2]
  rw [e, List.map_append, List.map_cons] at nd
  exact (List.nodup_append.mp nd).2.2 _ hx _ (by simp) rfl
theorem ok_are_fields (g : Good nm) (n : Nat) (pl : Pl K mg "are_fields" s_are_fields ["thing", "depth"]) (B : Bi mg) (g6 : GlI mg "MOST_FIELDS" 6) (Cn : Cal P w K mg base "is_name" 1 ["thing"] R_is_name) (CK : Cal P w K mg base "is_kind_within" (2 * n + 1) ["thing", "depth"] (R_KW nm n)) :
    Cal P w K mg base "are_fields" (2 * n + 2) ["thing", "depth"] (R_are_fields nm n) := by
  refine okC 4 pl sc_are_fields (by decide +kernel) (by rintro _ _ ⟨x, rfl, _⟩; rfl) ?_
  rintro f cdv A outer s H E Γ _ _ fz hr T ⟨fs, rfl, rfl⟩
  refine SXs.reL (l' := [.dat (.tuple (encFs nm fs)), .dat (.int n), .no, .no]) rfl ?_
  have Cn : Cal P w K mg base "is_name" (2 * n + 1) ["thing"] R_is_name := Cn.mono (by omega)
  have e : isFs n fs = ((!(!isTupD (.tuple (encFs nm fs)) || (decide (lenD (.tuple (encFs nm fs)) < 1) || decide (6 < lenD (.tuple (encFs nm fs)))))) && (decide ((fs.map (·.1)).Nodup) && fs.all fun f => decide (f.1 < 10) && isKW n f.2)) := by
    unfold isFs
    have hl : (encFs nm fs).length = fs.length := by rw [encFs_map, List.length_map]
    show _ = (!(decide (((encFs nm fs).length : Int) < 1) || decide (((6 : Nat) : Int) < ((encFs nm fs).length : Int))) && _)
    rw [lenRange, hl, Bool.and_assoc, Bool.and_assoc]
  walk_at "S"
  case k2 =>
    intro hb
    walk_at "S"
    show _ = PyData.bool _
    rw [e, hb]; rfl
  case k3 =>
    intro hb
    rw [hb] at e
    refine SXs.nil ?_
    walk_at "S"
    case k5 =>
      walk_at "L"
      case W => exact fun j l2 => (∃ a, l2 = [.dat (.tuple (encFs nm fs)), .dat (.int n), .own ((fs.take j).map fun f => .str (nm f.1)), a]) ∧ ((fs.take j).map (·.1)).Nodup ∧ ((fs.take j).all fun f => decide (f.1 < 10) && isKW n f.2) = true
      case k1 => exact IX.tup (by walk_at "E")
      case k3 => exact ⟨⟨.no, rfl⟩, by simp, by simp⟩
      case k4 =>
        rintro j d l2 hd ⟨⟨a, rfl⟩, nd, ha⟩
        rw [encFs_map, List.getElem?_map] at hd
        cases hx : fs[j]? with
        | none => rw [hx] at hd; cases hd
        | some q =>
          rw [hx] at hd
          cases hd
          obtain ⟨x, k⟩ := q
          refine SXs.reL (l' := [.dat (.tuple (encFs nm fs)), .dat (.int n), .own ((fs.take j).map fun f => .str (nm f.1)), .dat (.tuple [.str (nm x), encK nm k])]) rfl ?_
          have hm := List.mem_of_getElem? hx
          have bad : (decide (x < 10) && isKW n k) = false → isFs n fs = false := fun h => by
            rw [e]
            have : (fs.all fun f => decide (f.1 < 10) && isKW n f.2) = false := by
              cases q : (fs.all fun f => decide (f.1 < 10) && isKW n f.2) with
              | false => rfl
              | true =>
                rw [List.all_eq_true] at q
                have := q _ hm
                rw [h] at this; cases this
            rw [this, Bool.and_false, Bool.and_false]
          walk_at "S"
          case k2 =>
            intro hb2
            walk_at "S"
            show _ = PyData.bool _
            have hb3 : decide (x < 10) = false := by simpa [isTupD, lenD, g.ok] using hb2
            rw [bad (by rw [hb3]; rfl)]
          case k3 =>
            intro hb2
            refine SXs.nil ?_
            have hb3 : decide (x < 10) = true := by simpa [isTupD, lenD, g.ok] using hb2
            walk_at "S"
            case k2 =>
              intro hb4
              walk_at "S"
              show _ = PyData.bool _
              rw [any_nm g] at hb4
              have : isFs n fs = false := by
                by_cases hin : x ∈ (fs.take j).map (·.1)
                · rw [e, decide_eq_false (not_nodup (f := (·.1)) hx hin)]; rfl
                · rw [decide_eq_false hin, Bool.false_or, Bool.not_eq_true'] at hb4
                  exact bad (by rw [hb4, Bool.and_false])
              rw [this]
            case k3 =>
              intro hb4
              rw [any_nm g, Bool.or_eq_false_iff, decide_eq_false_iff_not, Bool.not_eq_false'] at hb4
              refine SXs.nil ?_
              walk_at "S"
              case kz =>
                rw [List.length_map, List.length_take]
                have : fs.length ≤ 6 := by
                  have hl : (encFs nm fs).length = fs.length := by rw [encFs_map, List.length_map]
                  simp [isTupD, lenD, hl] at hb
                  omega
                omega
              refine SXs.nil ⟨⟨.dat (.tuple [.str (nm x), encK nm k]), ?_⟩, nodup_take_succ (f := (·.1)) hx nd hb4.1, ?_⟩
              · rw [List.take_add_one, hx, List.map_append]; rfl
              · rw [all_take_succ hx, ha, hb3, hb4.2]; rfl
      case k5 =>
        rintro l2 ⟨⟨a, rfl⟩, nd, ha⟩
        have hl : (encFs nm fs).length = fs.length := by rw [encFs_map, List.length_map]
        rw [hl, List.take_length] at nd ha
        walk_at "S"
        show _ = PyData.bool _
        rw [e, decide_eq_true nd, ha]; rfl
end
section
variable {P : Program} {w : World} {K : PySem.W.Frag} {mg : Str → Option Value} {base : Heap} {nm : Nat → Str}
local macro_rules | `(tactic| walk_at "R") => `(tactic| solve_by_elim)
theorem ok_KW0 (pl : Pl K mg "is_kind_within" s_is_kind_within ["thing", "depth"]) (B : Bi mg) : Cal P w K mg base "is_kind_within" 1 ["thing", "depth"] (R_KW nm 0) := by
  refine okC 2 pl sc_is_kind_within (by decide +kernel) (by rintro _ _ ⟨x, rfl, _⟩; rfl) ?_
  rintro f cdv A outer s H E Γ _ _ fz hr T ⟨k, rfl, rfl⟩
  refine SXs.reL (l' := [.dat (encK nm k), .dat (.int (0 : Nat))]) rfl ?_
  refine' SXs.cons (SX.iteT (TX.ofW (WX.orT (TX.eq (b := decide (((0 : Nat) : Int) < 1)) ?k1 (by decide)))) ?k2)
  case k1 => walk_at "T"
  walk_at "go"
  show _ = PyData.bool _
  rw [isKW]
theorem ok_KW (g : Good nm) (n : Nat) (pl : Pl K mg "is_kind_within" s_is_kind_within ["thing", "depth"]) (B : Bi mg) (Cw : Cal P w K mg base "is_whole" 1 ["thing"] R_is_whole)
    (CF : Cal P w K mg base "are_fields" (2 * n + 2) ["thing", "depth"] (R_are_fields nm n)) (CK : Cal P w K mg base "is_kind_within" (2 * n + 1) ["thing", "depth"] (R_KW nm n)) :
    Cal P w K mg base "is_kind_within" (2 * n + 3) ["thing", "depth"] (R_KW nm (n + 1)) := by
  refine okC 2 pl sc_is_kind_within (by decide +kernel) (by rintro _ _ ⟨x, rfl, _⟩; rfl) ?_
  rintro f cdv A outer s H E Γ _ _ fz hr T ⟨k, rfl, rfl⟩
  refine SXs.reL (l' := [.dat (encK nm k), .dat (.int ((n + 1 : Nat) : Int))]) rfl ?_
  have RK : ∀ k, R_KW nm n [encK nm k, .int (((n + 1 : Nat) : Int) - 1)] (.bool (isKW n k)) := fun k => ⟨k, by rw [show ((n + 1 : Nat) : Int) - 1 = (n : Int) by omega], rfl⟩
  have RF : ∀ fs, R_are_fields nm n [.tuple (encFs nm fs), .int (((n + 1 : Nat) : Int) - 1)] (.bool (isFs n fs)) := fun k => ⟨k, by rw [show ((n + 1 : Nat) : Int) - 1 = (n : Int) by omega], rfl⟩
  cases k with
  | text =>
    refine SXs.reL (l' := [.dat (.tuple [.str "text"]), .dat (.int ((n + 1 : Nat) : Int))]) (by rw [encK]) ?_
    walk_at "go"
    show _ = PyData.bool _
    rw [isKW]; rfl
  | num v =>
    refine SXs.reL (l' := [.dat (.tuple [.str "num", .int v]), .dat (.int ((n + 1 : Nat) : Int))]) (by rw [encK]) ?_
    walk_at "go"
    show _ = PyData.bool _
    rw [isKW]; rfl
  | row k =>
    refine SXs.reL (l' := [.dat (.tuple [.str "row", encK nm k]), .dat (.int ((n + 1 : Nat) : Int))]) (by rw [encK]) ?_
    walk_at "go"
    show _ = PyData.bool _
    rw [isKW]
    all_goals rfl
  | rc fs =>
    refine SXs.reL (l' := [.dat (.tuple [.str "rec", .tuple (encFs nm fs)]), .dat (.int ((n + 1 : Nat) : Int))]) (by rw [encK]) ?_
    walk_at "go"
    show _ = PyData.bool _
    rw [isKW]
    all_goals rfl
  | pk fs =>
    refine SXs.reL (l' := [.dat (.tuple [.str "pick", .tuple (encFs nm fs)]), .dat (.int ((n + 1 : Nat) : Int))]) (by rw [encK]) ?_
    walk_at "go"
    show _ = PyData.bool _
    rw [isKW]
    all_goals rfl
/-- all depths -/
theorem all_KW (g : Good nm) (pl : Pl K mg "is_kind_within" s_is_kind_within ["thing", "depth"]) (plF : Pl K mg "are_fields" s_are_fields ["thing", "depth"]) (B : Bi mg) (g6 : GlI mg "MOST_FIELDS" 6) (Cw : Cal P w K mg base "is_whole" 1 ["thing"] R_is_whole) (Cn : Cal P w K mg base "is_name" 1 ["thing"] R_is_name) :
    ∀ n : Nat, Cal P w K mg base "is_kind_within" (2 * n + 1) ["thing", "depth"] (R_KW nm n)
  | 0 => ok_KW0 pl B
  | n + 1 => ok_KW g n pl B Cw (ok_are_fields g n plF B g6 Cn (all_KW g pl plF B g6 Cw Cn n)) (all_KW g pl plF B g6 Cw Cn n)
def R_is_kind (nm : Nat → Str) : List PyData → PyData → Prop := fun ds d => ∃ k, ds = [encK nm k] ∧ d = .bool (isK k)
local macro_rules | `(tactic| walk_at "R") => `(tactic| exact ⟨_, rfl, rfl⟩)
theorem ok_is_kind (pl : Pl K mg "is_kind" s_is_kind ["thing"]) (g5 : GlI mg "DEEPEST" 5) (CK : Cal P w K mg base "is_kind_within" 11 ["thing", "depth"] (R_KW nm 5)) : Cal P w K mg base "is_kind" 12 ["thing"] (R_is_kind nm) := by
  refine okC 1 pl sc_is_kind (by decide +kernel) (by rintro _ _ ⟨x, rfl, _⟩; rfl) ?_
  rintro f cdv A outer s H E Γ _ _ fz hr T ⟨k, rfl, rfl⟩
  refine SXs.reL (l' := [.dat (encK nm k)]) rfl ?_
  walk_at "go"
  rfl
end
section
variable {P : Program} {w : World} {K : PySem.W.Frag} {mg : Str → Option Value} {base : Heap} {nm : Nat → Str}
def R_is_way : List PyData → PyData → Prop := fun ds d => ∃ v : Way, ds = [encW v] ∧ d = .bool true
theorem ok_is_way (pl : Pl K mg "is_way" s_is_way ["thing"]) (B : Bi mg) : Cal P w K mg base "is_way" 1 ["thing"] R_is_way := by
  refine okC 1 pl sc_is_way (by decide +kernel) (by rintro _ _ ⟨x, rfl, _⟩; rfl) ?_
  rintro f cdv A outer s H E Γ _ _ fz hr T ⟨v, rfl, rfl⟩
  cases v with
  | copy =>
    refine SXs.reL (l' := [.dat (.str "copy")]) rfl ?_
    walk_at "go"
    exact congrArg PyData.bool (by decide +kernel)
  | give =>
    refine SXs.reL (l' := [.dat (.str "give")]) rfl ?_
    walk_at "go"
    exact congrArg PyData.bool (by decide +kernel)
  | lend =>
    refine SXs.reL (l' := [.dat (.str "lend")]) rfl ?_
    walk_at "go"
    exact congrArg PyData.bool (by decide +kernel)
  | lease =>
    refine SXs.reL (l' := [.dat (.str "lease")]) rfl ?_
    walk_at "go"
    exact congrArg PyData.bool (by decide +kernel)
def R_is_side : List PyData → PyData → Prop := fun ds d => ∃ i : Int, ds = [.int i] ∧ d = .bool (decide (0 ≤ i) && decide (i ≤ 1))
theorem ok_is_side (pl : Pl K mg "is_side" s_is_side ["thing"]) (B : Bi mg) (Cw : Cal P w K mg base "is_whole" 1 ["thing"] R_is_whole) : Cal P w K mg base "is_side" 2 ["thing"] R_is_side := by
  refine okC 1 pl sc_is_side (by decide +kernel) (by rintro _ _ ⟨x, rfl, _⟩; rfl) ?_
  rintro f cdv A outer s H E Γ _ _ fz hr T ⟨v, rfl, rfl⟩
  refine SXs.reL (l' := [.dat (.int v)]) rfl ?_
  walk_at "go"
  rfl
def R_is_place (nm : Nat → Str) : List PyData → PyData → Prop := fun ds d => ∃ q, ds = [encPl nm q] ∧ d = .bool (decide (q.1 < 10) && isK q.2.2)
theorem ok_is_place (g : Good nm) (pl : Pl K mg "is_place" s_is_place ["thing"]) (B : Bi mg) (Cn : Cal P w K mg base "is_name" 1 ["thing"] R_is_name) (Cy : Cal P w K mg base "is_way" 1 ["thing"] R_is_way) (Ck : Cal P w K mg base "is_kind" 12 ["thing"] (R_is_kind nm)) :
    Cal P w K mg base "is_place" 13 ["thing"] (R_is_place nm) := by
  refine okC 1 pl sc_is_place (by decide +kernel) (by rintro _ _ ⟨x, rfl, _⟩; rfl) ?_
  rintro f cdv A outer s H E Γ _ _ fz hr T ⟨⟨x, v, k⟩, rfl, rfl⟩
  refine SXs.reL (l' := [.dat (.tuple [.str (nm x), encW v, encK nm k])]) rfl ?_
  walk_at "go"
  show _ = PyData.bool (decide (x < 10) && isK k)
  rw [g.ok]; rfl
def R_are_places (nm : Nat → Str) : List PyData → PyData → Prop := fun ds d => ∃ qs : List (Nat × Way × Kd), qs.length ≤ 1000 ∧ ds = [.tuple (qs.map (encPl nm))] ∧ d = .bool ((qs.all fun q => decide (q.1 < 10) && isK q.2.2) && decide ((qs.map (·.1)).Nodup))
theorem ok_are_places (g : Good nm) (pl : Pl K mg "are_places" s_are_places ["thing"]) (B : Bi mg) (Cp : Cal P w K mg base "is_place" 13 ["thing"] (R_is_place nm)) : Cal P w K mg base "are_places" 14 ["thing"] (R_are_places nm) := by
  refine okC 3 pl sc_are_places (by decide +kernel) (by rintro _ _ ⟨x, _, rfl, _⟩; rfl) ?_
  rintro f cdv A outer s H E Γ _ _ fz hr T ⟨qs, hz, rfl, rfl⟩
  refine SXs.reL (l' := [.dat (.tuple (qs.map (encPl nm))), .no, .no]) rfl ?_
  have hu := hu_of hr
  walk_at "go"
  refine' SXs.cons (SX.stD ?k1 ?k2 ?k3 ?k4 ?k5)
  case k1 => exact T
  case k2 => walk_at "At"
  case k3 => decide
  case k5 => rfl
  walk_at "L"
  case W => exact fun j l2 => ∃ kvs a, l2 = [.dat (.tuple (qs.map (encPl nm))), .dk kvs, a] ∧ (∀ n, (valD kvs (.inr (nm n))).isSome = decide (n ∈ (qs.take j).map (·.1))) ∧ kvs.length ≤ j ∧ ((qs.take j).map (·.1)).Nodup ∧ ((qs.take j).all fun q => decide (q.1 < 10) && isK q.2.2) = true
  case k1 => exact IX.tup (by walk_at "E")
  case k3 => exact ⟨[], .no, rfl, fun n => by simp [valD], Nat.le_refl _, by simp, by simp⟩
  case k4 =>
    rintro j d l2 hd ⟨kvs, a, rfl, hv, hl, nd, ha⟩
    rw [List.getElem?_map] at hd
    cases hx : qs[j]? with
    | none => rw [hx] at hd; cases hd
    | some q =>
      rw [hx] at hd
      cases hd
      obtain ⟨x, v, k⟩ := q
      have hj := (List.getElem?_eq_some_iff.mp hx).1
      have hm := List.mem_of_getElem? hx
      refine SXs.reL (l' := [.dat (.tuple (qs.map (encPl nm))), .dk kvs, .dat (encPl nm (x, v, k))]) rfl ?_
      have bad : (decide (x < 10) && isK k) = false → (qs.all fun q => decide (q.1 < 10) && isK q.2.2) = false := fun h => by
        cases q : (qs.all fun q => decide (q.1 < 10) && isK q.2.2) with
        | false => rfl
        | true =>
          rw [List.all_eq_true] at q
          have := q _ hm
          rw [h] at this; cases this
      walk_at "S"
      case k2 =>
        intro hb
        walk_at "S"
        show _ = PyData.bool _
        by_cases hin : x ∈ (qs.take j).map (·.1)
        · rw [decide_eq_false (not_nodup (f := (·.1)) hx hin), Bool.and_false]
        · rw [hv, decide_eq_false hin, Bool.or_false, Bool.not_eq_true'] at hb
          rw [bad hb, Bool.false_and]
      case k3 =>
        intro hb
        rw [hv, Bool.or_eq_false_iff, decide_eq_false_iff_not, Bool.not_eq_false'] at hb
        refine SXs.nil ?_
        walk_at "S"
        case kz => omega
        refine SXs.nil ⟨_, _, rfl, fun n => ?_, ?_, nodup_take_succ (f := (·.1)) hx nd hb.2, ?_⟩
        · rw [valD_put, List.take_add_one, hx, List.map_append]
          by_cases e : n = x
          · subst e; rw [if_pos rfl]; simp
          · rw [if_neg (fun z => e (g.inj _ _ (Sum.inr.inj z))), hv]
            simp [e]
        · exact Nat.le_trans (len_putD _ _ _) (by omega)
        · rw [all_take_succ hx, ha]; exact hb.1
  case k5 =>
    rintro l2 ⟨kvs, a, rfl, hv, hl, nd, ha⟩
    rw [List.length_map, List.take_length] at nd ha
    walk_at "S"
    show _ = PyData.bool _
    rw [decide_eq_true nd, ha]; rfl
def R_is_paper (nm : Nat → Str) : List PyData → PyData → Prop := fun ds d => ∃ p : Paper, p.places.length ≤ 1000 ∧ ds = [encPaper nm p] ∧ d = .bool (isPaper p)
theorem ok_is_paper (g : Good nm) (pl : Pl K mg "is_paper" s_is_paper ["thing"]) (B : Bi mg) (Cn : Cal P w K mg base "is_name" 1 ["thing"] R_is_name) (Cs : Cal P w K mg base "is_side" 2 ["thing"] R_is_side)
    (Cp : Cal P w K mg base "are_places" 14 ["thing"] (R_are_places nm)) (Ck : Cal P w K mg base "is_kind" 12 ["thing"] (R_is_kind nm)) : Cal P w K mg base "is_paper" 15 ["thing"] (R_is_paper nm) := by
  refine okC 1 pl sc_is_paper (by decide +kernel) (by rintro _ _ ⟨x, _, rfl, _⟩; rfl) ?_
  rintro f cdv A outer s H E Γ _ _ fz hr T ⟨⟨x, sd, qs, r⟩, hz, rfl, rfl⟩
  refine SXs.reL (l' := [.dat (.tuple [.str (nm x), .int sd, .tuple (qs.map (encPl nm)), encR nm r])]) rfl ?_
  have RP : R_are_places nm [.tuple (qs.map (encPl nm))] (.bool ((qs.all fun q => decide (q.1 < 10) && isK q.2.2) && decide ((qs.map (·.1)).Nodup))) := ⟨qs, hz, rfl, rfl⟩
  walk_at "go"
  walk_at "S"
  case k2 =>
    intro hb
    walk_at "S"
    show _ = PyData.bool _
    have hb' : (decide (x < 10) && (decide (0 ≤ sd) && decide (sd ≤ 1))) = false := by
      rw [g.ok] at hb
      cases h1 : decide (x < 10) <;> cases h2 : (decide (0 ≤ sd) && decide (sd ≤ 1)) <;> rw [h1, h2] at hb <;> first | rfl | exact absurd hb (by decide)
    show _ = PyData.bool ((decide (x < 10) && (decide (0 ≤ sd) && decide (sd ≤ 1))) && _ && _)
    rw [hb']; rfl
  case k3 =>
    intro hb
    have hb' : (decide (x < 10) && (decide (0 ≤ sd) && decide (sd ≤ 1))) = true := by
      rw [g.ok] at hb
      cases h1 : decide (x < 10) <;> cases h2 : (decide (0 ≤ sd) && decide (sd ≤ 1)) <;> rw [h1, h2] at hb <;> first | rfl | exact absurd hb (by decide)
    have e : isPaper ⟨x, sd, qs, r⟩ = (((qs.all fun q => decide (q.1 < 10) && isK q.2.2) && decide ((qs.map (·.1)).Nodup)) && isRes r) := by
      show ((decide (x < 10) && (decide (0 ≤ sd) && decide (sd ≤ 1))) && _ && _) = _
      rw [hb']; rfl
    refine SXs.nil ?_
    walk_at "S"
    case k2 =>
      intro hb2
      walk_at "S"
      show _ = PyData.bool _
      rw [Bool.not_eq_true'] at hb2
      rw [e, hb2]; rfl
    case k3 =>
      intro hb2
      rw [Bool.not_eq_false'] at hb2
      refine SXs.nil ?_
      rw [hb2, Bool.true_and] at e
      cases r with
      | none =>
        refine SXs.reL (l' := [.dat (.tuple [.str (nm x), .int sd, .tuple (qs.map (encPl nm)), .none])]) rfl ?_
        refine' SXs.cons (SX.ret (d := .bool true) (EX.orT ?k1) ?k2)
        case k1 => exact EX.eq (d := .bool (isN .none)) (by walk_at "E") rfl
        case k2 => show _ = PyData.bool _; rw [e]; rfl
      | some k =>
        refine SXs.reL (l' := [.dat (.tuple [.str (nm x), .int sd, .tuple (qs.map (encPl nm)), encK nm k])]) rfl ?_
        have hn : isN (encK nm k) = false := by cases k <;> (rw [encK]; rfl)
        walk_at "S"
        show _ = PyData.bool _
        rw [e, hn]; rfl
end
/-! the field of a record's or a pick's kind that a step names -/
def hitS : Stp → Nat × Kd → Bool
  | .nm n, f => decide (f.1 = n)
  | .ix _, _ => false
def fieldS (fs : List (Nat × Kd)) (s : Stp) : Option Kd := (fs.find? (hitS s)).map (·.2)
def placeI (fs : List (Nat × Kd)) (s : Stp) : Int := match fs.findIdx? (hitS s) with
  | some i => (i : Nat)
  | none => -1
theorem find_idx {α : Type} (p : α → Bool) : ∀ xs : List α, (∃ i f, xs.findIdx? p = some i ∧ xs[i]? = some f ∧ xs.find? p = some f ∧ (xs.take i).all (fun x => !p x) = true) ∨ (xs.findIdx? p = none ∧ xs.find? p = none ∧ xs.all (fun x => !p x) = true)
  | [] => .inr ⟨rfl, rfl, rfl⟩
  | x :: xs => by
    by_cases h : p x = true
    · exact .inl ⟨0, x, by simp [List.findIdx?_cons, h], rfl, by simp [List.find?_cons, h], rfl⟩
    · rw [Bool.not_eq_true] at h
      rcases find_idx p xs with ⟨i, f, h1, h2, h3, h4⟩ | ⟨h1, h2, h3⟩
      · exact .inl ⟨i + 1, f, by simp [List.findIdx?_cons, h, h1], by simpa using h2, by simp [List.find?_cons, h, h3], by simpa [h] using h4⟩
      · exact .inr ⟨by simp [List.findIdx?_cons, h, h1], by simp [List.find?_cons, h, h2], by simpa [h] using h3⟩
theorem idx_of {α : Type} {p : α → Bool} {xs : List α} {i : Nat} {x : α} (hx : xs[i]? = some x) (h : p x = true) (a : (xs.take i).all (fun x => !p x) = true) : xs.findIdx? p = some i := by
  induction xs generalizing i with
  | nil => simp at hx
  | cons y ys ih =>
    cases i with
    | zero =>
      have : y = x := by simpa using hx
      subst this
      simp [List.findIdx?_cons, h]
    | succ i =>
      rw [List.take_succ_cons, List.all_cons, Bool.and_eq_true, Bool.not_eq_true'] at a
      simp [List.findIdx?_cons, a.1, ih (by simpa using hx) a.2]
theorem idx_none {α : Type} {p : α → Bool} {xs : List α} (a : xs.all (fun x => !p x) = true) : xs.findIdx? p = none := by
  rcases find_idx p xs with ⟨i, f, h1, h2, h3, h4⟩ | ⟨h1, h2, h3⟩
  · have := List.find?_some h3
    rw [List.all_eq_true] at a
    have := a f (List.mem_of_getElem? h2)
    simp_all
  · exact h1
section
variable {P : Program} {w : World} {K : PySem.W.Frag} {mg : Str → Option Value} {base : Heap} {nm : Nat → Str}
theorem encFs_len (fs : List (Nat × Kd)) : (encFs nm fs).length = fs.length := by rw [encFs_map, List.length_map]
theorem encFs_get {fs : List (Nat × Kd)} {j n : Nat} {k : Kd} (h : fs[j]? = some (n, k)) : ixD (.tuple (encFs nm fs)) (j : Int) = some (.tuple [.str (nm n), encK nm k]) := by
  refine atI_nat' ?_
  rw [encFs_map, List.getElem?_map, h, Option.map_some, encF]
def R_place_of (nm : Nat → Str) : List PyData → PyData → Prop := fun ds d => ∃ fs s, fs.length ≤ 1000 ∧ ds = [.tuple (encFs nm fs), encS nm s] ∧ d = .int (placeI fs s)
theorem ok_place_of (g : Good nm) (pl : Pl K mg "place_of" s_place_of ["fields", "name"]) (B : Bi mg) : Cal P w K mg base "place_of" 1 ["fields", "name"] (R_place_of nm) := by
  refine okC 3 pl sc_place_of (by decide +kernel) (by rintro _ _ ⟨x, y, _, rfl, _⟩; rfl) ?_
  rintro f cdv A outer s H E Γ _ _ fz hr T ⟨fs, t, hz, rfl, rfl⟩
  refine SXs.reL (l' := [.dat (.tuple (encFs nm fs)), .dat (encS nm t), .no]) rfl ?_
  have hl := encFs_len (nm := nm) fs
  walk_at "L"
  case W => exact fun j l2 => ∃ a, l2 = [.dat (.tuple (encFs nm fs)), .dat (encS nm t), a] ∧ (fs.take j).all (fun f => !hitS t f) = true
  case k1 => exact IX.range (n := lenD (.tuple (encFs nm fs))) (by walk_at "A") (by simp only [lenD]; omega) rfl B.range
  case k3 => exact ⟨.no, rfl, rfl⟩
  case k4 =>
    rintro j d l2 hd ⟨a, rfl, ha⟩
    have hj : j < fs.length := by
      have := (List.getElem?_eq_some_iff.mp hd).1
      rw [nums_len] at this
      simp only [lenD] at this
      omega
    rw [nums_get (by simp only [lenD]; omega)] at hd
    cases hd
    obtain ⟨⟨n, k⟩, hx⟩ : ∃ f, fs[j]? = some f := ⟨fs[j], List.getElem?_eq_getElem hj⟩
    refine SXs.reL (l' := [.dat (.tuple (encFs nm fs)), .dat (encS nm t), .dat (.int (j : Nat))]) rfl ?_
    have hi := encFs_get (nm := nm) hx
    have yes : hitS t (n, k) = true → placeI fs t = (j : Nat) := fun h => by unfold placeI; rw [idx_of hx h ha]
    have no : hitS t (n, k) = false → (fs.take (j + 1)).all (fun f => !hitS t f) = true := fun h => by rw [all_take_succ hx, ha, h]; rfl
    cases t with
    | nm m =>
      refine SXs.reL (l' := [.dat (.tuple (encFs nm fs)), .dat (.str (nm m)), .dat (.int (j : Nat))]) rfl ?_
      walk_at "S"
      case k2 =>
        intro hb
        have hb := g.inj _ _ (of_decide_eq_true hb)
        walk_at "S"
        show _ = PyData.int _
        rw [yes (decide_eq_true hb)]
      case k3 =>
        intro hb
        refine SXs.nil (SXs.nil ⟨_, rfl, no (decide_eq_false fun z => ?_)⟩)
        have z : n = m := z
        rw [z, decide_eq_true rfl] at hb; cases hb
    | ix i =>
      refine SXs.reL (l' := [.dat (.tuple (encFs nm fs)), .dat (.int i), .dat (.int (j : Nat))]) rfl ?_
      walk_at "S"
      case k2 => intro hb; cases hb
      case k3 =>
        intro hb
        exact SXs.nil (SXs.nil ⟨_, rfl, no rfl⟩)
  case k5 =>
    rintro l2 ⟨a, rfl, ha⟩
    have e : (nums (lenD (.tuple (encFs nm fs))).toNat).length = fs.length := by rw [nums_len]; simp only [lenD]; omega
    rw [e, List.take_length] at ha
    walk_at "S"
    show _ = PyData.int _
    unfold placeI
    rw [idx_none ha]
def R_field_kind (nm : Nat → Str) : List PyData → PyData → Prop := fun ds d => ∃ fs s, fs.length ≤ 1000 ∧ ds = [.tuple (encFs nm fs), encS nm s] ∧ d = encR nm (fieldS fs s)
theorem ok_field_kind (pl : Pl K mg "field_kind" s_field_kind ["fields", "name"]) (B : Bi mg) (Cp : Cal P w K mg base "place_of" 1 ["fields", "name"] (R_place_of nm)) : Cal P w K mg base "field_kind" 2 ["fields", "name"] (R_field_kind nm) := by
  refine okC 3 pl sc_field_kind (by decide +kernel) (by rintro _ _ ⟨x, y, _, rfl, _⟩; rfl) ?_
  rintro f cdv A outer s H E Γ _ _ fz hr T ⟨fs, t, hz, rfl, rfl⟩
  refine SXs.reL (l' := [.dat (.tuple (encFs nm fs)), .dat (encS nm t), .no]) rfl ?_
  have RP : R_place_of nm [.tuple (encFs nm fs), encS nm t] (.int (placeI fs t)) := ⟨fs, t, hz, rfl, rfl⟩
  walk_at "S"
  case k5 =>
    rcases find_idx (hitS t) fs with ⟨i, ⟨n, k⟩, h1, h2, h3, _⟩ | ⟨h1, h2, _⟩
    · have e : placeI fs t = (i : Nat) := by unfold placeI; rw [h1]
      rw [e]
      have hi := encFs_get (nm := nm) h2
      walk_at "S"
      case k2 =>
        intro hb
        have := of_decide_eq_true hb
        omega
      case k3 =>
        intro hb
        refine SXs.nil ?_
        walk_at "S"
        show _ = encR nm (fieldS fs t)
        unfold fieldS
        rw [h3]; rfl
    · have e : placeI fs t = -1 := by unfold placeI; rw [h1]
      rw [e]
      walk_at "S"
      case k2 =>
        intro hb
        walk_at "S"
        show _ = encR nm (fieldS fs t)
        unfold fieldS
        rw [h2]; rfl
      case k3 => intro hb; exact absurd hb (by decide)
end
theorem isKW_mono : ∀ {n : Nat} {k : Kd}, isKW n k = true → isKW (n + 1) k = true
  | 0, k, h => by rw [isKW] at h; cases h
  | n + 1, .num v, h => by rw [isKW] at h ⊢; exact h
  | n + 1, .text, h => by rw [isKW]
  | n + 1, .row k, h => by rw [isKW] at h ⊢; exact isKW_mono h
  | n + 1, .rc fs, h => by
    rw [isKW] at h ⊢
    simp only [Bool.and_eq_true, List.all_eq_true] at h ⊢
    exact ⟨h.1, fun f hf => ⟨(h.2 f hf).1, isKW_mono (h.2 f hf).2⟩⟩
  | n + 1, .pk fs, h => by
    rw [isKW] at h ⊢
    simp only [Bool.and_eq_true, List.all_eq_true] at h ⊢
    exact ⟨h.1, fun f hf => ⟨(h.2 f hf).1, isKW_mono (h.2 f hf).2⟩⟩
theorem fieldK_mem {fs : List (Nat × Kd)} {n : Nat} {k : Kd} (h : fieldK fs n = some k) : ∃ f ∈ fs, f.2 = k := by
  unfold fieldK at h
  cases q : fs.find? (fun f => decide (f.1 = n)) with
  | none => rw [q] at h; cases h
  | some f =>
    rw [q] at h
    cases h
    exact ⟨f, List.mem_of_find?_eq_some q, rfl⟩
theorem isKW_fs {n : Nat} {fs : List (Nat × Kd)} {k : Kd} (hk : k = .rc fs ∨ k = .pk fs) (h : isKW (n + 1) k = true) : fs.length ≤ 6 ∧ 1 ≤ fs.length ∧ ∀ f ∈ fs, isKW n f.2 = true := by
  rcases hk with rfl | rfl
  · rw [isKW] at h
    simp only [Bool.and_eq_true, List.all_eq_true, decide_eq_true_eq] at h
    exact ⟨h.1.1.2, h.1.1.1, fun f hf => (h.2 f hf).2⟩
  · rw [isKW] at h
    simp only [Bool.and_eq_true, List.all_eq_true, decide_eq_true_eq] at h
    exact ⟨h.1.1.2, h.1.1.1, fun f hf => (h.2 f hf).2⟩
theorem stepK_kw {n : Nat} {k k' : Kd} {s : Stp} (h : isKW (n + 1) k = true) (e : stepK k s = some k') : isKW n k' = true := by
  cases k with
  | num v => cases s <;> cases e
  | text => cases s <;> cases e
  | row k =>
    cases s with
    | nm m => cases e
    | ix i =>
      unfold stepK at e
      simp only at e
      split at e
      · cases e
        rw [isKW] at h; exact h
      · cases e
  | rc fs =>
    cases s with
    | ix i => cases e
    | nm m =>
      obtain ⟨f, hf, rfl⟩ := fieldK_mem (show fieldK fs m = some k' from e)
      exact (isKW_fs (.inl rfl) h).2.2 f hf
  | pk fs =>
    cases s with
    | ix i => cases e
    | nm m =>
      obtain ⟨f, hf, rfl⟩ := fieldK_mem (show fieldK fs m = some k' from e)
      exact (isKW_fs (.inr rfl) h).2.2 f hf
theorem isK_step {k k' : Kd} {s : Stp} (h : isK k = true) (e : stepK k s = some k') : isK k' = true := isKW_mono (stepK_kw h e)
theorem isK_part {k' : Kd} : ∀ {p : List Stp} {k : Kd}, isK k = true → partK k p = some k' → isK k' = true
  | [], k, h, e => by rw [partK] at e; cases e; exact h
  | s :: p, k, h, e => by
    rw [partK] at e
    cases q : stepK k s with
    | none => rw [q] at e; cases e
    | some k2 => rw [q] at e; exact isK_part (isK_step h q) e
theorem partK_append : ∀ (p q : List Stp) (k : Kd), partK k (p ++ q) = (partK k p).bind fun k' => partK k' q
  | [], q, k => by rw [List.nil_append, partK]; rfl
  | s :: p, q, k => by
    rw [List.cons_append, partK, partK]
    cases stepK k s with
    | none => rfl
    | some k2 => exact partK_append p q k2
theorem fieldS_nm (fs : List (Nat × Kd)) (n : Nat) : fieldS fs (.nm n) = fieldK fs n := rfl
theorem fieldS_ix (fs : List (Nat × Kd)) (i : Int) : fieldS fs (.ix i) = none := by
  unfold fieldS
  rw [List.find?_eq_none.mpr (fun x _ => by simp [hitS])]; rfl
section
variable {P : Program} {w : World} {K : PySem.W.Frag} {mg : Str → Option Value} {base : Heap} {nm : Nat → Str} {C : Addr}
def R_step_kind (nm : Nat → Str) : List PyData → Option PyData → Prop := fun ds o => ∃ k s, isK k = true ∧ ds = [encK nm k, encS nm s] ∧ o = (stepK k s).map (encK nm)
theorem isN_encK (k : Kd) : isN (encK nm k) = false := by cases k <;> (rw [encK]; rfl)
theorem ok_step_kind (pl : Pl K mg "step_kind" s_step_kind ["kind", "step"]) (B : Bi mg) (g60 : GlI mg "MOST_ITEMS" 60) (XN : Exn K mg "NoPart" C) (Cw : Cal P w K mg base "is_whole" 1 ["thing"] R_is_whole) (Cf : Cal P w K mg base "field_kind" 2 ["fields", "name"] (R_field_kind nm)) :
    CalX P w K mg base "step_kind" 3 ["kind", "step"] C (R_step_kind nm) := by
  refine okXC 3 pl sc_step_kind (by decide +kernel) (by rintro _ _ ⟨x, y, _, rfl, _⟩; rfl) ?_
  rintro f cdv A outer s H E Γ _ _ fz hr T ⟨k, t, hk, rfl, rfl⟩ W tk hW
  have RW : ∀ x, R_is_whole [x] (.bool (isWhole x)) := fun x => ⟨x, rfl, rfl⟩
  have fin : ∀ (l : List Sl) (fd : PyData), fd = encR nm (stepK k t) → l = [.dat (encK nm k), .dat (encS nm t), .dat fd] → SXs (bxX P w K mg base N_step_kind (Str.ofString "step_kind") s_step_kind f cdv A outer s H E) Γ ((defBody s_step_kind).drop 3) l { nx := fun _ => (stepK k t).map (encK nm) = some .none, rt := fun d' _ => (stepK k t).map (encK nm) = some d' } := by
    rintro l fd rfl rfl
    cases q : stepK k t with
    | none =>
      refine SXs.reL (l' := [.dat (encK nm k), .dat (encS nm t), .dat .none]) rfl ?_
      refine' SXs.cons (SX.iteT (TX.eq (b := isN .none) ?k1 rfl) ?k2)
      case k1 => walk_at "T"
      case k2 =>
        refine SXs.cons (SXr.sx (SXr.raise rfl tk XN rfl) fun _ G H σ hh => hW (by rw [q]; rfl) G H σ _ hh)
    | some k' =>
      refine SXs.reL (l' := [.dat (encK nm k), .dat (encS nm t), .dat (encK nm k')]) rfl ?_
      refine' SXs.cons (SX.iteF (TX.eq (b := isN (encK nm k')) ?k1 (isN_encK _)) ?k2)
      case k1 => walk_at "T"
      case k2 =>
        refine SXs.nil ?_
        walk_at "S"
        rfl
  refine SXs.reL (l' := [.dat (encK nm k), .dat (encS nm t), .no]) rfl ?_
  walk_at "S"
  case k5 =>
    have pick : ∀ (fs : List (Nat × Kd)) (a : String) (hk' : k = .rc fs ∨ k = .pk fs), encK nm k = .tuple [.str (Str.ofString a), .tuple (encFs nm fs)] → (decide (Str.ofString a = "row") = false ∧ (decide (Str.ofString a = "rec") || decide (Str.ofString a = "pick")) = true) →
        SXs (bxX P w K mg base N_step_kind (Str.ofString "step_kind") s_step_kind f cdv A outer s H E) Γ ((defBody s_step_kind).drop 1) [.dat (encK nm k), .dat (encS nm t), .dat .none] { nx := fun _ => (stepK k t).map (encK nm) = some .none, rt := fun d' _ => (stepK k t).map (encK nm) = some d' } := by
      intro fs a hk' ek ⟨a1, a2⟩
      have hz : fs.length ≤ 1000 := Nat.le_trans (isKW_fs hk' hk).1 (by decide)
      have RF : R_field_kind nm [.tuple (encFs nm fs), encS nm t] (encR nm (fieldS fs t)) := ⟨fs, t, hz, rfl, rfl⟩
      have es : fieldS fs t = stepK k t := by
        rcases hk' with rfl | rfl <;> cases t <;> first | rfl | rw [fieldS_ix]; rfl
      rw [ek] at fin ⊢
      refine' SXs.cons (SX.iteF (TX.ofW (WX.andF (TX.eq (b := decide (Str.ofString a = "row")) ?k1 a1))) ?k2)
      case k1 => walk_at "T"
      case k2 =>
        refine SXs.nil ?_
        refine' SXs.cons (SX.iteT (TX.eq (b := (decide (Str.ofString a = "rec") || decide (Str.ofString a = "pick"))) ?k3 a2) ?k4)
        case k3 => walk_at "T"
        case k4 =>
          walk_at "S"
          case k5 => exact SXs.nil (fin _ _ (by rw [es]) rfl)
    have none2 : ∀ (l : List Sl) (ds : List PyData) (a : String), encK nm k = .tuple (.str (Str.ofString a) :: ds) → (decide (Str.ofString a = "rec") || decide (Str.ofString a = "pick")) = false → ∀ fd, fd = encR nm (stepK k t) →
        SXs (bxX P w K mg base N_step_kind (Str.ofString "step_kind") s_step_kind f cdv A outer s H E) Γ ((defBody s_step_kind).drop 2) [.dat (encK nm k), .dat (encS nm t), .dat fd] { nx := fun _ => (stepK k t).map (encK nm) = some .none, rt := fun d' _ => (stepK k t).map (encK nm) = some d' } := by
      intro l ds a ek a2 fd hfd
      rw [ek] at fin ⊢
      refine' SXs.cons (SX.iteF (TX.eq (b := (decide (Str.ofString a = "rec") || decide (Str.ofString a = "pick"))) ?k3 a2) ?k4)
      case k3 => walk_at "T"
      case k4 => exact SXs.nil (fin _ _ hfd rfl)
    cases k with
    | num v =>
      have n2 := none2 [] [.int v] "num" (by rw [encK]) (by decide)
      rw [encK] at n2
      refine SXs.reL (l' := [.dat (.tuple [.str "num", .int v]), .dat (encS nm t), .dat .none]) (by rw [encK]; rfl) ?_
      refine' SXs.cons (SX.iteF (TX.ofW (WX.andF (TX.eq (b := decide (("num" : Str) = "row")) ?k1 (by decide)))) ?k2)
      case k1 => walk_at "T"
      case k2 => exact SXs.nil (n2 _ (by cases t <;> rfl))
    | text =>
      have n2 := none2 [] [] "text" (by rw [encK]) (by decide)
      rw [encK] at n2
      refine SXs.reL (l' := [.dat (.tuple [.str "text"]), .dat (encS nm t), .dat .none]) (by rw [encK]; rfl) ?_
      refine' SXs.cons (SX.iteF (TX.ofW (WX.andF (TX.eq (b := decide (("text" : Str) = "row")) ?k1 (by decide)))) ?k2)
      case k1 => walk_at "T"
      case k2 => exact SXs.nil (n2 _ (by cases t <;> rfl))
    | row k =>
      have n2 := none2 [] [encK nm k] "row" (by rw [encK]) (by decide)
      rw [encK] at n2
      cases t with
      | nm m =>
        refine SXs.reL (l' := [.dat (.tuple [.str "row", encK nm k]), .dat (.str (nm m)), .dat .none]) (by rw [encK]; rfl) ?_
        refine' SXs.cons (SX.iteF (TX.ofW (WX.andT (TX.eq (b := decide (("row" : Str) = "row")) ?k1 (by decide)) (WX.andF (TX.eq (b := isWhole (.str (nm m))) ?k2 rfl)))) ?k3)
        case k1 => walk_at "T"
        case k2 => walk_at "T"
        case k3 => exact SXs.nil (n2 _ rfl)
      | ix i =>
        refine SXs.reL (l' := [.dat (.tuple [.str "row", encK nm k]), .dat (.int i), .dat .none]) (by rw [encK]; rfl) ?_
        walk_at "S"
        case k2 =>
          intro hb
          have hb : 0 ≤ i ∧ i < 60 := by simpa [isWhole, isIntD, isBoolD] using hb
          walk_at "S"
          case k5 => exact SXs.nil (n2 _ (by show _ = encR nm (if 0 ≤ i ∧ i < 60 then some k else none); rw [if_pos hb]; rfl))
        case k3 =>
          intro hb
          have hb : ¬ (0 ≤ i ∧ i < 60) := by simpa [isWhole, isIntD, isBoolD] using hb
          exact SXs.nil (n2 _ (by show _ = encR nm (if 0 ≤ i ∧ i < 60 then some k else none); rw [if_neg hb]; rfl))
    | rc fs => exact pick fs "rec" (.inl rfl) (by rw [encK]) ⟨by decide, by decide⟩
    | pk fs => exact pick fs "pick" (.inr rfl) (by rw [encK]) ⟨by decide, by decide⟩
end
section
variable {P : Program} {w : World} {K : PySem.W.Frag} {mg : Str → Option Value} {base : Heap} {nm : Nat → Str} {C : Addr}
def R_part_kind (nm : Nat → Str) : List PyData → Option PyData → Prop := fun ds o => ∃ k p, isK k = true ∧ ds = [encK nm k, encP nm p] ∧ o = (partK k p).map (encK nm)
theorem ok_part_kind (pl : Pl K mg "part_kind" s_part_kind ["kind", "path"]) (Cs : CalX P w K mg base "step_kind" 3 ["kind", "step"] C (R_step_kind nm)) :
    CalX P w K mg base "part_kind" 4 ["kind", "path"] C (R_part_kind nm) := by
  refine okXC 3 pl sc_part_kind (by decide +kernel) (by rintro _ _ ⟨x, y, _, rfl, _⟩; rfl) ?_
  rintro f cdv A outer s H E Γ _ _ fz hr T ⟨k, p, hk, rfl, rfl⟩ W tk hW
  refine SXs.reL (l' := [.dat (encK nm k), .dat (.tuple (p.map (encS nm))), .no]) rfl ?_
  refine' SXs.cons (SX.for (is := [2]) (tv := fun d => [d]) (passes_of rfl) rfl ?k1 ?k2 ?W ?k3 ?k4 ?k5)
  case W => exact fun j l2 => ∃ k' a, partK k (p.take j) = some k' ∧ isK k' = true ∧ l2 = [.dat (encK nm k'), .dat (.tuple (p.map (encS nm))), a]
  case k1 => exact IX.tup (by walk_at "E")
  case k2 => exact fun d _ => GX.nm T (by walk_at "At") (by decide)
  case k3 => exact ⟨k, .no, rfl, hk, rfl⟩
  case k4 =>
    rintro j d l2 hd ⟨k', a, hp, hk', rfl⟩
    rw [List.getElem?_map] at hd
    cases hx : p[j]? with
    | none => rw [hx] at hd; cases hd
    | some t =>
      rw [hx] at hd
      cases hd
      refine SXs.reL (l' := [.dat (encK nm k'), .dat (.tuple (p.map (encS nm))), .dat (encS nm t)]) rfl ?_
      have RS : R_step_kind nm [encK nm k', encS nm t] ((stepK k' t).map (encK nm)) := ⟨k', t, hk', rfl, rfl⟩
      have split : partK k p = (stepK k' t).bind fun k2 => partK k2 (p.drop (j + 1)) := by
        have e : p = p.take j ++ (t :: p.drop (j + 1)) := by
          have := (List.getElem?_eq_some_iff.mp hx)
          obtain ⟨hj, rfl⟩ := this
          rw [List.getElem_cons_drop, List.take_append_drop]
        conv => lhs; rw [e]
        rw [partK_append, hp]
        show partK k' (t :: _) = _
        rw [partK]
      refine' SXs.cons (SXr.sx (SXr.setC tk Cs hr ?h1 rfl T ?h2 ?h3 ?h4 RS ?h5) ?h6)
      case h1 => decide
      case h2 => walk_at "At"
      case h3 => decide
      case h4 => walk_at "A"
      case h5 =>
        intro d hd
        cases q : stepK k' t with
        | none => rw [q] at hd; cases hd
        | some k2 =>
          rw [q] at hd
          cases hd
          refine SXs.nil ⟨k2, _, ?_, isK_step hk' q, rfl⟩
          rw [List.take_add_one, hx, partK_append, hp]
          show partK k' [t] = _
          rw [partK, q]
          rfl
      case h6 =>
        intro en G H σ hh
        refine hW ?_ G H σ _ hh
        cases q : stepK k' t with
        | none => rw [split, q]; rfl
        | some k2 => rw [q] at en; cases en
  case k5 =>
    rintro l2 ⟨k', a, hp, hk', rfl⟩
    rw [List.length_map, List.take_length] at hp
    walk_at "S"
    show Option.map _ (partK k p) = _
    rw [hp]; rfl
def R_span_of : List PyData → PyData → Prop := fun ds d => ∃ n : Nat, n ≤ 4 ∧ ds = [.int (n : Nat)] ∧ d = .int (65536 ^ n)
theorem ok_span_of (pl : Pl K mg "span_of" s_span_of ["width"]) (B : Bi mg) : Cal P w K mg base "span_of" 1 ["width"] R_span_of := by
  refine okC 3 pl sc_span_of (by decide +kernel) (by rintro _ _ ⟨x, _, rfl, _⟩; rfl) ?_
  rintro f cdv A outer s H E Γ _ _ fz hr T ⟨n, hn, rfl, rfl⟩
  refine SXs.reL (l' := [.dat (.int (n : Nat)), .no, .no]) rfl ?_
  walk_at "S"
  case k5 =>
    walk_at "L"
    case W => exact fun j l2 => ∃ a, l2 = [.dat (.int (n : Nat)), .dat (.int (65536 ^ j)), a]
    case k1 => exact IX.range (by walk_at "A") (by omega) rfl B.range
    case k3 => exact ⟨.no, rfl⟩
    case k4 =>
      rintro j d l2 hd ⟨a, rfl⟩
      have hj : j < n := by
        have := (List.getElem?_eq_some_iff.mp hd).1
        rw [nums_len] at this
        omega
      rw [nums_get (by omega)] at hd
      cases hd
      refine SXs.reL (l' := [.dat (.int (n : Nat)), .dat (.int (65536 ^ j)), .dat (.int (j : Nat))]) rfl ?_
      have hm : CMul (65536 ^ j) 65536 := .inr ⟨by omega, by omega⟩
      walk_at "S"
      case k5 => exact SXs.nil ⟨_, by rw [Int.pow_succ]; rfl⟩
    case k5 =>
      rintro l2 ⟨a, rfl⟩
      rw [nums_len, Int.toNat_natCast]
      walk_at "S"
      rfl
def printed : Str := " !\"#$&'()*+,-./0123456789:;<=>?@ABCDEFGHIJKLMNOPQRSTUVWXYZ[\\]^_`abcdefghijklmnopqrstuvwxyz{|}~"
def R_is_text : List PyData → PyData → Prop := fun ds d => ∃ x : Str, x.length ≤ 60 ∧ (x.cps.toList.all fun c => decide (c ∈ printed.cps.toList)) = true ∧ ds = [.str x] ∧ d = .bool true
theorem ok_is_text (pl : Pl K mg "is_text" s_is_text ["thing"]) (B : Bi mg) (g60 : GlI mg "MOST_SIGNS" 60) (gS : GlS mg "SIGNS" printed) : Cal P w K mg base "is_text" 1 ["thing"] R_is_text := by
  refine okC 2 pl sc_is_text (by decide +kernel) (by rintro _ _ ⟨x, _, _, rfl, _⟩; rfl) ?_
  rintro f cdv A outer s H E Γ _ _ fz hr T ⟨x, hz, ha, rfl, rfl⟩
  refine SXs.reL (l' := [.dat (.str x), .no]) rfl ?_
  have hz' : x.length ≤ 1000000 := by omega
  walk_at "S"
  case k2 =>
    intro hb
    have := (show decide ((60 : Int) < (x.length : Nat)) = true from hb)
    rw [decide_eq_true_eq] at this
    omega
  case k3 =>
    intro hb
    refine SXs.nil ?_
    walk_at "F"
    case pp => exact fun c => decide (c ∈ printed.cps.toList)
    case k1 => exact IX.str (by walk_at "E")
    case k3 =>
      intro c hc a
      refine SXs.reL (l' := [.dat (.str x), .dat (.str ⟨#[c]⟩)]) rfl ?_
      walk_at "S"
      case k2 =>
        intro hb
        rw [List.all_eq_true] at ha
        rw [ha c hc] at hb; cases hb
      case k3 =>
        intro hb
        refine SXs.nil (SXs.nil ⟨?_, _, rfl⟩)
        simpa using hb
    case k4 =>
      intro _ a
      walk_at "S"
      rfl
    case k5 => intro h; rw [ha] at h; cases h
end
section
variable {P : Program} {w : World} {K : PySem.W.Frag} {mg : Str → Option Value} {base : Heap} {nm : Nat → Str} {C : Addr}
def R_is_worth (nm : Nat → Str) (n : Nat) : List PyData → PyData → Prop := fun ds d => ∃ k s, isKW n k = true ∧ ds = [encK nm k, worD nm k s] ∧ d = .bool true
def R_are_worths (nm : Nat → Str) (n : Nat) : List PyData → PyData → Prop := fun ds d => ∃ qs : List (Kd × Int), (∀ q ∈ qs, isKW n q.1 = true) ∧ ds = [.list (qs.map fun q => encK nm q.1), .tuple (qs.map fun q => worD nm q.1 q.2)] ∧ d = .bool true
theorem ok_are_worths (n : Nat) (pl : Pl K mg "are_worths" s_are_worths ["kinds", "things"]) (B : Bi mg) (CW : Cal P w K mg base "is_worth" (2 * n + 3) ["kind", "thing"] (R_is_worth nm n)) :
    Cal P w K mg base "are_worths" (2 * n + 4) ["kinds", "things"] (R_are_worths nm n) := by
  refine okC 4 pl sc_are_worths (by decide +kernel) (by rintro _ _ ⟨x, _, rfl, _⟩; rfl) ?_
  rintro f cdv A outer s H E Γ _ _ fz hr T ⟨qs, hq, rfl, rfl⟩
  refine SXs.reL (l' := [.dat (.list (qs.map fun q => encK nm q.1)), .dat (.tuple (qs.map fun q => worD nm q.1 q.2)), .no, .no]) rfl ?_
  refine' SXs.cons (SX.for (is := [2, 3]) (tv := itemsD) PassesOwn.never rfl ?k1 ?k2 ?W ?k3 ?k4 ?k5)
  case W => exact fun j l2 => ∃ a b, l2 = [.dat (.list (qs.map fun q => encK nm q.1)), .dat (.tuple (qs.map fun q => worD nm q.1 q.2)), a, b]
  case k1 => exact IX.zipM B (by walk_at "A")
  case k2 => exact GX.tupM (n := 2) rfl (GsX.nm T (by walk_at "At") (by decide) (GsX.nm T (by walk_at "At") (by decide) GsX.nil)) (fun _ => rfl)
  case k3 => exact ⟨.no, .no, rfl⟩
  case k4 =>
    rintro j d l2 hd ⟨a, b, rfl⟩
    rw [List.getElem?_map] at hd
    cases hx : qs[j]? with
    | none => rw [hx] at hd; cases hd
    | some q =>
      rw [hx] at hd
      cases hd
      have hm := List.mem_of_getElem? hx
      have RW : R_is_worth nm n [encK nm q.1, worD nm q.1 q.2] (.bool true) := ⟨q.1, q.2, hq q hm, rfl, rfl⟩
      refine SXs.reL (l' := [.dat (.list (qs.map fun q => encK nm q.1)), .dat (.tuple (qs.map fun q => worD nm q.1 q.2)), .dat (encK nm q.1), .dat (worD nm q.1 q.2)]) rfl ?_
      walk_at "S"
      case k2 => intro hb; cases hb
      case k3 => intro hb; exact SXs.nil (SXs.nil ⟨_, _, rfl⟩)
  case k5 =>
    rintro l2 ⟨a, b, rfl⟩
    walk_at "S"
    rfl
theorem ok_is_worth0 (pl : Pl K mg "is_worth" s_is_worth ["kind", "thing"]) : Cal P w K mg base "is_worth" 3 ["kind", "thing"] (R_is_worth nm 0) := by
  refine okC 4 pl sc_is_worth (by decide +kernel) (by rintro _ _ ⟨x, _, _, rfl, _⟩; rfl) ?_
  rintro f cdv A outer s H E Γ _ _ fz hr T ⟨k, t, hk, _⟩
  rw [isKW] at hk; cases hk
theorem half_ge {v : Int} (h1 : 1 ≤ v) (h2 : v ≤ 4) : (32768 : Int) ≤ 65536 ^ v.toNat / 2 := by
  have : v = 1 ∨ v = 2 ∨ v = 3 ∨ v = 4 := by omega
  rcases this with rfl | rfl | rfl | rfl <;> decide
theorem field_at {fs : List (Nat × Kd)} {i : Nat} {f : Nat × Kd} (nd : (fs.map (·.1)).Nodup) (h : fs[i]? = some f) : fieldK fs f.1 = some f.2 := by
  unfold fieldK
  induction fs generalizing i with
  | nil => simp at h
  | cons g r ih =>
    rw [List.map_cons, List.nodup_cons] at nd
    cases i with
    | zero =>
      have : g = f := by simpa using h
      subst this
      simp
    | succ i =>
      have h' : r[i]? = some f := by simpa using h
      have ne : g.1 ≠ f.1 := fun e => nd.1 (e ▸ List.mem_map.mpr ⟨f, List.mem_of_getElem? h', rfl⟩)
      simp [List.find?_cons, ne]
      simpa using ih nd.2 h'
theorem rep_map {α β : Type} (f : α → β) (x : α) : ∀ n : Nat, (List.replicate n [f x]).flatten = (List.replicate n x).map f
  | 0 => rfl
  | n + 1 => by rw [List.replicate_succ, List.flatten_cons, rep_map f x n]; rfl
theorem ok_is_worth (g : Good nm) (n : Nat) (pl : Pl K mg "is_worth" s_is_worth ["kind", "thing"]) (B : Bi mg) (g60 : GlI mg "MOST_ITEMS" 60) (Cw : Cal P w K mg base "is_whole" 1 ["thing"] R_is_whole) (Cs : Cal P w K mg base "span_of" 1 ["width"] R_span_of) (Ct : Cal P w K mg base "is_text" 1 ["thing"] R_is_text)
    (Cf : Cal P w K mg base "field_kind" 2 ["fields", "name"] (R_field_kind nm)) (CA : Cal P w K mg base "are_worths" (2 * n + 4) ["kinds", "things"] (R_are_worths nm n)) (CW : Cal P w K mg base "is_worth" (2 * n + 3) ["kind", "thing"] (R_is_worth nm n)) :
    Cal P w K mg base "is_worth" (2 * n + 5) ["kind", "thing"] (R_is_worth nm (n + 1)) := by
  refine okC 4 pl sc_is_worth (by decide +kernel) (by rintro _ _ ⟨x, _, _, rfl, _⟩; rfl) ?_
  rintro f cdv A outer s H E Γ _ _ fz hr T ⟨k, t, hk, rfl, rfl⟩
  have RW : ∀ x, R_is_whole [x] (.bool (isWhole x)) := fun x => ⟨x, rfl, rfl⟩
  cases k with
  | num v =>
    rw [isKW, Bool.and_eq_true, decide_eq_true_eq, decide_eq_true_eq] at hk
    have hv := half_ge hk.1 hk.2
    have RS : R_span_of [.int v] (.int (65536 ^ v.toNat)) := ⟨v.toNat, by omega, by rw [Int.toNat_of_nonneg (by omega)], rfl⟩
    refine SXs.reL (l' := [.dat (.tuple [.str "num", .int v]), .dat (.int (t % 32768 - 9)), .no, .no, .no]) (by rw [encK, worD]; rfl) ?_
    walk_at "S"
    case k3 => intro hb; exact absurd hb (by decide)
    case k2 =>
      intro hb
      refine' SXs.cons (SX.st T ?a1 ?a2 ?a3 ?a4 ?a5)
      case a1 => walk_at "At"
      case a2 => decide
      case a3 => exact EX.bin (by walk_at "E") (by walk_at "E") (opDiv ⟨by omega, by omega⟩)
      case a5 => rfl
      case a4 =>
        walk_at "S"
        have b1 : decide (0 - 65536 ^ v.toNat / 2 ≤ t % 32768 - 9) = true := decide_eq_true (by omega)
        have b2 : decide (t % 32768 - 9 < 65536 ^ v.toNat / 2) = true := decide_eq_true (by omega)
        rw [b1, b2]; rfl
  | text =>
    have RT : R_is_text [.str (cutS "a b" none (some (t % 3)))] (.bool true) := by
      have : t % 3 = 0 ∨ t % 3 = 1 ∨ t % 3 = 2 := by omega
      refine ⟨_, ?_, ?_, rfl, rfl⟩ <;> rcases this with h | h | h <;> rw [h] <;> decide +kernel
    refine SXs.reL (l' := [.dat (.tuple [.str "text"]), .dat (.str (cutS "a b" none (some (t % 3)))), .no, .no, .no]) (by rw [encK, worD]; rfl) ?_
    walk_at "go"
    rfl
  | row k =>
    rw [isKW] at hk
    obtain ⟨m, hm⟩ : ∃ m, m = (t % 3).toNat := ⟨_, rfl⟩
    have hm3 : m ≤ 2 := by omega
    have RA : R_are_worths nm n [.list (List.replicate m [encK nm k]).flatten, .tuple (List.replicate m (worD nm k (t / 3)))] (.bool true) :=
      ⟨List.replicate m (k, t / 3), fun q hq => by rw [List.eq_of_mem_replicate hq]; exact hk, by rw [rep_map (fun k => encK nm k) k m, List.map_replicate, List.map_replicate, List.map_replicate], rfl⟩
    refine SXs.reL (l' := [.dat (.tuple [.str "row", encK nm k]), .dat (.tuple (List.replicate m (worD nm k (t / 3)))), .no, .no, .no]) (by rw [encK, worD, hm]; rfl) ?_
    walk_at "go"
    refine' SXs.cons (SX.ret (d := .bool (true && true)) (EX.and (k := true) (m := true) ?r1 fun _ => EX.one ?r2) rfl)
    case r1 =>
      refine' EX.eq (d := .bool (decide (lenD (.tuple (List.replicate m (worD nm k (t / 3)))) ≤ 60))) ?_ ?_
      · walk_at "E"
      · rw [decide_eq_true]
        simp only [lenD, List.length_replicate]; omega
    case r2 =>
      refine' EX.cal CA hr ?r3 rfl (AX.cons ?r4 (AX.cons ?r5 AX.nil)) RA
      case r3 => omega
      case r4 =>
        refine' EX.bin (EL.ex (EL.lst (AX.cons ?q1 AX.nil) ?q2)) ?q3 (opRep (n := m) ?q4 ?q5)
        case q1 => walk_at "E"
        case q2 => show 1 ≤ sizeLine; decide
        case q4 => simp only [List.length_singleton]; rw [sizeLine_eq]; omega
        case q5 => omega
        case q3 =>
          refine' EX.eq (d := .int (lenD (.tuple (List.replicate m (worD nm k (t / 3)))))) ?q6 ?q7
          case q6 => walk_at "E"
          case q7 => simp only [lenD, List.length_replicate]
      case r5 => walk_at "E"
  | rc fs =>
    have hf := isKW_fs (.inl rfl) hk
    have RA : R_are_worths nm n [.list (fs.map fun f => encK nm f.2), .tuple (worFs nm fs (t / 2))] (.bool true) :=
      ⟨fs.map fun f => (f.2, t / 2), fun q hq => by obtain ⟨f, h1, rfl⟩ := List.mem_map.mp hq; exact hf.2.2 f h1, by rw [worFs_map, List.map_map, List.map_map]; rfl, rfl⟩
    have e1 : lenD (.tuple (worFs nm fs (t / 2))) = (fs.length : Nat) := by simp only [lenD, worFs_map, List.length_map]
    have e2 : lenD (.tuple (encFs nm fs)) = (fs.length : Nat) := by simp only [lenD, encFs_map, List.length_map]
    refine SXs.reL (l' := [.dat (.tuple [.str "rec", .tuple (encFs nm fs)]), .dat (.tuple (worFs nm fs (t / 2))), .no, .no, .no]) (by rw [encK, worD]; rfl) ?_
    walk_at "go"
    refine' SXs.cons (SX.ret (d := .bool (true && true)) (EX.and (k := true) (m := true) ?c1 fun _ => EX.one ?c2) rfl)
    case c1 =>
      refine' EX.eq (d := .bool (decide (lenD (.tuple (worFs nm fs (t / 2))) = lenD (.tuple (encFs nm fs))))) ?_ ?_
      · walk_at "E"
      · rw [e1, e2, decide_eq_true rfl]
    case c2 =>
      refine' EX.cal CA hr ?c3 rfl (AX.cons (EL.ex ?c4) (AX.cons ?c5 AX.nil)) RA
      case c3 => omega
      case c5 => walk_at "E"
      case c4 =>
        refine EL.lcA (ow := [("field", 4)]) (is := [4]) (en := encF nm) (tv := fun f => [encF nm f]) (fun f => encK nm f.2) rfl T.nd (blkOk_by (N := N_is_worth) (sc := defScope s_is_worth) (by decide +kernel)) ?_ (by decide) ?_ ?_ (by omega)
        · rw [← encFs_map]
          exact IX.tup (by walk_at "E")
        · intro s H C cl fp x hx
          exact GX.inB (N := N_is_worth) (own := [4]) (vis := [4]) (sc := defScope s_is_worth) rfl T.nd rfl (by decide +kernel) fun TV => GX.nmV TV (by walk_at "At") (by decide)
        · rintro s H C cl fp Γ' ⟨m, k⟩ hx
          refine EX.inB (N := N_is_worth) (own := [4]) (vis := [4]) (sc := defScope s_is_worth) rfl T.nd rfl (by decide +kernel) fun TV => ?_
          have hi : ixD (encF nm (m, k)) 1 = some (encK nm k) := by rw [encF]; exact atI_nat' (j := 1) rfl
          walk_at "E"
  | pk fs =>
    have hf := isKW_fs (.inr rfl) hk
    have hnd : (fs.map (·.1)).Nodup := by
      rw [isKW] at hk
      simp only [Bool.and_eq_true, decide_eq_true_eq] at hk
      exact hk.1.2
    obtain ⟨i, hi⟩ : ∃ i, i = (t % (fs.length : Int)).toNat := ⟨_, rfl⟩
    have hil : i < fs.length := by
      have h1 := Int.emod_lt_of_pos t (show (0 : Int) < fs.length by omega)
      have h2 := Int.emod_nonneg t (show (fs.length : Int) ≠ 0 by omega)
      omega
    obtain ⟨⟨m, k⟩, hx⟩ : ∃ f, fs[i]? = some f := ⟨fs[i], List.getElem?_eq_getElem hil⟩
    have ew : worD nm (.pk fs) t = .tuple [.str (nm m), worD nm k (t / 2)] := by
      rw [worD, ← hi, worFs_map, List.getD_eq_getElem?_getD, List.getD_eq_getElem?_getD, List.getElem?_map, hx]; rfl
    have RF : R_field_kind nm [.tuple (encFs nm fs), .str (nm m)] (encK nm k) := ⟨fs, .nm m, by omega, rfl, by rw [fieldS_nm, field_at hnd hx]; rfl⟩
    have RW2 : R_is_worth nm n [encK nm k, worD nm k (t / 2)] (.bool true) := ⟨k, t / 2, hf.2.2 _ (List.mem_of_getElem? hx), rfl, rfl⟩
    have hN := isN_encK (nm := nm) k
    refine SXs.reL (l' := [.dat (.tuple [.str "pick", .tuple (encFs nm fs)]), .dat (.tuple [.str (nm m), worD nm k (t / 2)]), .no, .no, .no]) (by rw [encK, ew]; rfl) ?_
    walk_at "go"
    rw [hN]; rfl
end
section
variable {P : Program} {w : World} {K : PySem.W.Frag} {mg : Str → Option Value} {base : Heap} {nm : Nat → Str} {C : Addr}
theorem all_is_worth (g : Good nm) (pl : Pl K mg "is_worth" s_is_worth ["kind", "thing"]) (plA : Pl K mg "are_worths" s_are_worths ["kinds", "things"]) (B : Bi mg) (g60 : GlI mg "MOST_ITEMS" 60) (Cw : Cal P w K mg base "is_whole" 1 ["thing"] R_is_whole) (Cs : Cal P w K mg base "span_of" 1 ["width"] R_span_of) (Ct : Cal P w K mg base "is_text" 1 ["thing"] R_is_text)
    (Cf : Cal P w K mg base "field_kind" 2 ["fields", "name"] (R_field_kind nm)) : ∀ n : Nat, Cal P w K mg base "is_worth" (2 * n + 3) ["kind", "thing"] (R_is_worth nm n)
  | 0 => ok_is_worth0 pl
  | n + 1 => ok_is_worth g n pl B g60 Cw Cs Ct Cf (ok_are_worths n plA B (all_is_worth g pl plA B g60 Cw Cs Ct Cf n)) (all_is_worth g pl plA B g60 Cw Cs Ct Cf n)
def R_is_path (nm : Nat → Str) : List PyData → PyData → Prop := fun ds d => ∃ p, ds = [encP nm p] ∧ d = .bool true
theorem ok_is_path (pl : Pl K mg "is_path" s_is_path ["thing"]) (B : Bi mg) (Cw : Cal P w K mg base "is_whole" 1 ["thing"] R_is_whole) : Cal P w K mg base "is_path" 2 ["thing"] (R_is_path nm) := by
  refine okC 2 pl sc_is_path (by decide +kernel) (by rintro _ _ ⟨x, rfl, _⟩; rfl) ?_
  rintro f cdv A outer s H E Γ _ _ fz hr T ⟨p, rfl, rfl⟩
  have RW : ∀ x, R_is_whole [x] (.bool (isWhole x)) := fun x => ⟨x, rfl, rfl⟩
  refine SXs.reL (l' := [.dat (.tuple (p.map (encS nm))), .no]) rfl ?_
  walk_at "go"
  walk_at "F"
  case pp => exact fun _ => true
  case k1 => exact IX.tup (by walk_at "E")
  case k3 =>
    intro t ht a
    cases t with
    | nm m =>
      refine SXs.reL (l' := [.dat (.tuple (p.map (encS nm))), .dat (.str (nm m))]) rfl ?_
      walk_at "S"
      case k2 => intro hb; cases hb
      case k3 => intro hb; exact SXs.nil (SXs.nil ⟨rfl, _, rfl⟩)
    | ix i =>
      refine SXs.reL (l' := [.dat (.tuple (p.map (encS nm))), .dat (.int i)]) rfl ?_
      walk_at "S"
      case k2 => intro hb; cases hb
      case k3 => intro hb; exact SXs.nil (SXs.nil ⟨rfl, _, rfl⟩)
  case k4 =>
    intro _ a
    walk_at "S"
    rfl
  case k5 => intro h; rw [List.all_eq_true.mpr fun _ _ => rfl] at h; cases h
def R_are_names (nm : Nat → Str) : List PyData → PyData → Prop := fun ds d => ∃ ns : List Nat, ds = [.tuple (ns.map fun n => .str (nm n))] ∧ d = .bool (ns.all fun n => decide (n < 10))
theorem ok_are_names (g : Good nm) (pl : Pl K mg "are_names" s_are_names ["thing"]) (B : Bi mg) (Cn : Cal P w K mg base "is_name" 1 ["thing"] R_is_name) : Cal P w K mg base "are_names" 2 ["thing"] (R_are_names nm) := by
  refine okC 2 pl sc_are_names (by decide +kernel) (by rintro _ _ ⟨x, rfl, _⟩; rfl) ?_
  rintro f cdv A outer s H E Γ _ _ fz hr T ⟨ns, rfl, rfl⟩
  refine SXs.reL (l' := [.dat (.tuple (ns.map fun n => .str (nm n))), .no]) rfl ?_
  walk_at "go"
  walk_at "F"
  case pp => exact fun n => decide (n < 10)
  case k1 => exact IX.tup (by walk_at "E")
  case k3 =>
    intro n hn a
    refine SXs.reL (l' := [.dat (.tuple (ns.map fun n => .str (nm n))), .dat (.str (nm n))]) rfl ?_
    walk_at "S"
    case k2 =>
      intro hb
      walk_at "S"
      rw [g.ok] at hb
      exact ⟨by simpa using hb, rfl⟩
    case k3 =>
      intro hb
      rw [g.ok] at hb
      exact SXs.nil (SXs.nil ⟨by simpa using hb, _, rfl⟩)
  case k4 =>
    intro h a
    walk_at "S"
    show _ = PyData.bool _
    rw [h]
  case k5 => intro h l2; show _ = PyData.bool _; rw [h]
def R_has_worth (nm : Nat → Str) : List PyData → PyData → Prop := fun ds d => ∃ k s, ds = [encK nm k, worD nm k s] ∧ d = .bool (isK k)
theorem ok_has_worth (pl : Pl K mg "has_worth" s_has_worth ["kind", "worth"]) (Ck : Cal P w K mg base "is_kind" 12 ["thing"] (R_is_kind nm)) (CW : Cal P w K mg base "is_worth" 13 ["kind", "thing"] (R_is_worth nm 5)) : Cal P w K mg base "has_worth" 14 ["kind", "worth"] (R_has_worth nm) := by
  refine okC 2 pl sc_has_worth (by decide +kernel) (by rintro _ _ ⟨x, _, rfl, _⟩; rfl) ?_
  rintro f cdv A outer s H E Γ _ _ fz hr T ⟨k, t, rfl, rfl⟩
  refine SXs.reL (l' := [.dat (encK nm k), .dat (worD nm k t)]) rfl ?_
  have RK : R_is_kind nm [encK nm k] (.bool (isK k)) := ⟨k, rfl, rfl⟩
  cases hk : isK k with
  | false =>
    rw [hk] at RK
    refine' SXs.cons (SX.ret (EX.andF ?a1) rfl)
    case a1 => walk_at "E"
  | true =>
    rw [hk] at RK
    have RW : R_is_worth nm 5 [encK nm k, worD nm k t] (.bool true) := ⟨k, t, hk, rfl, rfl⟩
    refine' SXs.cons (SX.ret (d := .bool true) (EX.andT ?b1 (EX.one ?b2)) rfl)
    case b1 => walk_at "E"
    case b2 => walk_at "E"
def shortB : Sm → Bool
  | .drop x => decide (x < 10)
  | .say x => decide (x < 10)
  | .back x => decide (x < 10)
  | .fail n => decide (0 ≤ n) && decide (n ≤ 999)
  | .copy x y => decide (x < 10) && decide (y < 10)
  | _ => false
def longB : Sm → Bool
  | .new x k _ => decide (x < 10) && isK k
  | .part x y _ => decide (x < 10) && decide (y < 10)
  | .put y _ x => decide (y < 10) && decide (x < 10)
  | .add y _ x => decide (y < 10) && decide (x < 10)
  | .call z d ns => (match z with | none => true | some z => decide (z < 10)) && decide (d < 10) && ns.all fun n => decide (n < 10)
  | _ => false
def R_is_short (nm : Nat → Str) : List PyData → PyData → Prop := fun ds d => ∃ s, ds = [encM nm s] ∧ d = .bool (shortB s)
local macro_rules | `(tactic| walk_at "R") => `(tactic| solve_by_elim)
theorem ok_is_short (g : Good nm) (pl : Pl K mg "is_short" s_is_short ["thing"]) (B : Bi mg) (Cw : Cal P w K mg base "is_whole" 1 ["thing"] R_is_whole) (Cn : Cal P w K mg base "is_name" 1 ["thing"] R_is_name) : Cal P w K mg base "is_short" 2 ["thing"] (R_is_short nm) := by
  refine okC 1 pl sc_is_short (by decide +kernel) (by rintro _ _ ⟨x, rfl, _⟩; rfl) ?_
  rintro f cdv A outer s H E Γ _ _ fz hr T ⟨t, rfl, rfl⟩
  have RW : ∀ x, R_is_whole [x] (.bool (isWhole x)) := fun x => ⟨x, rfl, rfl⟩
  have RN : ∀ n, R_is_name [.str (nm n)] (.bool (decide (n < 10))) := fun n => ⟨nm n, g.len n, rfl, by rw [g.ok]⟩
  refine SXs.reL (l' := [.dat (encM nm t)]) rfl ?_
  cases t
  all_goals walk_at "M"
  all_goals walk_at "go"
  all_goals rfl
end
section
variable {P : Program} {w : World} {K : PySem.W.Frag} {mg : Str → Option Value} {base : Heap} {nm : Nat → Str} {C : Addr}
local macro_rules | `(tactic| walk_at "R") => `(tactic| solve_by_elim)
def R_is_longer (nm : Nat → Str) : List PyData → PyData → Prop := fun ds d => ∃ s, ds = [encM nm s] ∧ d = .bool (longB s)
theorem ok_is_longer (g : Good nm) (pl : Pl K mg "is_longer" s_is_longer ["thing"]) (B : Bi mg) (Cn : Cal P w K mg base "is_name" 1 ["thing"] R_is_name) (Cns : Cal P w K mg base "are_names" 2 ["thing"] (R_are_names nm)) (Cp : Cal P w K mg base "is_path" 2 ["thing"] (R_is_path nm))
    (Ch : Cal P w K mg base "has_worth" 14 ["kind", "worth"] (R_has_worth nm)) : Cal P w K mg base "is_longer" 15 ["thing"] (R_is_longer nm) := by
  refine okC 1 pl sc_is_longer (by decide +kernel) (by rintro _ _ ⟨x, rfl, _⟩; rfl) ?_
  rintro f cdv A outer s H E Γ _ _ fz hr T ⟨t, rfl, rfl⟩
  have RN : ∀ n, R_is_name [.str (nm n)] (.bool (decide (n < 10))) := fun n => ⟨nm n, g.len n, rfl, by rw [g.ok]⟩
  have RNs : ∀ ns : List Nat, R_are_names nm [.tuple (ns.map fun n => .str (nm n))] (.bool (ns.all fun n => decide (n < 10))) := fun ns => ⟨ns, rfl, rfl⟩
  have RP : ∀ p, R_is_path nm [encP nm p] (.bool true) := fun p => ⟨p, rfl, rfl⟩
  have RH : ∀ k s, R_has_worth nm [encK nm k, worD nm k s] (.bool (isK k)) := fun k s => ⟨k, s, rfl, rfl⟩
  refine SXs.reL (l' := [.dat (encM nm t)]) rfl ?_
  cases t with
  | call z d ns =>
    walk_at "M"
    cases z with
    | none =>
      refine SXs.reL (l' := [.dat (.tuple [.str "call", .none, .str (nm d), .tuple (ns.map fun n => .str (nm n))])]) rfl ?_
      walk_at "go"
      refine' SXs.cons (SX.ret (EX.and (k := true) (EX.orT ?j1) fun _ => ?j2) ?j3)
      case j1 => exact EX.eq (d := .bool (isN .none)) (by walk_at "E") rfl
      case j2 => walk_at "E"
      case j3 => rfl
    | some z =>
      refine SXs.reL (l' := [.dat (.tuple [.str "call", .str (nm z), .str (nm d), .tuple (ns.map fun n => .str (nm n))])]) rfl ?_
      walk_at "go"
      show _ = PyData.bool (decide (z < 10) && decide (d < 10) && _)
      rw [Bool.and_assoc]; rfl
  | part x y p =>
    walk_at "M"
    walk_at "go"
    show PyData.bool (decide (x < 10) && (decide (y < 10) && true)) = PyData.bool (decide (x < 10) && decide (y < 10))
    rw [Bool.and_true]
  | put y p x =>
    walk_at "M"
    walk_at "go"
    rfl
  | add y p x =>
    walk_at "M"
    walk_at "go"
    rfl
  | new x k s =>
    walk_at "M"
    walk_at "go"
    rfl
  | _ =>
    walk_at "M"
    walk_at "go"
    rfl
theorem isSm_flat (n : Nat) (t : Sm) (h : ∀ x y a b, t ≠ .same x y a b) (h2 : ∀ a b, t ≠ .tr a b) : isSm n t = (shortB t || longB t) := by
  cases t with
  | same x y a b => exact absurd rfl (h x y a b)
  | tr a b => exact absurd rfl (h2 a b)
  | call z d ns => cases z <;> simp [isSm, shortB, longB]
  | _ => simp [isSm, shortB, longB]
def R_is_statement (nm : Nat → Str) (n : Nat) : List PyData → PyData → Prop := fun ds d => ∃ s, ds = [encM nm s, .int (4 - (n : Nat))] ∧ d = .bool (isSm n s)
def R_is_body (nm : Nat → Str) (n : Nat) : List PyData → PyData → Prop := fun ds d => ∃ b, ds = [.tuple (encMs nm b), .int (4 - (n : Nat))] ∧ d = .bool (isSms n b)
/-- a body below the deepest, or at n -/
def R_below (nm : Nat → Str) (n : Nat) : List PyData → PyData → Prop := fun ds d => ∃ b, ds = [.tuple (encMs nm b), .int (4 - (n : Nat) + 1)] ∧ d = .bool (decide (n ≠ 0) && isSms (n - 1) b)
theorem ok_below0 (pl : Pl K mg "is_body" s_is_body ["thing", "depth"]) : Cal P w K mg base "is_body" 16 ["thing", "depth"] (R_below nm 0) := by
  refine okC 3 pl sc_is_body (by decide +kernel) (by rintro _ _ ⟨x, rfl, _⟩; rfl) ?_
  rintro f cdv A outer s H E Γ _ _ fz hr T ⟨b, rfl, rfl⟩
  refine SXs.reL (l' := [.dat (.tuple (encMs nm b)), .dat (.int 5), .no]) rfl ?_
  refine' SXs.cons (SX.iteT (TX.ofW (WX.orT (TX.eq (b := decide ((4 : Int) < 5)) ?k1 (by decide)))) ?k2)
  case k1 => walk_at "T"
  case k2 =>
    walk_at "S"
    rfl
theorem word_of (t : Sm) (h : ∀ x y a b, t ≠ .same x y a b) (h2 : ∀ a b, t ≠ .tr a b) : ∃ (a : String) (x : PyData) (ds : List PyData), encM nm t = .tuple (.str (Str.ofString a) :: x :: ds) ∧ decide (Str.ofString a = "same") = false ∧ decide (Str.ofString a = "try") = false := by
  cases t with
  | same x y a b => exact absurd rfl (h x y a b)
  | tr a b => exact absurd rfl (h2 a b)
  | new x k s => exact ⟨"new", _, _, by rw [encM], by decide, by decide⟩
  | copy x y => exact ⟨"copy", _, _, by rw [encM], by decide, by decide⟩
  | part x y p => exact ⟨"part", _, _, by rw [encM], by decide, by decide⟩
  | put y p x => exact ⟨"put", _, _, by rw [encM], by decide, by decide⟩
  | add y p x => exact ⟨"add", _, _, by rw [encM], by decide, by decide⟩
  | drop x => exact ⟨"drop", _, _, by rw [encM], by decide, by decide⟩
  | say x => exact ⟨"say", _, _, by rw [encM], by decide, by decide⟩
  | back x => exact ⟨"back", _, _, by rw [encM], by decide, by decide⟩
  | fail n => exact ⟨"fail", _, _, by rw [encM], by decide, by decide⟩
  | call z d ns => exact ⟨"call", _, _, by rw [encM], by decide, by decide⟩
theorem ok_is_statement (g : Good nm) (n : Nat) (pl : Pl K mg "is_statement" s_is_statement ["thing", "depth"]) (B : Bi mg) (Cn : Cal P w K mg base "is_name" 1 ["thing"] R_is_name) (Cs : Cal P w K mg base "is_short" 2 ["thing"] (R_is_short nm)) (Cl : Cal P w K mg base "is_longer" 15 ["thing"] (R_is_longer nm))
    (Cb : Cal P w K mg base "is_body" (2 * n + 16) ["thing", "depth"] (R_below nm n)) : Cal P w K mg base "is_statement" (2 * n + 17) ["thing", "depth"] (R_is_statement nm n) := by
  refine okC 2 pl sc_is_statement (by decide +kernel) (by rintro _ _ ⟨x, rfl, _⟩; rfl) ?_
  rintro f cdv A outer s H E Γ _ _ fz hr T ⟨t, rfl, rfl⟩
  have RN : ∀ n, R_is_name [.str (nm n)] (.bool (decide (n < 10))) := fun n => ⟨nm n, g.len n, rfl, by rw [g.ok]⟩
  have RB : ∀ b, R_below nm n [.tuple (encMs nm b), .int (4 - (n : Nat) + 1)] (.bool (decide (n ≠ 0) && isSms (n - 1) b)) := fun b => ⟨b, rfl, rfl⟩
  have flat : (∀ x y a b, t ≠ .same x y a b) → (∀ a b, t ≠ .tr a b) → SXs (bx P w K mg base N_is_statement (Str.ofString "is_statement") s_is_statement f cdv A outer s H E) Γ (defBody s_is_statement) [.dat (encM nm t), .dat (.int (4 - (n : Nat)))] { nx := fun _ => PyData.bool (isSm n t) = .none, rt := fun d' _ => d' = .bool (isSm n t) } := by
    intro h1 h2
    have RS : R_is_short nm [encM nm t] (.bool (shortB t)) := ⟨t, rfl, rfl⟩
    have RL : R_is_longer nm [encM nm t] (.bool (longB t)) := ⟨t, rfl, rfl⟩
    obtain ⟨a, x, ds, e, n1, n2⟩ := word_of (nm := nm) t h1 h2
    rw [e] at RS RL ⊢
    refine' SXs.cons (SX.iteF (TX.eq (b := (!isTupD (.tuple (.str (Str.ofString a) :: x :: ds)) || (decide (lenD (.tuple (.str (Str.ofString a) :: x :: ds)) < 2) || !isStrD (.str (Str.ofString a))))) ?k1 ?k2) ?k3)
    case k1 => walk_at "T"
    case k2 =>
      have : decide (lenD (.tuple (.str (Str.ofString a) :: x :: ds)) < 2) = false := decide_eq_false (by simp only [lenD, List.length_cons]; omega)
      rw [this]; rfl
    case k3 =>
      refine SXs.nil ?_
      refine' SXs.cons (SX.iteF (TX.ofW (WX.andF (TX.eq (b := decide (Str.ofString a = "same")) ?k4 n1))) ?k5)
      case k4 => walk_at "T"
      case k5 =>
        refine SXs.nil ?_
        refine' SXs.cons (SX.iteF (TX.ofW (WX.andF (TX.eq (b := decide (Str.ofString a = "try")) ?k6 n2))) ?k7)
        case k6 => walk_at "T"
        case k7 =>
          refine SXs.nil ?_
          walk_at "S"
          show _ = PyData.bool _
          rw [isSm_flat n t h1 h2]
  refine SXs.reL (l' := [.dat (encM nm t), .dat (.int (4 - (n : Nat)))]) rfl ?_
  cases t with
  | same x y a b =>
    walk_at "M"
    walk_at "S"
    case k2 => intro hb; exact absurd (show false = true from hb) Bool.false_ne_true
    case k3 =>
      intro hb
      refine SXs.nil ?_
      walk_at "S"
      case k3 => intro hb; cases (show true = false from hb)
      case k2 =>
        intro hb
        walk_at "S"
        case k2 =>
          intro hb
          walk_at "S"
          show PyData.bool false = PyData.bool (isSm n (.same x y a b))
          have hb' : (decide (x < 10) && decide (y < 10)) = false := by
            cases h1 : decide (x < 10) <;> cases h2 : decide (y < 10) <;> rw [h1, h2] at hb <;> first | rfl | cases hb
          rw [isSm, hb']; rfl
        case k3 =>
          intro hb
          refine SXs.nil ?_
          walk_at "S"
          show _ = PyData.bool (isSm n (.same x y a b))
          have hb' : (decide (x < 10) && decide (y < 10)) = true := by
            cases h1 : decide (x < 10) <;> cases h2 : decide (y < 10) <;> rw [h1, h2] at hb <;> first | rfl | cases hb
          rw [isSm, hb', Bool.true_and]
  | tr a b =>
    walk_at "M"
    walk_at "go"
    show _ = PyData.bool (isSm n (.tr a b))
    rw [isSm]
  | _ => exact flat (fun _ _ _ _ h => by cases h) (fun _ _ h => by cases h)
theorem ok_is_body (n : Nat) (hn : n ≤ 4) (pl : Pl K mg "is_body" s_is_body ["thing", "depth"]) (B : Bi mg) (Cs : Cal P w K mg base "is_statement" (2 * n + 17) ["thing", "depth"] (R_is_statement nm n)) : Cal P w K mg base "is_body" (2 * n + 18) ["thing", "depth"] (R_is_body nm n) := by
  refine okC 3 pl sc_is_body (by decide +kernel) (by rintro _ _ ⟨x, rfl, _⟩; rfl) ?_
  rintro f cdv A outer s H E Γ _ _ fz hr T ⟨b, rfl, rfl⟩
  have RS : ∀ t, R_is_statement nm n [encM nm t, .int (4 - (n : Nat))] (.bool (isSm n t)) := fun t => ⟨t, rfl, rfl⟩
  refine SXs.reL (l' := [.dat (.tuple (b.map (encM nm))), .dat (.int (4 - (n : Nat))), .no]) (by rw [encMs_map]; rfl) ?_
  walk_at "S"
  case k2 =>
    intro hb
    rw [decide_eq_false (by omega : ¬ ((4 : Int) < 4 - (n : Nat)))] at hb
    cases hb
  case k3 =>
    intro hb
    refine SXs.nil ?_
    walk_at "F"
    case pp => exact isSm n
    case k1 => exact IX.tup (by walk_at "E")
    case k3 =>
      intro t ht a
      refine SXs.reL (l' := [.dat (.tuple (b.map (encM nm))), .dat (.int (4 - (n : Nat))), .dat (encM nm t)]) rfl ?_
      walk_at "S"
      case k2 =>
        intro hb
        walk_at "S"
        exact ⟨by simpa using hb, rfl⟩
      case k3 =>
        intro hb
        exact SXs.nil (SXs.nil ⟨by simpa using hb, _, rfl⟩)
    case k4 =>
      intro h a
      walk_at "S"
      show _ = PyData.bool _
      rw [isSms_all, h]
    case k5 => intro h l2; show _ = PyData.bool _; rw [isSms_all, h]
theorem below_of {n : Nat} {lv : Nat} (C : Cal P w K mg base "is_body" lv ["thing", "depth"] (R_is_body nm n)) : Cal P w K mg base "is_body" lv ["thing", "depth"] (R_below nm (n + 1)) :=
  C.imp fun ds d ⟨b, h1, h2⟩ => ⟨b, by rw [h1, show (4 : Int) - ((n + 1 : Nat) : Int) + 1 = 4 - (n : Nat) by omega], by rw [h2]; simp⟩
/-- a body at n -/
theorem all_is_body (g : Good nm) (pl : Pl K mg "is_statement" s_is_statement ["thing", "depth"]) (plB : Pl K mg "is_body" s_is_body ["thing", "depth"]) (B : Bi mg) (Cn : Cal P w K mg base "is_name" 1 ["thing"] R_is_name) (Cs : Cal P w K mg base "is_short" 2 ["thing"] (R_is_short nm)) (Cl : Cal P w K mg base "is_longer" 15 ["thing"] (R_is_longer nm)) :
    ∀ n, n ≤ 4 → Cal P w K mg base "is_body" (2 * n + 18) ["thing", "depth"] (R_is_body nm n)
  | 0, h => ok_is_body 0 h plB B (ok_is_statement g 0 pl B Cn Cs Cl (ok_below0 plB))
  | n + 1, h => ok_is_body (n + 1) h plB B (ok_is_statement g (n + 1) pl B Cn Cs Cl (below_of (all_is_body g pl plB B Cn Cs Cl n (by omega))))
end
section
variable {P : Program} {w : World} {K : PySem.W.Frag} {mg : Str → Option Value} {base : Heap} {nm : Nat → Str} {C : Addr}
local macro_rules | `(tactic| walk_at "R") => `(tactic| solve_by_elim)
def smallP (p : Paper) : Prop := p.places.length ≤ 1000
def R_are_doors (nm : Nat → Str) : List PyData → PyData → Prop := fun ds d => ∃ D : List (Paper × List Sm), D.length ≤ 1000 ∧ (∀ x ∈ D, smallP x.1) ∧ ds = [.tuple (D.map (encDoor nm))] ∧ d = .bool (isDoors D)
theorem ok_are_doors (g : Good nm) (pl : Pl K mg "are_doors" s_are_doors ["thing"]) (B : Bi mg) (Cp : Cal P w K mg base "is_paper" 15 ["thing"] (R_is_paper nm)) (Cb : Cal P w K mg base "is_body" 24 ["thing", "depth"] (R_is_body nm 3)) :
    Cal P w K mg base "are_doors" 25 ["thing"] (R_are_doors nm) := by
  refine okC 3 pl sc_are_doors (by decide +kernel) (by rintro _ _ ⟨x, _, _, rfl, _⟩; rfl) ?_
  rintro f cdv A outer s H E Γ _ _ fz hr T ⟨D, hz, hsm, rfl, rfl⟩
  refine SXs.reL (l' := [.dat (.tuple (D.map (encDoor nm))), .no, .no]) rfl ?_
  have hu := hu_of hr
  walk_at "go"
  refine' SXs.cons (SX.stD ?k1 ?k2 ?k3 ?k4 ?k5)
  case k1 => exact T
  case k2 => walk_at "At"
  case k3 => decide
  case k5 => rfl
  walk_at "L"
  case W => exact fun j l2 => ∃ kvs a, l2 = [.dat (.tuple (D.map (encDoor nm))), .dk kvs, a] ∧ (∀ n, (valD kvs (.inr (nm n))).isSome = decide (n ∈ (D.take j).map (·.1.name))) ∧ kvs.length ≤ j ∧ ((D.take j).map (·.1.name)).Nodup ∧ ((D.take j).all fun d => isPaper d.1 && isSms 3 d.2) = true
  case k1 => exact IX.tup (by walk_at "E")
  case k3 => exact ⟨[], .no, rfl, fun n => by simp [valD], Nat.le_refl _, by simp, by simp⟩
  case k4 =>
    rintro j d l2 hd ⟨kvs, a, rfl, hv, hl, nd, ha⟩
    rw [List.getElem?_map] at hd
    cases hx : D[j]? with
    | none => rw [hx] at hd; cases hd
    | some q =>
      rw [hx] at hd
      cases hd
      obtain ⟨p, b⟩ := q
      have hj := (List.getElem?_eq_some_iff.mp hx).1
      have hm := List.mem_of_getElem? hx
      have RP : R_is_paper nm [encPaper nm p] (.bool (isPaper p)) := ⟨p, hsm _ hm, rfl, rfl⟩
      have RB : R_is_body nm 3 [.tuple (encMs nm b), .int 1] (.bool (isSms 3 b)) := ⟨b, rfl, rfl⟩
      refine SXs.reL (l' := [.dat (.tuple (D.map (encDoor nm))), .dk kvs, .dat (.tuple [encPaper nm p, .tuple (encMs nm b)])]) rfl ?_
      have bad : (isPaper p && isSms 3 b) = false → (D.all fun d => isPaper d.1 && isSms 3 d.2) = false := fun h => by
        cases q : (D.all fun d => isPaper d.1 && isSms 3 d.2) with
        | false => rfl
        | true =>
          rw [List.all_eq_true] at q
          have := q _ hm
          rw [h] at this; cases this
      have hi : ixD (encPaper nm p) 0 = some (.str (nm p.name)) := ix0
      walk_at "S"
      case k2 => intro hb; exact absurd (show false = true from hb) Bool.false_ne_true
      case k3 =>
        intro hb0
        refine SXs.nil ?_
        walk_at "S"
        case k2 =>
          intro hb
          walk_at "S"
          show _ = PyData.bool _
          unfold isDoors
          by_cases hin : p.name ∈ (D.take j).map (·.1.name)
          · rw [decide_eq_false (not_nodup (f := (·.1.name)) hx hin), Bool.and_false]
          · rw [hv, decide_eq_false hin, Bool.false_or] at hb
            rw [bad (by cases h1 : isPaper p <;> cases h2 : isSms 3 b <;> rw [h1, h2] at hb <;> first | rfl | cases hb), Bool.false_and]
        case k3 =>
          intro hb
          rw [hv, Bool.or_eq_false_iff, Bool.or_eq_false_iff, decide_eq_false_iff_not, Bool.not_eq_false', Bool.not_eq_false'] at hb
          refine SXs.nil ?_
          walk_at "S"
          case kz => omega
          refine SXs.nil ⟨_, _, rfl, fun n => ?_, ?_, nodup_take_succ (f := (·.1.name)) hx nd hb.2.1, ?_⟩
          · rw [valD_put, List.take_add_one, hx, List.map_append]
            by_cases e : n = p.name
            · subst e; rw [if_pos rfl]; simp
            · rw [if_neg (fun z => e (g.inj _ _ (Sum.inr.inj z))), hv]
              simp [e]
          · exact Nat.le_trans (len_putD _ _ _) (by omega)
          · rw [all_take_succ hx, ha, hb.1, hb.2.2]; rfl
  case k5 =>
    rintro l2 ⟨kvs, a, rfl, hv, hl, nd, ha⟩
    rw [List.length_map, List.take_length] at nd ha
    walk_at "S"
    show _ = PyData.bool _
    unfold isDoors
    rw [decide_eq_true nd, ha]; rfl
def R_are_shelves (nm : Nat → Str) : List PyData → PyData → Prop := fun ds d => ∃ S : List Shelf, S.length ≤ 1000 ∧ ds = [.tuple (S.map (encShelf nm))] ∧ d = .bool (isShelves S)
theorem ok_are_shelves (g : Good nm) (pl : Pl K mg "are_shelves" s_are_shelves ["thing"]) (B : Bi mg) (Cn : Cal P w K mg base "is_name" 1 ["thing"] R_is_name) (Cs : Cal P w K mg base "is_side" 2 ["thing"] R_is_side) (Ch : Cal P w K mg base "has_worth" 14 ["kind", "worth"] (R_has_worth nm)) :
    Cal P w K mg base "are_shelves" 15 ["thing"] (R_are_shelves nm) := by
  refine okC 3 pl sc_are_shelves (by decide +kernel) (by rintro _ _ ⟨x, _, rfl, _⟩; rfl) ?_
  rintro f cdv A outer s H E Γ _ _ fz hr T ⟨S, hz, rfl, rfl⟩
  refine SXs.reL (l' := [.dat (.tuple (S.map (encShelf nm))), .no, .no]) rfl ?_
  have hu := hu_of hr
  have RN : ∀ n, R_is_name [.str (nm n)] (.bool (decide (n < 10))) := fun n => ⟨nm n, g.len n, rfl, by rw [g.ok]⟩
  have RS : ∀ i : Int, R_is_side [.int i] (.bool (decide (0 ≤ i) && decide (i ≤ 1))) := fun i => ⟨i, rfl, rfl⟩
  have RH : ∀ k s, R_has_worth nm [encK nm k, worD nm k s] (.bool (isK k)) := fun k s => ⟨k, s, rfl, rfl⟩
  walk_at "go"
  refine' SXs.cons (SX.stDT ?k1 ?k2 ?k3 ?k4 ?k5)
  case k1 => exact T
  case k2 => walk_at "At"
  case k3 => decide
  case k5 => rfl
  walk_at "L"
  case W => exact fun j l2 => ∃ kvs a, l2 = [.dat (.tuple (S.map (encShelf nm))), .dt kvs, a] ∧ (∀ n i, (valD kvs [.inr (nm n), .inl i]).isSome = decide ((n, i) ∈ (S.take j).map fun s => (s.name, s.side))) ∧ kvs.length ≤ j ∧ ((S.take j).map fun s => (s.name, s.side)).Nodup ∧ ((S.take j).all isShelf) = true
  case k1 => exact IX.tup (by walk_at "E")
  case k3 => exact ⟨[], .no, rfl, fun n i => by simp [valD], Nat.le_refl _, by simp, by simp⟩
  case k4 =>
    rintro j d l2 hd ⟨kvs, a, rfl, hv, hl, nd, ha⟩
    rw [List.getElem?_map] at hd
    cases hx : S[j]? with
    | none => rw [hx] at hd; cases hd
    | some q =>
      rw [hx] at hd
      cases hd
      obtain ⟨x, i, k, t⟩ := q
      have hj := (List.getElem?_eq_some_iff.mp hx).1
      have hm := List.mem_of_getElem? hx
      refine SXs.reL (l' := [.dat (.tuple (S.map (encShelf nm))), .dt kvs, .dat (.tuple [.str (nm x), .int i, encK nm k, worD nm k t])]) rfl ?_
      have bad : isShelf ⟨x, i, k, t⟩ = false → (S.all isShelf) = false := fun h => by
        cases q : (S.all isShelf) with
        | false => rfl
        | true =>
          rw [List.all_eq_true] at q
          have := q _ hm
          rw [h] at this; cases this
      have esh : isShelf ⟨x, i, k, t⟩ = (decide (x < 10) && (decide (0 ≤ i) && decide (i ≤ 1)) && isK k) := rfl
      walk_at "S"
      case k2 => intro hb; exact absurd (show false = true from hb) Bool.false_ne_true
      case k3 =>
        intro hb0
        refine SXs.nil ?_
        walk_at "S"
        case k2 =>
          intro hb
          walk_at "S"
          show _ = PyData.bool _
          unfold isShelves
          by_cases hin : (x, i) ∈ (S.take j).map fun s => (s.name, s.side)
          · rw [decide_eq_false (not_nodup (f := fun s : Shelf => (s.name, s.side)) hx hin), Bool.and_false]
          · rw [hv, decide_eq_false hin, Bool.or_false] at hb
            have : (decide (x < 10) && (decide (0 ≤ i) && decide (i ≤ 1))) = false := by
              cases h1 : decide (x < 10) <;> cases h2 : (decide (0 ≤ i) && decide (i ≤ 1)) <;> rw [h1, h2] at hb <;> first | rfl | cases hb
            rw [bad (by rw [esh, this]; rfl), Bool.false_and]
        case k3 =>
          intro hb
          rw [hv, Bool.or_eq_false_iff, Bool.or_eq_false_iff, decide_eq_false_iff_not, Bool.not_eq_false', Bool.not_eq_false'] at hb
          refine SXs.nil ?_
          walk_at "S"
          case k2 =>
            intro hb2
            walk_at "S"
            show _ = PyData.bool _
            unfold isShelves
            rw [Bool.not_eq_true'] at hb2
            rw [bad (by rw [esh, hb2, Bool.and_false]), Bool.false_and]
          case k3 =>
            intro hb2
            rw [Bool.not_eq_false'] at hb2
            refine SXs.nil ?_
            walk_at "S"
            case kz => omega
            refine SXs.nil ⟨_, _, rfl, fun n i' => ?_, ?_, nodup_take_succ (f := fun s : Shelf => (s.name, s.side)) hx nd hb.2.2, ?_⟩
            · rw [valD_put, List.take_add_one, hx, List.map_append]
              by_cases e : n = x ∧ i' = i
              · obtain ⟨rfl, rfl⟩ := e; rw [if_pos rfl]; simp
              · rw [if_neg (fun z => e ⟨g.inj _ _ (by injection z with z1 z2; exact Sum.inr.inj z1), by injection z with z1 z2; injection z2 with z3 z4; exact Sum.inl.inj z3⟩), hv]
                have : ¬ ((n, i') = (x, i)) := fun z => e ⟨congrArg Prod.fst z, congrArg Prod.snd z⟩
                simp [this]
            · exact Nat.le_trans (len_putD _ _ _) (by omega)
            · rw [all_take_succ hx, ha, esh, hb.1, hb.2.1, hb2]; rfl
  case k5 =>
    rintro l2 ⟨kvs, a, rfl, hv, hl, nd, ha⟩
    rw [List.length_map, List.take_length] at nd ha
    walk_at "S"
    show _ = PyData.bool _
    unfold isShelves
    rw [decide_eq_true nd, ha]; rfl
end
/-! ### kinds as data: shape, equality -/
theorem letters_ok : letters.cps.toList.all (fun c => decide (c < 128)) = true := by decide +kernel
theorem strOk_name {s : Str} (h : isNameS s = true) : PyData.strOk s = true := by
  unfold isNameS at h
  simp only [Bool.and_eq_true, List.all_eq_true, decide_eq_true_eq] at h
  have hl := letters_ok
  simp only [List.all_eq_true, decide_eq_true_eq] at hl
  unfold PyData.strOk
  rw [← Array.all_toList, List.all_eq_true]
  exact fun c hc => decide_eq_true (Nat.lt_trans (hl c (h.2 c hc)) (by decide))
section
variable {nm : Nat → Str}
theorem canAll_of {ds : List PyData} (h : ∀ d ∈ ds, d.canLay0 = true) : PyData.canLayAll0 ds = true := by
  induction ds with
  | nil => simp [PyData.canLayAll0]
  | cons e r ih =>
    simp only [PyData.canLayAll0, Bool.and_eq_true]
    exact ⟨h e (by simp), ih fun d hd => h d (by simp [hd])⟩
theorem depthAll_of {ds : List PyData} {n : Nat} (h : ∀ d ∈ ds, d.depth ≤ n) : PyData.depthAll ds ≤ n := by
  induction ds with
  | nil => simp [PyData.depthAll]
  | cons e r ih =>
    simp only [PyData.depthAll]
    exact Nat.max_le.mpr ⟨h e (by simp), ih fun d hd => h d (by simp [hd])⟩
theorem encK_shape (g : Good nm) : ∀ {n : Nat} {k : Kd}, isKW n k = true → (encK nm k).canLay0 = true ∧ (encK nm k).depth ≤ 3 * n
  | 0, k, h => by rw [isKW] at h; cases h
  | n + 1, .num v, h => by rw [encK]; exact ⟨by simp only [PyData.canLay0, PyData.canLayAll0, Bool.and_true]; decide +kernel, by simp [PyData.depth, PyData.depthAll]; omega⟩
  | n + 1, .text, h => by rw [encK]; exact ⟨by decide +kernel, by simp [PyData.depth, PyData.depthAll]; omega⟩
  | n + 1, .row k, h => by
    rw [isKW] at h
    obtain ⟨h1, h2⟩ := encK_shape g h
    rw [encK]
    refine ⟨?_, ?_⟩
    · simp only [PyData.canLay0, PyData.canLayAll0, h1, Bool.and_true]; decide +kernel
    · simp only [PyData.depth, PyData.depthAll]; omega
  | n + 1, .rc fs, h => by
    have hf : ∀ f ∈ fs, f.1 < 10 ∧ isKW n f.2 = true := by
      rw [isKW] at h
      simp only [Bool.and_eq_true, List.all_eq_true, decide_eq_true_eq] at h
      exact h.2
    have hd : ∀ d ∈ encFs nm fs, d.canLay0 = true ∧ d.depth ≤ 3 * n + 1 := fun d hd => by
      rw [encFs_map] at hd
      obtain ⟨⟨m, k⟩, h1, rfl⟩ := List.mem_map.mp hd
      have hk : isKW n k = true := (hf _ h1).2
      obtain ⟨q1, q2⟩ := encK_shape g hk
      rw [encF]
      refine ⟨?_, ?_⟩
      · have := strOk_name (s := nm m) (by rw [g.ok]; exact decide_eq_true (hf _ h1).1)
        simp only [PyData.canLay0, PyData.canLayAll0, this, q1, Bool.and_true]
      · simp only [PyData.depth, PyData.depthAll]; omega
    have c := canAll_of fun d h => (hd d h).1
    have e := depthAll_of fun d h => (hd d h).2
    rw [encK]
    refine ⟨?_, ?_⟩
    · simp only [PyData.canLay0, PyData.canLayAll0, c, Bool.and_true]; decide +kernel
    · simp only [PyData.depth, PyData.depthAll]; omega
  | n + 1, .pk fs, h => by
    have hf : ∀ f ∈ fs, f.1 < 10 ∧ isKW n f.2 = true := by
      rw [isKW] at h
      simp only [Bool.and_eq_true, List.all_eq_true, decide_eq_true_eq] at h
      exact h.2
    have hd : ∀ d ∈ encFs nm fs, d.canLay0 = true ∧ d.depth ≤ 3 * n + 1 := fun d hd => by
      rw [encFs_map] at hd
      obtain ⟨⟨m, k⟩, h1, rfl⟩ := List.mem_map.mp hd
      have hk : isKW n k = true := (hf _ h1).2
      obtain ⟨q1, q2⟩ := encK_shape g hk
      rw [encF]
      refine ⟨?_, ?_⟩
      · have := strOk_name (s := nm m) (by rw [g.ok]; exact decide_eq_true (hf _ h1).1)
        simp only [PyData.canLay0, PyData.canLayAll0, this, q1, Bool.and_true]
      · simp only [PyData.depth, PyData.depthAll]; omega
    have c := canAll_of fun d h => (hd d h).1
    have e := depthAll_of fun d h => (hd d h).2
    rw [encK]
    refine ⟨?_, ?_⟩
    · simp only [PyData.canLay0, PyData.canLayAll0, c, Bool.and_true]; decide +kernel
    · simp only [PyData.depth, PyData.depthAll]; omega
theorem shaped_encK (g : Good nm) {k : Kd} (h : isKW 6 k = true) : SeqAt.shaped (encK nm k) = true := by
  obtain ⟨h1, h2⟩ := encK_shape g h
  unfold SeqAt.shaped
  rw [h1, Bool.true_and]
  exact decide_eq_true (by omega)
theorem str_eqv (a b : Str) : PyData.eqv (.str a) (.str b) = (a == b) := by simp [PyData.eqv]
theorem eqv_word {a b : Str} {xs ys : List PyData} : PyData.eqv (.tuple (.str a :: xs)) (.tuple (.str b :: ys)) = (a == b && PyData.eqvAll xs ys) := by simp [PyData.eqv, PyData.eqvAll]
open Classical in
theorem encK_eqv (g : Good nm) : ∀ a b : Kd, PyData.eqv (encK nm a) (encK nm b) = decide (a = b) := by
  have key : ∀ n, ∀ a b : Kd, sizeOf a ≤ n → (PyData.eqv (encK nm a) (encK nm b) = true ↔ a = b) := by
    intro n
    induction n with
    | zero => intro a b h; cases a <;> simp at h
    | succ n ih =>
      have fields : ∀ fs gs : List (Nat × Kd), sizeOf fs ≤ n → (PyData.eqvAll (encFs nm fs) (encFs nm gs) = true ↔ fs = gs) := by
        intro fs
        induction fs with
        | nil =>
          intro gs _
          cases gs with
          | nil => simp [encFs, PyData.eqvAll]
          | cons g r => simp [encFs, PyData.eqvAll]
        | cons f r ihr =>
          intro gs h
          cases gs with
          | nil => simp [encFs, PyData.eqvAll]
          | cons g2 r2 =>
            obtain ⟨m, k⟩ := f
            obtain ⟨m2, k2⟩ := g2
            simp only [List.cons.sizeOf_spec, Prod.mk.sizeOf_spec] at h
            rw [encFs, encFs, encF, encF]
            simp only [PyData.eqvAll, PyData.eqv, Bool.and_true, Bool.and_eq_true, beq_iff_eq]
            rw [ih k k2 (by omega), ihr r2 (by omega)]
            constructor
            · rintro ⟨⟨e1, e2⟩, e3⟩
              rw [g.inj _ _ e1, e2, e3]
            · intro e
              cases e
              exact ⟨⟨rfl, rfl⟩, rfl⟩
      intro a b h
      cases a with
      | num v =>
        cases b with
        | num u => rw [encK, encK, eqv_word]; simp [PyData.eqvAll, PyData.eqv]
        | text => rw [encK, encK, eqv_word, show (("num" : Str) == "text") = false by decide]; simp
        | row k => rw [encK, encK, eqv_word, show (("num" : Str) == "row") = false by decide]; simp
        | rc fs => rw [encK, encK, eqv_word, show (("num" : Str) == "rec") = false by decide]; simp
        | pk fs => rw [encK, encK, eqv_word, show (("num" : Str) == "pick") = false by decide]; simp
      | text =>
        cases b with
        | num u => rw [encK, encK, eqv_word, show (("text" : Str) == "num") = false by decide]; simp
        | text => rw [encK, eqv_word]; simp [PyData.eqvAll, PyData.eqv]
        | row k => rw [encK, encK, eqv_word, show (("text" : Str) == "row") = false by decide]; simp
        | rc fs => rw [encK, encK, eqv_word, show (("text" : Str) == "rec") = false by decide]; simp
        | pk fs => rw [encK, encK, eqv_word, show (("text" : Str) == "pick") = false by decide]; simp
      | row k =>
        simp only [Kd.row.sizeOf_spec] at h
        cases b with
        | num u => rw [encK, encK, eqv_word, show (("row" : Str) == "num") = false by decide]; simp
        | text => rw [encK, encK, eqv_word, show (("row" : Str) == "text") = false by decide]; simp
        | row k2 =>
          rw [encK, encK, eqv_word]
          simp only [PyData.eqvAll, Bool.and_true, beq_self_eq_true, Bool.true_and]
          rw [ih k k2 (by omega)]
          simp
        | rc fs => rw [encK, encK, eqv_word, show (("row" : Str) == "rec") = false by decide]; simp
        | pk fs => rw [encK, encK, eqv_word, show (("row" : Str) == "pick") = false by decide]; simp
      | rc fs =>
        simp only [Kd.rc.sizeOf_spec] at h
        cases b with
        | num u => rw [encK, encK, eqv_word, show (("rec" : Str) == "num") = false by decide]; simp
        | text => rw [encK, encK, eqv_word, show (("rec" : Str) == "text") = false by decide]; simp
        | row k => rw [encK, encK, eqv_word, show (("rec" : Str) == "row") = false by decide]; simp
        | rc gs =>
          rw [encK, encK, eqv_word]
          simp only [PyData.eqvAll, PyData.eqv, Bool.and_true, beq_self_eq_true, Bool.true_and]
          rw [fields fs gs (by omega)]
          simp
        | pk fs => rw [encK, encK, eqv_word, show (("rec" : Str) == "pick") = false by decide]; simp
      | pk fs =>
        simp only [Kd.pk.sizeOf_spec] at h
        cases b with
        | num u => rw [encK, encK, eqv_word, show (("pick" : Str) == "num") = false by decide]; simp
        | text => rw [encK, encK, eqv_word, show (("pick" : Str) == "text") = false by decide]; simp
        | row k => rw [encK, encK, eqv_word, show (("pick" : Str) == "row") = false by decide]; simp
        | rc gs => rw [encK, encK, eqv_word, show (("pick" : Str) == "rec") = false by decide]; simp
        | pk gs =>
          rw [encK, encK, eqv_word]
          simp only [PyData.eqvAll, PyData.eqv, Bool.and_true, beq_self_eq_true, Bool.true_and]
          rw [fields fs gs (by omega)]
          simp
  intro a b
  by_cases h : a = b
  · rw [decide_eq_true h]; exact (key _ a b (Nat.le_refl _)).mpr h
  · rw [decide_eq_false h, ← Bool.not_eq_true]; exact fun z => h ((key _ a b (Nat.le_refl _)).mp z)
end
/-! ### a scope by numbers -/
section
open Classical
variable {nm : Nat → Str}
noncomputable def kinOf {α : Type} (nm : Nat → Str) (f : Nat → Option α) (enc : α → PyData) : Key → Option PyData := fun key => if h : ∃ n, key = .inr (nm n) then (f (Classical.choose h)).map enc else none
theorem kinOf_at {α : Type} {f : Nat → Option α} {enc : α → PyData} (g : Good nm) (n : Nat) : kinOf nm f enc (.inr (nm n)) = (f n).map enc := by
  have h : ∃ m, (Sum.inr (nm n) : Key) = .inr (nm m) := ⟨n, rfl⟩
  unfold kinOf
  rw [dif_pos h]
  have e := Classical.choose_spec h
  rw [← g.inj _ _ (Sum.inr.inj e)]
theorem kinOf_put {α : Type} {f : Nat → Option α} {enc : α → PyData} (g : Good nm) (x : Nat) (a : α) : (fun k => if k = .inr (nm x) then some (enc a) else kinOf nm f enc k) = kinOf nm (fun y => if y = x then some a else f y) enc := by
  funext k
  by_cases h : ∃ m, k = .inr (nm m)
  · obtain ⟨m, rfl⟩ := h
    rw [kinOf_at g, kinOf_at g]
    by_cases e : m = x
    · subst e; rw [if_pos rfl, if_pos rfl]; rfl
    · rw [if_neg (fun z => e (g.inj _ _ (Sum.inr.inj z))), if_neg e]
  · have : ¬ k = .inr (nm x) := fun z => h ⟨x, z⟩
    rw [if_neg this]
    unfold kinOf
    rw [dif_neg h, dif_neg h]
theorem kinOf_none {α : Type} {enc : α → PyData} : kinOf nm (fun _ => none) enc = fun _ => none := by
  funext k
  unfold kinOf
  split <;> rfl
def dom10 (nm : Nat → Str) : List Key := (List.range 10).map fun i => .inr (nm i)
theorem dom10_mem {x : Nat} (h : x < 10) : (Sum.inr (nm x) : Key) ∈ dom10 nm := List.mem_map.mpr ⟨x, List.mem_range.mpr h, rfl⟩
theorem dom10_len : (dom10 nm).length < 1000000 := by simp [dom10]
noncomputable def scoN (nm : Nat → Str) (Cx : Ctx) (κ : Kin) (pk : List (Key × PyData)) : ScN := ⟨.dict (dkD pk), encR nm Cx.res, kinOf nm Cx.ways encW, kinOf nm κ (encK nm), dom10 nm⟩
/-- st is the scope -/
def IsSc (nm : Nat → Str) (C : Addr) (Cx : Ctx) (κ : Kin) (pk : List (Key × PyData)) (st : Sco) : Prop := ∃ p b c, st = (scoN nm Cx κ pk).at_ C p b c
def KinOk (κ : Kin) : Prop := ∀ n k, κ n = some k → isK k = true
structure CxOk (nm : Nat → Str) (Cx : Ctx) (pk : List (Key × PyData)) : Prop where
  pk : ∀ n, valD pk (.inr (nm n)) = (Cx.papers n).map (encPaper nm)
  pl : ∀ n p, Cx.papers n = some p → p.places.length ≤ 1000 ∧ ∀ q ∈ p.places, isK q.2.2 = true
  pr : ∀ n p k, Cx.papers n = some p → p.res = some k → isK k = true
  res : ∀ k, Cx.res = some k → isK k = true
noncomputable def mk2 (C : Ctx) (κ : Kin) (x : Nat) (k : Kd) : Bool × Kin :=
  if bound C x then (false, κ) else match κ x with
    | none => (true, fun y => if y = x then some k else κ y)
    | some k' => (decide (k' = k), κ)
theorem mk2_ok {C : Ctx} {κ : Kin} {x : Nat} {k : Kd} (h : KinOk κ) (hk : isK k = true) : KinOk (mk2 C κ x k).2 := by
  unfold mk2
  split
  · exact h
  · split
    · intro n k' e
      by_cases z : n = x
      · simp only [z, if_true] at e
        cases e; exact hk
      · simp only [z, if_false] at e
        exact h n k' e
    · exact h
noncomputable def makeOf2 (C : Ctx) (κ : Kin) (x y : Nat) (p : List Stp) : Bool × Kin := match kindAt κ y p with
  | none => (false, κ)
  | some k => mk2 C κ x k
theorem kindAt_ok {κ : Kin} {x : Nat} {p : List Stp} {k : Kd} (h : KinOk κ) (e : kindAt κ x p = some k) : isK k = true := by
  unfold kindAt at e
  cases q : κ x with
  | none => rw [q] at e; cases e
  | some k0 => rw [q] at e; exact isK_part (h x k0 q) e
theorem makeOf2_ok {C : Ctx} {κ : Kin} {x y : Nat} {p : List Stp} (h : KinOk κ) : KinOk (makeOf2 C κ x y p).2 := by
  unfold makeOf2
  cases q : kindAt κ y p with
  | none => exact h
  | some k => exact mk2_ok h (kindAt_ok h q)
noncomputable def call2 (C : Ctx) (κ : Kin) (z : Option Nat) (d : Nat) (ns : List Nat) : Bool × Kin :=
  match C.papers d with
  | none => (false, κ)
  | some p => if handAll C κ ns p.places = true then (match z with
      | none => (true, κ)
      | some z => match p.res with
        | none => (false, κ)
        | some k => mk2 C κ z k) else (false, κ)
theorem call2_ok {C : Ctx} {κ : Kin} {z : Option Nat} {d : Nat} {ns : List Nat} (hp : ∀ n p k, C.papers n = some p → p.res = some k → isK k = true) (h : KinOk κ) : KinOk (call2 C κ z d ns).2 := by
  unfold call2
  cases q : C.papers d with
  | none => exact h
  | some p =>
    simp only
    split
    · cases z with
      | none => exact h
      | some z =>
        cases r : p.res with
        | none => exact h
        | some k => exact mk2_ok h (hp d p k q r)
    · exact h
mutual
noncomputable def stB (C : Ctx) : Kin → Sm → Bool × Kin
  | κ, .new x k _ => mk2 C κ x k
  | κ, .copy x y => makeOf2 C κ x y []
  | κ, .part x y p => makeOf2 C κ x y p
  | κ, .put y p x => (changeOk C κ y p (κ x), κ)
  | κ, .add y p x => (changeOk C κ y p ((κ x).map .row), κ)
  | κ, .drop x => (mayTake C κ x, κ)
  | κ, .say x => (knows κ x, κ)
  | κ, .back x => (mayTake C κ x && decide (κ x = C.res), κ)
  | κ, .fail _ => (true, κ)
  | κ, .call z d ns => call2 C κ z d ns
  | κ, .same x y a b => if knows κ x && knows κ y && decide (κ x = κ y) then (if (bodyB C κ a).1 = true then bodyB C (bodyB C κ a).2 b else (false, (bodyB C κ a).2)) else (false, κ)
  | κ, .tr a b => if (bodyB C κ a).1 = true then bodyB C (bodyB C κ a).2 b else (false, (bodyB C κ a).2)
noncomputable def bodyB (C : Ctx) : Kin → List Sm → Bool × Kin
  | κ, [] => (true, κ)
  | κ, s :: r => if (stB C κ s).1 = true then bodyB C (stB C κ s).2 r else (false, (stB C κ s).2)
end
def optK (q : Bool × Kin) : Option Kin := if q.1 = true then some q.2 else none
theorem mayMake_eq (C : Ctx) (κ : Kin) (x : Nat) (k : Kd) : mayMake C κ x k = optK (mk2 C κ x k) := by
  unfold mayMake mk2
  split
  · rfl
  · cases κ x with
    | none => rfl
    | some k' =>
      by_cases e : k' = k
      · simp [optK, e]
      · simp [optK, e]
theorem makeOf_eq (C : Ctx) (κ : Kin) (x y : Nat) (p : List Stp) : makeOf C κ x y p = optK (makeOf2 C κ x y p) := by
  unfold makeOf makeOf2
  cases kindAt κ y p with
  | none => rfl
  | some k => exact mayMake_eq C κ x k
theorem callH_eq (C : Ctx) (κ : Kin) (z : Option Nat) (d : Nat) (ns : List Nat) : callH C κ z d ns = optK (call2 C κ z d ns) := by
  unfold callH call2
  cases C.papers d with
  | none => rfl
  | some p =>
    simp only
    split
    · cases z with
      | none => rfl
      | some z =>
        cases p.res with
        | none => rfl
        | some k => exact mayMake_eq C κ z k
    · rfl
theorem okIf_eq (b : Bool) (κ : Kin) : okIf b κ = optK (b, κ) := by cases b <;> rfl
theorem seq_eq (C : Ctx) (κ : Kin) (a b : List Sm) (ha : bodyH C κ a = optK (bodyB C κ a)) (hb : ∀ κ', bodyH C κ' b = optK (bodyB C κ' b)) :
    ((bodyH C κ a).bind fun κ' => bodyH C κ' b) = optK (if (bodyB C κ a).1 = true then bodyB C (bodyB C κ a).2 b else (false, (bodyB C κ a).2)) := by
  rw [ha]
  unfold optK
  by_cases h : (bodyB C κ a).1 = true
  · rw [if_pos h, if_pos h]; exact hb _
  · rw [if_neg h, if_neg h]; rfl
mutual
theorem stH_eq (C : Ctx) : ∀ (s : Sm) (κ : Kin), stH C κ s = optK (stB C κ s)
  | .new x k _, κ => by rw [stH, stB]; exact mayMake_eq C κ x k
  | .copy x y, κ => by rw [stH, stB]; exact makeOf_eq C κ x y []
  | .part x y p, κ => by rw [stH, stB]; exact makeOf_eq C κ x y p
  | .put y p x, κ => by rw [stH, stB]; exact okIf_eq _ _
  | .add y p x, κ => by rw [stH, stB]; exact okIf_eq _ _
  | .drop x, κ => by rw [stH, stB]; exact okIf_eq _ _
  | .say x, κ => by rw [stH, stB]; exact okIf_eq _ _
  | .back x, κ => by rw [stH, stB]; exact okIf_eq _ _
  | .fail _, κ => by rw [stH, stB]; rfl
  | .call z d ns, κ => by rw [stH, stB]; exact callH_eq C κ z d ns
  | .same x y a b, κ => by
    rw [stH, stB]
    by_cases h : (knows κ x && knows κ y && decide (κ x = κ y)) = true
    · rw [if_pos h, if_pos h]; exact seq_eq C κ a b (bodyH_eq C a κ) (bodyH_eq C b)
    · rw [if_neg h, if_neg h]; rfl
  | .tr a b, κ => by rw [stH, stB]; exact seq_eq C κ a b (bodyH_eq C a κ) (bodyH_eq C b)
theorem bodyH_eq (C : Ctx) : ∀ (b : List Sm) (κ : Kin), bodyH C κ b = optK (bodyB C κ b)
  | [], κ => by rw [bodyH, bodyB]; rfl
  | s :: r, κ => by
    rw [bodyH, bodyB, stH_eq C s κ]
    unfold optK
    by_cases h : (stB C κ s).1 = true
    · rw [if_pos h, if_pos h]; exact bodyH_eq C r _
    · rw [if_neg h, if_neg h]; rfl
end
mutual
theorem stB_ok {C : Ctx} (hp : ∀ n p k, C.papers n = some p → p.res = some k → isK k = true) : ∀ (n : Nat) (s : Sm) (κ : Kin), isSm n s = true → KinOk κ → KinOk (stB C κ s).2
  | n, .new x k _, κ, hs, h => by
    rw [isSm, Bool.and_eq_true] at hs
    rw [stB]; exact mk2_ok h hs.2
  | n, .copy x y, κ, hs, h => by rw [stB]; exact makeOf2_ok h
  | n, .part x y p, κ, hs, h => by rw [stB]; exact makeOf2_ok h
  | n, .put y p x, κ, hs, h => by rw [stB]; exact h
  | n, .add y p x, κ, hs, h => by rw [stB]; exact h
  | n, .drop x, κ, hs, h => by rw [stB]; exact h
  | n, .say x, κ, hs, h => by rw [stB]; exact h
  | n, .back x, κ, hs, h => by rw [stB]; exact h
  | n, .fail _, κ, hs, h => by rw [stB]; exact h
  | n, .call z d ns, κ, hs, h => by rw [stB]; exact call2_ok hp h
  | n, .same x y a b, κ, hs, h => by
    rw [isSm] at hs
    simp only [Bool.and_eq_true] at hs
    rw [stB]
    split
    · split
      · exact bodyB_ok hp _ b _ hs.2.2 (bodyB_ok hp _ a _ hs.1.2.2 h)
      · exact bodyB_ok hp _ a _ hs.1.2.2 h
    · exact h
  | n, .tr a b, κ, hs, h => by
    rw [isSm] at hs
    simp only [Bool.and_eq_true] at hs
    rw [stB]
    split
    · exact bodyB_ok hp _ b _ hs.2.2 (bodyB_ok hp _ a _ hs.1.2 h)
    · exact bodyB_ok hp _ a _ hs.1.2 h
theorem bodyB_ok {C : Ctx} (hp : ∀ n p k, C.papers n = some p → p.res = some k → isK k = true) : ∀ (n : Nat) (b : List Sm) (κ : Kin), isSms n b = true → KinOk κ → KinOk (bodyB C κ b).2
  | n, [], κ, hs, h => by rw [bodyB]; exact h
  | n, s :: r, κ, hs, h => by
    rw [isSms, Bool.and_eq_true] at hs
    rw [bodyB]
    split
    · exact bodyB_ok hp n r _ hs.2 (stB_ok hp n s κ hs.1 h)
    · exact stB_ok hp n s κ hs.1 h
end
end
section
variable {P : Program} {w : World} {K : PySem.W.Frag} {mg : Str → Option Value} {base : Heap} {nm : Nat → Str} {C D : Addr}
def R_knows : Sco → List PyData → PyData → (Key → Option PyData) → Prop := fun st ds d k' => ∃ s : Str, ds = [.str s] ∧ d = .bool (st.kinds (.inr s)).isSome ∧ k' = st.kinds
theorem ok_knows (SC : ScC K C) (pl : PlM K C "knows" "Scope.knows" s_knows ["self", "name"]) : CalM P w K mg base C "knows" 1 ["self", "name"] (fun st ds d k' => st.C = C ∧ R_knows st ds d k') := by
  refine okM 2 pl sc_knows (by decide +kernel) (by rintro _ _ _ _ ⟨_, x, rfl, _⟩; rfl) ?_
  rintro f cdv A outer s H E Γ sc _ _ _ fz hr T ⟨hC, x, rfl, rfl, rfl⟩
  have hu := hu_of hr
  have SC : ScC K sc.C := hC ▸ SC
  refine SXs.reL (l' := [.sc sc, .dat (.str x)]) rfl ?_
  walk_at "S"
  exact ⟨rfl, rfl⟩
theorem way_flat (o : Option Way) : flatD ((o.map encW).getD .none) = true := by
  cases o with
  | none => rfl
  | some w => cases w <;> rfl
theorem way_shaped (o : Option Way) : SeqAt.shaped ((o.map encW).getD .none) = true := by
  cases o with
  | none => decide +kernel
  | some w => cases w <;> decide +kernel
theorem way_in (o : Option Way) : ([PyData.str "lend", PyData.str "lease"].any fun z => PyData.eqv z ((o.map encW).getD .none)) = decide (o = some .lend ∨ o = some .lease) := by
  cases o with
  | none => decide +kernel
  | some w => cases w <;> decide +kernel
theorem way_lend (o : Option Way) : PyData.eqv ((o.map encW).getD .none) (.str "lend") = decide (o = some .lend) := by
  cases o with
  | none => decide +kernel
  | some w => cases w <;> decide +kernel
theorem way_lease (o : Option Way) : PyData.eqv ((o.map encW).getD .none) (.str "lease") = decide (o = some .lease) := by
  cases o with
  | none => decide +kernel
  | some w => cases w <;> decide +kernel
/-- a method's promise on a scope by numbers -/
def RM (nm : Nat → Str) (C : Addr) (f : Ctx → Kin → List PyData → PyData → Kin → Prop) : Sco → List PyData → PyData → (Key → Option PyData) → Prop := fun st ds d k' => ∃ Cx κ pk κ', IsSc nm C Cx κ pk st ∧ CxOk nm Cx pk ∧ KinOk κ ∧ f Cx κ ds d κ' ∧ k' = kinOf nm κ' (encK nm)
theorem sc_way (g : Good nm) {Cx : Ctx} {κ : Kin} {pk : List (Key × PyData)} {p b c : Addr} (x : Nat) : ((((scoN nm Cx κ pk).at_ C p b c).ways (.inr (nm x))).getD .none) = ((Cx.ways x).map encW).getD .none := by
  show ((kinOf nm Cx.ways encW (.inr (nm x))).getD .none) = _
  rw [kinOf_at g]
theorem sc_kind (g : Good nm) {Cx : Ctx} {κ : Kin} {pk : List (Key × PyData)} {p b c : Addr} (x : Nat) : ((scoN nm Cx κ pk).at_ C p b c).kinds (.inr (nm x)) = (κ x).map (encK nm) := kinOf_at g x
def F_may_make (nm : Nat → Str) : Ctx → Kin → List PyData → PyData → Kin → Prop := fun Cx κ ds d κ' => ∃ x k, x < 10 ∧ isK k = true ∧ ds = [.str (nm x), encK nm k] ∧ d = .bool (mk2 Cx κ x k).1 ∧ κ' = (mk2 Cx κ x k).2
open Classical in
theorem ok_may_make (g : Good nm) (SC : ScC K C) (pl : PlM K C "may_make" "Scope.may_make" s_may_make ["self", "name", "kind"]) : CalM P w K mg base C "may_make" 1 ["self", "name", "kind"] (RM nm C (F_may_make nm)) := by
  refine okM 3 pl sc_may_make (by decide +kernel) (by rintro _ _ _ _ ⟨_, _, _, _, _, _, _, ⟨_, _, _, _, rfl, _⟩, _⟩; rfl) ?_
  rintro f cdv A outer s H E Γ sc _ _ _ fz hr T ⟨Cx, κ, pk, κ', ⟨p, b, c, rfl⟩, hCx, hκ, ⟨x, k, hx, hk, rfl, rfl, rfl⟩, rfl⟩
  have hu := hu_of hr
  have SC' : ScC K ((scoN nm Cx κ pk).at_ C p b c).C := SC
  have hw := sc_way (C := C) g (Cx := Cx) (κ := κ) (pk := pk) (p := p) (b := b) (c := c) x
  have hkx := sc_kind (C := C) g (Cx := Cx) (κ := κ) (pk := pk) (p := p) (b := b) (c := c) x
  generalize hst : (scoN nm Cx κ pk).at_ C p b c = st at SC' hw hkx ⊢
  refine SXs.reL (l' := [.sc st, .dat (.str (nm x)), .dat (encK nm k)]) rfl ?_
  have hfl : flatD ((st.ways (.inr (nm x))).getD .none) = true := by rw [hw]; exact way_flat _
  refine' SXs.cons (SX.ite (TX.eq (b' := bound Cx x) (TX.cmp ?a1 ?a2 ?a3 ?a4) ?a6) ?a7 ?a8)
  case a1 => walk_at "E"
  case a2 => walk_at "E"
  case a3 => exact opInF (.inr rfl) hfl rfl
  case a4 => rfl
  case a6 => rw [hw]; exact way_in _
  case a7 =>
    intro hb
    walk_at "S"
    have hb' : bound Cx x = true := hb
    unfold mk2
    rw [if_pos hb']
    exact ⟨rfl, by rw [← hst]; rfl⟩
  case a8 =>
    intro hb
    have hb' : ¬ bound Cx x = true := by
      have : bound Cx x = false := hb
      rw [this]; exact Bool.false_ne_true
    refine SXs.nil ?_
    have hdom : st.dom = dom10 nm := by rw [← hst]; rfl
    have hs : ∀ k', κ x = some k' ∨ (κ x = none ∧ k' = k) → SeqAt.shaped (encK nm k') = true := fun k' h => by
      rcases h with h | ⟨_, rfl⟩
      · exact shaped_encK g (isKW_mono (hκ x k' h))
      · exact shaped_encK g (isKW_mono hk)
    obtain ⟨k0, e0, e1⟩ : ∃ k0, (κ x = some k0 ∨ (κ x = none ∧ k0 = k)) ∧ (st.kinds (.inr (nm x))).getD (encK nm k) = encK nm k0 := by
      cases q : κ x with
      | none => exact ⟨k, .inr ⟨rfl, rfl⟩, by rw [hkx, q]; rfl⟩
      | some k0 => exact ⟨k0, .inl rfl, by rw [hkx, q]; rfl⟩
    refine' SXs.cons (SX.ret (EX.cmp (EX.scSetdS (d := encK nm k) SC' T ?b1 ?b2 ?b11 ?b12 ?b3 ?b4 ?b13 ?b5 ?b6 ?b14 ?b15) ?b7 (opEq hr.units ?b8 ?b9) ?b16) ?b10)
    case b1 => walk_at "At"
    case b2 => decide
    case b11 => rfl
    case b12 => rfl
    case b3 => walk_at "E"
    case b4 => walk_at "E"
    case b13 => rfl
    case b5 => rw [hdom]; exact dom10_mem hx
    case b6 => rw [hdom]; exact dom10_len
    case b14 => rfl
    case b15 => exact ⟨rfl, rfl, rfl, rfl⟩
    case b7 => walk_at "E"
    case b8 => rw [e1]; exact hs k0 e0
    case b9 => exact shaped_encK g (isKW_mono hk)
    case b16 => rfl
    case b10 =>
      rw [e1, encK_eqv g]
      unfold mk2
      rw [if_neg hb']
      have up : ∀ st', some (Sl.sc (setdS st (.inr (nm x)) (encK nm k))) = some (.sc st') ↔ setdS st (.inr (nm x)) (encK nm k) = st' := fun st' => ⟨fun h => by cases h; rfl, fun h => by rw [h]⟩
      rcases e0 with e0 | ⟨e0, rfl⟩
      · rw [e0]
        refine ⟨rfl, (up _).mpr ?_⟩
        unfold setdS
        rw [hkx, e0, ← hst]; rfl
      · rw [e0]
        refine ⟨by rw [decide_eq_true rfl], (up _).mpr ?_⟩
        unfold setdS
        rw [hkx, e0]
        show Sco.mk _ _ _ _ _ _ _ _ _ = _
        rw [← hst]
        show Sco.mk _ _ _ _ _ _ _ (fun q => if q = .inr (nm x) then some (encK nm k0) else kinOf nm κ (encK nm) q) _ = _
        rw [kinOf_put g]
local macro_rules | `(tactic| walk_at "R") => `(tactic| solve_by_elim)
def F_change (nm : Nat → Str) : Ctx → Kin → List PyData → PyData → Kin → Prop := fun Cx κ ds d κ' => ∃ x, ds = [.str (nm x)] ∧ d = .bool (mayChange Cx κ x) ∧ κ' = κ
abbrev RKn (C : Addr) : Sco → List PyData → PyData → (Key → Option PyData) → Prop := fun st ds d k' => st.C = C ∧ R_knows st ds d k'
theorem ok_may_change (g : Good nm) (SC : ScC K C) (pl : PlM K C "may_change" "Scope.may_change" s_may_change ["self", "name"]) (Mk : CalM P w K mg base C "knows" 1 ["self", "name"] (RKn C)) : CalM P w K mg base C "may_change" 2 ["self", "name"] (RM nm C (F_change nm)) := by
  refine okM 2 pl sc_may_change (by decide +kernel) (by rintro _ _ _ _ ⟨_, _, _, _, _, _, _, ⟨_, rfl, _⟩, _⟩; rfl) ?_
  rintro f cdv A outer s H E Γ sc _ _ _ fz hr T ⟨Cx, κ, pk, κ', ⟨p, b, c, rfl⟩, hCx, hκ, ⟨x, rfl, rfl, rfl⟩, rfl⟩
  have hu := hu_of hr
  have SC' : ScC K ((scoN nm Cx κ' pk).at_ C p b c).C := SC
  have hw := sc_way (C := C) g (Cx := Cx) (κ := κ') (pk := pk) (p := p) (b := b) (c := c) x
  have hkx := sc_kind (C := C) g (Cx := Cx) (κ := κ') (pk := pk) (p := p) (b := b) (c := c) x
  have hCC : ((scoN nm Cx κ' pk).at_ C p b c).C = C := rfl
  have Mk' : CalM P w K mg base ((scoN nm Cx κ' pk).at_ C p b c).C "knows" 1 ["self", "name"] (RKn C) := Mk
  generalize hst : (scoN nm Cx κ' pk).at_ C p b c = st at SC' hw hkx hCC Mk' ⊢
  have RK : RKn C st [.str (nm x)] (.bool (st.kinds (.inr (nm x))).isSome) st.kinds := ⟨hCC, nm x, rfl, rfl, rfl⟩
  have hsh : SeqAt.shaped ((st.ways (.inr (nm x))).getD .none) = true := by rw [hw]; exact way_shaped _
  refine SXs.reL (l' := [.sc st, .dat (.str (nm x))]) rfl ?_
  refine' SXs.cons (SX.ret (EX.and ?a1 fun _ => EX.one (EX.cmp ?a2 ?a3 (opNe hr.units hsh ?a4) ?a5)) ?a11)
  case a1 => walk_at "E"
  case a2 => walk_at "E"
  case a3 => walk_at "E"
  case a4 => decide +kernel
  case a5 => rfl
  case a11 =>
    refine ⟨?_, by rw [← hst]; rfl⟩
    rw [hw, way_lend, hkx]
    show PyData.bool _ = PyData.bool _
    unfold mayChange knows
    rw [Option.isSome_map, decide_not]
def F_take (nm : Nat → Str) : Ctx → Kin → List PyData → PyData → Kin → Prop := fun Cx κ ds d κ' => ∃ x, ds = [.str (nm x)] ∧ d = .bool (mayTake Cx κ x) ∧ κ' = κ
theorem ok_may_take (g : Good nm) (SC : ScC K C) (pl : PlM K C "may_take" "Scope.may_take" s_may_take ["self", "name"]) (Mk : CalM P w K mg base C "knows" 1 ["self", "name"] (RKn C)) : CalM P w K mg base C "may_take" 2 ["self", "name"] (RM nm C (F_take nm)) := by
  refine okM 2 pl sc_may_take (by decide +kernel) (by rintro _ _ _ _ ⟨_, _, _, _, _, _, _, ⟨_, rfl, _⟩, _⟩; rfl) ?_
  rintro f cdv A outer s H E Γ sc _ _ _ fz hr T ⟨Cx, κ, pk, κ', ⟨p, b, c, rfl⟩, hCx, hκ, ⟨x, rfl, rfl, rfl⟩, rfl⟩
  have hu := hu_of hr
  have SC' : ScC K ((scoN nm Cx κ' pk).at_ C p b c).C := SC
  have hw := sc_way (C := C) g (Cx := Cx) (κ := κ') (pk := pk) (p := p) (b := b) (c := c) x
  have hkx := sc_kind (C := C) g (Cx := Cx) (κ := κ') (pk := pk) (p := p) (b := b) (c := c) x
  have hCC : ((scoN nm Cx κ' pk).at_ C p b c).C = C := rfl
  have Mk' : CalM P w K mg base ((scoN nm Cx κ' pk).at_ C p b c).C "knows" 1 ["self", "name"] (RKn C) := Mk
  generalize hst : (scoN nm Cx κ' pk).at_ C p b c = st at SC' hw hkx hCC Mk' ⊢
  have RK : RKn C st [.str (nm x)] (.bool (st.kinds (.inr (nm x))).isSome) st.kinds := ⟨hCC, nm x, rfl, rfl, rfl⟩
  have hfl : flatD ((st.ways (.inr (nm x))).getD .none) = true := by rw [hw]; exact way_flat _
  refine SXs.reL (l' := [.sc st, .dat (.str (nm x))]) rfl ?_
  refine' SXs.cons (SX.ret (EX.and ?a1 fun _ => EX.one (EX.cmp ?a2 ?a3 (opNotInF (.inr rfl) hfl ?a4) ?a5)) ?a11)
  case a1 => walk_at "E"
  case a2 => walk_at "E"
  case a3 => walk_at "E"
  case a4 => rfl
  case a5 => rfl
  case a11 =>
    refine ⟨?_, by rw [← hst]; rfl⟩
    rw [hw, way_in, hkx]
    show PyData.bool _ = PyData.bool _
    unfold mayTake knows bound
    rw [Option.isSome_map]
def F_hand (nm : Nat → Str) : Ctx → Kin → List PyData → PyData → Kin → Prop := fun Cx κ ds d κ' => ∃ x w k, isK k = true ∧ ds = [.str (nm x), encW w, encK nm k] ∧ d = .bool (mayHand Cx κ x w k) ∧ κ' = κ
theorem encW_shaped (w : Way) : SeqAt.shaped (encW w) = true := by cases w <;> decide +kernel
theorem encW_copy (w : Way) : PyData.eqv (encW w) (.str "copy") = decide (w = .copy) := by cases w <;> decide +kernel
theorem encW_lend (w : Way) : PyData.eqv (encW w) (.str "lend") = decide (w = .lend) := by cases w <;> decide +kernel
theorem encW_give (w : Way) : PyData.eqv (encW w) (.str "give") = decide (w = .give) := by cases w <;> decide +kernel
open Classical in
theorem ok_may_hand (g : Good nm) (SC : ScC K C) (pl : PlM K C "may_hand" "Scope.may_hand" s_may_hand ["self", "name", "way", "kind"]) (Mk : CalM P w K mg base C "knows" 1 ["self", "name"] (RKn C)) : CalM P w K mg base C "may_hand" 2 ["self", "name", "way", "kind"] (RM nm C (F_hand nm)) := by
  refine okM 5 pl sc_may_hand (by decide +kernel) (by rintro _ _ _ _ ⟨_, _, _, _, _, _, _, ⟨_, _, _, _, rfl, _⟩, _⟩; rfl) ?_
  rintro f cdv A outer s H E Γ sc _ _ _ fz hr T ⟨Cx, κ, pk, κ', ⟨p, b, c, rfl⟩, hCx, hκ, ⟨x, wy, k, hk, rfl, rfl, rfl⟩, rfl⟩
  have hu := hu_of hr
  have SC' : ScC K ((scoN nm Cx κ' pk).at_ C p b c).C := SC
  have hw := sc_way (C := C) g (Cx := Cx) (κ := κ') (pk := pk) (p := p) (b := b) (c := c) x
  have hkx := sc_kind (C := C) g (Cx := Cx) (κ := κ') (pk := pk) (p := p) (b := b) (c := c) x
  have hCC : ((scoN nm Cx κ' pk).at_ C p b c).C = C := rfl
  have Mk' : CalM P w K mg base ((scoN nm Cx κ' pk).at_ C p b c).C "knows" 1 ["self", "name"] (RKn C) := Mk
  generalize hst : (scoN nm Cx κ' pk).at_ C p b c = st at SC' hw hkx hCC Mk' ⊢
  have RK : RKn C st [.str (nm x)] (.bool (st.kinds (.inr (nm x))).isSome) st.kinds := ⟨hCC, nm x, rfl, rfl, rfl⟩
  have hend : some (Sl.sc st) = some (.sc { st with kinds := kinOf nm κ' (encK nm) }) := by rw [← hst]; rfl
  have hsh : SeqAt.shaped ((st.ways (.inr (nm x))).getD .none) = true := by rw [hw]; exact way_shaped _
  have hk0 := shaped_encK g (isKW_mono hk)
  refine SXs.reL (l' := [.sc st, .dat (.str (nm x)), .dat (encW wy), .dat (encK nm k), .no]) rfl ?_
  have rest : κ' x = some k → SXs (bx P w K mg base N_may_hand (Str.ofString "Scope.may_hand") s_may_hand f cdv A outer s H E) Γ ((defBody s_may_hand).drop 1) [.sc st, .dat (.str (nm x)), .dat (encW wy), .dat (encK nm k), .no] { nx := fun l => PyData.bool (mayHand Cx κ' x wy k) = .none ∧ l[0]? = some (.sc { st with kinds := kinOf nm κ' (encK nm) }), rt := fun d' l => d' = .bool (mayHand Cx κ' x wy k) ∧ l[0]? = some (.sc { st with kinds := kinOf nm κ' (encK nm) }) } := by
    intro e
    walk_at "S"
    case k5 =>
      refine' SXs.cons (SX.ite (TX.eq (b' := decide (Cx.ways x = some .lend)) (TX.cmp ?b1 ?b2 (opEq hr.units hsh ?b3) ?b4) ?b5) ?b6 ?b7)
      case b1 => walk_at "E"
      case b2 => walk_at "E"
      case b3 => decide +kernel
      case b4 => rfl
      case b5 => rw [hw]; exact way_lend _
      case b6 =>
        intro hb
        have hb := of_decide_eq_true hb
        refine' SXs.cons (SX.ret (EX.or (EX.cmp ?c1 ?c2 (opEq hr.units (encW_shaped wy) ?c3) ?c4) fun _ => EX.one (EX.cmp ?c5 ?c6 (opEq hr.units (encW_shaped wy) ?c7) ?c8)) ?c9)
        case c1 => walk_at "E"
        case c2 => walk_at "E"
        case c3 => decide +kernel
        case c4 => rfl
        case c5 => walk_at "E"
        case c6 => walk_at "E"
        case c7 => decide +kernel
        case c8 => rfl
        case c9 =>
          refine ⟨?_, hend⟩
          rw [encW_copy, encW_lend]
          unfold mayHand
          rw [if_neg (by simp [e]), if_pos hb]
      case b7 =>
        intro hb
        have hb := of_decide_eq_false hb
        refine SXs.nil ?_
        refine' SXs.cons (SX.ret (EX.or (EX.cmp ?d1 ?d2 (opNe hr.units hsh ?d3) ?d4) fun _ => EX.one (EX.cmp ?d5 ?d6 (opNe hr.units (encW_shaped wy) ?d7) ?d8)) ?d9)
        case d1 => walk_at "E"
        case d2 => walk_at "E"
        case d3 => decide +kernel
        case d4 => rfl
        case d5 => walk_at "E"
        case d6 => walk_at "E"
        case d7 => decide +kernel
        case d8 => rfl
        case d9 =>
          refine ⟨?_, hend⟩
          rw [hw, way_lease, encW_give]
          unfold mayHand
          rw [if_neg (by simp [e]), if_neg hb, decide_not, decide_not]
  cases e : κ' x with
  | none =>
    rw [e] at hkx
    refine' SXs.cons (SX.iteT (TX.ofW (WX.orT (TX.eq ?a1 ?a2))) ?a3)
    case a1 => walk_at "T"
    case a2 => rw [hkx]; rfl
    case a3 =>
      walk_at "S"
      refine ⟨?_, hend⟩
      unfold mayHand
      rw [if_pos (by simp [e])]
  | some k0 =>
    rw [e] at hkx
    have hkx' : st.kinds (.inr (nm x)) = some (encK nm k0) := hkx
    have hk1 := shaped_encK g (isKW_mono (hκ x k0 e))
    refine' SXs.cons (SX.ite (TX.ofW (WX.orF (TX.eq ?e1 ?e2) (WX.or1 (TX.eq (TX.cmp ?e3 ?e4 (opNe hr.units hk1 hk0) ?e5) ?e6)))) ?e7 ?e8)
    case e1 => walk_at "T"
    case e2 => rw [hkx]; rfl
    case e3 => walk_at "E"
    case e4 => walk_at "E"
    case e5 => rfl
    case e6 => exact congrArg _ (encK_eqv g k0 k)
    case e7 =>
      intro hb
      have hb : k0 ≠ k := by simpa using hb
      walk_at "S"
      refine ⟨?_, hend⟩
      unfold mayHand
      rw [if_pos (by rw [e]; exact fun z => hb (Option.some.inj z))]
    case e8 =>
      intro hb
      have hb : k0 = k := by simpa using hb
      subst hb
      exact SXs.nil (rest e)
end
section
variable {P : Program} {w : World} {K : PySem.W.Frag} {mg : Str → Option Value} {base : Heap} {nm : Nat → Str} {C D : Addr}
local macro_rules | `(tactic| walk_at "R") => `(tactic| solve_by_elim)
theorem Tab.tr {X : Cx} {N : List Str} {m : Nat} (T : Tab X N m) (pn : List (Addr × Obj)) (xe : Value → Shared → Prop) : Tab (X.tr pn xe) N m := ⟨T.eN, T.nd, T.loc, T.dbg, T.fn⟩
theorem Tab.suite {X : Cx} {N : List Str} {m : Nat} (T : Tab X N m) (a : Addr) (pn : List (Addr × Obj)) : Tab (X.suite a pn) N m := ⟨T.eN, T.nd, T.loc, T.dbg, T.fn⟩
def F_kind_at (nm : Nat → Str) : Ctx → Kin → List PyData → PyData → Kin → Prop := fun Cx κ ds d κ' => ∃ x p, ds = [.str (nm x), encP nm p] ∧ d = encR nm (kindAt κ x p) ∧ κ' = κ
theorem ok_kind_at (g : Good nm) (SC : ScC K C) (XN : Exn K mg "NoPart" D) (pl : PlM K C "kind_at" "Scope.kind_at" s_kind_at ["self", "name", "path"]) (Mk : CalM P w K mg base C "knows" 1 ["self", "name"] (RKn C)) (Cp : CalX P w K mg base "part_kind" 4 ["kind", "path"] D (R_part_kind nm)) :
    CalM P w K mg base C "kind_at" 5 ["self", "name", "path"] (RM nm C (F_kind_at nm)) := by
  refine okM 4 pl sc_kind_at (by decide +kernel) (by rintro _ _ _ _ ⟨_, _, _, _, _, _, _, ⟨_, _, rfl, _⟩, _⟩; rfl) ?_
  rintro f cdv A outer s H E Γ sc _ _ _ fz hr T ⟨Cx, κ, pk, κ', ⟨p, b, c, rfl⟩, hCx, hκ, ⟨x, pt, rfl, rfl, rfl⟩, rfl⟩
  have hu := hu_of hr
  have SC' : ScC K ((scoN nm Cx κ' pk).at_ C p b c).C := SC
  have hkx := sc_kind (C := C) g (Cx := Cx) (κ := κ') (pk := pk) (p := p) (b := b) (c := c) x
  have hCC : ((scoN nm Cx κ' pk).at_ C p b c).C = C := rfl
  have Mk' : CalM P w K mg base ((scoN nm Cx κ' pk).at_ C p b c).C "knows" 1 ["self", "name"] (RKn C) := Mk
  generalize hst : (scoN nm Cx κ' pk).at_ C p b c = st at SC' hkx hCC Mk' ⊢
  have RK : RKn C st [.str (nm x)] (.bool (st.kinds (.inr (nm x))).isSome) st.kinds := ⟨hCC, nm x, rfl, rfl, rfl⟩
  have hend : some (Sl.sc st) = some (.sc { st with kinds := kinOf nm κ' (encK nm) }) := by rw [← hst]; rfl
  refine SXs.reL (l' := [.sc st, .dat (.str (nm x)), .dat (encP nm pt), .no]) rfl ?_
  walk_at "S"
  case k5 =>
    cases e : κ' x with
    | none =>
      rw [e] at hkx
      refine' SXs.cons (SX.iteF (TX.eq ?a1 ?a2) ?a3)
      case a1 => walk_at "T"
      case a2 => rw [hkx]; rfl
      case a3 =>
        refine SXs.nil ?_
        walk_at "S"
        refine ⟨?_, hend⟩
        unfold kindAt
        rw [e]; rfl
    | some k0 =>
      rw [e] at hkx
      have hkx' : st.kinds (.inr (nm x)) = some (encK nm k0) := hkx
      have RP : R_part_kind nm [encK nm k0, encP nm pt] ((partK k0 pt).map (encK nm)) := ⟨k0, pt, hκ x k0 e, rfl, rfl⟩
      have eK : kindAt κ' x pt = partK k0 pt := by unfold kindAt; rw [e]; rfl
      rw [eK]
      refine' SXs.cons (SX.iteT (TX.eq ?b1 ?b2) ?b3)
      case b1 => walk_at "T"
      case b2 => rw [hkx]; rfl
      case b3 =>
        have fin : ∀ v, v = encR nm (partK k0 pt) → SXs (bx P w K mg base N_kind_at (Str.ofString "Scope.kind_at") s_kind_at f cdv A outer s H E) Γ ((defBody s_kind_at).drop 2) [.sc st, .dat (.str (nm x)), .dat (encP nm pt), .dat v] { nx := fun l => encR nm (partK k0 pt) = .none ∧ l[0]? = some (.sc { st with kinds := kinOf nm κ' (encK nm) }), rt := fun d' l => d' = encR nm (partK k0 pt) ∧ l[0]? = some (.sc { st with kinds := kinOf nm κ' (encK nm) }) } := by
          rintro v rfl
          walk_at "S"
          exact ⟨rfl, hend⟩
        refine' SXs.cons (SX.tryC (o := (partK k0 pt).map (encK nm)) (l1 := [.sc st, .dat (.str (nm x)), .dat (encP nm pt), .dat .none]) rfl rfl XN rfl ?b4 ?b5)
        case b4 =>
          intro W pn xe tk
          have T' := T.tr pn xe
          refine' SXr.setC tk Cp hr ?c1 rfl T' ?c2 ?c3 ?c4 RP ?c5
          case c1 => decide
          case c2 => walk_at "At"
          case c3 => decide
          case c4 => walk_at "A"
          case c5 =>
            intro d hd
            refine SXs.nil (fin d ?_)
            cases q : partK k0 pt with
            | none => rw [q] at hd; cases hd
            | some k2 => rw [q] at hd; cases hd; rfl
        case b5 =>
          intro en a pn
          have T' := T.suite a pn
          walk_at "S"
          case k5 =>
            refine SXs.nil (SXs.nil (fin .none ?_))
            cases q : partK k0 pt with
            | none => rfl
            | some k2 => rw [q] at en; cases en
end
section
variable {P : Program} {w : World} {K : PySem.W.Frag} {mg : Str → Option Value} {base : Heap} {nm : Nat → Str} {C D : Addr}
local macro_rules | `(tactic| walk_at "R") => `(tactic| solve_by_elim)
/-- all about a scope's place in a body -/
theorem handAll_zip {Cx : Ctx} {κ : Kin} : ∀ (ns : List Nat) (qs : List (Nat × Way × Kd)), handAll Cx κ ns qs = (decide (ns.length = qs.length) && (ns.zip qs).all fun z => mayHand Cx κ z.1 z.2.2.1 z.2.2.2)
  | [], [] => by simp [handAll]
  | [], _ :: _ => by simp [handAll]
  | _ :: _, [] => by simp [handAll]
  | n :: ns, q :: qs => by
    rw [handAll, handAll_zip ns qs]
    simp only [List.length_cons, List.zip_cons_cons, List.all_cons, Nat.add_right_cancel_iff]
    rw [Bool.and_left_comm]
theorem zip_fst {α β : Type} : ∀ {xs : List α} {ys : List β}, xs.length = ys.length → (xs.zip ys).map (·.1) = xs
  | [], [], _ => rfl
  | [], _ :: _, h => by cases h
  | _ :: _, [], h => by cases h
  | x :: xs, y :: ys, h => by rw [List.zip_cons_cons, List.map_cons, zip_fst (by simpa using h)]
theorem zip_snd {α β : Type} : ∀ {xs : List α} {ys : List β}, xs.length = ys.length → (xs.zip ys).map (·.2) = ys
  | [], [], _ => rfl
  | [], _ :: _, h => by cases h
  | _ :: _, [], h => by cases h
  | x :: xs, y :: ys, h => by rw [List.zip_cons_cons, List.map_cons, zip_snd (by simpa using h)]
def F_call (nm : Nat → Str) : Ctx → Kin → List PyData → PyData → Kin → Prop := fun Cx κ ds d κ' => ∃ z dr ns, (∀ z', z = some z' → z' < 10) ∧ ds = [encM nm (.call z dr ns)] ∧ d = .bool (call2 Cx κ z dr ns).1 ∧ κ' = (call2 Cx κ z dr ns).2
theorem ok_call_holds (g : Good nm) (SC : ScC K C) (B : Bi mg) (pl : Pl K mg "call_holds" s_call_holds ["scope", "one"]) (Mh : CalM P w K mg base C "may_hand" 2 ["self", "name", "way", "kind"] (RM nm C (F_hand nm))) (Mm : CalM P w K mg base C "may_make" 1 ["self", "name", "kind"] (RM nm C (F_may_make nm))) :
    CalS P w K mg base "call_holds" 3 ["scope", "one"] (RM nm C (F_call nm)) := by
  refine okS 5 pl sc_call_holds (by decide +kernel) (by rintro _ _ _ _ ⟨_, _, _, _, _, _, _, ⟨_, _, _, _, rfl, _⟩, _⟩; rfl) ?_
  rintro f cdv A outer s H E Γ sc _ _ _ fz hr T ⟨Cx, κ, pk, κ', ⟨p, b, c, rfl⟩, hCx, hκ, ⟨z, dr, ns, hz, rfl, rfl, rfl⟩, rfl⟩
  have hu := hu_of hr
  have SC' : ScC K ((scoN nm Cx κ pk).at_ C p b c).C := SC
  have hpap : ((scoN nm Cx κ pk).at_ C p b c).papers = .dict (dkD pk) := rfl
  have Mh' : CalM P w K mg base ((scoN nm Cx κ pk).at_ C p b c).C "may_hand" 2 ["self", "name", "way", "kind"] (RM nm C (F_hand nm)) := Mh
  have Mm' : CalM P w K mg base ((scoN nm Cx κ pk).at_ C p b c).C "may_make" 1 ["self", "name", "kind"] (RM nm C (F_may_make nm)) := Mm
  have hsame : ((scoN nm Cx κ pk).at_ C p b c).kinds = kinOf nm κ (encK nm) := rfl
  generalize hst : (scoN nm Cx κ pk).at_ C p b c = st at SC' hpap Mh' Mm' hsame ⊢
  have hend : some (Sl.sc st) = some (.sc { st with kinds := kinOf nm κ (encK nm) }) := by rw [← hsame]
  have RH : ∀ x wy k, isK k = true → RM nm C (F_hand nm) st [.str (nm x), encW wy, encK nm k] (.bool (mayHand Cx κ x wy k)) st.kinds := fun x wy k hk => ⟨Cx, κ, pk, κ, ⟨p, b, c, hst.symm⟩, hCx, hκ, ⟨x, wy, k, hk, rfl, rfl, rfl⟩, hsame⟩
  refine SXs.reL (l' := [.sc st, .dat (.tuple [.str "call", encZ nm z, .str (nm dr), .tuple (ns.map fun n => .str (nm n))]), .no, .no, .no]) (by rw [encM]; rfl) ?_
  have hp := hCx.pk dr
  cases e : Cx.papers dr with
  | none =>
    rw [e] at hp
    refine' SXs.cons (SX.iteT (TX.eq (TX.notInD (key := .inr (nm dr)) hu ?a1 (EX.eq ?a2 hpap) ?a3) ?a4) ?a5)
    case a1 => walk_at "E"
    case a2 => walk_at "E"
    case a3 => rfl
    case a4 => rw [hp]; rfl
    case a5 =>
      walk_at "S"
      unfold call2
      rw [e]
      exact ⟨rfl, hend⟩
  | some pp =>
    rw [e] at hp
    have hp' : valD pk (.inr (nm dr)) = some (encPaper nm pp) := hp
    obtain ⟨hsz, hpk⟩ := hCx.pl dr pp e
    have c2 : call2 Cx κ z dr ns = if handAll Cx κ ns pp.places = true then (match (generalizing := false) z with | none => (true, κ) | some z => match (generalizing := false) pp.res with | none => (false, κ) | some k => mk2 Cx κ z k) else (false, κ) := by
      unfold call2; rw [e]; try rfl
    refine' SXs.cons (SX.iteF (TX.eq (TX.notInD (key := .inr (nm dr)) hu ?b1 (EX.eq ?b2 hpap) ?b3) ?b4) ?b5)
    case b1 => walk_at "E"
    case b2 => walk_at "E"
    case b3 => rfl
    case b4 => rw [hp']; rfl
    case b5 =>
      refine SXs.nil ?_
      refine' SXs.cons (SX.st T ?c1 ?c2 (EX.getD (key := .inr (nm dr)) hu (EX.eq ?c3 hpap) ?c4 hp' ?c7) ?c5 ?c6)
      case c1 => walk_at "At"
      case c2 => decide
      case c3 => walk_at "E"
      case c4 => walk_at "E"
      case c6 => rfl
      case c7 => intro _ _; rfl
      case c5 =>
        have hi2 : ixD (encPaper nm pp) 2 = some (.tuple (pp.places.map (encPl nm))) := atI_nat' (j := 2) rfl
        have hi3 : ixD (encPaper nm pp) 3 = some (encR nm pp.res) := atI_nat' (j := 3) rfl
        refine SXs.reL (l' := [.sc st, .dat (.tuple [.str "call", encZ nm z, .str (nm dr), .tuple (ns.map fun n => .str (nm n))]), .dat (encPaper nm pp), .no, .no]) rfl ?_
        have e1 : lenD (.tuple (ns.map fun n => .str (nm n))) = (ns.length : Nat) := by simp [lenD]
        have e2 : lenD (.tuple (pp.places.map (encPl nm))) = (pp.places.length : Nat) := by simp [lenD]
        walk_at "S"
        case k2 =>
          intro hb
          have hb : ¬ ns.length = pp.places.length := by
            intro h
            have h2 : lenD (.tuple (ns.map fun n => .str (nm n))) = lenD (.tuple (pp.places.map (encPl nm))) := by rw [e1, e2, h]
            rw [decide_eq_true h2] at hb; cases hb
          walk_at "S"
          rw [c2, handAll_zip, decide_eq_false hb]
          exact ⟨rfl, hend⟩
        case k3 =>
          intro hb
          have hb : ns.length = pp.places.length := by
            have h2 : lenD (.tuple (ns.map fun n => .str (nm n))) = lenD (.tuple (pp.places.map (encPl nm))) := by
              rw [Bool.not_eq_false', decide_eq_true_eq] at hb; exact hb
            rw [e1, e2] at h2
            omega
          refine SXs.nil ?_
          have hA : handAll Cx κ ns pp.places = (ns.zip pp.places).all fun z => mayHand Cx κ z.1 z.2.2.1 z.2.2.2 := by rw [handAll_zip, decide_eq_true hb, Bool.true_and]
          refine' SXs.cons (SX.for (is := [3, 4]) (tv := itemsD) PassesOwn.never rfl ?d1 ?d2 ?W ?d3 ?d4 ?d5)
          case W => exact fun j l2 => ∃ a b, l2 = [.sc st, .dat (.tuple [.str "call", encZ nm z, .str (nm dr), .tuple (ns.map fun n => .str (nm n))]), .dat (encPaper nm pp), a, b] ∧ (((ns.zip pp.places).take j).all fun z => mayHand Cx κ z.1 z.2.2.1 z.2.2.2) = true
          case d1 =>
            have f1 : (ns.zip pp.places).map (fun q => PyData.str (nm q.1)) = ns.map fun n => .str (nm n) := by
              rw [show (fun q : Nat × Nat × Way × Kd => PyData.str (nm q.1)) = (fun n => PyData.str (nm n)) ∘ (·.1) from rfl, ← List.map_map, zip_fst hb]
            have f2 : (ns.zip pp.places).map (fun q => encPl nm q.2) = pp.places.map (encPl nm) := by
              rw [show (fun q : Nat × Nat × Way × Kd => encPl nm q.2) = encPl nm ∘ (·.2) from rfl, ← List.map_map, zip_snd hb]
            refine' IX.zipT (xs := ns.zip pp.places) (f := fun q => .str (nm q.1)) (g := fun q => encPl nm q.2) B ?dz
            case dz =>
              rw [f1, f2]
              walk_at "A"
          case d2 => exact GX.tupM (n := 2) rfl (GsX.nm T (by walk_at "At") (by decide) (GsX.nm T (by walk_at "At") (by decide) GsX.nil)) (fun _ => rfl)
          case d3 => exact ⟨.no, .no, rfl, rfl⟩
          case d4 =>
            rintro j d l2 hd ⟨a, b', rfl, ha⟩
            rw [List.getElem?_map] at hd
            cases hx : (ns.zip pp.places)[j]? with
            | none => rw [hx] at hd; cases hd
            | some q =>
              rw [hx] at hd
              cases hd
              have hm := List.mem_of_getElem? hx
              obtain ⟨x, y, wy, k⟩ := q
              have hk : isK k = true := hpk (y, wy, k) (List.of_mem_zip hm).2
              have RH' := RH x wy k hk
              refine SXs.reL (l' := [.sc st, .dat (.tuple [.str "call", encZ nm z, .str (nm dr), .tuple (ns.map fun n => .str (nm n))]), .dat (encPaper nm pp), .dat (.str (nm x)), .dat (.tuple [.str (nm y), encW wy, encK nm k])]) rfl ?_
              walk_at "S"
              case k2 =>
                intro hb2
                walk_at "S"
                rw [c2, hA]
                have : ((ns.zip pp.places).all fun z => mayHand Cx κ z.1 z.2.2.1 z.2.2.2) = false := by
                  cases q : ((ns.zip pp.places).all fun z => mayHand Cx κ z.1 z.2.2.1 z.2.2.2) with
                  | false => rfl
                  | true =>
                    rw [List.all_eq_true] at q
                    have := q _ hm
                    simp only at this
                    rw [this] at hb2; cases hb2
                rw [this]
                exact ⟨rfl, hend⟩
              case k3 =>
                intro hb2
                refine SXs.nil (SXs.nil ⟨_, _, rfl, ?_⟩)
                rw [all_take_succ hx, ha]
                simpa using hb2
          case d5 =>
            rintro l2 ⟨a, b', rfl, ha⟩
            rw [List.length_map, List.take_length] at ha
            rw [c2, hA, if_pos ha]
            cases z with
            | none =>
              refine SXs.reL (l' := [.sc st, .dat (.tuple [.str "call", .none, .str (nm dr), .tuple (ns.map fun n => .str (nm n))]), .dat (encPaper nm pp), a, b']) rfl ?_
              walk_at "S"
              case k2 =>
                intro _
                walk_at "S"
                exact ⟨rfl, hend⟩
              case k3 => intro h; cases (show true = false from h)
            | some z =>
              refine SXs.reL (l' := [.sc st, .dat (.tuple [.str "call", .str (nm z), .str (nm dr), .tuple (ns.map fun n => .str (nm n))]), .dat (encPaper nm pp), a, b']) rfl ?_
              walk_at "S"
              case k2 => intro h; cases (show false = true from h)
              case k3 =>
                intro _
                refine SXs.nil ?_
                cases er : pp.res with
                | none =>
                  rw [er] at hi3
                  have hi3 : ixD (encPaper nm pp) 3 = some .none := hi3
                  refine' SXs.cons (SX.ret (EX.andF (EX.eq (d' := .bool false) ?e1 ?e2)) ?e3)
                  case e1 => walk_at "E"
                  case e2 => first | rfl | (rw [er]; rfl)
                  case e3 => exact ⟨rfl, hend⟩
                | some k =>
                  rw [er] at hi3
                  have hi3 : ixD (encPaper nm pp) 3 = some (encK nm k) := hi3
                  have RM' : RM nm C (F_may_make nm) st [.str (nm z), encK nm k] (.bool (mk2 Cx κ z k).1) (kinOf nm (mk2 Cx κ z k).2 (encK nm)) := ⟨Cx, κ, pk, _, ⟨p, b, c, hst.symm⟩, hCx, hκ, ⟨z, k, hz z rfl, hCx.pr dr pp k e er, rfl, rfl, rfl⟩, rfl⟩
                  refine' SXs.cons (SX.ret (EX.andT (EX.eq (d' := .bool true) ?f1 ?f2) (EX.one (EX.scMeth (pl := ?fp) SC' Mm' hr ?f3 T ?f4 ?f5 ?f6 ?f7 RM' ?f8 ?f9 ?f10 ?f11))) ?f12)
                  case f1 => walk_at "E"
                  case f2 =>
                    try rw [er]
                    show PyData.bool (!isN (encK nm k)) = _
                    rw [isN_encK]; rfl
                  case f3 => decide
                  case f4 => walk_at "At"
                  case f5 => decide
                  case f6 => rfl
                  case f7 => walk_at "A"
                  case f8 => exact ⟨rfl, rfl, rfl, rfl⟩
                  case f9 => rfl
                  case f10 => rfl
                  case f11 => rfl
                  case f12 => exact ⟨rfl, rfl⟩
end
section
variable {P : Program} {w : World} {K : PySem.W.Frag} {mg : Str → Option Value} {base : Heap} {nm : Nat → Str} {C D : Addr}
local macro_rules | `(tactic| walk_at "R") => `(tactic| solve_by_elim)
def making : Sm → Bool
  | .new _ _ _ => true
  | .copy _ _ => true
  | .part _ _ _ => true
  | _ => false
def changing : Sm → Bool
  | .put _ _ _ => true
  | .add _ _ _ => true
  | _ => false
def taking : Sm → Bool
  | .drop _ => true
  | .say _ => true
  | .back _ => true
  | _ => false
/-- a group of statements -/
def F_of (nm : Nat → Str) (p : Sm → Bool) : Ctx → Kin → List PyData → PyData → Kin → Prop := fun Cx κ ds d κ' => ∃ n t, p t = true ∧ isSm n t = true ∧ ds = [encM nm t] ∧ d = .bool (stB Cx κ t).1 ∧ κ' = (stB Cx κ t).2
theorem ok_making_holds (g : Good nm) (SC : ScC K C) (pl : Pl K mg "making_holds" s_making_holds ["scope", "one"]) (Ma : CalM P w K mg base C "kind_at" 5 ["self", "name", "path"] (RM nm C (F_kind_at nm))) (Mm : CalM P w K mg base C "may_make" 1 ["self", "name", "kind"] (RM nm C (F_may_make nm))) :
    CalS P w K mg base "making_holds" 6 ["scope", "one"] (RM nm C (F_of nm making)) := by
  refine okS 4 pl sc_making_holds (by decide +kernel) (by rintro _ _ _ _ ⟨_, _, _, _, _, _, _, ⟨_, _, _, _, rfl, _⟩, _⟩; rfl) ?_
  rintro f cdv A outer s H E Γ sc _ _ _ fz hr T ⟨Cx, κ, pk, κ', ⟨p, b, c, rfl⟩, hCx, hκ, ⟨n, t, ht, hsm, rfl, rfl, rfl⟩, rfl⟩
  have hu := hu_of hr
  have SC' : ScC K ((scoN nm Cx κ pk).at_ C p b c).C := SC
  have Ma' : CalM P w K mg base ((scoN nm Cx κ pk).at_ C p b c).C "kind_at" 5 ["self", "name", "path"] (RM nm C (F_kind_at nm)) := Ma
  have Mm' : CalM P w K mg base ((scoN nm Cx κ pk).at_ C p b c).C "may_make" 1 ["self", "name", "kind"] (RM nm C (F_may_make nm)) := Mm
  have hsame : ((scoN nm Cx κ pk).at_ C p b c).kinds = kinOf nm κ (encK nm) := rfl
  generalize hst : (scoN nm Cx κ pk).at_ C p b c = st at SC' Ma' Mm' hsame ⊢
  have hend : some (Sl.sc st) = some (.sc { st with kinds := kinOf nm κ (encK nm) }) := by rw [← hsame]
  have RA : ∀ x pt, RM nm C (F_kind_at nm) st [.str (nm x), encP nm pt] (encR nm (kindAt κ x pt)) st.kinds := fun x pt => ⟨Cx, κ, pk, κ, ⟨p, b, c, hst.symm⟩, hCx, hκ, ⟨x, pt, rfl, rfl, rfl⟩, hsame⟩
  have RK : ∀ x k, x < 10 → isK k = true → RM nm C (F_may_make nm) st [.str (nm x), encK nm k] (.bool (mk2 Cx κ x k).1) (kinOf nm (mk2 Cx κ x k).2 (encK nm)) := fun x k hx hk => ⟨Cx, κ, pk, _, ⟨p, b, c, hst.symm⟩, hCx, hκ, ⟨x, k, hx, hk, rfl, rfl, rfl⟩, rfl⟩
  -- behind the path
  have rest : ∀ (x y : Nat) (pt : List Stp) (one : PyData), x < 10 → ixD one 1 = some (.str (nm x)) → ixD one 2 = some (.str (nm y)) → (∀ z, one = .str z → z.length ≤ sizeLine) →
      SXs (bx P w K mg base N_making_holds (Str.ofString "making_holds") s_making_holds f cdv A outer s H E) Γ ((defBody s_making_holds).drop 3) [.sc st, .dat one, .dat (encP nm pt), .no] { nx := fun l => PyData.bool (makeOf2 Cx κ x y pt).1 = .none ∧ l[0]? = some (.sc { st with kinds := kinOf nm (makeOf2 Cx κ x y pt).2 (encK nm) }), rt := fun d' l => d' = .bool (makeOf2 Cx κ x y pt).1 ∧ l[0]? = some (.sc { st with kinds := kinOf nm (makeOf2 Cx κ x y pt).2 (encK nm) }) } := by
    intro x y pt one hx i1 i2 hstr
    have RA' := RA y pt
    refine' SXs.cons (SX.st T ?a1 ?a2 (EX.scMethQ (pl := ?ap) SC' Ma' hr ?a3 T ?a4 ?a5 ?a6 (AX.cons (EX.ix ?a7 EX.int i2 hstr ?a8) (AX.cons ?a9 AX.nil ?a10) ?a11) RA' ?a12 ?a13 ?a14 ?a15) ?a16 ?a17)
    case a1 => walk_at "At"
    case a2 => decide
    case a3 => decide
    case a4 => walk_at "At"
    case a5 => decide
    case a6 => rfl
    case a7 => walk_at "E"
    case a8 => intro _ _; rfl
    case a9 => walk_at "E"
    case a10 => rfl
    case a11 => rfl
    case a12 => exact ⟨rfl, rfl, rfl, rfl⟩
    case a13 => rfl
    case a14 => rfl
    case a15 => rfl
    case a17 => rfl
    case a16 =>
      refine SXs.reL (l' := [.sc st, .dat one, .dat (encP nm pt), .dat (encR nm (kindAt κ y pt))]) rfl ?_
      cases e : kindAt κ y pt with
      | none =>
        have e2 : makeOf2 Cx κ x y pt = (false, κ) := by unfold makeOf2; rw [e]
        rw [e2]
        refine' SXs.cons (SX.ret (EX.andF (EX.eq (d' := .bool false) ?b1 ?b2)) ?b3)
        case b1 => walk_at "E"
        case b2 => rfl
        case b3 => exact ⟨rfl, hend⟩
      | some k =>
        have e2 : makeOf2 Cx κ x y pt = mk2 Cx κ x k := by unfold makeOf2; rw [e]
        rw [e2]
        have RK' := RK x k hx (kindAt_ok hκ e)
        refine' SXs.cons (SX.ret (EX.andT (EX.eq (d' := .bool true) ?c1 ?c2) (EX.one (EX.scMeth (pl := ?cp) SC' Mm' hr ?c3 T ?c4 ?c5 ?c6 (AX.cons (EX.ix ?c7 EX.int i1 hstr ?c8) (AX.cons ?c9 AX.nil ?c10) ?c11) RK' ?c12 ?c13 ?c14 ?c15))) ?c16)
        case c1 => walk_at "E"
        case c2 =>
          show PyData.bool (!isN (encK nm k)) = _
          rw [isN_encK]; rfl
        case c3 => decide
        case c4 => walk_at "At"
        case c5 => decide
        case c6 => rfl
        case c7 => walk_at "E"
        case c8 => intro _ _; rfl
        case c9 => walk_at "E"
        case c10 => rfl
        case c11 => rfl
        case c12 => exact ⟨rfl, rfl, rfl, rfl⟩
        case c13 => rfl
        case c14 => rfl
        case c15 => rfl
        case c16 => exact ⟨rfl, rfl⟩
  refine SXs.reL (l' := [.sc st, .dat (encM nm t), .no, .no]) rfl ?_
  cases t with
  | new x k s0 =>
    rw [isSm, Bool.and_eq_true, decide_eq_true_eq] at hsm
    have RK' := RK x k hsm.1 hsm.2
    rw [stB]
    walk_at "M"
    refine' SXs.cons (SX.iteT (TX.eq (b := decide (("new" : Str) = "new")) ?d1 rfl) ?d2)
    case d1 => walk_at "T"
    case d2 =>
      refine' SXs.cons (SX.ret ?d3 ?d4)
      case d3 => walk_at "SM"
      case d4 => exact ⟨rfl, rfl⟩
  | copy x y =>
    rw [isSm, Bool.and_eq_true, decide_eq_true_eq, decide_eq_true_eq] at hsm
    rw [stB]
    walk_at "M"
    refine' SXs.cons (SX.iteF (TX.eq (b := decide (("copy" : Str) = "new")) ?e1 (by decide)) ?e2)
    case e1 => walk_at "T"
    case e2 =>
      refine SXs.nil ?_
      refine' SXs.cons (SX.st T ?e3 ?e4 (EX.tup AX.nil ?e5) ?e6 ?e7)
      case e3 => walk_at "At"
      case e4 => decide
      case e5 => decide
      case e7 => rfl
      case e6 =>
        refine' SXs.cons (SX.iteF (TX.eq (b := decide (("copy" : Str) = "part")) ?e8 (by decide)) ?e9)
        case e8 => walk_at "T"
        case e9 =>
          refine SXs.nil ?_
          exact rest x y [] _ hsm.1 rfl rfl (fun z q => by cases q)
  | part x y pt =>
    rw [isSm, Bool.and_eq_true, decide_eq_true_eq, decide_eq_true_eq] at hsm
    rw [stB]
    walk_at "M"
    refine' SXs.cons (SX.iteF (TX.eq (b := decide (("part" : Str) = "new")) ?f1 (by decide)) ?f2)
    case f1 => walk_at "T"
    case f2 =>
      refine SXs.nil ?_
      refine' SXs.cons (SX.st T ?f3 ?f4 (EX.tup AX.nil ?f5) ?f6 ?f7)
      case f3 => walk_at "At"
      case f4 => decide
      case f5 => decide
      case f7 => rfl
      case f6 =>
        refine' SXs.cons (SX.iteT (TX.eq (b := decide (("part" : Str) = "part")) ?f8 (by decide)) ?f9)
        case f8 => walk_at "T"
        case f9 =>
          walk_at "S"
          case k5 =>
            refine SXs.nil ?_
            exact rest x y pt _ hsm.1 rfl rfl (fun z q => by cases q)
  | _ => cases ht
open Classical in
theorem ok_changing_holds (g : Good nm) (SC : ScC K C) (pl : Pl K mg "changing_holds" s_changing_holds ["scope", "one"]) (Mk : CalM P w K mg base C "knows" 1 ["self", "name"] (RKn C)) (Mc : CalM P w K mg base C "may_change" 2 ["self", "name"] (RM nm C (F_change nm))) (Ma : CalM P w K mg base C "kind_at" 5 ["self", "name", "path"] (RM nm C (F_kind_at nm))) :
    CalS P w K mg base "changing_holds" 6 ["scope", "one"] (RM nm C (F_of nm changing)) := by
  refine okS 3 pl sc_changing_holds (by decide +kernel) (by rintro _ _ _ _ ⟨_, _, _, _, _, _, _, ⟨_, _, _, _, rfl, _⟩, _⟩; rfl) ?_
  rintro f cdv A outer s H E Γ sc _ _ _ fz hr T ⟨Cx, κ, pk, κ', ⟨p, b, c, rfl⟩, hCx, hκ, ⟨n, t, ht, hsm, rfl, rfl, rfl⟩, rfl⟩
  have hu := hu_of hr
  have SC' : ScC K ((scoN nm Cx κ pk).at_ C p b c).C := SC
  have Ma' : CalM P w K mg base ((scoN nm Cx κ pk).at_ C p b c).C "kind_at" 5 ["self", "name", "path"] (RM nm C (F_kind_at nm)) := Ma
  have Mc' : CalM P w K mg base ((scoN nm Cx κ pk).at_ C p b c).C "may_change" 2 ["self", "name"] (RM nm C (F_change nm)) := Mc
  have Mk' : CalM P w K mg base ((scoN nm Cx κ pk).at_ C p b c).C "knows" 1 ["self", "name"] (RKn C) := Mk
  have hsame : ((scoN nm Cx κ pk).at_ C p b c).kinds = kinOf nm κ (encK nm) := rfl
  have hCC : ((scoN nm Cx κ pk).at_ C p b c).C = C := rfl
  have hkx := fun x => sc_kind (C := C) g (Cx := Cx) (κ := κ) (pk := pk) (p := p) (b := b) (c := c) x
  generalize hst : (scoN nm Cx κ pk).at_ C p b c = st at SC' Ma' Mc' Mk' hsame hCC hkx ⊢
  have hend : some (Sl.sc st) = some (.sc { st with kinds := kinOf nm κ (encK nm) }) := by rw [← hsame]
  have RA : ∀ x pt, RM nm C (F_kind_at nm) st [.str (nm x), encP nm pt] (encR nm (kindAt κ x pt)) st.kinds := fun x pt => ⟨Cx, κ, pk, κ, ⟨p, b, c, hst.symm⟩, hCx, hκ, ⟨x, pt, rfl, rfl, rfl⟩, hsame⟩
  have RC : ∀ x, RM nm C (F_change nm) st [.str (nm x)] (.bool (mayChange Cx κ x)) st.kinds := fun x => ⟨Cx, κ, pk, κ, ⟨p, b, c, hst.symm⟩, hCx, hκ, ⟨x, rfl, rfl, rfl⟩, hsame⟩
  have RK : ∀ x, RKn C st [.str (nm x)] (.bool (knows κ x)) st.kinds := fun x => ⟨hCC, nm x, rfl, by rw [hkx, Option.isSome_map]; rfl, rfl⟩
  have eqR : ∀ y pt k, isKW 6 k = true → SeqAt.shaped (encR nm (kindAt κ y pt)) = true ∧ PyData.eqv (encR nm (kindAt κ y pt)) (encK nm k) = decide (kindAt κ y pt = some k) := fun y pt k hk => by
    cases e : kindAt κ y pt with
    | none =>
      refine ⟨by show SeqAt.shaped .none = true; decide +kernel, ?_⟩
      rw [decide_eq_false (by intro z; cases z)]
      cases k <;> (rw [encK]; rfl)
    | some k0 =>
      refine ⟨shaped_encK g (isKW_mono (kindAt_ok hκ e)), ?_⟩
      show PyData.eqv (encK nm k0) _ = _
      rw [encK_eqv g]
      by_cases z : k0 = k
      · rw [decide_eq_true z, decide_eq_true (by rw [z])]
      · rw [decide_eq_false z, decide_eq_false (fun q => z (Option.some.inj q))]
  refine SXs.reL (l' := [.sc st, .dat (encM nm t), .no]) rfl ?_
  cases t with
  | put y pt x =>
    rw [stB]
    walk_at "M"
    walk_at "S"
    case k2 =>
      intro hb
      walk_at "S"
      refine ⟨?_, hend⟩
      unfold changeOk
      cases h1 : knows κ x with
      | false => rw [show (κ x).isSome = false from h1]; rfl
      | true =>
        rw [h1] at hb
        have h2 : mayChange Cx κ y = false := by cases q : mayChange Cx κ y with | false => rfl | true => rw [q] at hb; cases hb
        rw [h2, Bool.and_false]; rfl
    case k3 =>
      intro hb
      rw [Bool.or_eq_false_iff, Bool.not_eq_false', Bool.not_eq_false'] at hb
      refine SXs.nil ?_
      obtain ⟨k, hk⟩ : ∃ k, κ x = some k := Option.isSome_iff_exists.mp (show (κ x).isSome = true from hb.1)
      have hkx' : st.kinds (.inr (nm x)) = some (encK nm k) := by rw [hkx, hk]; rfl
      have hk6 := isKW_mono (hκ x k hk)
      walk_at "S"
      case k5 =>
        refine' SXs.cons (SX.iteF (TX.eq (b := decide (("put" : Str) = "add")) ?a1 (by decide)) ?a2)
        case a1 => walk_at "T"
        case a2 =>
          refine SXs.nil ?_
          refine' SXs.cons (SX.ret (EX.cmp ?a3 ?a4 (opEq hr.units (eqR y pt k hk6).1 (shaped_encK g hk6)) ?a5) ?a6)
          case a3 => walk_at "E"
          case a4 => walk_at "E"
          case a5 => rfl
          case a6 =>
            refine ⟨?_, hend⟩
            rw [(eqR y pt k hk6).2]
            unfold changeOk
            rw [hk, hb.2]; rfl
  | add y pt x =>
    rw [stB]
    walk_at "M"
    walk_at "S"
    case k2 =>
      intro hb
      walk_at "S"
      refine ⟨?_, hend⟩
      unfold changeOk
      cases h1 : knows κ x with
      | false =>
        have h1 : (κ x).isSome = false := h1
        rw [Option.isSome_map, h1]; rfl
      | true =>
        rw [h1] at hb
        have h2 : mayChange Cx κ y = false := by cases q : mayChange Cx κ y with | false => rfl | true => rw [q] at hb; cases hb
        rw [h2, Bool.and_false]; rfl
    case k3 =>
      intro hb
      rw [Bool.or_eq_false_iff, Bool.not_eq_false', Bool.not_eq_false'] at hb
      refine SXs.nil ?_
      obtain ⟨k, hk⟩ : ∃ k, κ x = some k := Option.isSome_iff_exists.mp (show (κ x).isSome = true from hb.1)
      have hkx' : st.kinds (.inr (nm x)) = some (encK nm k) := by rw [hkx, hk]; rfl
      have hk6 : isKW 6 (.row k) = true := by rw [isKW]; exact hκ x k hk
      walk_at "S"
      case k5 =>
        refine' SXs.cons (SX.iteT (TX.eq (b := decide (("add" : Str) = "add")) ?b1 (by decide)) ?b2)
        case b1 => walk_at "T"
        case b2 =>
          walk_at "S"
          case k5 =>
            refine SXs.nil ?_
            have er : encK nm (.row k) = .tuple [.str "row", encK nm k] := by rw [encK]
            refine' SXs.cons (SX.ret (EX.cmp ?b3 ?b4 (opEq hr.units (eqR y pt (.row k) hk6).1 (er ▸ shaped_encK g hk6)) ?b5) ?b6)
            case b3 => walk_at "E"
            case b4 => walk_at "E"
            case b5 => rfl
            case b6 =>
              refine ⟨?_, hend⟩
              rw [← er, (eqR y pt (.row k) hk6).2]
              unfold changeOk
              rw [hk, hb.2]; rfl
  | _ => cases ht
open Classical in
theorem ok_taking_holds (g : Good nm) (SC : ScC K C) (pl : Pl K mg "taking_holds" s_taking_holds ["scope", "one"]) (Mk : CalM P w K mg base C "knows" 1 ["self", "name"] (RKn C)) (Mt : CalM P w K mg base C "may_take" 2 ["self", "name"] (RM nm C (F_take nm))) :
    CalS P w K mg base "taking_holds" 3 ["scope", "one"] (RM nm C (F_of nm taking)) := by
  refine okS 2 pl sc_taking_holds (by decide +kernel) (by rintro _ _ _ _ ⟨_, _, _, _, _, _, _, ⟨_, _, _, _, rfl, _⟩, _⟩; rfl) ?_
  rintro f cdv A outer s H E Γ sc _ _ _ fz hr T ⟨Cx, κ, pk, κ', ⟨p, b, c, rfl⟩, hCx, hκ, ⟨n, t, ht, hsm, rfl, rfl, rfl⟩, rfl⟩
  have hu := hu_of hr
  have SC' : ScC K ((scoN nm Cx κ pk).at_ C p b c).C := SC
  have Mt' : CalM P w K mg base ((scoN nm Cx κ pk).at_ C p b c).C "may_take" 2 ["self", "name"] (RM nm C (F_take nm)) := Mt
  have Mk' : CalM P w K mg base ((scoN nm Cx κ pk).at_ C p b c).C "knows" 1 ["self", "name"] (RKn C) := Mk
  have hsame : ((scoN nm Cx κ pk).at_ C p b c).kinds = kinOf nm κ (encK nm) := rfl
  have hCC : ((scoN nm Cx κ pk).at_ C p b c).C = C := rfl
  have hres : ((scoN nm Cx κ pk).at_ C p b c).res = encR nm Cx.res := rfl
  have hkx := fun x => sc_kind (C := C) g (Cx := Cx) (κ := κ) (pk := pk) (p := p) (b := b) (c := c) x
  generalize hst : (scoN nm Cx κ pk).at_ C p b c = st at SC' Mt' Mk' hsame hCC hkx hres ⊢
  have hend : some (Sl.sc st) = some (.sc { st with kinds := kinOf nm κ (encK nm) }) := by rw [← hsame]
  have RT : ∀ x, RM nm C (F_take nm) st [.str (nm x)] (.bool (mayTake Cx κ x)) st.kinds := fun x => ⟨Cx, κ, pk, κ, ⟨p, b, c, hst.symm⟩, hCx, hκ, ⟨x, rfl, rfl, rfl⟩, hsame⟩
  have RK : ∀ x, RKn C st [.str (nm x)] (.bool (knows κ x)) st.kinds := fun x => ⟨hCC, nm x, rfl, by rw [hkx, Option.isSome_map]; rfl, rfl⟩
  refine SXs.reL (l' := [.sc st, .dat (encM nm t)]) rfl ?_
  cases t with
  | say x =>
    rw [stB]
    walk_at "M"
    walk_at "go"
    exact ⟨rfl, hend⟩
  | drop x =>
    rw [stB]
    walk_at "M"
    walk_at "go"
    exact ⟨rfl, hend⟩
  | back x =>
    rw [stB]
    walk_at "M"
    refine' SXs.cons (SX.iteF (TX.eq (b := decide (("back" : Str) = "say")) ?a1 (by decide)) ?a2)
    case a1 => walk_at "T"
    case a2 =>
      refine SXs.nil ?_
      refine' SXs.cons (SX.iteF (TX.eq (b := decide (("back" : Str) = "drop")) ?a3 (by decide)) ?a4)
      case a3 => walk_at "T"
      case a4 =>
        refine SXs.nil ?_
        have RT' := RT x
        cases hb : mayTake Cx κ x with
        | false =>
          rw [hb] at RT'
          refine' SXs.cons (SX.ret (EX.andF ?a5) ?a6)
          case a5 => walk_at "E"
          case a6 => exact ⟨rfl, hend⟩
        | true =>
          rw [hb] at RT'
          have hkn : (κ x).isSome = true := by
            unfold mayTake knows at hb
            rw [Bool.and_eq_true] at hb
            exact hb.1
          obtain ⟨k, hk⟩ := Option.isSome_iff_exists.mp hkn
          have hkx' : st.kinds (.inr (nm x)) = some (encK nm k) := by rw [hkx, hk]; rfl
          have hk6 := isKW_mono (hκ x k hk)
          have eR : SeqAt.shaped st.res = true ∧ PyData.eqv (encK nm k) st.res = decide (κ x = Cx.res) := by
            rw [hres, hk]
            cases e : Cx.res with
            | none =>
              refine ⟨by show SeqAt.shaped .none = true; decide +kernel, ?_⟩
              rw [decide_eq_false (by intro z; cases z)]
              cases k <;> (rw [encK]; rfl)
            | some k0 =>
              refine ⟨shaped_encK g (isKW_mono (hCx.res k0 e)), ?_⟩
              show PyData.eqv (encK nm k) (encK nm k0) = _
              rw [encK_eqv g]
              by_cases z : k = k0
              · rw [decide_eq_true z, decide_eq_true (by rw [z])]
              · rw [decide_eq_false z, decide_eq_false (fun q => z (Option.some.inj q))]
          refine' SXs.cons (SX.ret (EX.andT ?b1 (EX.one (EX.cmp ?b2 ?b3 (opEq hr.units (shaped_encK g hk6) eR.1) ?b4))) ?b5)
          case b1 => walk_at "E"
          case b2 => walk_at "E"
          case b3 => walk_at "E"
          case b4 => rfl
          case b5 =>
            rw [eR.2]
            exact ⟨by rw [Bool.true_and], hend⟩
  | _ => cases ht
end
section
variable {P : Program} {w : World} {K : PySem.W.Frag} {mg : Str → Option Value} {base : Heap} {nm : Nat → Str} {C D : Addr}
local macro_rules | `(tactic| walk_at "R") => `(tactic| solve_by_elim)
def F_stmt (nm : Nat → Str) (n : Nat) : Ctx → Kin → List PyData → PyData → Kin → Prop := fun Cx κ ds d κ' => ∃ t, isSm n t = true ∧ ds = [encM nm t] ∧ d = .bool (stB Cx κ t).1 ∧ κ' = (stB Cx κ t).2
def F_body (nm : Nat → Str) (n : Nat) : Ctx → Kin → List PyData → PyData → Kin → Prop := fun Cx κ ds d κ' => ∃ b, isSms n b = true ∧ ds = [.tuple (encMs nm b)] ∧ d = .bool (bodyB Cx κ b).1 ∧ κ' = (bodyB Cx κ b).2
def F_below (nm : Nat → Str) (n : Nat) : Ctx → Kin → List PyData → PyData → Kin → Prop := fun Cx κ ds d κ' => ∃ b, n ≠ 0 ∧ isSms (n - 1) b = true ∧ ds = [.tuple (encMs nm b)] ∧ d = .bool (bodyB Cx κ b).1 ∧ κ' = (bodyB Cx κ b).2
theorem ok_bodyNone (pl : Pl K mg "body_holds" s_body_holds ["scope", "body"]) : CalS P w K mg base "body_holds" 7 ["scope", "body"] (RM nm C (F_below nm 0)) := by
  refine okS 3 pl sc_body_holds (by decide +kernel) (by rintro _ _ _ _ ⟨_, _, _, _, _, _, _, ⟨_, _, _, rfl, _⟩, _⟩; rfl) ?_
  rintro f cdv A outer s H E Γ sc _ _ _ fz hr T ⟨_, _, _, _, _, _, _, ⟨_, h, _⟩, _⟩
  exact absurd rfl h
open Classical in
theorem ok_statement_holds (g : Good nm) (n : Nat) (SC : ScC K C) (pl : Pl K mg "statement_holds" s_statement_holds ["scope", "one"]) (Mk : CalM P w K mg base C "knows" 1 ["self", "name"] (RKn C)) (Cm : CalS P w K mg base "making_holds" 6 ["scope", "one"] (RM nm C (F_of nm making))) (Cc : CalS P w K mg base "changing_holds" 6 ["scope", "one"] (RM nm C (F_of nm changing)))
    (Ct : CalS P w K mg base "taking_holds" 3 ["scope", "one"] (RM nm C (F_of nm taking))) (Cl : CalS P w K mg base "call_holds" 3 ["scope", "one"] (RM nm C (F_call nm))) (Cb : CalS P w K mg base "body_holds" (2 * n + 7) ["scope", "body"] (RM nm C (F_below nm n))) :
    CalS P w K mg base "statement_holds" (2 * n + 8) ["scope", "one"] (RM nm C (F_stmt nm n)) := by
  refine okS 3 pl sc_statement_holds (by decide +kernel) (by rintro _ _ _ _ ⟨_, _, _, _, _, _, _, ⟨_, _, rfl, _⟩, _⟩; rfl) ?_
  rintro f cdv A outer s H E Γ sc _ _ _ fz hr T ⟨Cx, κ, pk, κ', ⟨p, b, c, rfl⟩, hCx, hκ, ⟨t, hsm, rfl, rfl, rfl⟩, rfl⟩
  have hu := hu_of hr
  have SC' : ScC K ((scoN nm Cx κ pk).at_ C p b c).C := SC
  have Mk' : CalM P w K mg base ((scoN nm Cx κ pk).at_ C p b c).C "knows" 1 ["self", "name"] (RKn C) := Mk
  have hsame : ((scoN nm Cx κ pk).at_ C p b c).kinds = kinOf nm κ (encK nm) := rfl
  have hCC : ((scoN nm Cx κ pk).at_ C p b c).C = C := rfl
  have hwith : ∀ κ1, { ((scoN nm Cx κ pk).at_ C p b c) with kinds := kinOf nm κ1 (encK nm) } = (scoN nm Cx κ1 pk).at_ C p b c := fun _ => rfl
  have hkx := fun x => sc_kind (C := C) g (Cx := Cx) (κ := κ) (pk := pk) (p := p) (b := b) (c := c) x
  generalize hst : (scoN nm Cx κ pk).at_ C p b c = st at SC' Mk' hsame hCC hkx hwith ⊢
  have hend : some (Sl.sc st) = some (.sc { st with kinds := kinOf nm κ (encK nm) }) := by rw [← hsame]
  have RK : ∀ x, RKn C st [.str (nm x)] (.bool (knows κ x)) st.kinds := fun x => ⟨hCC, nm x, rfl, by rw [hkx, Option.isSome_map]; rfl, rfl⟩
  have RG : ∀ q : Sm → Bool, q t = true → RM nm C (F_of nm q) st [encM nm t] (.bool (stB Cx κ t).1) (kinOf nm (stB Cx κ t).2 (encK nm)) := fun q hq => ⟨Cx, κ, pk, _, ⟨p, b, c, hst.symm⟩, hCx, hκ, ⟨n, t, hq, hsm, rfl, rfl, rfl⟩, rfl⟩
  have RB : ∀ κ1 b', KinOk κ1 → n ≠ 0 → isSms (n - 1) b' = true → RM nm C (F_below nm n) { st with kinds := kinOf nm κ1 (encK nm) } [.tuple (encMs nm b')] (.bool (bodyB Cx κ1 b').1) (kinOf nm (bodyB Cx κ1 b').2 (encK nm)) := fun κ1 b' h1 h0 h2 => ⟨Cx, κ1, pk, _, ⟨p, b, c, hwith κ1⟩, hCx, h1, ⟨b', h0, h2, rfl, rfl, rfl⟩, rfl⟩
  have hst' : st = { st with kinds := kinOf nm κ (encK nm) } := by rw [← hsame]
  have RB0 : ∀ b', n ≠ 0 → isSms (n - 1) b' = true → RM nm C (F_below nm n) st [.tuple (encMs nm b')] (.bool (bodyB Cx κ b').1) (kinOf nm (bodyB Cx κ b').2 (encK nm)) := fun b' h0 h2 => by
    have := RB κ b' hκ h0 h2
    rwa [← hst'] at this
  refine SXs.reL (l' := [.sc st, .dat (encM nm t), .no]) rfl ?_
  cases t with
  | new x k s0 =>
    have R' := RG making rfl
    rw [encM] at R'
    walk_at "M"
    walk_at "go"
    walk_at "RF"
  | copy x y =>
    have R' := RG making rfl
    rw [encM] at R'
    walk_at "M"
    walk_at "go"
    walk_at "RF"
  | part x y pt =>
    have R' := RG making rfl
    rw [encM] at R'
    walk_at "M"
    walk_at "go"
    walk_at "RF"
  | put y pt x =>
    have R' := RG changing rfl
    rw [encM] at R'
    walk_at "M"
    walk_at "go"
    walk_at "RF"
  | add y pt x =>
    have R' := RG changing rfl
    rw [encM] at R'
    walk_at "M"
    walk_at "go"
    walk_at "RF"
  | drop x =>
    have R' := RG taking rfl
    rw [encM] at R'
    walk_at "M"
    walk_at "go"
    walk_at "RF"
  | say x =>
    have R' := RG taking rfl
    rw [encM] at R'
    walk_at "M"
    walk_at "go"
    walk_at "RF"
  | back x =>
    have R' := RG taking rfl
    rw [encM] at R'
    walk_at "M"
    walk_at "go"
    walk_at "RF"
  | fail i =>
    rw [stB]
    walk_at "M"
    walk_at "go"
    exact ⟨rfl, hend⟩
  | call z dr ns =>
    have hz : ∀ z', z = some z' → z' < 10 := by
      rintro z' rfl
      rw [isSm] at hsm
      simp only [Bool.and_eq_true, decide_eq_true_eq] at hsm
      exact hsm.1.1
    have R' : RM nm C (F_call nm) st [encM nm (.call z dr ns)] (.bool (stB Cx κ (.call z dr ns)).1) (kinOf nm (stB Cx κ (.call z dr ns)).2 (encK nm)) := ⟨Cx, κ, pk, _, ⟨p, b, c, hst.symm⟩, hCx, hκ, ⟨z, dr, ns, hz, rfl, by rw [stB], by rw [stB]⟩, rfl⟩
    rw [encM] at R'
    walk_at "M"
    walk_at "go"
    walk_at "RF"
  | tr a a2 =>
    rw [isSm] at hsm
    simp only [Bool.and_eq_true, decide_eq_true_eq] at hsm
    rw [stB]
    walk_at "M"
    walk_at "go"
    have R1 := RB0 a hsm.1.1 hsm.1.2
    have ok1 := bodyB_ok (C := Cx) hCx.pr (n - 1) a κ hsm.1.2 hκ
    cases h1 : (bodyB Cx κ a).1 with
    | false =>
      rw [h1] at R1
      rw [if_neg Bool.false_ne_true]
      refine' SXs.cons (SX.ret (EX.andF ?a1) ?a2)
      case a1 => walk_at "SF"
      case a2 => exact ⟨rfl, rfl⟩
    | true =>
      rw [h1] at R1
      have R2 := RB _ a2 ok1 hsm.2.1 hsm.2.2
      rw [if_pos rfl]
      refine' SXs.cons (SX.ret (EX.andT ?b1 (EX.one ?b2)) ?b3)
      case b1 => walk_at "SF"
      case b2 =>
        refine' EX.scFun Cb hr ?gb1 ?gb2 T ?gb3 ?gb4 ?gb5 ?gb6 R2 ?gb7 ?gb8 ?gb9
        case gb1 => omega
        case gb2 => rfl
        case gb3 => walk_at "At"
        case gb4 => decide
        case gb5 => rfl
        case gb6 => walk_at "A"
        case gb7 => decide
        case gb8 => rfl
        case gb9 => rfl
      case b3 => exact ⟨rfl, rfl⟩
  | same x y a a2 =>
    rw [isSm] at hsm
    simp only [Bool.and_eq_true, decide_eq_true_eq] at hsm
    rw [stB]
    walk_at "M"
    walk_at "go"
    walk_at "S"
    case k2 =>
      intro hb
      walk_at "S"
      have : (knows κ x && knows κ y && decide (κ x = κ y)) = false := by
        cases q1 : knows κ x <;> cases q2 : knows κ y <;> rw [q1, q2] at hb <;> first | rfl | cases hb
      rw [this, if_neg Bool.false_ne_true]
      exact ⟨rfl, hend⟩
    case k3 =>
      intro hb
      rw [Bool.or_eq_false_iff, Bool.not_eq_false', Bool.not_eq_false'] at hb
      refine SXs.nil ?_
      obtain ⟨k1, hk1⟩ : ∃ k, κ x = some k := Option.isSome_iff_exists.mp (show (κ x).isSome = true from hb.1)
      obtain ⟨k2, hk2⟩ : ∃ k, κ y = some k := Option.isSome_iff_exists.mp (show (κ y).isSome = true from hb.2)
      have hkx1 : st.kinds (.inr (nm x)) = some (encK nm k1) := by rw [hkx, hk1]; rfl
      have hkx2 : st.kinds (.inr (nm y)) = some (encK nm k2) := by rw [hkx, hk2]; rfl
      refine' SXs.cons (SX.ite (TX.eq (b' := !decide (k1 = k2)) (TX.cmp ?d1 ?d2 (opNe hr.units (shaped_encK g (isKW_mono (hκ x k1 hk1))) (shaped_encK g (isKW_mono (hκ y k2 hk2)))) ?d3) ?d4) ?d5 ?d6)
      case d1 => walk_at "E"
      case d2 => walk_at "E"
      case d3 => rfl
      case d4 => rw [encK_eqv g]
      case d5 =>
        intro hb2
        have ne : k1 ≠ k2 := by simpa using hb2
        walk_at "S"
        have : (knows κ x && knows κ y && decide (κ x = κ y)) = false := by
          rw [hk1, hk2, decide_eq_false (fun z => ne (Option.some.inj z)), Bool.and_false]
        rw [this, if_neg Bool.false_ne_true]
        exact ⟨rfl, hend⟩
      case d6 =>
        intro hb2
        have eq : k1 = k2 := by simpa using hb2
        have : (knows κ x && knows κ y && decide (κ x = κ y)) = true := by
          rw [hb.1, hb.2, hk1, hk2, eq]; simp
        rw [this, if_pos rfl]
        refine SXs.nil ?_
        have R1 := RB0 a hsm.1.2.1 hsm.1.2.2
        have ok1 := bodyB_ok (C := Cx) hCx.pr (n - 1) a κ hsm.1.2.2 hκ
        cases h1 : (bodyB Cx κ a).1 with
        | false =>
          rw [h1] at R1
          rw [if_neg Bool.false_ne_true]
          refine' SXs.cons (SX.ret (EX.andF ?e1) ?e2)
          case e1 => walk_at "SF"
          case e2 => exact ⟨rfl, rfl⟩
        | true =>
          rw [h1] at R1
          have R2 := RB _ a2 ok1 hsm.2.1 hsm.2.2
          rw [if_pos rfl]
          refine' SXs.cons (SX.ret (EX.andT ?f1 (EX.one ?f2)) ?f3)
          case f1 => walk_at "SF"
          case f2 =>
            refine' EX.scFun Cb hr ?gf1 ?gf2 T ?gf3 ?gf4 ?gf5 ?gf6 R2 ?gf7 ?gf8 ?gf9
            case gf1 => omega
            case gf2 => rfl
            case gf3 => walk_at "At"
            case gf4 => decide
            case gf5 => rfl
            case gf6 => walk_at "A"
            case gf7 => decide
            case gf8 => rfl
            case gf9 => rfl
          case f3 => exact ⟨rfl, rfl⟩
theorem bodyB_append (Cx : Ctx) : ∀ (xs ys : List Sm) (κ : Kin), bodyB Cx κ (xs ++ ys) = if (bodyB Cx κ xs).1 = true then bodyB Cx (bodyB Cx κ xs).2 ys else (false, (bodyB Cx κ xs).2)
  | [], ys, κ => by rw [List.nil_append, bodyB, if_pos rfl]
  | x :: xs, ys, κ => by
    rw [List.cons_append, bodyB, bodyB]
    by_cases h : (stB Cx κ x).1 = true
    · rw [if_pos h, if_pos h]; exact bodyB_append Cx xs ys _
    · rw [if_neg h, if_neg h, if_neg Bool.false_ne_true]
theorem ok_body_holds (g : Good nm) (n : Nat) (SC : ScC K C) (pl : Pl K mg "body_holds" s_body_holds ["scope", "body"]) (Cs : CalS P w K mg base "statement_holds" (2 * n + 8) ["scope", "one"] (RM nm C (F_stmt nm n))) :
    CalS P w K mg base "body_holds" (2 * n + 9) ["scope", "body"] (RM nm C (F_body nm n)) := by
  refine okS 3 pl sc_body_holds (by decide +kernel) (by rintro _ _ _ _ ⟨_, _, _, _, _, _, _, ⟨_, _, rfl, _⟩, _⟩; rfl) ?_
  rintro f cdv A outer s H E Γ sc _ _ _ fz hr T ⟨Cx, κ, pk, κ', ⟨p, b, c, rfl⟩, hCx, hκ, ⟨bd, hsm, rfl, rfl, rfl⟩, rfl⟩
  have hwith : ∀ κ1, { ((scoN nm Cx κ pk).at_ C p b c) with kinds := kinOf nm κ1 (encK nm) } = (scoN nm Cx κ1 pk).at_ C p b c := fun _ => rfl
  have hsame : ((scoN nm Cx κ pk).at_ C p b c).kinds = kinOf nm κ (encK nm) := rfl
  generalize hst : (scoN nm Cx κ pk).at_ C p b c = st at hsame hwith ⊢
  have hst' : st = { st with kinds := kinOf nm κ (encK nm) } := by rw [← hsame]
  rw [isSms_all, List.all_eq_true] at hsm
  have RS : ∀ κ1 t, KinOk κ1 → t ∈ bd → RM nm C (F_stmt nm n) { st with kinds := kinOf nm κ1 (encK nm) } [encM nm t] (.bool (stB Cx κ1 t).1) (kinOf nm (stB Cx κ1 t).2 (encK nm)) := fun κ1 t h1 ht => ⟨Cx, κ1, pk, _, ⟨p, b, c, hwith κ1⟩, hCx, h1, ⟨t, hsm t ht, rfl, rfl, rfl⟩, rfl⟩
  refine SXs.reL (l' := [.sc { st with kinds := kinOf nm κ (encK nm) }, .dat (.tuple (bd.map (encM nm))), .no]) (by rw [encMs_map, ← hst']; rfl) ?_
  refine' SXs.cons (SX.for (is := [2]) (tv := fun d => [d]) PassesOwn.never rfl ?k1 ?k2 ?W ?k3 ?k4 ?k5)
  case W => exact fun j l2 => ∃ κj a, bodyB Cx κ (bd.take j) = (true, κj) ∧ KinOk κj ∧ l2 = [.sc { st with kinds := kinOf nm κj (encK nm) }, .dat (.tuple (bd.map (encM nm))), a]
  case k1 => exact IX.tup (by walk_at "E")
  case k2 => exact fun d _ => GX.nm T (by walk_at "At") (by decide)
  case k3 => exact ⟨κ, .no, by rw [List.take_zero, bodyB], hκ, rfl⟩
  case k4 =>
    rintro j d l2 hd ⟨κj, a, hj, hκj, rfl⟩
    rw [List.getElem?_map] at hd
    cases hx : bd[j]? with
    | none => rw [hx] at hd; cases hd
    | some t =>
      rw [hx] at hd
      cases hd
      have hm := List.mem_of_getElem? hx
      have R' := RS κj t hκj hm
      have split : bd = bd.take j ++ (t :: bd.drop (j + 1)) := by
        obtain ⟨hj, rfl⟩ := List.getElem?_eq_some_iff.mp hx
        rw [List.getElem_cons_drop, List.take_append_drop]
      refine SXs.reL (l' := [.sc { st with kinds := kinOf nm κj (encK nm) }, .dat (.tuple (bd.map (encM nm))), .dat (encM nm t)]) rfl ?_
      refine' SXs.cons (SX.ite (TX.not (TX.val ?a1 ?a2)) ?a3 ?a4)
      case a1 =>
        refine' EX.scFun Cs hr ?ga1 ?ga2 T ?ga3 ?ga4 ?ga5 ?ga6 R' ?ga7 ?ga8 ?ga9
        case ga1 => omega
        case ga2 => rfl
        case ga3 => walk_at "At"
        case ga4 => decide
        case ga5 => rfl
        case ga6 => walk_at "A"
        case ga7 => decide
        case ga8 => rfl
        case ga9 => rfl
      case a2 => intro _; rfl
      case a3 =>
        intro hb
        rw [Bool.not_eq_true'] at hb
        refine SXs.reL (l' := [.sc { st with kinds := kinOf nm (stB Cx κj t).2 (encK nm) }, .dat (.tuple (bd.map (encM nm))), .dat (encM nm t)]) rfl ?_
        walk_at "S"
        have e : bodyB Cx κ bd = (false, (stB Cx κj t).2) := by
          rw [split, bodyB_append, hj, if_pos rfl, bodyB, if_neg (by rw [hb]; exact Bool.false_ne_true)]
        rw [e]
        exact ⟨rfl, rfl⟩
      case a4 =>
        intro hb
        rw [Bool.not_eq_false'] at hb
        refine SXs.nil (SXs.nil ⟨(stB Cx κj t).2, _, ?_, stB_ok (C := Cx) hCx.pr n t κj (hsm t hm) hκj, rfl⟩)
        rw [List.take_add_one, hx]
        show bodyB Cx κ (bd.take j ++ [t]) = _
        rw [bodyB_append, hj, if_pos rfl, bodyB, if_pos hb, bodyB]
  case k5 =>
    rintro l2 ⟨κj, a, hj, hκj, rfl⟩
    rw [List.length_map, List.take_length] at hj
    walk_at "S"
    rw [hj]
    exact ⟨rfl, rfl⟩
theorem belowS_of {n lv : Nat} (Cb : CalS P w K mg base "body_holds" lv ["scope", "body"] (RM nm C (F_body nm n))) : CalS P w K mg base "body_holds" lv ["scope", "body"] (RM nm C (F_below nm (n + 1))) := by
  obtain ⟨f, fd, h1, h2, h3, h4⟩ := Cb.ex
  refine ⟨f, fd, h1.imp ?_, h2, h3, h4⟩
  rintro vs H Q E ⟨G, st, us, ds, d, k', e1, ⟨Cx, κ, pk, κ', q1, q2, q3, ⟨b, _, q4, q5⟩, q6⟩, r⟩
  exact ⟨G, st, us, ds, d, k', e1, ⟨Cx, κ, pk, κ', q1, q2, q3, ⟨b, by simpa using q4, q5⟩, q6⟩, r⟩
theorem all_body_holds (g : Good nm) (SC : ScC K C) (pl : Pl K mg "statement_holds" s_statement_holds ["scope", "one"]) (plB : Pl K mg "body_holds" s_body_holds ["scope", "body"]) (Mk : CalM P w K mg base C "knows" 1 ["self", "name"] (RKn C)) (Cm : CalS P w K mg base "making_holds" 6 ["scope", "one"] (RM nm C (F_of nm making))) (Cc : CalS P w K mg base "changing_holds" 6 ["scope", "one"] (RM nm C (F_of nm changing)))
    (Ct : CalS P w K mg base "taking_holds" 3 ["scope", "one"] (RM nm C (F_of nm taking))) (Cl : CalS P w K mg base "call_holds" 3 ["scope", "one"] (RM nm C (F_call nm))) : ∀ n, CalS P w K mg base "body_holds" (2 * n + 9) ["scope", "body"] (RM nm C (F_body nm n))
  | 0 => ok_body_holds g 0 SC plB (ok_statement_holds g 0 SC pl Mk Cm Cc Ct Cl (ok_bodyNone plB))
  | n + 1 => ok_body_holds g (n + 1) SC plB (ok_statement_holds g (n + 1) SC pl Mk Cm Cc Ct Cl (belowS_of (all_body_holds g SC pl plB Mk Cm Cc Ct Cl n)))
end
section
variable {P : Program} {w : World} {K : PySem.W.Frag} {mg : Str → Option Value} {base : Heap} {nm : Nat → Str} {C D : Addr}
local macro_rules | `(tactic| walk_at "R") => `(tactic| solve_by_elim)
theorem shelfKin_append (side : Int) : ∀ (xs ys : List Shelf) (κ : Kin), shelfKin side (xs ++ ys) κ = shelfKin side ys (shelfKin side xs κ)
  | [], ys, κ => rfl
  | x :: xs, ys, κ => by rw [List.cons_append, shelfKin, shelfKin, shelfKin_append side xs ys]
theorem placeKin_append : ∀ (xs ys : List (Nat × Way × Kd)) (κ : Kin), placeKin (xs ++ ys) κ = placeKin ys (placeKin xs κ)
  | [], ys, κ => rfl
  | x :: xs, ys, κ => by rw [List.cons_append, placeKin, placeKin, placeKin_append xs ys]
theorem placeWays_append : ∀ (xs ys : List (Nat × Way × Kd)) (f : Nat → Option Way), placeWays (xs ++ ys) f = placeWays ys (placeWays xs f)
  | [], ys, κ => rfl
  | x :: xs, ys, κ => by rw [List.cons_append, placeWays, placeWays, placeWays_append xs ys]
theorem papersOf_append : ∀ (xs ys : List (Paper × List Sm)) (f : Nat → Option Paper), papersOf (xs ++ ys) f = papersOf ys (papersOf xs f)
  | [], ys, κ => rfl
  | x :: xs, ys, κ => by rw [List.cons_append, papersOf, papersOf, papersOf_append xs ys]
theorem take_succ_eq {α : Type} {xs : List α} {j : Nat} {x : α} (h : xs[j]? = some x) : xs.take (j + 1) = xs.take j ++ [x] := by rw [List.take_add_one, h]; rfl
def R_init (nm : Nat → Str) : List PyData → ScN → Prop := fun ds sn => ∃ (papers : Nat → Option Paper) (pk : List (Key × PyData)) (S : List Shelf) (pp : Paper), (∀ s ∈ S, s.name < 10) ∧ (∀ q ∈ pp.places, q.1 < 10) ∧ ds = [.dict (dkD pk), .tuple (S.map (encShelf nm)), encPaper nm pp] ∧ sn = scoN nm (doorCtx papers pp) (doorKin S pp) pk
theorem ok_init (g : Good nm) (SC : ScC K C) (pl : PlI K mg "Scope" C "Scope.__init__" s_init ["self", "papers", "shelves", "paper"]) : CalI P w K mg base "Scope" C 1 ["self", "papers", "shelves", "paper"] (R_init nm) := by
  refine okI 9 pl sc_init (by decide +kernel) (by rintro _ _ ⟨_, _, _, _, _, _, rfl, _⟩; rfl) ?_
  rintro f cdv A outer s H E Γ p _ _ fz hr T ⟨papers, pk, S, pp, hS, hP, rfl, rfl⟩
  have hu := hu_of hr
  obtain ⟨mk, hmk⟩ : ∃ mk : Addr → Addr → (Key → Option PyData) → (Key → Option PyData) → Sco, mk = fun b c ws ks => ⟨C, p, b, c, .dict (dkD pk), encR nm pp.res, ws, ks, dom10 nm⟩ := ⟨_, rfl⟩
  have e0 : (scoN nm (doorCtx papers pp) (doorKin S pp) pk).at_ C p p p = mk p p (kinOf nm (placeWays pp.places fun _ => none) encW) (kinOf nm (doorKin S pp) (encK nm)) := by rw [hmk]; rfl
  have eE : ∀ b c, (scoN nm (doorCtx papers pp) (doorKin S pp) pk).at_ C p b c = mk b c (kinOf nm (placeWays pp.places fun _ => none) encW) (kinOf nm (doorKin S pp) (encK nm)) := fun b c => by rw [hmk]; rfl
  have hC : ∀ b c ws ks, ScC K (mk b c ws ks).C := fun b c ws ks => by rw [hmk]; exact SC
  have hpap : ∀ b c ws ks, (mk b c ws ks).papers = .dict (dkD pk) := fun b c ws ks => by rw [hmk]
  have hres : ∀ b c ws ks, (mk b c ws ks).res = encR nm pp.res := fun b c ws ks => by rw [hmk]
  have hb : ∀ b c ws ks b', { mk b c ws ks with b := b' } = mk b' c ws ks := fun b c ws ks b' => by rw [hmk]
  have hc : ∀ b c ws ks c', { mk b c ws ks with c := c', ways := fun _ => none, kinds := fun _ => none } = mk b c' (fun _ => none) (fun _ => none) := fun b c ws ks b' => by rw [hmk]
  have hk : ∀ b c ws ks x d, { mk b c ws ks with kinds := fun k => if k = .inr (nm x) then some d else (mk b c ws ks).kinds k } = mk b c ws (fun k => if k = .inr (nm x) then some d else ks k) := fun b c ws ks x d => by rw [hmk]
  have hw : ∀ b c ws ks x d, { mk b c ws ks with ways := fun k => if k = .inr (nm x) then some d else (mk b c ws ks).ways k } = mk b c (fun k => if k = .inr (nm x) then some d else ws k) ks := fun b c ws ks x d => by rw [hmk]
  have hdom : ∀ b c ws ks x, x < 10 → (Sum.inr (nm x) : Key) ∈ (mk b c ws ks).dom := fun b c ws ks x hx => by rw [hmk]; exact dom10_mem hx
  have hdl : ∀ b c ws ks, (mk b c ws ks).dom.length < 1000000 := fun b c ws ks => by rw [hmk]; exact dom10_len
  rw [e0]
  clear hmk e0
  refine SXs.reL (l' := [.ob (mk p p (kinOf nm (placeWays pp.places fun _ => none) encW) (kinOf nm (doorKin S pp) (encK nm))) 0, .dat (.dict (dkD pk)), .dat (.tuple (S.map (encShelf nm))), .dat (encPaper nm pp), .no, .no, .no, .no, .no]) rfl ?_
  have hi3 : ixD (encPaper nm pp) 3 = some (encR nm pp.res) := atI_nat' (j := 3) rfl
  have hi1 : ixD (encPaper nm pp) 1 = some (.int pp.side) := atI_nat' (j := 1) rfl
  have hi2 : ixD (encPaper nm pp) 2 = some (.tuple (pp.places.map (encPl nm))) := atI_nat' (j := 2) rfl
  refine' SXs.cons (SX.obP (kvs := pk) (hC _ _ _ _) T ?a1 ?a2 ?a3 ?a4 ?a5 (hpap _ _ _ _) ?a6 ?a7)
  case a1 => walk_at "At"
  case a2 => decide
  case a3 => rfl
  case a4 => walk_at "E"
  case a5 => rfl
  case a7 => rfl
  case a6 =>
    refine' SXs.cons (SX.obR (hC _ _ _ _) T ?b1 ?b2 ?b3 (EX.eq ?b4 (hres _ _ _ _).symm) ?b5 ?b6 ?b7)
    case b1 => walk_at "At"
    case b2 => decide
    case b3 => rfl
    case b4 => walk_at "E"
    case b5 => rfl
    case b7 => rfl
    case b6 =>
      refine' SXs.cons (SX.obW (hC _ _ _ _) T ?c1 ?c2 ?c3 ?c4 ?c5 ?c6)
      case c1 => walk_at "At"
      case c2 => decide
      case c3 => rfl
      case c4 => rfl
      case c6 => rfl
      case c5 =>
        intro b
        rw [hb]
        refine' SXs.cons (SX.obK (hC _ _ _ _) T ?d1 ?d2 ?d3 ?d4 ?d5 ?d6)
        case d1 => walk_at "At"
        case d2 => decide
        case d3 => rfl
        case d4 => rfl
        case d6 => rfl
        case d5 =>
          intro c
          rw [hc]
          refine SXs.reL (l' := [.sc (mk b c (fun _ => none) (fun _ => none)), .dat (.dict (dkD pk)), .dat (.tuple (S.map (encShelf nm))), .dat (encPaper nm pp), .no, .no, .no, .no, .no]) rfl ?_
          refine' SXs.cons (SX.for (is := [4, 5, 6, 7]) (tv := itemsD) PassesOwn.never rfl ?e1 ?e2 ?W ?e3 ?e4 ?e5)
          case W => exact fun j l2 => ∃ a1 a2 a3 a4, l2 = [.sc (mk b c (fun _ => none) (kinOf nm (shelfKin pp.side (S.take j) fun _ => none) (encK nm))), .dat (.dict (dkD pk)), .dat (.tuple (S.map (encShelf nm))), .dat (encPaper nm pp), a1, a2, a3, a4, .no]
          case e1 => exact IX.tup (by walk_at "E")
          case e2 => exact GX.tupM (n := 4) rfl (GsX.nm T (by walk_at "At") (by decide) (GsX.nm T (by walk_at "At") (by decide) (GsX.nm T (by walk_at "At") (by decide) (GsX.nm T (by walk_at "At") (by decide) GsX.nil)))) (fun _ => rfl)
          case e3 => exact ⟨.no, .no, .no, .no, by rw [List.take_zero, shelfKin, kinOf_none]⟩
          case e4 =>
            rintro j d l2 hd ⟨a1, a2, a3, a4, rfl⟩
            rw [List.getElem?_map] at hd
            cases hx : S[j]? with
            | none => rw [hx] at hd; cases hd
            | some q =>
              rw [hx] at hd
              cases hd
              have hm := List.mem_of_getElem? hx
              obtain ⟨x, i, k, t⟩ := q
              have hx10 : x < 10 := hS _ hm
              have es : shelfKin pp.side (S.take (j + 1)) (fun _ => none) = (if i = pp.side then fun y => if y = x then some k else shelfKin pp.side (S.take j) (fun _ => none) y else shelfKin pp.side (S.take j) (fun _ => none)) := by
                rw [take_succ_eq hx, shelfKin_append, shelfKin, shelfKin]
              refine SXs.reL (l' := [.sc (mk b c (fun _ => none) (kinOf nm (shelfKin pp.side (S.take j) fun _ => none) (encK nm))), .dat (.dict (dkD pk)), .dat (.tuple (S.map (encShelf nm))), .dat (encPaper nm pp), .dat (.str (nm x)), .dat (.int i), .dat (encK nm k), .dat (worD nm k t), .no]) rfl ?_
              walk_at "S"
              case k2 =>
                intro hb2
                have hb2 := of_decide_eq_true hb2
                refine' SXs.cons (SX.scPutKS (w := nm x) (d := encK nm k) hu (hC _ _ _ _) T ?f1 ?f2 ?f3 ?f4 ?f5 ?f6 (hdom _ _ _ _ x hx10) (hdl _ _ _ _) ?f7 ?f8 ?f9)
                case f1 => walk_at "At"
                case f2 => decide
                case f3 => rfl
                case f4 => walk_at "E"
                case f5 => walk_at "E"
                case f6 => rfl
                case f8 => rfl
                case f9 => rfl
                case f7 =>
                  rw [hk, kinOf_put g]
                  refine SXs.nil (SXs.nil ⟨.dat (.str (nm x)), .dat (.int i), .dat (encK nm k), .dat (worD nm k t), ?_⟩)
                  rw [es, if_pos hb2]
                  rfl
              case k3 =>
                intro hb2
                have hb2 := of_decide_eq_false hb2
                refine SXs.nil (SXs.nil ⟨.dat (.str (nm x)), .dat (.int i), .dat (encK nm k), .dat (worD nm k t), ?_⟩)
                rw [es, if_neg hb2]
          case e5 =>
            rintro l2 ⟨a1, a2, a3, a4, rfl⟩
            rw [List.length_map, List.take_length]
            refine' SXs.cons (SX.for (is := [4, 8, 6]) (tv := itemsD) PassesOwn.never rfl ?g1 ?g2 ?W2 ?g3 ?g4 ?g5)
            case W2 => exact fun j l2 => ∃ a1 a2 a3 a4 a5, l2 = [.sc (mk b c (kinOf nm (placeWays (pp.places.take j) fun _ => none) encW) (kinOf nm (placeKin (pp.places.take j) (shelfKin pp.side S fun _ => none)) (encK nm))), .dat (.dict (dkD pk)), .dat (.tuple (S.map (encShelf nm))), .dat (encPaper nm pp), a1, a2, a3, a4, a5]
            case g1 => exact IX.tup (by walk_at "E")
            case g2 => exact GX.tupM (n := 3) rfl (GsX.nm T (by walk_at "At") (by decide) (GsX.nm T (by walk_at "At") (by decide) (GsX.nm T (by walk_at "At") (by decide) GsX.nil))) (fun _ => rfl)
            case g3 => exact ⟨_, _, _, _, _, by rw [List.take_zero, placeWays, placeKin, kinOf_none]⟩
            case g4 =>
              rintro j d l2 hd ⟨a1, a2, a3, a4, a5, rfl⟩
              rw [List.getElem?_map] at hd
              cases hx : pp.places[j]? with
              | none => rw [hx] at hd; cases hd
              | some q =>
                rw [hx] at hd
                cases hd
                have hm := List.mem_of_getElem? hx
                obtain ⟨x, wy, k⟩ := q
                have hx10 : x < 10 := hP _ hm
                have ew : placeWays (pp.places.take (j + 1)) (fun _ => none) = fun y => if y = x then some wy else placeWays (pp.places.take j) (fun _ => none) y := by
                  rw [take_succ_eq hx, placeWays_append, placeWays, placeWays]
                have ek : placeKin (pp.places.take (j + 1)) (shelfKin pp.side S fun _ => none) = fun y => if y = x then some k else placeKin (pp.places.take j) (shelfKin pp.side S fun _ => none) y := by
                  rw [take_succ_eq hx, placeKin_append, placeKin, placeKin]
                refine SXs.reL (l' := [.sc (mk b c (kinOf nm (placeWays (pp.places.take j) fun _ => none) encW) (kinOf nm (placeKin (pp.places.take j) (shelfKin pp.side S fun _ => none)) (encK nm))), .dat (.dict (dkD pk)), .dat (.tuple (S.map (encShelf nm))), .dat (encPaper nm pp), .dat (.str (nm x)), a2, .dat (encK nm k), a4, .dat (encW wy)]) rfl ?_
                refine' SXs.cons (SX.scPutWS (w := nm x) (d := encW wy) hu (hC _ _ _ _) T ?h1 ?h2 ?h3 ?h4 ?h5 ?h6 (hdom _ _ _ _ x hx10) (hdl _ _ _ _) ?h7 ?h8 ?h9)
                case h1 => walk_at "At"
                case h2 => decide
                case h3 => rfl
                case h4 => walk_at "E"
                case h5 => walk_at "E"
                case h6 => rfl
                case h8 => rfl
                case h9 => rfl
                case h7 =>
                  rw [hw, kinOf_put g]
                  refine SXs.reL (l' := [.sc (mk b c (kinOf nm (fun y => if y = x then some wy else placeWays (pp.places.take j) (fun _ => none) y) encW) (kinOf nm (placeKin (pp.places.take j) (shelfKin pp.side S fun _ => none)) (encK nm))), .dat (.dict (dkD pk)), .dat (.tuple (S.map (encShelf nm))), .dat (encPaper nm pp), .dat (.str (nm x)), a2, .dat (encK nm k), a4, .dat (encW wy)]) rfl ?_
                  refine' SXs.cons (SX.scPutKS (w := nm x) (d := encK nm k) hu (hC _ _ _ _) T ?i1 ?i2 ?i3 ?i4 ?i5 ?i6 (hdom _ _ _ _ x hx10) (hdl _ _ _ _) ?i7 ?i8 ?i9)
                  case i1 => walk_at "At"
                  case i2 => decide
                  case i3 => rfl
                  case i4 => walk_at "E"
                  case i5 => walk_at "E"
                  case i6 => rfl
                  case i8 => rfl
                  case i9 => rfl
                  case i7 =>
                    rw [hk, kinOf_put g]
                    refine SXs.nil ⟨.dat (.str (nm x)), a2, .dat (encK nm k), a4, .dat (encW wy), ?_⟩
                    rw [ew, ek]
                    rfl
            case g5 =>
              rintro l2 ⟨a1, a2, a3, a4, a5, rfl⟩
              rw [List.length_map, List.take_length]
              exact SXs.nil ⟨b, c, by rw [eE]; rfl⟩
end
section
variable {P : Program} {w : World} {K : PySem.W.Frag} {mg : Str → Option Value} {base : Heap} {nm : Nat → Str} {C D : Addr}
local macro_rules | `(tactic| walk_at "R") => `(tactic| solve_by_elim)
def R_door_holds (nm : Nat → Str) : List PyData → PyData → Prop := fun ds d => ∃ (papers : Nat → Option Paper) (pk : List (Key × PyData)) (S : List Shelf) (dr : Paper × List Sm), CxOk nm (doorCtx papers dr.1) pk ∧ isPaper dr.1 = true ∧ isSms 3 dr.2 = true ∧ S.all isShelf = true ∧
  ds = [.dict (dkD pk), .tuple (S.map (encShelf nm)), encDoor nm dr] ∧ d = .bool (doorH papers S dr)
theorem placeKin_ok : ∀ (xs : List (Nat × Way × Kd)) (κ : Kin), KinOk κ → (∀ q ∈ xs, isK q.2.2 = true) → KinOk (placeKin xs κ)
  | [], κ, h, _ => h
  | x :: xs, κ, h, hx => by
    rw [placeKin]
    refine placeKin_ok xs _ (fun n k e => ?_) fun q hq => hx q (by simp [hq])
    by_cases z : n = x.1
    · simp only [z, if_true] at e; cases e; exact hx x (by simp)
    · simp only [z, if_false] at e; exact h n k e
theorem shelfKin_ok (side : Int) : ∀ (xs : List Shelf) (κ : Kin), KinOk κ → (∀ q ∈ xs, isK q.kind = true) → KinOk (shelfKin side xs κ)
  | [], κ, h, _ => h
  | x :: xs, κ, h, hx => by
    rw [shelfKin]
    refine shelfKin_ok side xs _ ?_ fun q hq => hx q (by simp [hq])
    split
    · intro n k e
      by_cases z : n = x.name
      · simp only [z, if_true] at e; cases e; exact hx x (by simp)
      · simp only [z, if_false] at e; exact h n k e
    · exact h
theorem paper_ok {p : Paper} (h : isPaper p = true) : p.name < 10 ∧ (∀ q ∈ p.places, q.1 < 10 ∧ isK q.2.2 = true) ∧ ∀ k, p.res = some k → isK k = true := by
  unfold isPaper at h
  simp only [Bool.and_eq_true, List.all_eq_true, decide_eq_true_eq] at h
  refine ⟨h.1.1.1, fun q hq => h.1.2.1 q hq, fun k e => ?_⟩
  have := h.2
  rw [e] at this
  exact this
theorem shelf_ok {s : Shelf} (h : isShelf s = true) : s.name < 10 ∧ isK s.kind = true := by
  unfold isShelf at h
  simp only [Bool.and_eq_true, decide_eq_true_eq] at h
  exact ⟨h.1.1, h.2⟩
theorem doorH_eq (papers : Nat → Option Paper) (S : List Shelf) (dr : Paper × List Sm) : doorH papers S dr = ((S.all fun s => dr.1.places.all fun q => !(decide (q.1 = s.name) && decide (s.side = dr.1.side))) && (bodyB (doorCtx papers dr.1) (doorKin S dr.1) dr.2).1) := by
  unfold doorH
  rw [bodyH_eq]
  unfold optK
  cases (bodyB (doorCtx papers dr.1) (doorKin S dr.1) dr.2).1 <;> rfl
theorem ok_door_holds (g : Good nm) (B : Bi mg) (pl : Pl K mg "door_holds" s_door_holds ["papers", "shelves", "door"]) (CI : CalI P w K mg base "Scope" C 1 ["self", "papers", "shelves", "paper"] (R_init nm)) (Cb : CalS P w K mg base "body_holds" 15 ["scope", "body"] (RM nm C (F_body nm 3))) :
    Cal P w K mg base "door_holds" 16 ["papers", "shelves", "door"] (R_door_holds nm) := by
  refine okC 9 pl sc_door_holds (by decide +kernel) (by rintro _ _ ⟨_, _, _, _, _, _, _, _, rfl, _⟩; rfl) ?_
  rintro f cdv A outer s H E Γ _ _ fz hr T ⟨papers, pk, S, ⟨pp, bd⟩, hCx, hP, hB, hS, rfl, rfl⟩
  have hu := hu_of hr
  rw [doorH_eq]
  obtain ⟨_, hpl, _⟩ := paper_ok hP
  rw [List.all_eq_true] at hS
  have hi1 : ixD (encPaper nm pp) 1 = some (.int pp.side) := atI_nat' (j := 1) rfl
  have hi2 : ixD (encPaper nm pp) 2 = some (.tuple (pp.places.map (encPl nm))) := atI_nat' (j := 2) rfl
  refine SXs.reL (l' := [.dat (.dict (dkD pk)), .dat (.tuple (S.map (encShelf nm))), .dat (.tuple [encPaper nm pp, .tuple (encMs nm bd)]), .no, .no, .no, .no, .no, .no]) rfl ?_
  walk_at "S"
  case k5 =>
    refine' SXs.cons (SX.for (is := [4, 5, 6, 7]) (tv := itemsD) PassesOwn.never rfl ?e1 ?e2 ?W ?e3 ?e4 ?e5)
    case W => exact fun j l2 => ∃ a1 a2 a3 a4 a5, l2 = [.dat (.dict (dkD pk)), .dat (.tuple (S.map (encShelf nm))), .dat (.tuple [encPaper nm pp, .tuple (encMs nm bd)]), .dat (encPaper nm pp), a1, a2, a3, a4, a5] ∧ ((S.take j).all fun s => pp.places.all fun q => !(decide (q.1 = s.name) && decide (s.side = pp.side))) = true
    case e1 => exact IX.tup (by walk_at "E")
    case e2 => exact GX.tupM (n := 4) rfl (GsX.nm T (by walk_at "At") (by decide) (GsX.nm T (by walk_at "At") (by decide) (GsX.nm T (by walk_at "At") (by decide) (GsX.nm T (by walk_at "At") (by decide) GsX.nil)))) (fun _ => rfl)
    case e3 => exact ⟨.no, .no, .no, .no, .no, rfl, rfl⟩
    case e4 =>
      rintro j d l2 hd ⟨a1, a2, a3, a4, a5, rfl, ha⟩
      rw [List.getElem?_map] at hd
      cases hx : S[j]? with
      | none => rw [hx] at hd; cases hd
      | some q =>
        rw [hx] at hd
        cases hd
        have hm := List.mem_of_getElem? hx
        obtain ⟨x, i, k, t⟩ := q
        refine SXs.reL (l' := [.dat (.dict (dkD pk)), .dat (.tuple (S.map (encShelf nm))), .dat (.tuple [encPaper nm pp, .tuple (encMs nm bd)]), .dat (encPaper nm pp), .dat (.str (nm x)), .dat (.int i), .dat (encK nm k), .dat (worD nm k t), a5]) rfl ?_
        refine' SXs.cons (SX.forAll (i := 8) ?pp PassesOwn.never rfl ?f1 ?f2 ?f3 ?f4 ?f5 ?f6)
        case pp => exact fun q : Nat × Way × Kd => !(decide (q.1 = x) && decide (i = pp.side))
        case f1 => exact IX.tup (by walk_at "E")
        case f2 => exact fun d => GX.nm T (by walk_at "At") (by decide)
        case f6 => exact ⟨a5, rfl⟩
        case f3 =>
          rintro ⟨y, wy, ky⟩ hq a
          refine SXs.reL (l' := [.dat (.dict (dkD pk)), .dat (.tuple (S.map (encShelf nm))), .dat (.tuple [encPaper nm pp, .tuple (encMs nm bd)]), .dat (encPaper nm pp), .dat (.str (nm x)), .dat (.int i), .dat (encK nm k), .dat (worD nm k t), .dat (.tuple [.str (nm y), encW wy, encK nm ky])]) rfl ?_
          have en : decide (nm y = nm x) = decide (y = x) := by
            by_cases z : y = x
            · subst z; rw [decide_eq_true rfl, decide_eq_true rfl]
            · rw [decide_eq_false z, decide_eq_false fun q => z (g.inj _ _ q)]
          walk_at "S"
          case k2 =>
            intro hb
            rw [en] at hb
            walk_at "S"
            exact ⟨by show (!(decide (y = x) && decide (i = pp.side))) = false; rw [hb]; rfl, rfl⟩
          case k3 =>
            intro hb
            rw [en] at hb
            exact SXs.nil (SXs.nil ⟨by show (!(decide (y = x) && decide (i = pp.side))) = true; rw [hb]; rfl, _, rfl⟩)
        case f4 =>
          intro hall a
          refine SXs.nil ⟨.dat (.str (nm x)), .dat (.int i), .dat (encK nm k), .dat (worD nm k t), a, rfl, ?_⟩
          rw [all_take_succ hx, ha]
          exact hall
        case f5 =>
          intro hall l2
          show _ = PyData.bool _
          have : (S.all fun s => pp.places.all fun q => !(decide (q.1 = s.name) && decide (s.side = pp.side))) = false := by
            cases q : (S.all fun s => pp.places.all fun q => !(decide (q.1 = s.name) && decide (s.side = pp.side))) with
            | false => rfl
            | true =>
              rw [List.all_eq_true] at q
              have := q _ hm
              simp only at this
              rw [this] at hall; cases hall
          show PyData.bool false = PyData.bool ((S.all fun s => pp.places.all fun q => !(decide (q.1 = s.name) && decide (s.side = pp.side))) && _)
          rw [this]; rfl
    case e5 =>
      rintro l2 ⟨a1, a2, a3, a4, a5, rfl, ha⟩
      rw [List.length_map, List.take_length] at ha
      have RI : R_init nm [.dict (dkD pk), .tuple (S.map (encShelf nm)), encPaper nm pp] (scoN nm (doorCtx papers pp) (doorKin S pp) pk) := ⟨papers, pk, S, pp, fun s hs => (shelf_ok (hS s hs)).1, fun q hq => (hpl q hq).1, rfl, rfl⟩
      have hk : KinOk (doorKin S pp) := placeKin_ok _ _ (shelfKin_ok _ _ _ (fun n k e => by cases e) fun s hs => (shelf_ok (hS s hs)).2) fun q hq => (hpl q hq).2
      have RB : ∀ p b c, RM nm C (F_body nm 3) ((scoN nm (doorCtx papers pp) (doorKin S pp) pk).at_ C p b c) [.tuple (encMs nm bd)] (.bool (bodyB (doorCtx papers pp) (doorKin S pp) bd).1) (kinOf nm (bodyB (doorCtx papers pp) (doorKin S pp) bd).2 (encK nm)) := fun p b c => ⟨doorCtx papers pp, doorKin S pp, pk, _, ⟨p, b, c, rfl⟩, hCx, hk, ⟨bd, hB, rfl, rfl, rfl⟩, rfl⟩
      refine' SXs.cons (SX.ret (EX.scNew CI Cb hr ?g1 ?g2 ?g3 ?g4 ?g5 ?g6 RI RB) ?g7)
      case g1 => decide
      case g2 => decide
      case g3 => rfl
      case g4 => rfl
      case g5 => walk_at "A"
      case g6 => intro Γ'; walk_at "E"
      case g7 =>
        show PyData.bool _ = PyData.bool ((S.all fun s => pp.places.all fun q => !(decide (q.1 = s.name) && decide (s.side = pp.side))) && _)
        rw [ha]; rfl
def smallProg (p : Prog) : Prop := p.doors.length ≤ 1000 ∧ p.shelves.length ≤ 1000 ∧ ∀ x ∈ p.doors, smallP x.1
def R_is_program (nm : Nat → Str) : List PyData → PyData → Prop := fun ds d => ∃ p : Prog, smallProg p ∧ ds = [encProg nm p] ∧ d = .bool (isProg p)
theorem papersOf_mem : ∀ {D : List (Paper × List Sm)} {f : Nat → Option Paper} {n : Nat} {p : Paper}, papersOf D f n = some p → (∃ x ∈ D, x.1 = p) ∨ f n = some p
  | [], f, n, p, h => .inr h
  | x :: xs, f, n, p, h => by
    rw [papersOf] at h
    rcases papersOf_mem h with ⟨y, hy, e⟩ | e
    · exact .inl ⟨y, by simp [hy], e⟩
    · by_cases z : n = x.1.name
      · simp only [z, if_true] at e; cases e; exact .inl ⟨x, by simp, rfl⟩
      · simp only [z, if_false] at e; exact .inr e
theorem ok_is_program (g : Good nm) (B : Bi mg) (pl : Pl K mg "is_program" s_is_program ["thing"]) (Cd : Cal P w K mg base "are_doors" 25 ["thing"] (R_are_doors nm)) (Cs : Cal P w K mg base "are_shelves" 15 ["thing"] (R_are_shelves nm)) (Ch : Cal P w K mg base "door_holds" 16 ["papers", "shelves", "door"] (R_door_holds nm)) :
    Cal P w K mg base "is_program" 26 ["thing"] (R_is_program nm) := by
  refine okC 3 pl sc_is_program (by decide +kernel) (by rintro _ _ ⟨_, _, rfl, _⟩; rfl) ?_
  rintro f cdv A outer s H E Γ _ _ fz hr T ⟨⟨D, S⟩, ⟨hz1, hz2, hz3⟩, rfl, rfl⟩
  have hz1 : D.length ≤ 1000 := hz1
  have hz2 : S.length ≤ 1000 := hz2
  have hu := hu_of hr
  refine SXs.reL (l' := [.dat (.tuple [.tuple (D.map (encDoor nm)), .tuple (S.map (encShelf nm))]), .no, .no]) rfl ?_
  have RD : R_are_doors nm [.tuple (D.map (encDoor nm))] (.bool (isDoors D)) := ⟨D, hz1, hz3, rfl, rfl⟩
  have RS : R_are_shelves nm [.tuple (S.map (encShelf nm))] (.bool (isShelves S)) := ⟨S, hz2, rfl, rfl⟩
  have ep : isProg ⟨D, S⟩ = (isDoors D && isShelves S && D.all (doorH (papersOf D fun _ => none) S)) := rfl
  walk_at "S"
  case k2 => intro hb; cases (show false = true from hb)
  case k3 =>
    intro _
    refine SXs.nil ?_
    walk_at "S"
    case k2 =>
      intro hb
      walk_at "S"
      show _ = PyData.bool _
      have : (isDoors D && isShelves S) = false := by
        cases h1 : isDoors D <;> cases h2 : isShelves S <;> rw [h1, h2] at hb <;> first | rfl | cases hb
      rw [ep, this]; rfl
    case k3 =>
      intro hb
      rw [Bool.or_eq_false_iff, Bool.not_eq_false', Bool.not_eq_false'] at hb
      rw [hb.1, hb.2, Bool.true_and, Bool.true_and] at ep
      obtain ⟨hD, hS⟩ := hb
      have hS' : S.all isShelf = true := by
        unfold isShelves at hS
        rw [Bool.and_eq_true] at hS; exact hS.1
      have hD' : ∀ x ∈ D, isPaper x.1 = true ∧ isSms 3 x.2 = true := by
        unfold isDoors at hD
        rw [Bool.and_eq_true, List.all_eq_true] at hD
        intro x hx
        have := hD.1 x hx
        rwa [Bool.and_eq_true] at this
      refine SXs.nil ?_
      refine' SXs.cons (SX.stD ?a1 ?a2 ?a3 ?a4 ?a5)
      case a1 => exact T
      case a2 => walk_at "At"
      case a3 => decide
      case a5 => rfl
      case a4 =>
        walk_at "L"
        case W => exact fun j l2 => ∃ kvs a, l2 = [.dat (.tuple [.tuple (D.map (encDoor nm)), .tuple (S.map (encShelf nm))]), .dk kvs, a] ∧ (∀ n, valD kvs (.inr (nm n)) = (papersOf (D.take j) (fun _ => none) n).map (encPaper nm)) ∧ kvs.length ≤ j
        case k1 => exact IX.tup (by walk_at "E")
        case k3 => exact ⟨[], .no, rfl, fun n => rfl, Nat.le_refl _⟩
        case k4 =>
          rintro j d l2 hd ⟨kvs, a, rfl, hv, hl⟩
          rw [List.getElem?_map] at hd
          cases hx : D[j]? with
          | none => rw [hx] at hd; cases hd
          | some q =>
            rw [hx] at hd
            cases hd
            obtain ⟨pp, bd⟩ := q
            have hj := (List.getElem?_eq_some_iff.mp hx).1
            refine SXs.reL (l' := [.dat (.tuple [.tuple (D.map (encDoor nm)), .tuple (S.map (encShelf nm))]), .dk kvs, .dat (.tuple [encPaper nm pp, .tuple (encMs nm bd)])]) rfl ?_
            have hi : ixD (encPaper nm pp) 0 = some (.str (nm pp.name)) := ix0
            walk_at "S"
            case kz => omega
            refine SXs.nil ⟨_, _, rfl, fun n => ?_, Nat.le_trans (len_putD _ _ _) (by omega)⟩
            rw [valD_put, take_succ_eq hx, papersOf_append, papersOf, papersOf]
            by_cases e : n = pp.name
            · subst e; rw [if_pos rfl, if_pos rfl]; rfl
            · rw [if_neg (fun z => e (g.inj _ _ (Sum.inr.inj z))), if_neg e, hv]
        case k5 =>
          rintro l2 ⟨kvs, a, rfl, hv, hl⟩
          rw [List.length_map, List.take_length] at hv
          refine SXs.freezeD (i := 1) fz rfl ?_
          refine SXs.reL (l' := [.dat (.tuple [.tuple (D.map (encDoor nm)), .tuple (S.map (encShelf nm))]), .dat (.dict (dkD kvs)), a]) rfl ?_
          refine' SXs.cons (SX.forAll (i := 2) ?pp PassesOwn.never rfl ?f1 ?f2 ?f3 ?f4 ?f5 ?f6)
          case pp => exact doorH (papersOf D fun _ => none) S
          case f1 => exact IX.tup (by walk_at "E")
          case f2 => exact fun d => GX.nm T (by walk_at "At") (by decide)
          case f6 => exact ⟨a, rfl⟩
          case f3 =>
            intro dr hdr a
            have RH : R_door_holds nm [.dict (dkD kvs), .tuple (S.map (encShelf nm)), encDoor nm dr] (.bool (doorH (papersOf D fun _ => none) S dr)) := by
              refine ⟨papersOf D fun _ => none, kvs, S, dr, ⟨hv, fun n p e => ?_, fun n p k e er => ?_, fun k e => (paper_ok (hD' dr hdr).1).2.2 k e⟩, (hD' dr hdr).1, (hD' dr hdr).2, hS', rfl, rfl⟩
              · rcases papersOf_mem e with ⟨x, hx, rfl⟩ | z
                · exact ⟨hz3 x hx, fun q hq => ((paper_ok (hD' x hx).1).2.1 q hq).2⟩
                · cases z
              · rcases papersOf_mem e with ⟨x, hx, rfl⟩ | z
                · exact (paper_ok (hD' x hx).1).2.2 k er
                · cases z
            refine SXs.reL (l' := [.dat (.tuple [.tuple (D.map (encDoor nm)), .tuple (S.map (encShelf nm))]), .dat (.dict (dkD kvs)), .dat (encDoor nm dr)]) rfl ?_
            walk_at "S"
            case k2 =>
              intro hb
              walk_at "S"
              exact ⟨by simpa using hb, rfl⟩
            case k3 =>
              intro hb
              exact SXs.nil (SXs.nil ⟨by simpa using hb, _, rfl⟩)
          case f4 =>
            intro h a
            walk_at "S"
            show _ = PyData.bool _
            rw [ep, h]
          case f5 =>
            intro h l2
            show _ = PyData.bool _
            rw [ep, h]
end
/-! ### the law's draws -/
def restF (cell : Int) : Nat → Int
  | 0 => cell - 1000000000000000000
  | k + 1 => if 0 < restF cell k then restF cell k / 1000003 else restF cell k
def stirI (base more : Int) (k : Nat) : Int := ((((base * (2 * k + 3) % 2147483647) ^ 5 + (k + 1) ^ 3) % 2147483629 + more) ^ 3) % 2147483587 / 16
def stirF (cell : Int) (k : Nat) : Int := if 0 < restF cell k then restF cell k % 1000003 else stirI (cell % 1000000007 + 1) (cell % 999983) k
def draws (cell : Int) (n : Nat) : List Int := (List.range n).map (stirF cell)
theorem draws_len (cell : Int) (n : Nat) : (draws cell n).length = n := by simp [draws]
theorem draws_nn {cell : Int} {n : Nat} : ∀ i ∈ draws cell n, 0 ≤ i := by
  intro i hi
  obtain ⟨k, _, rfl⟩ := List.mem_map.mp hi
  unfold stirF
  split
  · exact Int.emod_nonneg _ (by decide)
  · unfold stirI
    have := Int.emod_nonneg ((((cell % 1000000007 + 1) * (2 * k + 3) % 2147483647) ^ 5 + (k + 1) ^ 3) % 2147483629 + cell % 999983) (b := 1) (by decide)
    have h := Int.emod_nonneg (((((cell % 1000000007 + 1) * (2 * k + 3) % 2147483647) ^ 5 + (k + 1) ^ 3) % 2147483629 + cell % 999983) ^ 3) (b := 2147483587) (by decide)
    omega
section
variable {P : Program} {w : World} {K : PySem.W.Frag} {mg : Str → Option Value} {base : Heap} {nm : Nat → Str}
def R_law_draws : List PyData → PyData → Prop := fun ds d => ∃ (c : Int) (n : Nat), n ≤ 1000 ∧ ds = [.int c, .int (n : Nat)] ∧ d = .list ((draws c n).map .int)
theorem ok_law_draws (pl : Pl K mg "_law_draws" s_law_draws ["cell", "count"]) (B : Bi mg) : Cal P w K mg base "_law_draws" 1 ["cell", "count"] R_law_draws := by
  refine okC 8 pl sc_law_draws (by decide +kernel) (by rintro _ _ ⟨_, _, _, rfl, _⟩; rfl) ?_
  rintro f cdv A outer s H E Γ _ _ fz hr T ⟨c, n, hn, rfl, rfl⟩
  refine SXs.reL (l' := [.dat (.int c), .dat (.int (n : Nat)), .no, .no, .no, .no, .no, .no]) rfl ?_
  have cp0 : CPow 10 18 := ⟨by decide, by decide, by decide⟩
  walk_at "S"
  case k5 =>
    walk_at "S"
    case k5 =>
      walk_at "S"
      case k5 =>
        walk_at "S"
        case k5 =>
          obtain ⟨b0, hb0, hb1⟩ : ∃ b0, b0 = c % 1000000007 + 1 ∧ (0 < b0 ∧ b0 < 2147483647) := ⟨_, rfl, by omega⟩
          obtain ⟨m0, hm0, hm1⟩ : ∃ m0, m0 = c % 999983 ∧ (0 ≤ m0 ∧ m0 < 999983) := ⟨_, rfl, by omega⟩
          refine SXs.reL (l' := [.dat (.int c), .dat (.int (n : Nat)), .own [], .dat (.int (c - 1000000000000000000)), .dat (.int b0), .dat (.int m0), .no, .no]) (by rw [hb0, hm0]; rfl) ?_
          walk_at "L"
          case W => exact fun j l2 => ∃ a1 a2, l2 = [.dat (.int c), .dat (.int (n : Nat)), .own ((draws c j).map .int), .dat (.int (restF c j)), .dat (.int b0), .dat (.int m0), a1, a2]
          case k1 => exact IX.range (by walk_at "A") (by omega) rfl B.range
          case k3 => exact ⟨.no, .no, rfl⟩
          case k4 =>
            rintro j d l2 hd ⟨a1, a2, rfl⟩
            have hj : j < n := by
              have := (List.getElem?_eq_some_iff.mp hd).1
              rw [nums_len] at this
              omega
            rw [nums_get (by omega)] at hd
            cases hd
            refine SXs.reL (l' := [.dat (.int c), .dat (.int (n : Nat)), .own ((draws c j).map .int), .dat (.int (restF c j)), .dat (.int b0), .dat (.int m0), .dat (.int (j : Nat)), a2]) rfl ?_
            have cm1 : CMul 2 (j : Nat) := .inl ⟨by decide, by decide⟩
            have cm2 : CMul b0 (2 * (j : Nat) + 3) := .inl ⟨by omega, by omega⟩
            have nxt : (draws c (j + 1)).map PyData.int = (draws c j).map .int ++ [.int (stirF c j)] := by unfold draws; rw [List.range_succ]; simp
            have hlen : ((draws c j).map PyData.int).length < 1000000 := by rw [List.length_map, draws_len]; omega
            walk_at "S"
            case k5 =>
              obtain ⟨s1, hs1, hs1'⟩ : ∃ s1, s1 = b0 * (2 * (j : Nat) + 3) % 2147483647 ∧ (0 ≤ s1 ∧ s1 < 2147483647) := ⟨_, rfl, by omega⟩
              refine SXs.reL (l' := [.dat (.int c), .dat (.int (n : Nat)), .own ((draws c j).map .int), .dat (.int (restF c j)), .dat (.int b0), .dat (.int m0), .dat (.int (j : Nat)), .dat (.int s1)]) (by rw [hs1]; rfl) ?_
              have cp1 : CPow s1 5 := ⟨by decide, by decide, by omega⟩
              have cp2 : CPow ((j : Nat) + 1) 3 := ⟨by decide, by decide, by omega⟩
              walk_at "S"
              case k5 =>
                obtain ⟨s2, hs2, hs2'⟩ : ∃ s2, s2 = (s1 ^ 5 + ((j : Nat) + 1 : Int) ^ 3) % 2147483629 ∧ (0 ≤ s2 ∧ s2 < 2147483629) := ⟨_, rfl, by omega⟩
                refine SXs.reL (l' := [.dat (.int c), .dat (.int (n : Nat)), .own ((draws c j).map .int), .dat (.int (restF c j)), .dat (.int b0), .dat (.int m0), .dat (.int (j : Nat)), .dat (.int s2)]) (by rw [hs2]; rfl) ?_
                have cp3 : CPow (s2 + m0) 3 := ⟨by decide, by decide, by omega⟩
                walk_at "S"
                case k5 =>
                  have e3 : (s2 + m0) ^ 3 % 2147483587 / 16 = stirI (c % 1000000007 + 1) (c % 999983) j := by
                    rw [hs2, hs1, hb0, hm0]; rfl
                  refine SXs.reL (l' := [.dat (.int c), .dat (.int (n : Nat)), .own ((draws c j).map .int), .dat (.int (restF c j)), .dat (.int b0), .dat (.int m0), .dat (.int (j : Nat)), .dat (.int (stirI (c % 1000000007 + 1) (c % 999983) j))]) (by rw [← e3]; rfl) ?_
                  walk_at "S"
                  case k2 =>
                    intro hb
                    have hb := of_decide_eq_true hb
                    walk_at "S"
                    case k5 =>
                      walk_at "S"
                      case k5 =>
                        refine SXs.nil ?_
                        walk_at "S"
                        case kz => exact hlen
                        refine SXs.nil ⟨.dat (.int (j : Nat)), .dat (.int (restF c j % 1000003)), ?_⟩
                        rw [nxt, restF, if_pos hb]
                        unfold stirF
                        rw [if_pos hb]
                        rfl
                  case k3 =>
                    intro hb
                    have hb := of_decide_eq_false hb
                    refine SXs.nil ?_
                    walk_at "S"
                    case kz => exact hlen
                    refine SXs.nil ⟨.dat (.int (j : Nat)), .dat (.int (stirI (c % 1000000007 + 1) (c % 999983) j)), ?_⟩
                    rw [nxt, restF, if_neg hb]
                    unfold stirF
                    rw [if_neg hb]
                    rfl
          case k5 =>
            rintro l2 ⟨a1, a2, rfl⟩
            rw [nums_len, Int.toNat_natCast]
            refine SXs.freeze (i := 2) fz rfl ?_
            walk_at "S"
            rfl
end
/-! ### the law's words -/
def sgn (i : Int) : Str := ⟨#[letters.cps.toList.getD (i % 26).toNat 0]⟩
def wordS (ns : List Int) : Str := Txt.join Str.empty (ns.map sgn)
theorem letters_len : letters.cps.toList.length = 26 := by decide +kernel
theorem sgn_at (i : Int) : ixD (.str letters) (i % 26) = some (.str (sgn i)) := by
  have h1 := Int.emod_nonneg i (b := 26) (by decide)
  have h2 := Int.emod_lt_of_pos i (b := 26) (by decide)
  obtain ⟨k, hk⟩ : ∃ k : Nat, i % 26 = (k : Int) := ⟨(i % 26).toNat, by omega⟩
  have hk2 : k < letters.cps.toList.length := by rw [letters_len]; omega
  show (L2.atI letters.cps.toList (i % 26)).map _ = _
  rw [hk, atI_nat' (List.getElem?_eq_getElem hk2)]
  show some (PyData.str ⟨#[letters.cps.toList[k]]⟩) = _
  unfold sgn
  rw [hk, Int.toNat_natCast, List.getD_eq_getElem?_getD, List.getElem?_eq_getElem hk2]
  rfl
theorem sgn_len (i : Int) : (sgn i).length = 1 := rfl
section
variable {P : Program} {w : World} {K : PySem.W.Frag} {mg : Str → Option Value} {base : Heap} {nm : Nat → Str}
def R_law_word : List PyData → PyData → Prop := fun ds d => ∃ ns : List Int, ns.length ≤ 1000 ∧ ds = [.list (ns.map .int)] ∧ d = .str (wordS ns)
theorem ok_law_word (pl : Pl K mg "_law_word" s_law_word ["numbers"]) (B : Bi mg) : Cal P w K mg base "_law_word" 1 ["numbers"] R_law_word := by
  refine okC 1 pl sc_law_word (by decide +kernel) (by rintro _ _ ⟨_, _, rfl, _⟩; rfl) ?_
  rintro f cdv A outer s H E Γ _ _ fz hr T ⟨ns, hn, rfl, rfl⟩
  refine SXs.reL (l' := [.dat (.list (ns.map .int)), .no]) rfl ?_
  have hsum : ((ns.map sgn).map (·.length)).sum = ns.length := by
    clear hn
    induction ns with
    | nil => rfl
    | cons i r ih => rw [List.map_cons, List.map_cons, List.sum_cons, ih, sgn_len, List.length_cons]; omega
  refine' SXs.cons (SX.ret (EX.join (z := Str.empty) (ws := ns.map sgn) ?a1 EX.str (EX.eq (EL.ex ?a2) ?a3) ?a4) rfl)
  case a1 => rfl
  case a3 => rw [List.map_map]
  case a4 =>
    rw [hsum, List.length_map]
    show ns.length + ns.length * 0 ≤ _
    omega
  case a2 =>
    refine' EL.lcA (ow := [("one", 1)]) (is := [1]) (en := PyData.int) (tv := fun i => [.int i]) (fun i => .str (sgn i)) rfl T.nd (blkOk_by (N := N_law_word) (sc := defScope s_law_word) (by decide +kernel)) ?c1 (by decide) ?c2 ?c3 ?c4
    case c1 => exact IX.list (by walk_at "E")
    case c4 => omega
    case c2 =>
      intro s H C cl fp x hx
      exact GX.inB (N := N_law_word) (own := [1]) (vis := [1]) (sc := defScope s_law_word) rfl T.nd rfl (by decide +kernel) fun TV => GX.nmV TV (by walk_at "At") (by decide)
    case c3 =>
      rintro s H C cl fp Γ' x hx
      refine EX.inB (N := N_law_word) (own := [1]) (vis := [1]) (sc := defScope s_law_word) rfl T.nd rfl (by decide +kernel) fun TV => ?_
      refine' EX.ix EX.str (EX.bin ?b1 EX.int (opMod (by decide))) (sgn_at x) ?b2 ?b3
      case b1 => walk_at "E"
      case b2 => intro z q; cases q; decide
      case b3 => intro _ _; rfl
end
/-! ### the law's names -/
def ownWords : List Str := ["num", "text", "row", "rec", "pick", "none", "door", "copy", "give", "lend", "lease", "new", "call"]
def ownW (i : Int) : Str := ownWords.getD i.toNat Str.empty
section
variable (row : List Int)
abbrev rI (i : Nat) : Int := row.getD i 0
def nWord : Str := wordS (cutG row none (some (1 + rI row 16 % 7)))
def nLetter : Str := wordS (cutG row (some 7) (some 8))
def nAt : Int := rI row 8 % ((nWord row).length : Nat)
def someA : List Str := [nWord row, nWord row ++ nLetter row, nLetter row ++ nWord row, cutS (nWord row) none (some (nAt row)) ++ nLetter row ++ cutS (nWord row) (some (nAt row + 1)) none, cutS (nWord row) none (some (nAt row)), revS (nWord row)]
def someB : List Str := someA row ++ [ownW (rI row 9 % 13), wordS (cutG row (some 10) (some (11 + rI row 17 % 5))), ownW (rI row 9 / 13 % 13) ++ nLetter row]
def someC : List Str := cutG (someB row) (some (rI row 18 % 9)) none ++ cutG (someB row) none (some (rI row 18 % 9))
def someD (n : Nat) : List Str := someC row ++ (List.range n).map fun k => wordS [rI row 19 + 7 * (k : Nat)]
def pick1 (names : List Str) (one : Str) : List Str := if one ≠ Str.empty ∧ one ∉ names ∧ names.length < 9 then names ++ [one] else names
def namesF : List Str := (someD row 26).foldl pick1 []
end
theorem wordS_cps (ns : List Int) : (wordS ns).cps.toList = ns.map fun i => letters.cps.toList.getD (i % 26).toNat 0 := by
  unfold wordS
  rw [show Txt.join Str.empty (ns.map sgn) = Str.join Str.empty (ns.map sgn) from StrLaws.glued_eq_join _ _]
  have h : ∀ ws : List Int, (Str.join Str.empty (ws.map sgn)).cps.toList = ws.map fun i => letters.cps.toList.getD (i % 26).toNat 0 := by
    intro ws
    induction ws with
    | nil => rfl
    | cons i r ih =>
      cases r with
      | nil => rfl
      | cons j r2 =>
        rw [List.map_cons, List.map_cons] at ih ⊢
        show (sgn i ++ Str.empty ++ Str.join Str.empty (sgn j :: r2.map sgn)).cps.toList = _
        have e : ∀ a b : Str, (a ++ b).cps.toList = a.cps.toList ++ b.cps.toList := fun a b => by
          show (Str.append a b).cps.toList = _
          unfold Str.append
          simp
        rw [e, e, ih]
        rfl
  exact h ns
theorem wordS_len (ns : List Int) : (wordS ns).length = ns.length := by
  show (wordS ns).cps.size = _
  rw [← Array.length_toList, wordS_cps, List.length_map]
theorem any_str (ws : List Str) (x : Str) : ((ws.map PyData.str).any fun z => PyData.eqv z (.str x)) = decide (x ∈ ws) := by
  induction ws with
  | nil => simp
  | cons w r ih =>
    rw [List.map_cons, List.any_cons, ih]
    simp only [PyData.eqv, List.mem_cons]
    by_cases h : w = x
    · subst h; simp
    · have h' : ¬ x = w := fun z => h z.symm
      have : (w == x) = false := by rw [beq_eq_false_iff_ne]; exact h
      rw [this]; simp [h']
theorem flat_strs (ws : List Str) : ((ws.map PyData.str).all flatD) = true := by
  rw [List.all_map]; exact List.all_eq_true.mpr fun _ _ => rfl
theorem len_cat (a b : Str) : (a ++ b).length = a.length + b.length := by
  show (Str.append a b).cps.size = _
  unfold Str.append
  show (_ ++ _ : Array Nat).size = _
  rw [Array.size_append]
  rfl
theorem cps_cat (a b : Str) : (a ++ b).cps.toList = a.cps.toList ++ b.cps.toList := by
  show (Str.append a b).cps.toList = _
  unfold Str.append
  simp
theorem ownW_at {i : Int} (h0 : 0 ≤ i) (h : i < 13) : ixD (.list (ownWords.map .str)) i = some (.str (ownW i)) := by
  obtain ⟨k, rfl⟩ : ∃ k : Nat, i = (k : Int) := ⟨i.toNat, by omega⟩
  have hk : k < ownWords.length := by show k < 13; omega
  refine atI_nat' ?_
  rw [List.getElem?_map, List.getElem?_eq_getElem hk]
  unfold ownW
  rw [Int.toNat_natCast, List.getD_eq_getElem?_getD, List.getElem?_eq_getElem hk]
  rfl
theorem cutG_bound {α : Type} (xs : List α) (h : Int) (h0 : 0 ≤ h) (hx : h ≤ xs.length) : (cutG xs none (some h)).length = h.toNat := by
  unfold cutG HT.sIx
  simp only [List.drop_zero, Nat.sub_zero, List.length_take]
  have e1 : ¬ h < 0 := by omega
  simp only [e1, if_false]
  omega
section
variable {P : Program} {w : World} {K : PySem.W.Frag} {mg : Str → Option Value} {base : Heap} {nm : Nat → Str}
local macro_rules | `(tactic| walk_at "R") => `(tactic| solve_by_elim)
def R_law_names : List PyData → PyData → Prop := fun ds d => ∃ row : List Int, row.length = 20 ∧ (∀ i ∈ row, 0 ≤ i) ∧ ds = [.list (row.map .int)] ∧ d = .list ((namesF row).map .str)
theorem nWord_len {row : List Int} (h : row.length = 20) (hn : ∀ i ∈ row, 0 ≤ i) : 1 ≤ (nWord row).length ∧ (nWord row).length ≤ 7 := by
  unfold nWord
  have h16 : 0 ≤ rI row 16 % 7 ∧ rI row 16 % 7 < 7 := ⟨Int.emod_nonneg _ (by decide), Int.emod_lt_of_pos _ (by decide)⟩
  rw [wordS_len, cutG_bound _ _ (by omega) (by omega)]
  omega
end
section
variable {P : Program} {w : World} {K : PySem.W.Frag} {mg : Str → Option Value} {base : Heap} {nm : Nat → Str}
local macro_rules | `(tactic| walk_at "R") => `(tactic| solve_by_elim)
local macro_rules | `(tactic| walk_at "fl") => `(tactic| first | exact flat_strs _ | rfl | assumption)
theorem ok_law_names (pl : Pl K mg "_law_names" s_law_names ["row"]) (B : Bi mg) (Cw : Cal P w K mg base "_law_word" 1 ["numbers"] R_law_word) : Cal P w K mg base "_law_names" 2 ["row"] R_law_names := by
  refine okC 9 pl sc_law_names (by decide +kernel) (by rintro _ _ ⟨_, _, _, rfl, _⟩; rfl) ?_
  rintro f cdv A outer s H E Γ _ _ fz hr T ⟨row, hl, hn, rfl, rfl⟩
  refine SXs.reL (l' := [.dat (.list (row.map .int)), .no, .no, .no, .no, .no, .no, .no, .no]) rfl ?_
  have RW : ∀ lo hi, R_law_word [.list (cutG (row.map PyData.int) lo hi)] (.str (wordS (cutG row lo hi))) := fun lo hi => ⟨cutG row lo hi, by have := cutG_len row lo hi; omega, by rw [cutG_map], rfl⟩
  have RW1 : ∀ i : Int, R_law_word [.list [.int i]] (.str (wordS [i])) := fun i => ⟨[i], by show 1 ≤ 1000; omega, rfl, rfl⟩
  obtain ⟨hw1, hw2⟩ := nWord_len hl hn
  have hle : (nLetter row).length ≤ 20 := by
    unfold nLetter
    rw [wordS_len]
    have := cutG_len row (some 7) (some 8)
    omega
  have hn' : ∀ i, 0 ≤ row.getD i 0 := fun i => by
    rw [List.getD_eq_getElem?_getD]
    cases e : row[i]? with
    | none => exact Int.le_refl _
    | some x => exact hn x (List.mem_of_getElem? e)
  walk_at "S"
  case k5 =>
    walk_at "S"
    case k5 =>
      refine SXs.reL (l' := [.dat (.list (row.map .int)), .dat (.str (nWord row)), .dat (.str (nLetter row)), .no, .no, .no, .no, .no, .no]) rfl ?_
      have hw3 : (nWord row).length ≤ 1000000 := by omega
      refine' SXs.cons (SX.st T ?a1 ?a2 (EX.bin ?a3 ?a4 (opMod ?a5)) ?a6 ?a7)
      case a1 => walk_at "At"
      case a2 => decide
      case a3 => walk_at "E"
      case a4 => walk_at "E"
      case a5 => show (0 : Int) < ((nWord row).length : Nat); omega
      case a7 => rfl
      case a6 =>
        have hat : 0 ≤ nAt row ∧ nAt row < ((nWord row).length : Nat) := ⟨Int.emod_nonneg _ (by omega), Int.emod_lt_of_pos _ (by omega)⟩
        refine SXs.reL (l' := [.dat (.list (row.map .int)), .dat (.str (nWord row)), .dat (.str (nLetter row)), .dat (.int (nAt row)), .no, .no, .no, .no, .no]) rfl ?_
        walk_at "S"
        case k5 =>
          refine SXs.reL (l' := [.dat (.list (row.map .int)), .dat (.str (nWord row)), .dat (.str (nLetter row)), .dat (.int (nAt row)), .dat (.list (ownWords.map .str)), .no, .no, .no, .no]) rfl ?_
          have c1 := cutS_length (nWord row) none (some (nAt row))
          have c2 := cutS_length (nWord row) (some (nAt row + 1)) none
          have z1 : (nWord row).length + (nLetter row).length ≤ sizeLine := le_size (by omega)
          have z2 : (nLetter row).length + (nWord row).length ≤ sizeLine := le_size (by omega)
          have z3 : (cutS (nWord row) none (some (nAt row))).length + (nLetter row).length ≤ sizeLine := le_size (by omega)
          have z4 : (cutS (nWord row) none (some (nAt row)) ++ nLetter row).length + (cutS (nWord row) (some (nAt row + 1)) none).length ≤ sizeLine := le_size (by rw [len_cat]; omega)
          have z5 : ∀ i, (ownW i).length + (nLetter row).length ≤ sizeLine := fun i => le_size (by
            have : (ownW i).length ≤ 5 := by
              unfold ownW
              rw [List.getD_eq_getElem?_getD]
              cases e : ownWords[i.toNat]? with
              | none => decide
              | some x =>
                have hm := List.mem_of_getElem? e
                have : ∀ x ∈ ownWords, x.length ≤ 5 := by decide
                exact this x hm
            omega)
          walk_at "S"
          case k5 =>
            refine SXs.reL (l' := [.dat (.list (row.map .int)), .dat (.str (nWord row)), .dat (.str (nLetter row)), .dat (.int (nAt row)), .dat (.list (ownWords.map .str)), .dat (.list ((someA row).map .str)), .no, .no, .no]) rfl ?_
            have o1 : ixD (.list (ownWords.map .str)) (rI row 9 % 13) = some (.str (ownW (rI row 9 % 13))) := ownW_at (Int.emod_nonneg _ (by decide)) (Int.emod_lt_of_pos _ (by decide))
            have o2 : ixD (.list (ownWords.map .str)) (rI row 9 / 13 % 13) = some (.str (ownW (rI row 9 / 13 % 13))) := ownW_at (Int.emod_nonneg _ (by decide)) (Int.emod_lt_of_pos _ (by decide))
            have z6 := z5 (rI row 9 / 13 % 13)
            have hAl : (someA row).length = 6 := rfl
            walk_at "S"
            case k5 =>
              refine SXs.reL (l' := [.dat (.list (row.map .int)), .dat (.str (nWord row)), .dat (.str (nLetter row)), .dat (.int (nAt row)), .dat (.list (ownWords.map .str)), .dat (.list ((someB row).map .str)), .no, .no, .no]) (by unfold someB; rw [List.map_append]; rfl) ?_
              have hBl : (someB row).length = 9 := rfl
              refine' SXs.cons (SX.stL T ?b1 ?b2 (EL.cat ?b3 ?b4 ?b5) ?b6 ?b7)
              case b1 => walk_at "At"
              case b2 => decide
              case b3 => walk_at "E"
              case b4 => walk_at "E"
              case b5 =>
                have h1 := cutG_len ((someB row).map PyData.str) (some (rI row 18 % 9)) none
                have h2 := cutG_len ((someB row).map PyData.str) none (some (rI row 18 % 9))
                rw [List.length_map, hBl] at h1 h2
                exact Nat.le_trans (Nat.add_le_add h1 h2) (by decide)
              case b7 => rfl
              case b6 =>
                refine SXs.reL (l' := [.dat (.list (row.map .int)), .dat (.str (nWord row)), .dat (.str (nLetter row)), .dat (.int (nAt row)), .dat (.list (ownWords.map .str)), .own ((someD row 0).map .str), .no, .no, .no]) (by
                  have : (someD row 0).map PyData.str = cutG ((someB row).map PyData.str) (some (rI row 18 % 9)) none ++ cutG ((someB row).map PyData.str) none (some (rI row 18 % 9)) := by
                    unfold someD someC
                    rw [List.range_zero, List.map_nil, List.append_nil, List.map_append, cutG_map, cutG_map]
                  rw [this]; rfl) ?_
                have hDl : ∀ n, (someD row n).length ≤ 18 + n := fun n => by
                  unfold someD someC
                  have h1 := cutG_len (someB row) (some (rI row 18 % 9)) none
                  have h2 := cutG_len (someB row) none (some (rI row 18 % 9))
                  rw [hBl] at h1 h2
                  simp only [List.length_append, List.length_map, List.length_range]
                  omega
                walk_at "L"
                case W => exact fun j l2 => ∃ a, l2 = [.dat (.list (row.map .int)), .dat (.str (nWord row)), .dat (.str (nLetter row)), .dat (.int (nAt row)), .dat (.list (ownWords.map .str)), .own ((someD row j).map .str), a, .no, .no]
                case k1 => exact IX.range (by walk_at "A") (by decide) rfl B.range
                case k3 => exact ⟨.no, rfl⟩
                case k4 =>
                  rintro j d l2 hd ⟨a, rfl⟩
                  have hj : j < 26 := by
                    have := (List.getElem?_eq_some_iff.mp hd).1
                    rw [nums_len] at this
                    exact this
                  rw [nums_get (show j < (26 : Int).toNat from hj)] at hd
                  cases hd
                  refine SXs.reL (l' := [.dat (.list (row.map .int)), .dat (.str (nWord row)), .dat (.str (nLetter row)), .dat (.int (nAt row)), .dat (.list (ownWords.map .str)), .own ((someD row j).map .str), .dat (.int (j : Nat)), .no, .no]) rfl ?_
                  have cm : CMul 7 (j : Nat) := .inl ⟨by decide, by decide⟩
                  walk_at "S"
                  case kz => rw [List.length_map]; have := hDl j; omega
                  refine SXs.nil ⟨.dat (.int (j : Nat)), ?_⟩
                  have : someD row (j + 1) = someD row j ++ [wordS [rI row 19 + 7 * (j : Nat)]] := by
                    unfold someD
                    rw [List.range_succ, List.map_append, List.append_assoc]
                    rfl
                  rw [this, List.map_append]; rfl
                case k5 =>
                  rintro l2 ⟨a, rfl⟩
                  have e26 : (nums (26 : Int).toNat).length = 26 := by rw [nums_len]; rfl
                  rw [e26]
                  refine SXs.freeze (i := 5) fz rfl ?_
                  refine SXs.reL (l' := [.dat (.list (row.map .int)), .dat (.str (nWord row)), .dat (.str (nLetter row)), .dat (.int (nAt row)), .dat (.list (ownWords.map .str)), .dat (.list ((someD row 26).map .str)), a, .no, .no]) rfl ?_
                  walk_at "S"
                  case k5 =>
                    walk_at "L"
                    case W => exact fun j l2 => ∃ b, l2 = [.dat (.list (row.map .int)), .dat (.str (nWord row)), .dat (.str (nLetter row)), .dat (.int (nAt row)), .dat (.list (ownWords.map .str)), .dat (.list ((someD row 26).map .str)), a, .own ((((someD row 26).take j).foldl pick1 []).map .str), b]
                    case k1 => exact IX.list (by walk_at "E")
                    case k3 => exact ⟨.no, rfl⟩
                    case k4 =>
                      rintro j d l2 hd ⟨b, rfl⟩
                      rw [List.getElem?_map] at hd
                      cases hx : (someD row 26)[j]? with
                      | none => rw [hx] at hd; cases hd
                      | some q =>
                        rw [hx] at hd
                        cases hd
                        have nxt : ((someD row 26).take (j + 1)).foldl pick1 [] = pick1 (((someD row 26).take j).foldl pick1 []) q := by rw [take_succ_eq hx, List.foldl_append]; rfl
                        generalize hns : ((someD row 26).take j).foldl pick1 [] = ns at nxt ⊢
                        refine SXs.reL (l' := [.dat (.list (row.map .int)), .dat (.str (nWord row)), .dat (.str (nLetter row)), .dat (.int (nAt row)), .dat (.list (ownWords.map .str)), .dat (.list ((someD row 26).map .str)), a, .own (ns.map .str), .dat (.str q)]) rfl ?_
                        walk_at "S"
                        case k2 =>
                          intro hb
                          rw [any_str, List.length_map] at hb
                          have hb' : q ≠ Str.empty ∧ q ∉ ns ∧ ns.length < 9 := by
                            simp only [Bool.and_eq_true, Bool.not_eq_true', decide_eq_true_eq, decide_eq_false_iff_not] at hb
                            exact ⟨hb.1, hb.2.1, by omega⟩
                          walk_at "S"
                          case kz => rw [List.length_map]; omega
                          refine SXs.nil (SXs.nil ⟨.dat (.str q), ?_⟩)
                          rw [nxt]
                          unfold pick1
                          rw [if_pos hb', List.map_append]
                          rfl
                        case k3 =>
                          intro hb
                          rw [any_str, List.length_map] at hb
                          have hb' : ¬ (q ≠ Str.empty ∧ q ∉ ns ∧ ns.length < 9) := by
                            rintro ⟨h1, h2, h3⟩
                            have : ((!decide (q = Str.empty)) && ((!decide (q ∈ ns)) && decide ((ns.length : Int) < 9))) = true := by
                              rw [decide_eq_false h1, decide_eq_false h2, decide_eq_true (by omega)]; rfl
                            rw [show Str.empty = ("" : Str) from rfl] at this
                            rw [this] at hb; cases hb
                          refine SXs.nil (SXs.nil ⟨.dat (.str q), ?_⟩)
                          rw [nxt]
                          unfold pick1
                          rw [if_neg hb']
                    case k5 =>
                      rintro l2 ⟨b, rfl⟩
                      rw [List.length_map, List.take_length]
                      refine SXs.freeze (i := 7) fz rfl ?_
                      walk_at "S"
                      rfl
end
section
variable {P : Program} {w : World} {K : PySem.W.Frag} {mg : Str → Option Value} {base : Heap} {nm : Nat → Str}
local macro_rules | `(tactic| walk_at "R") => `(tactic| solve_by_elim)
def R_law_worth (nm : Nat → Str) (n : Nat) : List PyData → PyData → Prop := fun ds d => ∃ k s, isKW n k = true ∧ ds = [encK nm k, .int s] ∧ d = worD nm k s
theorem ok_law_worth0 (pl : Pl K mg "_law_worth" s_law_worth ["kind", "seed"]) : Cal P w K mg base "_law_worth" 1 ["kind", "seed"] (R_law_worth nm 0) := by
  refine okC 3 pl sc_law_worth (by decide +kernel) (by rintro _ _ ⟨_, _, _, rfl, _⟩; rfl) ?_
  rintro f cdv A outer s H E Γ _ _ fz hr T ⟨k, t, hk, _⟩
  rw [isKW] at hk; cases hk
theorem map_const_range {α : Type} (x : α) (n : Nat) : (List.range n).map (fun _ => x) = List.replicate n x := by
  rw [List.map_const', List.length_range]
theorem ok_law_worth (n : Nat) (pl : Pl K mg "_law_worth" s_law_worth ["kind", "seed"]) (B : Bi mg) (C : Cal P w K mg base "_law_worth" (n + 1) ["kind", "seed"] (R_law_worth nm n)) : Cal P w K mg base "_law_worth" (n + 2) ["kind", "seed"] (R_law_worth nm (n + 1)) := by
  refine okC 3 pl sc_law_worth (by decide +kernel) (by rintro _ _ ⟨_, _, _, rfl, _⟩; rfl) ?_
  rintro f cdv A outer s H E Γ _ _ fz hr T ⟨k, t, hk, rfl, rfl⟩
  cases k with
  | num v =>
    refine SXs.reL (l' := [.dat (.tuple [.str "num", .int v]), .dat (.int t), .no, .no, .no]) (by rw [encK]; rfl) ?_
    walk_at "go"
    rw [worD]
  | text =>
    have hz : ("a b" : Str).length ≤ sizeLine := by decide
    refine SXs.reL (l' := [.dat (.tuple [.str "text"]), .dat (.int t), .no, .no, .no]) (by rw [encK]; rfl) ?_
    walk_at "go"
    rw [worD]
  | row k =>
    rw [isKW] at hk
    have RW : ∀ s, R_law_worth nm n [encK nm k, .int s] (worD nm k s) := fun s => ⟨k, s, hk, rfl, rfl⟩
    refine SXs.reL (l' := [.dat (.tuple [.str "row", encK nm k]), .dat (.int t), .no, .no, .no]) (by rw [encK]; rfl) ?_
    have hm := Int.emod_nonneg t (b := 3) (by decide)
    have hm2 := Int.emod_lt_of_pos t (b := 3) (by decide)
    walk_at "go"
    refine' SXs.cons (SX.ret (EX.tupOf ?a1 B (EL.ex (EL.lcA (xs := List.range (t % 3).toNat) (ow := [("k", 3)]) (is := [3]) (en := fun i : Nat => PyData.int (i : Nat)) (tv := fun i : Nat => [PyData.int (i : Nat)]) (fun _ => worD nm k (t / 3)) rfl T.nd (blkOk_by (N := N_law_worth) (sc := defScope s_law_worth) (by decide +kernel)) ?a2 (by decide) ?a3 ?a4 ?a5)) ?a6 ?a7 ?a8) ?a9)
    case a1 => rfl
    case a2 => exact IX.range (by walk_at "A") (by omega) rfl B.range
    case a5 => rw [List.length_range]; omega
    case a6 => rfl
    case a7 => rfl
    case a8 => rfl
    case a3 =>
      intro s H C cl fp x hx
      exact GX.inB (N := N_law_worth) (own := [3]) (vis := [0, 1, 3]) (sc := defScope s_law_worth) rfl T.nd rfl (by decide +kernel) fun TV => GX.nmV TV (by walk_at "At") (by decide)
    case a4 =>
      rintro s H C cl fp Γ' x hx
      refine EX.inB (N := N_law_worth) (own := [3]) (vis := [0, 1, 3]) (sc := defScope s_law_worth) rfl T.nd rfl (by decide +kernel) fun TV => ?_
      walk_at "E"
    case a9 =>
      show _ = worD nm (.row k) t
      rw [worD, map_const_range]
  | rc fs =>
    have hf := isKW_fs (.inl rfl) hk
    refine SXs.reL (l' := [.dat (.tuple [.str "rec", .tuple (encFs nm fs)]), .dat (.int t), .no, .no, .no]) (by rw [encK]; rfl) ?_
    walk_at "go"
    refine' SXs.cons (SX.ret (EX.tupOf ?b1 B (EL.ex (EL.lcA (xs := fs) (ow := [("one", 4)]) (is := [4]) (en := encF nm) (tv := fun f => [encF nm f]) (fun f => worD nm f.2 (t / 2)) rfl T.nd (blkOk_by (N := N_law_worth) (sc := defScope s_law_worth) (by decide +kernel)) ?b2 (by decide) ?b3 ?b4 ?b5)) ?b6 ?b7 ?b8) ?b9)
    case b1 => rfl
    case b2 =>
      rw [← encFs_map]
      exact IX.tup (by walk_at "E")
    case b5 => omega
    case b6 => rfl
    case b7 => rfl
    case b8 => rfl
    case b3 =>
      intro s H C cl fp x hx
      exact GX.inB (N := N_law_worth) (own := [4]) (vis := [1, 4]) (sc := defScope s_law_worth) rfl T.nd rfl (by decide +kernel) fun TV => GX.nmV TV (by walk_at "At") (by decide)
    case b4 =>
      rintro s H C cl fp Γ' ⟨m, k⟩ hx
      have RW : ∀ s, R_law_worth nm n [encK nm k, .int s] (worD nm k s) := fun s => ⟨k, s, hf.2.2 _ hx, rfl, rfl⟩
      refine EX.inB (N := N_law_worth) (own := [4]) (vis := [1, 4]) (sc := defScope s_law_worth) rfl T.nd rfl (by decide +kernel) fun TV => ?_
      have hi : ixD (encF nm (m, k)) 1 = some (encK nm k) := by rw [encF]; exact atI_nat' (j := 1) rfl
      walk_at "E"
    case b9 =>
      show _ = worD nm (.rc fs) t
      rw [worD, worFs_map]
  | pk fs =>
    have hf := isKW_fs (.inr rfl) hk
    obtain ⟨i, hi⟩ : ∃ i, i = (t % (fs.length : Int)).toNat := ⟨_, rfl⟩
    have h1 := Int.emod_lt_of_pos t (show (0 : Int) < fs.length by omega)
    have h2 := Int.emod_nonneg t (show (fs.length : Int) ≠ 0 by omega)
    have hil : i < fs.length := by omega
    have hii : t % (fs.length : Int) = (i : Int) := by omega
    obtain ⟨⟨m, k⟩, hx⟩ : ∃ f, fs[i]? = some f := ⟨fs[i], List.getElem?_eq_getElem hil⟩
    have ew : worD nm (.pk fs) t = .tuple [.str (nm m), worD nm k (t / 2)] := by
      rw [worD, ← hi, worFs_map, List.getD_eq_getElem?_getD, List.getD_eq_getElem?_getD, List.getElem?_map, hx]; rfl
    have RW : ∀ s, R_law_worth nm n [encK nm k, .int s] (worD nm k s) := fun s => ⟨k, s, hf.2.2 _ (List.mem_of_getElem? hx), rfl, rfl⟩
    have el : lenD (.tuple (encFs nm fs)) = (fs.length : Nat) := by simp only [lenD, encFs_map, List.length_map]
    have hix := encFs_get (nm := nm) hx
    have hpos : 0 < lenD (.tuple (encFs nm fs)) := by rw [el]; omega
    refine SXs.reL (l' := [.dat (.tuple [.str "pick", .tuple (encFs nm fs)]), .dat (.int t), .no, .no, .no]) (by rw [encK]; rfl) ?_
    walk_at "go"
    refine' SXs.cons (SX.st T ?c1 ?c2 (EX.ix ?c3 (EX.eq (EX.bin ?c4 ?c5 (opMod hpos)) ?c6) hix ?c7 ?c8) ?c9 ?c10)
    case c1 => walk_at "At"
    case c2 => decide
    case c3 => walk_at "E"
    case c4 => walk_at "E"
    case c5 => walk_at "E"
    case c6 => rw [el, hii]
    case c7 => intro z q; cases q
    case c8 => intro _ _; rfl
    case c10 => rfl
    case c9 =>
      walk_at "S"
      rw [ew]
theorem all_law_worth (pl : Pl K mg "_law_worth" s_law_worth ["kind", "seed"]) (B : Bi mg) : ∀ n : Nat, Cal P w K mg base "_law_worth" (n + 1) ["kind", "seed"] (R_law_worth nm n)
  | 0 => ok_law_worth0 pl
  | n + 1 => ok_law_worth n pl B (all_law_worth pl B n)
end
/-! ### the doors' plans -/
structure Plan where
  name : Nat
  side : Int
  places : List (Nat × Way)
  res : Option Nat
def encA (q : Nat × Way) : PyData := .tuple [.int (q.1 : Nat), encW q.2]
def encO : Option Nat → PyData
  | none => .none
  | some k => .int (k : Nat)
def encPlan (nm : Nat → Str) (p : Plan) : PyData := .tuple [.str (nm p.name), .int p.side, .list (p.places.map encA), encO p.res]
def isBound (q : Nat × Way) : Bool := decide (q.2 = .lend) || decide (q.2 = .lease)
def boundF (p : Plan) : List Nat := (p.places.filter isBound).map (·.1)
def natsD (ns : List Nat) : List PyData := ns.map fun a => .int (a : Nat)
def namedF (n : Nat) (bound : List Nat) (odd : Bool) (draw : Int) : Option Nat :=
  let some' := [n, n + 5].filter fun one => decide (one < 9) && (odd || !decide (one ∈ bound))
  if some' = [] then none else some (some'.getD (draw % (some'.length : Int)).toNat 0)
theorem any_nat (ns : List Nat) (x : Nat) : ((natsD ns).any fun z => PyData.eqv z (.int (x : Nat))) = decide (x ∈ ns) := by
  induction ns with
  | nil => simp [natsD]
  | cons w r ih =>
    unfold natsD at ih ⊢
    rw [List.map_cons, List.any_cons, ih]
    simp only [PyData.eqv, List.mem_cons]
    by_cases h : w = x
    · subst h; simp
    · have h' : ¬ x = w := fun z => h z.symm
      have : ((w : Int) == (x : Int)) = false := by rw [beq_eq_false_iff_ne]; exact fun z => h (by omega)
      rw [this]; simp [h']
theorem flat_nats (ns : List Nat) : ((natsD ns).all flatD) = true := by
  unfold natsD
  rw [List.all_map]; exact List.all_eq_true.mpr fun _ _ => rfl
theorem shaped_nats (ns : List Nat) : SeqAt.shaped (.list (natsD ns)) = true := by
  refine shapedL (fun d hd => ?_) ?_
  · obtain ⟨a, _, rfl⟩ := List.mem_map.mp hd
    rfl
  · exact Nat.le_trans (depthAll_of (n := 0) fun d hd => by obtain ⟨a, _, rfl⟩ := List.mem_map.mp hd; simp [PyData.depth]) (by decide)
theorem eqv_nil (xs : List PyData) : PyData.eqv (.list xs) (.list []) = decide (xs = []) := by
  cases xs <;> simp [PyData.eqv, PyData.eqvAll]
section
variable {P : Program} {w : World} {K : PySem.W.Frag} {mg : Str → Option Value} {base : Heap} {nm : Nat → Str}
local macro_rules | `(tactic| walk_at "R") => `(tactic| solve_by_elim)
local macro_rules | `(tactic| walk_at "fl") => `(tactic| first | exact flat_nats _ | rfl | assumption)
def R_law_bound (nm : Nat → Str) : List PyData → PyData → Prop := fun ds d => ∃ p : Plan, p.places.length ≤ 1000 ∧ ds = [encPlan nm p] ∧ d = .list (natsD (boundF p))
theorem ok_law_bound (pl : Pl K mg "_law_bound" s_law_bound ["door"]) : Cal P w K mg base "_law_bound" 1 ["door"] (R_law_bound nm) := by
  refine okC 1 pl sc_law_bound (by decide +kernel) (by rintro _ _ ⟨_, _, rfl, _⟩; rfl) ?_
  rintro f cdv A outer s H E Γ _ _ fz hr T ⟨p, hz, rfl, rfl⟩
  refine SXs.reL (l' := [.dat (encPlan nm p), .no, .no]) rfl ?_
  have hi : ixD (encPlan nm p) 2 = some (.list (p.places.map encA)) := atI_nat' (j := 2) rfl
  refine' SXs.cons (SX.ret (EL.ex (EL.lc (xs := p.places) (own := [("at", 1), ("way", 2)]) (is := [1, 2]) (en := encA) (tv := fun q => [.int (q.1 : Nat), encW q.2]) isBound (fun q => .int (q.1 : Nat)) rfl T.nd (blkOk_by (N := N_law_bound) (sc := defScope s_law_bound) (by decide +kernel)) ?b2 (by decide) ?b3 ?b4 ?b5 ?b6)) ?b9)
  case b2 => exact IX.list (by walk_at "E")
  case b6 => omega
  case b3 =>
    intro s H C cl fp x hx
    exact GX.inB (N := N_law_bound) (own := [1, 2]) (vis := [1, 2]) (sc := defScope s_law_bound) rfl T.nd rfl (by decide +kernel) fun TV => GX.tup rfl (GsX.nmV TV (by walk_at "At") (by decide) (GsX.nmV TV (by walk_at "At") (by decide) GsX.nil)) rfl
  case b4 =>
    rintro s H C cl fp Γ' ⟨a, wy⟩ hx
    refine TsX.inB (N := N_law_bound) (own := [1, 2]) (vis := [1, 2]) (sc := defScope s_law_bound) rfl T.nd rfl (by decide +kernel) fun TV => TsX.one ?_
    cases wy <;> walk_at "TE"
  case b5 =>
    rintro s H C cl fp Γ' ⟨a, wy⟩ hx _
    refine EX.inB (N := N_law_bound) (own := [1, 2]) (vis := [1, 2]) (sc := defScope s_law_bound) rfl T.nd rfl (by decide +kernel) fun TV => ?_
    walk_at "E"
  case b9 =>
    show _ = PyData.list (natsD (boundF p))
    unfold natsD boundF
    rw [List.map_map]
    rfl
end
section
variable {P : Program} {w : World} {K : PySem.W.Frag} {mg : Str → Option Value} {base : Heap} {nm : Nat → Str}
local macro_rules | `(tactic| walk_at "R") => `(tactic| solve_by_elim)
local macro_rules | `(tactic| walk_at "fl") => `(tactic| first | exact flat_nats _ | rfl | assumption)
def R_law_named : List PyData → PyData → Prop := fun ds d => ∃ (n : Nat) (bd : List Nat) (odd : Bool) (draw : Int), ds = [.int (n : Nat), .list (natsD bd), .bool odd, .int draw] ∧ d = encO (namedF n bd odd draw)
theorem ok_law_named (pl : Pl K mg "_law_named" s_law_named ["number", "bound", "odd", "draw"]) (B : Bi mg) : Cal P w K mg base "_law_named" 1 ["number", "bound", "odd", "draw"] R_law_named := by
  refine okC 5 pl sc_law_named (by decide +kernel) (by rintro _ _ ⟨_, _, _, _, rfl, _⟩; rfl) ?_
  rintro f cdv A outer s H E Γ _ _ fz hr T ⟨n, bd, odd, draw, rfl, rfl⟩
  refine SXs.reL (l' := [.dat (.int (n : Nat)), .dat (.list (natsD bd)), .dat (.bool odd), .dat (.int draw), .no, .no]) rfl ?_
  refine' SXs.cons (SX.setLc (i := 4) (xs := [n, n + 5]) (own := [("one", 5)]) (is := [5]) (en := fun i : Nat => PyData.int (i : Nat)) (tv := fun i : Nat => [PyData.int (i : Nat)]) (fun one => decide (one < 9) && (odd || !decide (one ∈ bd))) (fun i : Nat => .int (i : Nat)) rfl T.nd ?a1 ?a2 ?a3 (blkOk_by (N := N_law_named) (sc := defScope s_law_named) (by decide +kernel)) ?b2 (by decide) ?b3 ?b4 ?b5 ?b6 ?b7)
  case a1 => rfl
  case a2 => rfl
  case a3 => exact sw_true rfl rfl rfl (by decide +kernel)
  case b2 => exact IX.list (EL.ex (EL.lst (AX.cons (by walk_at "E") (AX.cons (by walk_at "E") AX.nil)) (by show 2 ≤ sizeLine; decide)))
  case b6 => show 2 ≤ 1000000; omega
  case b3 =>
    intro s H C cl fp x hx
    exact GX.inB (N := N_law_named) (own := [5]) (vis := [1, 2, 5]) (sc := defScope s_law_named) rfl T.nd rfl (by decide +kernel) fun TV => GX.nmV TV (by walk_at "At") (by decide)
  case b4 =>
    rintro s H C cl fp Γ' x hx
    refine TsX.inB (N := N_law_named) (own := [5]) (vis := [1, 2, 5]) (sc := defScope s_law_named) rfl T.nd rfl (by decide +kernel) fun TV => TsX.one ?_
    refine' TX.eq ?c1 ?c2
    case c1 => walk_at "T"
    case c2 =>
      rw [any_nat]
      congr 1
      rw [decide_eq_decide]; omega
  case b5 =>
    rintro s H C cl fp Γ' x hx _
    refine EX.inB (N := N_law_named) (own := [5]) (vis := [1, 2, 5]) (sc := defScope s_law_named) rfl T.nd rfl (by decide +kernel) fun TV => ?_
    walk_at "E"
  case b7 =>
    generalize hs : ([n, n + 5].filter fun one => decide (one < 9) && (odd || !decide (one ∈ bd))) = some'
    refine SXs.freeze (i := 4) fz rfl ?_
    refine SXs.reL (l' := [.dat (.int (n : Nat)), .dat (.list (natsD bd)), .dat (.bool odd), .dat (.int draw), .dat (.list (natsD some')), .no]) rfl ?_
    refine' SXs.cons (SX.ite (TX.eq (TX.cmp ?d1 (EL.ex (EL.lst AX.nil (by decide))) (opEq hr.units (shaped_nats _) (by decide +kernel)) rfl) ?d2) ?d3 ?d4)
    case d1 => walk_at "E"
    case d2 => exact eqv_nil _
    case d3 =>
      intro hb
      have hb : natsD some' = [] := of_decide_eq_true hb
      have he : some' = [] := by cases some' with | nil => rfl | cons => cases hb
      walk_at "S"
      unfold namedF
      simp only [hs]
      rw [if_pos he]; rfl
    case d4 =>
      intro hb
      have hb : ¬ natsD some' = [] := of_decide_eq_false hb
      have he : some' ≠ [] := fun z => hb (by rw [z]; rfl)
      have hl : 0 < some'.length := List.length_pos_iff.mpr he
      have el : lenD (.list (natsD some')) = (some'.length : Nat) := by simp [lenD, natsD]
      have hpos : 0 < lenD (.list (natsD some')) := by rw [el]; omega
      have h1 := Int.emod_lt_of_pos draw (show (0 : Int) < some'.length by omega)
      have h2 := Int.emod_nonneg draw (show (some'.length : Int) ≠ 0 by omega)
      obtain ⟨i, hi⟩ : ∃ i : Nat, draw % (some'.length : Int) = (i : Int) := ⟨(draw % (some'.length : Int)).toNat, by omega⟩
      have hx : some'[i]? = some (some'.getD i 0) := by rw [List.getD_eq_getElem?_getD, List.getElem?_eq_getElem (by omega)]; rfl
      have hix : ixD (.list (natsD some')) (i : Int) = some (.int (some'.getD i 0 : Nat)) := by
        refine atI_nat' ?_
        unfold natsD
        rw [List.getElem?_map, hx]; rfl
      refine SXs.nil ?_
      refine' SXs.cons (SX.ret (EX.ix ?e1 (EX.eq (EX.bin ?e2 ?e3 (opMod hpos)) ?e4) hix ?e5 ?e6) ?e7)
      case e1 => walk_at "E"
      case e2 => walk_at "E"
      case e3 => walk_at "E"
      case e4 => rw [el, hi]
      case e5 => intro z q; cases q
      case e6 => intro _ _; rfl
      case e7 =>
        show _ = encO _
        unfold namedF
        simp only [hs]
        rw [if_neg he, hi, Int.toNat_natCast]; rfl
end
/-! ### which word a statement has -/
def words10 : List Str := ["new", "copy", "part", "put", "add", "drop", "say", "call", "back", "fail"]
def wd (k : Nat) : Str := words10.getD k Str.empty
def fittingF (k : Nat) (p : Plan) (x y : Nat) (isI : Bool) : Nat :=
  if x ∈ boundF p ∧ k ∈ [0, 1, 2, 5, 8] then 6
  else if (k ∈ [3, 4] ∧ (y, Way.lend) ∈ p.places) ∨ (k = 8 ∧ p.res = none) then 6
  else if k = 4 ∧ isI = false then 3 else k
theorem wd_in1 : ∀ k, k < 10 → ([PyData.str "new", .str "copy", .str "part", .str "drop", .str "back"].any fun z => PyData.eqv z (.str (wd k))) = decide (k ∈ [0, 1, 2, 5, 8]) := by
  have h : ∀ k : Fin 10, ([PyData.str "new", .str "copy", .str "part", .str "drop", .str "back"].any fun z => PyData.eqv z (.str (wd k))) = decide ((k : Nat) ∈ [0, 1, 2, 5, 8]) := by decide +kernel
  exact fun k hk => h ⟨k, hk⟩
theorem wd_in2 : ∀ k, k < 10 → ([PyData.str "put", .str "add"].any fun z => PyData.eqv z (.str (wd k))) = decide (k ∈ [3, 4]) := by
  have h : ∀ k : Fin 10, ([PyData.str "put", .str "add"].any fun z => PyData.eqv z (.str (wd k))) = decide ((k : Nat) ∈ [3, 4]) := by decide +kernel
  exact fun k hk => h ⟨k, hk⟩
theorem wd_eq : ∀ k j, k < 10 → j < 10 → decide (wd k = wd j) = decide (k = j) := by
  have h : ∀ k j : Fin 10, decide (wd k = wd j) = decide ((k : Nat) = (j : Nat)) := by decide +kernel
  exact fun k j hk hj => h ⟨k, hk⟩ ⟨j, hj⟩
theorem encA_depth (q : Nat × Way) : (encA q).depth ≤ 1 := by
  obtain ⟨a, wy⟩ := q
  cases wy <;> (simp [encA, encW, PyData.depth, PyData.depthAll])
theorem encA_shaped (q : Nat × Way) : SeqAt.shaped (encA q) = true := by
  have hd := encA_depth q
  unfold SeqAt.shaped
  rw [Bool.and_eq_true]
  refine ⟨?_, decide_eq_true (Nat.le_trans hd (by decide))⟩
  show PyData.canLay0 (.tuple [.int (q.1 : Nat), encW q.2]) = true
  simp only [PyData.canLay0, PyData.canLayAll0, Bool.and_true, Bool.true_and]
  exact SeqAt.canLay_of_shaped (encW_shaped q.2)
theorem encA_eqv (q r : Nat × Way) : PyData.eqv (encA q) (encA r) = decide (q = r) := by
  obtain ⟨a, wy⟩ := q
  obtain ⟨b, wz⟩ := r
  have hw : PyData.eqv (encW wy) (encW wz) = decide (wy = wz) := by cases wy <;> cases wz <;> decide +kernel
  show PyData.eqvAll [.int (a : Nat), encW wy] [.int (b : Nat), encW wz] = _
  simp only [PyData.eqvAll, PyData.eqv, hw, Bool.and_true]
  by_cases h1 : a = b
  · subst h1
    by_cases h2 : wy = wz
    · subst h2; simp
    · simp [h2]
  · have : ((a : Int) == (b : Int)) = false := by rw [beq_eq_false_iff_ne]; omega
    rw [this]; simp [h1]
theorem any_place (ps : List (Nat × Way)) (q : Nat × Way) : ((ps.map encA).any fun z => PyData.eqv z (encA q)) = decide (q ∈ ps) := by
  induction ps with
  | nil => simp
  | cons r s ih =>
    rw [List.map_cons, List.any_cons, ih, encA_eqv]
    by_cases h : r = q
    · subst h; simp
    · have h' : ¬ q = r := fun z => h z.symm
      simp [h, h']
section
variable {P : Program} {w : World} {K : PySem.W.Frag} {mg : Str → Option Value} {base : Heap} {nm : Nat → Str}
local macro_rules | `(tactic| walk_at "R") => `(tactic| solve_by_elim)
local macro_rules | `(tactic| walk_at "fl") => `(tactic| first | exact flat_nats _ | rfl | assumption)
def R_law_fitting (nm : Nat → Str) : List PyData → PyData → Prop := fun ds d => ∃ (k : Nat) (p : Plan) (x y : Nat) (last : PyData), k < 10 ∧ p.places.length ≤ 1000 ∧ ds = [.str (wd k), encPlan nm p, .int (x : Nat), .int (y : Nat), last] ∧ d = .str (wd (fittingF k p x y (isIntD last)))
theorem ok_law_fitting (pl : Pl K mg "_law_fitting" s_law_fitting ["word", "door", "x", "y", "last"]) (B : Bi mg) (Cb : Cal P w K mg base "_law_bound" 1 ["door"] (R_law_bound nm)) : Cal P w K mg base "_law_fitting" 2 ["word", "door", "x", "y", "last"] (R_law_fitting nm) := by
  refine okC 5 pl sc_law_fitting (by decide +kernel) (by rintro _ _ ⟨_, _, _, _, _, _, _, rfl, _⟩; rfl) ?_
  rintro f cdv A outer s H E Γ _ _ fz hr T ⟨k, p, x, y, last, hk, hz, rfl, rfl⟩
  refine SXs.reL (l' := [.dat (.str (wd k)), .dat (encPlan nm p), .dat (.int (x : Nat)), .dat (.int (y : Nat)), .dat last]) rfl ?_
  have RB : R_law_bound nm [encPlan nm p] (.list (natsD (boundF p))) := ⟨p, hz, rfl, rfl⟩
  have hi2 : ixD (encPlan nm p) 2 = some (.list (p.places.map encA)) := atI_nat' (j := 2) rfl
  have hi3 : ixD (encPlan nm p) 3 = some (encO p.res) := atI_nat' (j := 3) rfl
  have hsl : SeqAt.shaped (.list (p.places.map encA)) = true := shapedL (fun d hd => by obtain ⟨q, _, rfl⟩ := List.mem_map.mp hd; exact encA_shaped q) (Nat.le_trans (depthAll_of (n := 1) fun d hd => by obtain ⟨q, _, rfl⟩ := List.mem_map.mp hd; exact encA_depth q) (by decide))
  have hu65 : (bx P w K mg base N_law_fitting (Str.ofString "_law_fitting") s_law_fitting f cdv A outer s H E).A.units + 65 < cLine := by have := hr.un; omega
  refine' SXs.cons (SX.ite (TX.eq (b' := decide (x ∈ boundF p ∧ k ∈ [0, 1, 2, 5, 8])) ?a1 ?a2) ?a3 ?a4)
  case a1 => walk_at "T"
  case a2 => rw [any_nat, wd_in1 k hk, Bool.decide_and]
  case a3 =>
    intro hb
    have hb := of_decide_eq_true hb
    walk_at "S"
    unfold fittingF
    rw [if_pos hb]; rfl
  case a4 =>
    intro hb
    have hb := of_decide_eq_false hb
    refine SXs.nil ?_
    refine' SXs.cons (SX.ite (TX.eq (b' := decide ((k ∈ [3, 4] ∧ (y, Way.lend) ∈ p.places) ∨ (k = 8 ∧ p.res = none))) (TX.ofW (WX.or (TX.ofW (WX.and ?b1 fun _ => WX.and1 (TX.cmp ?b2 ?b3 (opInD hu65 ?b4 hsl) ?b5))) fun _ => WX.or1 ?b6)) ?b7) ?b8 ?b9)
    case b1 => walk_at "T"
    case b2 => walk_at "E"
    case b3 => walk_at "E"
    case b4 => exact encA_shaped (y, .lend)
    case b5 => rfl
    case b6 => walk_at "T"
    case b7 =>
      have e1 := any_place p.places (y, .lend)
      have e1 : ((p.places.map encA).any fun z => PyData.eqv z (.tuple [.int (y : Nat), .str "lend"])) = decide ((y, Way.lend) ∈ p.places) := e1
      have e2 : decide (wd k = "back") = decide (k = 8) := wd_eq k 8 hk (by decide)
      have e3 : isN (encO p.res) = decide (p.res = none) := by cases p.res <;> rfl
      rw [e1, wd_in2 k hk, e2, e3, Bool.decide_or, Bool.decide_and, Bool.decide_and]
    case b8 =>
      intro hc
      have hc := of_decide_eq_true hc
      walk_at "S"
      unfold fittingF
      rw [if_neg hb, if_pos hc]; rfl
    case b9 =>
      intro hc
      have hc := of_decide_eq_false hc
      refine SXs.nil ?_
      refine' SXs.cons (SX.ite (TX.eq (b' := decide (k = 4 ∧ isIntD last = false)) ?c1 ?c2) ?c3 ?c4)
      case c1 => walk_at "T"
      case c2 =>
        have e2 : decide (wd k = "add") = decide (k = 4) := wd_eq k 4 hk (by decide)
        rw [e2, Bool.decide_and]
        cases isIntD last <;> simp
      case c3 =>
        intro hd
        have hd := of_decide_eq_true hd
        walk_at "S"
        unfold fittingF
        rw [if_neg hb, if_neg hc, if_pos hd]; rfl
      case c4 =>
        intro hd
        have hd := of_decide_eq_false hd
        refine SXs.nil ?_
        walk_at "S"
        unfold fittingF
        rw [if_neg hb, if_neg hc, if_neg hd]
end
/-! ### the names are good -/
theorem nodup_inj {α : Type} : ∀ {xs : List α} {i j : Nat} {a : α}, xs.Nodup → xs[i]? = some a → xs[j]? = some a → i = j
  | [], i, j, a, _, h, _ => by simp at h
  | x :: xs, 0, 0, a, _, _, _ => rfl
  | x :: xs, 0, j + 1, a, nd, h1, h2 => by
    rw [List.nodup_cons] at nd
    have h1 : x = a := by simpa using h1
    have h2 : xs[j]? = some a := by simpa using h2
    exact absurd (h1 ▸ List.mem_of_getElem? h2) nd.1
  | x :: xs, i + 1, 0, a, nd, h1, h2 => by
    rw [List.nodup_cons] at nd
    have h2 : x = a := by simpa using h2
    have h1 : xs[i]? = some a := by simpa using h1
    exact absurd (h2 ▸ List.mem_of_getElem? h1) nd.1
  | x :: xs, i + 1, j + 1, a, nd, h1, h2 => by
    rw [List.nodup_cons] at nd
    exact congrArg (· + 1) (nodup_inj nd.2 (by simpa using h1) (by simpa using h2))
theorem nodup_range {α : Type} (f : Nat → α) : ∀ n : Nat, (∀ i j, i < n → j < n → f i = f j → i = j) → ((List.range n).map f).Nodup
  | 0, _ => by simp
  | n + 1, h => by
    rw [List.range_succ, List.map_append, List.nodup_append]
    refine ⟨nodup_range f n fun i j hi hj => h i j (by omega) (by omega), by simp, fun a ha b hb e => ?_⟩
    obtain ⟨i, hi, rfl⟩ := List.mem_map.mp ha
    have hb : b = f n := by simpa using hb
    have hi := List.mem_range.mp hi
    have := h i n (by omega) (by omega) (by rw [e, hb])
    omega
def isL (s : Str) : Prop := ∀ c ∈ s.cps.toList, c ∈ letters.cps.toList
theorem isL_word (ns : List Int) : isL (wordS ns) := by
  intro c hc
  rw [wordS_cps] at hc
  obtain ⟨i, _, rfl⟩ := List.mem_map.mp hc
  have h1 := Int.emod_nonneg i (b := 26) (by decide)
  have h2 := Int.emod_lt_of_pos i (b := 26) (by decide)
  have hk : (i % 26).toNat < letters.cps.toList.length := by rw [letters_len]; omega
  rw [List.getD_eq_getElem?_getD, List.getElem?_eq_getElem hk]
  exact List.getElem_mem hk
theorem isL_cat {a b : Str} (ha : isL a) (hb : isL b) : isL (a ++ b) := by
  intro c hc
  rw [cps_cat] at hc
  rcases List.mem_append.mp hc with h | h
  · exact ha c h
  · exact hb c h
theorem isL_cut {a : Str} (ha : isL a) (lo hi : Option Int) : isL (cutS a lo hi) := by
  intro c hc
  unfold cutS at hc
  exact ha c (List.mem_of_mem_drop (List.mem_of_mem_take hc))
theorem isL_rev {a : Str} (ha : isL a) : isL (revS a) := by
  intro c hc
  unfold revS at hc
  exact ha c (by simpa using hc)
theorem rev_len (a : Str) : (revS a).length = a.length := by
  show (a.cps.toList.reverse.toArray).size = a.cps.size
  simp
theorem ownW_ok (i : Int) : isL (ownW i) ∧ (ownW i).length ≤ 5 := by
  unfold ownW
  rw [List.getD_eq_getElem?_getD]
  cases e : ownWords[i.toNat]? with
  | none => exact ⟨fun c hc => by simp [Str.empty] at hc, by decide⟩
  | some x =>
    have hm := List.mem_of_getElem? e
    have h1 : ∀ x ∈ ownWords, x.length ≤ 5 := by decide
    have h2 : ∀ x ∈ ownWords, ∀ c ∈ x.cps.toList, c ∈ letters.cps.toList := by decide +kernel
    exact ⟨h2 x hm, h1 x hm⟩
theorem cutG_two {α : Type} (xs : List α) (a b : Int) (h0 : 0 ≤ a) (hab : a ≤ b) : (cutG xs (some a) (some b)).length ≤ (b - a).toNat := by
  unfold cutG HT.sIx
  simp only [List.length_take, List.length_drop]
  have e1 : ¬ a < 0 := by omega
  have e2 : ¬ b < 0 := by omega
  simp only [e1, e2, if_false]
  omega
theorem cutS_to (z : Str) (a : Int) (h0 : 0 ≤ a) (h : a ≤ z.length) : (cutS z none (some a)).length = a.toNat := by
  show (((z.cps.toList.drop _).take _).toArray).size = _
  have e1 : ¬ a < 0 := by omega
  have hz : z.cps.toList.length = z.length := Array.length_toList
  unfold HT.sIx
  simp only [List.size_toArray, List.length_take, List.length_drop, e1, if_false, hz]
  omega
theorem cutS_from (z : Str) (a : Int) (h0 : 0 ≤ a) : (cutS z (some a) none).length ≤ z.length - a.toNat := by
  show (((z.cps.toList.drop _).take _).toArray).size ≤ _
  have e1 : ¬ a < 0 := by omega
  have hz : z.cps.toList.length = z.length := Array.length_toList
  unfold HT.sIx
  simp only [List.size_toArray, List.length_take, List.length_drop, e1, if_false, hz]
  omega
theorem mem_cutG {α : Type} {xs : List α} {lo hi : Option Int} {x : α} (h : x ∈ cutG xs lo hi) : x ∈ xs := by
  unfold cutG at h
  exact List.mem_of_mem_drop (List.mem_of_mem_take h)
theorem some_ok {row : List Int} (hl : row.length = 20) (hn : ∀ i ∈ row, 0 ≤ i) : ∀ s ∈ someD row 26, isL s ∧ s.length ≤ 8 := by
  obtain ⟨hw1, hw2⟩ := nWord_len hl hn
  have wL : isL (nWord row) := isL_word _
  have lL : isL (nLetter row) := isL_word _
  have l1 : (nLetter row).length ≤ 1 := by
    unfold nLetter
    rw [wordS_len]
    exact cutG_two row 7 8 (by decide) (by decide)
  have hat : 0 ≤ nAt row ∧ nAt row < ((nWord row).length : Nat) := ⟨Int.emod_nonneg _ (by omega), Int.emod_lt_of_pos _ (by omega)⟩
  have c1 := cutS_to (nWord row) (nAt row) hat.1 (by omega)
  have c2 := cutS_from (nWord row) (nAt row + 1) (by omega)
  have h17 : 0 ≤ rI row 17 % 5 ∧ rI row 17 % 5 < 5 := ⟨Int.emod_nonneg _ (by decide), Int.emod_lt_of_pos _ (by decide)⟩
  have hA : ∀ s ∈ someA row, isL s ∧ s.length ≤ 8 := by
    intro s hs
    unfold someA at hs
    simp only [List.mem_cons, List.not_mem_nil, or_false] at hs
    rcases hs with rfl | rfl | rfl | rfl | rfl | rfl
    · exact ⟨wL, by omega⟩
    · exact ⟨isL_cat wL lL, by rw [len_cat]; omega⟩
    · exact ⟨isL_cat lL wL, by rw [len_cat]; omega⟩
    · exact ⟨isL_cat (isL_cat (isL_cut wL _ _) lL) (isL_cut wL _ _), by rw [len_cat, len_cat]; omega⟩
    · exact ⟨isL_cut wL _ _, by omega⟩
    · exact ⟨isL_rev wL, by rw [rev_len]; omega⟩
  have hB : ∀ s ∈ someB row, isL s ∧ s.length ≤ 8 := by
    intro s hs
    unfold someB at hs
    rcases List.mem_append.mp hs with h | h
    · exact hA s h
    · simp only [List.mem_cons, List.not_mem_nil, or_false] at h
      rcases h with rfl | rfl | rfl
      · exact ⟨(ownW_ok _).1, by have := (ownW_ok (rI row 9 % 13)).2; omega⟩
      · refine ⟨isL_word _, ?_⟩
        rw [wordS_len]
        have := cutG_two row 10 (11 + rI row 17 % 5) (by decide) (by omega)
        omega
      · exact ⟨isL_cat (ownW_ok _).1 lL, by rw [len_cat]; have := (ownW_ok (rI row 9 / 13 % 13)).2; omega⟩
  intro s hs
  unfold someD someC at hs
  rcases List.mem_append.mp hs with h | h
  · rcases List.mem_append.mp h with h | h
    · exact hB s (mem_cutG h)
    · exact hB s (mem_cutG h)
  · obtain ⟨k, _, rfl⟩ := List.mem_map.mp h
    exact ⟨isL_word _, by rw [wordS_len]; show 1 ≤ 8; omega⟩
theorem pick_inv (xs : List Str) : ∀ ns : List Str, ns.Nodup → ns.length ≤ 9 → (∀ s ∈ ns, s ≠ Str.empty) →
    (xs.foldl pick1 ns).Nodup ∧ (xs.foldl pick1 ns).length ≤ 9 ∧ (∀ s ∈ xs.foldl pick1 ns, s ≠ Str.empty ∧ (s ∈ ns ∨ s ∈ xs)) ∧ (∀ s ∈ ns, s ∈ xs.foldl pick1 ns) ∧ ((xs.foldl pick1 ns).length < 9 → ∀ s ∈ xs, s ≠ Str.empty → s ∈ xs.foldl pick1 ns) := by
  induction xs with
  | nil => exact fun ns h1 h2 h3 => ⟨h1, h2, fun s hs => ⟨h3 s hs, .inl hs⟩, fun s hs => hs, fun _ s hs => by simp at hs⟩
  | cons x r ih =>
    intro ns h1 h2 h3
    rw [List.foldl_cons]
    have step : (pick1 ns x).Nodup ∧ (pick1 ns x).length ≤ 9 ∧ (∀ s ∈ pick1 ns x, s ≠ Str.empty ∧ (s ∈ ns ∨ s = x)) ∧ (∀ s ∈ ns, s ∈ pick1 ns x) ∧ ((pick1 ns x).length < 9 → x ≠ Str.empty → x ∈ pick1 ns x) := by
      unfold pick1
      split
      · rename_i h
        refine ⟨?_, by rw [List.length_append]; simp; omega, fun s hs => ?_, fun s hs => List.mem_append_left _ hs, fun _ _ => by simp⟩
        · rw [List.nodup_append]
          exact ⟨h1, by simp, fun a ha b hb => by
            have : b = x := by simpa using hb
            subst this
            exact fun e => h.2.1 (e ▸ ha)⟩
        · rcases List.mem_append.mp hs with z | z
          · exact ⟨h3 s z, .inl z⟩
          · have : s = x := by simpa using z
            subst this
            exact ⟨h.1, .inr rfl⟩
      · rename_i h
        refine ⟨h1, h2, fun s hs => ⟨h3 s hs, .inl hs⟩, fun s hs => hs, fun hl hx => ?_⟩
        by_cases hm : x ∈ ns
        · exact hm
        · exact absurd ⟨hx, hm, hl⟩ h
    obtain ⟨s1, s2, s3, s4, s5⟩ := step
    obtain ⟨r1, r2, r3, r4, r5⟩ := ih (pick1 ns x) s1 s2 fun s hs => (s3 s hs).1
    refine ⟨r1, r2, fun s hs => ⟨(r3 s hs).1, ?_⟩, fun s hs => r4 s (s4 s hs), fun hl s hs hne => ?_⟩
    · rcases (r3 s hs).2 with z | z
      · rcases (s3 s z).2 with y | y
        · exact .inl y
        · exact .inr (by rw [y]; simp)
      · exact .inr (by simp [z])
    · rcases List.mem_cons.mp hs with rfl | z
      · by_cases hx : (pick1 ns s).length < 9
        · exact r4 s (s5 hx hne)
        · exfalso
          have := nodup_le s1 (fun y hy => r4 y hy)
          omega
      · exact r5 hl s z hne
theorem letters_nodup : letters.cps.toList.Nodup := by decide +kernel
theorem single_inj {r : Int} {i j : Nat} (hi : i < 26) (hj : j < 26) (h : wordS [r + 7 * (i : Nat)] = wordS [r + 7 * (j : Nat)]) : i = j := by
  have e := congrArg (fun s : Str => s.cps.toList) h
  simp only [wordS_cps, List.map_cons, List.map_nil, List.cons.injEq, and_true] at e
  have a1 := Int.emod_nonneg (r + 7 * (i : Nat)) (b := 26) (by decide)
  have a2 := Int.emod_lt_of_pos (r + 7 * (i : Nat)) (b := 26) (by decide)
  have b1 := Int.emod_nonneg (r + 7 * (j : Nat)) (b := 26) (by decide)
  have b2 := Int.emod_lt_of_pos (r + 7 * (j : Nat)) (b := 26) (by decide)
  have k1 : ((r + 7 * (i : Nat)) % 26).toNat < letters.cps.toList.length := by rw [letters_len]; omega
  have k2 : ((r + 7 * (j : Nat)) % 26).toNat < letters.cps.toList.length := by rw [letters_len]; omega
  rw [List.getD_eq_getElem?_getD, List.getD_eq_getElem?_getD, List.getElem?_eq_getElem k1, List.getElem?_eq_getElem k2] at e
  have e' : letters.cps.toList[((r + 7 * (i : Nat)) % 26).toNat] = letters.cps.toList[((r + 7 * (j : Nat)) % 26).toNat] := e
  have := nodup_inj letters_nodup (List.getElem?_eq_getElem k1) (by rw [List.getElem?_eq_getElem k2, e'])
  omega
theorem names_ok {row : List Int} (hl : row.length = 20) (hn : ∀ i ∈ row, 0 ≤ i) : (namesF row).length = 9 ∧ (namesF row).Nodup ∧ ∀ s ∈ namesF row, isNameS s = true := by
  obtain ⟨h1, h2, h3, _, h5⟩ := pick_inv (someD row 26) [] List.nodup_nil (by simp) (fun s hs => by simp at hs)
  have hok := some_ok hl hn
  have hlen : (namesF row).length = 9 := by
    by_cases hlt : (namesF row).length < 9
    · exfalso
      have sub : ∀ s ∈ (List.range 26).map (fun k => wordS [rI row 19 + 7 * (k : Nat)]), s ∈ namesF row := fun s hs => by
        refine h5 hlt s ?_ ?_
        · unfold someD
          exact List.mem_append_right _ hs
        · obtain ⟨k, _, rfl⟩ := List.mem_map.mp hs
          intro e
          have := congrArg Str.length e
          rw [wordS_len] at this
          cases this
      have nd : ((List.range 26).map (fun k => wordS [rI row 19 + 7 * (k : Nat)])).Nodup := by
        exact nodup_range _ 26 fun i j hi hj e => single_inj hi hj e
      have := nodup_le nd sub
      rw [List.length_map, List.length_range] at this
      omega
    · exact Nat.le_antisymm h2 (by omega)
  refine ⟨hlen, h1, fun s hs => ?_⟩
  obtain ⟨ne, hm⟩ := h3 s hs
  have hm : s ∈ someD row 26 := by
    rcases hm with z | z
    · simp at z
    · exact z
  obtain ⟨a1, a2⟩ := hok s hm
  have a0 : 1 ≤ s.length := by
    rcases Nat.eq_zero_or_pos s.length with z | z
    · exfalso
      refine ne ?_
      obtain ⟨c⟩ := s
      have : c = #[] := Array.size_eq_zero_iff.mp z
      rw [this]; rfl
    · exact z
  unfold isNameS
  simp only [Bool.and_eq_true, decide_eq_true_eq, List.all_eq_true]
  exact ⟨⟨a0, a2⟩, a1⟩
/-- nine names, a tenth, and others that are none -/
def nmOf (names : List Str) (spare : Str) (i : Nat) : Str := if i < 9 then names.getD i Str.empty else if i = 9 then spare else ⟨#[1000 + i]⟩
theorem nmOf_good {names : List Str} {spare : Str} (hl : names.length = 9) (nd : names.Nodup) (hn : ∀ s ∈ names, isNameS s = true) (hs : isNameS spare = true) (hx : spare ∉ names) : Good (nmOf names spare) := by
  have far : ∀ i, 10 ≤ i → isNameS ⟨#[1000 + i]⟩ = false := fun i hi => by
    unfold isNameS
    have h2 : ¬ (1000 + i) ∈ letters.cps.toList := by
      intro h
      have hlt := letters_ok
      simp only [List.all_eq_true, decide_eq_true_eq] at hlt
      have := hlt _ h
      omega
    have h3 : ((⟨#[1000 + i]⟩ : Str).cps.toList.all fun c => decide (c ∈ letters.cps.toList)) = false := by
      show (decide ((1000 + i) ∈ letters.cps.toList) && true) = false
      rw [decide_eq_false h2]; rfl
    rw [h3, Bool.and_false]
  have near : ∀ i (h : i < 9), nmOf names spare i = names[i]'(by omega) := fun i h => by
    unfold nmOf
    rw [if_pos h, List.getD_eq_getElem?_getD, List.getElem?_eq_getElem (by omega)]
    rfl
  have nine : nmOf names spare 9 = spare := rfl
  have rest : ∀ i, 10 ≤ i → nmOf names spare i = ⟨#[1000 + i]⟩ := fun i h => by
    unfold nmOf
    rw [if_neg (by omega), if_neg (by omega)]
  have ok : ∀ i, isNameS (nmOf names spare i) = decide (i < 10) := fun i => by
    by_cases h : i < 9
    · rw [near i h, hn _ (List.getElem_mem _), decide_eq_true (by omega)]
    · by_cases h2 : i = 9
      · subst h2; rw [nine, hs]; rfl
      · rw [rest i (by omega), far i (by omega), decide_eq_false (by omega)]
  refine ⟨fun i j e => ?_, ok, fun i => ?_⟩
  · have hij : (i < 10) ↔ (j < 10) := by
      have := congrArg isNameS e
      rw [ok, ok] at this
      exact decide_eq_decide.mp this
    by_cases h : i < 9
    · by_cases h2 : j < 9
      · rw [near i h, near j h2] at e
        exact nodup_inj nd (List.getElem?_eq_getElem (by omega)) (by rw [List.getElem?_eq_getElem (by omega), e])
      · have : j = 9 := by omega
        subst this
        rw [near i h, nine] at e
        exact absurd (e ▸ List.getElem_mem _) hx
    · by_cases h2 : i = 9
      · subst h2
        by_cases h3 : j < 9
        · rw [near j h3, nine] at e
          exact absurd (e ▸ List.getElem_mem _) hx
        · omega
      · rw [rest i (by omega), rest j (by omega)] at e
        have : 1000 + i = 1000 + j := by injection e with e; simpa using e
        omega
  · by_cases h : i < 10
    · have := ok i
      rw [decide_eq_true h] at this
      unfold isNameS at this
      simp only [Bool.and_eq_true, decide_eq_true_eq] at this
      omega
    · rw [rest i (by omega)]
      show 1 ≤ 1000000
      omega
/-! ### what the law's world is -/
structure Wd where
  kinds : List Kd
  steps : List Stp
  doors : List Plan
def namesD (nm : Nat → Str) : List PyData := (List.range 9).map fun i => .str (nm i)
def encWd (nm : Nat → Str) (v : Wd) : PyData := .tuple [.list (namesD nm), .list (v.kinds.map (encK nm)), .list (v.steps.map (encS nm)), .list (v.doors.map (encPlan nm))]
structure WdOk (v : Wd) : Prop where
  kl : v.kinds.length = 5
  kk : ∀ k ∈ v.kinds, isK k = true
  sl : v.steps.length = 4
  dl : 1 ≤ v.doors.length ∧ v.doors.length ≤ 4
  dp : ∀ d ∈ v.doors, d.places.length ≤ 4 ∧ ∀ q ∈ d.places, q.1 < 9
  dn : ∀ d ∈ v.doors, d.name < 9
  dr : ∀ d ∈ v.doors, ∀ k, d.res = some k → k < 5
def shelfD (q : Nat × Int) : PyData := .tuple [.int (q.1 : Nat), .int q.2]
theorem names_at {nm : Nat → Str} {i : Nat} (h : i < 9) : ixD (.list (namesD nm)) (i : Int) = some (.str (nm i)) := by
  refine atI_nat' ?_
  unfold namesD
  rw [List.getElem?_map, List.getElem?_range h]; rfl
def kindAtW (v : Wd) (i : Nat) : Kd := v.kinds.getD i .text
theorem kinds_at {nm : Nat → Str} {v : Wd} (hv : WdOk v) {i : Nat} (h : i < 5) : ixD (.list (v.kinds.map (encK nm))) (i : Int) = some (encK nm (kindAtW v i)) := by
  refine atI_nat' ?_
  have hk := hv.kl
  unfold kindAtW
  rw [List.getElem?_map, List.getD_eq_getElem?_getD, List.getElem?_eq_getElem (by omega)]; rfl
theorem kindAtW_ok {v : Wd} (hv : WdOk v) {i : Nat} (h : i < 5) : isK (kindAtW v i) = true := by
  have hk := hv.kl
  unfold kindAtW
  rw [List.getD_eq_getElem?_getD, List.getElem?_eq_getElem (by omega)]
  exact hv.kk _ (List.getElem_mem _)
def begunF (v : Wd) (shelves : List (Nat × Int)) (p : Plan) (at_ : Nat) (all : Bool) : List Sm :=
  if all = false then [] else
    let there := p.places.map (·.1) ++ (shelves.filter fun q => decide (q.2 = p.side)).map (·.1)
    ((List.range 9).filter fun k => !decide (k ∈ there)).map fun k => .new k (kindAtW v (k % 5)) ((k + at_ : Nat) : Int)
section
variable {P : Program} {w : World} {K : PySem.W.Frag} {mg : Str → Option Value} {base : Heap} {nm : Nat → Str}
local macro_rules | `(tactic| walk_at "R") => `(tactic| solve_by_elim)
local macro_rules | `(tactic| walk_at "fl") => `(tactic| first | exact flat_nats _ | rfl | assumption)
def R_law_same_told (nm : Nat → Str) : List PyData → PyData → Prop := fun ds d => ∃ (p : Prog) (due : Bool), smallProg p ∧ ds = [encProg nm p, .bool due] ∧ d = .bool (isProg p == due)
theorem ok_law_same_told (pl : Pl K mg "_law_same_told" s_law_same_told ["program", "due"]) (B : Bi mg) (Cp : Cal P w K mg base "is_program" 26 ["thing"] (R_is_program nm)) : Cal P w K mg base "_law_same_told" 27 ["program", "due"] (R_law_same_told nm) := by
  refine okC 3 pl sc_law_same_told (by decide +kernel) (by rintro _ _ ⟨_, _, _, rfl, _⟩; rfl) ?_
  rintro f cdv A outer s H E Γ _ _ fz hr T ⟨p, due, hz, rfl, rfl⟩
  have RP : R_is_program nm [encProg nm p] (.bool (isProg p)) := ⟨p, hz, rfl, rfl⟩
  refine SXs.reL (l' := [.dat (encProg nm p), .dat (.bool due), .no]) rfl ?_
  walk_at "S"
  case k5 =>
    walk_at "S"
    rfl
end
/-! ### the doors' plans, drawn -/
def ways4 (b : Int) : List Way := if b % 2 = 0 then [.copy, .give, .copy, .give] else [.copy, .give, .lend, .lease]
def mult3 (i : Int) : Int := [1, 2, 4].getD (i % 3).toNat 1
def placeF (ways : List Way) (some' : List Int) (k : Nat) : Nat × Way := (((rI some' 1 / 5 + (k : Int) * mult3 (rI some' 1 / 45)) % 9).toNat, ways.getD (some'.getD (2 + k) 0 % 4).toNat .copy)
def resF (i : Int) : Option Nat := if i % 6 = 0 then none else some ((i % 6).toNat - 1)
def planF (row : List Int) (d : Nat) : Plan :=
  let some' := cutG row (some (2 + 6 * (d : Int))) (some (8 + 6 * (d : Int)))
  ⟨((rI row 0 / 4 + (d : Int)) % 9).toNat, rI some' 0 % 2, (List.range (rI some' 1 % 5).toNat).map (placeF (ways4 (rI row 1)) some'), resF (rI some' 0 / 2)⟩
def plansF (row : List Int) : List Plan := (List.range (1 + rI row 0 % 4).toNat).map (planF row)
theorem plans_len (row : List Int) : 1 ≤ (plansF row).length ∧ (plansF row).length ≤ 4 := by
  unfold plansF
  rw [List.length_map, List.length_range]
  have h1 := Int.emod_nonneg (rI row 0) (b := 4) (by decide)
  have h2 := Int.emod_lt_of_pos (rI row 0) (b := 4) (by decide)
  omega
theorem plans_ok {row : List Int} : ∀ p ∈ plansF row, p.places.length ≤ 4 ∧ (∀ q ∈ p.places, q.1 < 9) ∧ p.name < 9 ∧ ∀ k, p.res = some k → k < 5 := by
  intro p hp
  obtain ⟨d, _, rfl⟩ := List.mem_map.mp hp
  unfold planF
  refine ⟨?_, fun q hq => ?_, ?_, fun k hk => ?_⟩
  · simp only [List.length_map, List.length_range]
    have h1 := Int.emod_nonneg (rI (cutG row (some (2 + 6 * (d : Int))) (some (8 + 6 * (d : Int)))) 1) (b := 5) (by decide)
    have h2 := Int.emod_lt_of_pos (rI (cutG row (some (2 + 6 * (d : Int))) (some (8 + 6 * (d : Int)))) 1) (b := 5) (by decide)
    omega
  · obtain ⟨k, _, rfl⟩ := List.mem_map.mp hq
    unfold placeF
    show (_ % 9 : Int).toNat < 9
    omega
  · show (_ % 9 : Int).toNat < 9
    omega
  · have hk : resF _ = some k := hk
    unfold resF at hk
    split at hk
    · cases hk
    · cases hk
      omega
section
variable {P : Program} {w : World} {K : PySem.W.Frag} {mg : Str → Option Value} {base : Heap} {nm : Nat → Str}
local macro_rules | `(tactic| walk_at "R") => `(tactic| solve_by_elim)
def R_law_plans (nm : Nat → Str) : List PyData → PyData → Prop := fun ds d => ∃ row : List Int, row.length = 26 ∧ (∀ i ∈ row, 0 ≤ i) ∧ ds = [.list (namesD nm), .list (row.map .int)] ∧ d = .list ((plansF row).map (encPlan nm))
theorem cutG_mid {α : Type} (xs : List α) (a b : Nat) (hab : a ≤ b) (hb : b ≤ xs.length) : (cutG xs (some (a : Int)) (some (b : Int))).length = b - a := by
  unfold cutG HT.sIx
  simp only [List.length_take, List.length_drop]
  have e1 : ¬ (a : Int) < 0 := by omega
  have e2 : ¬ (b : Int) < 0 := by omega
  simp only [e1, e2, if_false, Int.toNat_natCast]
  omega
theorem ok_law_plans (pl : Pl K mg "_law_plans" s_law_plans ["names", "row"]) (B : Bi mg) : Cal P w K mg base "_law_plans" 1 ["names", "row"] (R_law_plans nm) := by
  refine okC 9 pl sc_law_plans (by decide +kernel) (by rintro _ _ ⟨_, _, _, rfl, _⟩; rfl) ?_
  rintro f cdv A outer s H E Γ _ _ fz hr T ⟨row, hl, hn, rfl, rfl⟩
  refine SXs.reL (l' := [.dat (.list (namesD nm)), .dat (.list (row.map .int)), .no, .no, .no, .no, .no, .no, .no]) rfl ?_
  have hm4 := Int.emod_nonneg (rI row 0) (b := 4) (by decide)
  have hm4' := Int.emod_lt_of_pos (rI row 0) (b := 4) (by decide)
  have hw : ixD (.list [.list [.str "copy", .str "give", .str "copy", .str "give"], .list [.str "copy", .str "give", .str "lend", .str "lease"]]) (rI row 1 % 2) = some (.list ((ways4 (rI row 1)).map encW)) := by
    have : rI row 1 % 2 = 0 ∨ rI row 1 % 2 = 1 := by omega
    unfold ways4
    rcases this with h | h
    · rw [h, if_pos rfl]; rfl
    · rw [h, if_neg (by omega)]; rfl
  walk_at "S"
  case k5 =>
    walk_at "S"
    case k5 =>
      refine SXs.reL (l' := [.dat (.list (namesD nm)), .dat (.list (row.map .int)), .own (((List.range 0).map (planF row)).map (encPlan nm)), .dat (.list ((ways4 (rI row 1)).map encW)), .no, .no, .no, .no, .no]) rfl ?_
      walk_at "L"
      case W => exact fun j l2 => ∃ a b c d e, l2 = [.dat (.list (namesD nm)), .dat (.list (row.map .int)), .own (((List.range j).map (planF row)).map (encPlan nm)), .dat (.list ((ways4 (rI row 1)).map encW)), a, b, c, d, e]
      case k1 => exact IX.range (by walk_at "A") ⟨by have : (0 : Int) ≤ row.getD (0 : Int).toNat 0 % 4 := hm4; omega, by have : row.getD (0 : Int).toNat 0 % 4 < 4 := hm4'; omega⟩ rfl B.range
      case k3 => exact ⟨.no, .no, .no, .no, .no, rfl⟩
      case k4 =>
        rintro j d l2 hd ⟨a, b, c, d0, e, rfl⟩
        have hj : j < (1 + rI row 0 % 4).toNat := by
          have := (List.getElem?_eq_some_iff.mp hd).1
          rw [nums_len] at this
          exact this
        rw [nums_get (show j < (1 + row.getD (0 : Int).toNat 0 % 4).toNat from hj)] at hd
        cases hd
        have hj4 : j < 4 := by omega
        obtain ⟨so, hso⟩ : ∃ so, so = cutG row (some (2 + 6 * (j : Int))) (some (8 + 6 * (j : Int))) := ⟨_, rfl⟩
        have hsl : so.length = 6 := by
          have := cutG_mid row (2 + 6 * j) (8 + 6 * j) (by omega) (by omega)
          rw [hso]
          rw [show ((2 + 6 * j : Nat) : Int) = 2 + 6 * (j : Int) by omega, show ((8 + 6 * j : Nat) : Int) = 8 + 6 * (j : Int) by omega] at this
          omega
        have cm : CMul 6 (j : Nat) := .inl ⟨by decide, by decide⟩
        refine SXs.reL (l' := [.dat (.list (namesD nm)), .dat (.list (row.map .int)), .own (((List.range j).map (planF row)).map (encPlan nm)), .dat (.list ((ways4 (rI row 1)).map encW)), .dat (.int (j : Nat)), b, c, d0, e]) rfl ?_
        walk_at "S"
        case k5 =>
          refine SXs.reL (l' := [.dat (.list (namesD nm)), .dat (.list (row.map .int)), .own (((List.range j).map (planF row)).map (encPlan nm)), .dat (.list ((ways4 (rI row 1)).map encW)), .dat (.int (j : Nat)), .dat (.list (so.map .int)), c, d0, e]) (by rw [hso, cutG_map]; rfl) ?_
          have hpl : planF row j = ⟨((rI row 0 / 4 + (j : Int)) % 9).toNat, rI so 0 % 2, (List.range (rI so 1 % 5).toNat).map (placeF (ways4 (rI row 1)) so), resF (rI so 0 / 2)⟩ := by unfold planF; rw [← hso]
          have h5 := Int.emod_nonneg (rI so 1) (b := 5) (by decide)
          have h5' := Int.emod_lt_of_pos (rI so 1) (b := 5) (by decide)
          walk_at "S"
          case k5 =>
            walk_at "L"
            case W => exact fun i l2 => ∃ e', l2 = [.dat (.list (namesD nm)), .dat (.list (row.map .int)), .own (((List.range j).map (planF row)).map (encPlan nm)), .dat (.list ((ways4 (rI row 1)).map encW)), .dat (.int (j : Nat)), .dat (.list (so.map .int)), .own (((List.range i).map (placeF (ways4 (rI row 1)) so)).map encA), e', e]
            case k1 => exact IX.range (by walk_at "A") ⟨by have : (0 : Int) ≤ so.getD (1 : Int).toNat 0 % 5 := h5; omega, by have : so.getD (1 : Int).toNat 0 % 5 < 5 := h5'; omega⟩ rfl B.range
            case k3 => exact ⟨_, rfl⟩
            case k4 =>
              rintro i d l2 hd ⟨e', rfl⟩
              have hi : i < (rI so 1 % 5).toNat := by
                have := (List.getElem?_eq_some_iff.mp hd).1
                rw [nums_len] at this
                exact this
              rw [nums_get (show i < (so.getD (1 : Int).toNat 0 % 5).toNat from hi)] at hd
              cases hd
              have hi4 : i < 4 := by omega
              refine SXs.reL (l' := [.dat (.list (namesD nm)), .dat (.list (row.map .int)), .own (((List.range j).map (planF row)).map (encPlan nm)), .dat (.list ((ways4 (rI row 1)).map encW)), .dat (.int (j : Nat)), .dat (.list (so.map .int)), .own (((List.range i).map (placeF (ways4 (rI row 1)) so)).map encA), .dat (.int (i : Nat)), e]) rfl ?_
              have q3 := Int.emod_nonneg (rI so 1 / 45) (b := 3) (by decide)
              have q3' := Int.emod_lt_of_pos (rI so 1 / 45) (b := 3) (by decide)
              have hmu : ixD (.list [.int 1, .int 2, .int 4]) (rI so 1 / 45 % 3) = some (.int (mult3 (rI so 1 / 45))) := by
                have : rI so 1 / 45 % 3 = 0 ∨ rI so 1 / 45 % 3 = 1 ∨ rI so 1 / 45 % 3 = 2 := by omega
                unfold mult3
                rcases this with h | h | h <;> (rw [h]; rfl)
              have cm2 : CMul (i : Nat) (mult3 (rI so 1 / 45)) := .inl ⟨by omega, by omega⟩
              have r4 := Int.emod_nonneg (so.getD (2 + i) 0) (b := 4) (by decide)
              have r4' := Int.emod_lt_of_pos (so.getD (2 + i) 0) (b := 4) (by decide)
              have hsi : ixD (.list (so.map .int)) (2 + (i : Int)) = some (.int (so.getD (2 + i) 0)) := by
                have := ixR (row := so) (j := 2 + (i : Int)) (by omega) (by omega)
                rwa [show (2 + (i : Int)).toNat = 2 + i by omega] at this
              have hwy : ixD (.list ((ways4 (rI row 1)).map encW)) (so.getD (2 + i) 0 % 4) = some (encW ((ways4 (rI row 1)).getD (so.getD (2 + i) 0 % 4).toNat .copy)) := by
                obtain ⟨k, hk⟩ : ∃ k : Nat, so.getD (2 + i) 0 % 4 = (k : Int) := ⟨_, (Int.toNat_of_nonneg r4).symm⟩
                have hwl : (ways4 (rI row 1)).length = 4 := by unfold ways4; split <;> rfl
                rw [hk]
                refine atI_nat' ?_
                rw [List.getElem?_map, Int.toNat_natCast, List.getD_eq_getElem?_getD, List.getElem?_eq_getElem (by omega)]; rfl
              walk_at "S"
              case kz => simp only [List.length_map, List.length_range]; omega
              refine SXs.nil ⟨.dat (.int (i : Nat)), ?_⟩
              have q9 := Int.emod_nonneg (rI so 1 / 5 + (i : Int) * mult3 (rI so 1 / 45)) (b := 9) (by decide)
              have : ((List.range (i + 1)).map (placeF (ways4 (rI row 1)) so)).map encA = ((List.range i).map (placeF (ways4 (rI row 1)) so)).map encA ++ [.tuple [.int ((rI so 1 / 5 + (i : Int) * mult3 (rI so 1 / 45)) % 9), encW ((ways4 (rI row 1)).getD (so.getD (2 + i) 0 % 4).toNat .copy)]] := by
                rw [List.range_succ, List.map_append, List.map_append]
                congr 1
                show [encA (placeF (ways4 (rI row 1)) so i)] = _
                unfold encA placeF
                rw [Int.toNat_of_nonneg q9]
              rw [this]; rfl
            case k5 =>
              rintro l2 ⟨e', rfl⟩
              have hpp : ((List.range (nums (so.getD (1 : Int).toNat 0 % 5).toNat).length).map (placeF (ways4 (rI row 1)) so)) = (planF row j).places := by rw [nums_len, hpl]; rfl
              rw [hpp]
              refine SXs.freeze (i := 6) fz rfl ?_
              refine SXs.reL (l' := [.dat (.list (namesD nm)), .dat (.list (row.map .int)), .own (((List.range j).map (planF row)).map (encPlan nm)), .dat (.list ((ways4 (rI row 1)).map encW)), .dat (.int (j : Nat)), .dat (.list (so.map .int)), .dat (.list ((planF row j).places.map encA)), e', e]) rfl ?_
              have hre : ixD (.list [.none, .int 0, .int 1, .int 2, .int 3, .int 4]) (rI so 0 / 2 % 6) = some (encO (resF (rI so 0 / 2))) := by
                have q1 := Int.emod_nonneg (rI so 0 / 2) (b := 6) (by decide)
                have q2 := Int.emod_lt_of_pos (rI so 0 / 2) (b := 6) (by decide)
                have : rI so 0 / 2 % 6 = 0 ∨ rI so 0 / 2 % 6 = 1 ∨ rI so 0 / 2 % 6 = 2 ∨ rI so 0 / 2 % 6 = 3 ∨ rI so 0 / 2 % 6 = 4 ∨ rI so 0 / 2 % 6 = 5 := by omega
                unfold resF
                rcases this with h | h | h | h | h | h <;> (rw [h]; rfl)
              have p9 := Int.emod_nonneg (rI row 0 / 4 + (j : Int)) (b := 9) (by decide)
              have p9' := Int.emod_lt_of_pos (rI row 0 / 4 + (j : Int)) (b := 9) (by decide)
              have hna : ixD (.list (namesD nm)) ((rI row 0 / 4 + (j : Int)) % 9) = some (.str (nm ((rI row 0 / 4 + (j : Int)) % 9).toNat)) := by
                have := names_at (nm := nm) (i := ((rI row 0 / 4 + (j : Int)) % 9).toNat) (by omega)
                rwa [Int.toNat_of_nonneg p9] at this
              walk_at "S"
              case k5 =>
                walk_at "S"
                case kz => simp only [List.length_map, List.length_range]; omega
                refine SXs.nil ⟨.dat (.int (j : Nat)), .dat (.list (so.map .int)), .dat (.list ((planF row j).places.map encA)), e', .dat (encO (resF (rI so 0 / 2))), ?_⟩
                have : ((List.range (j + 1)).map (planF row)).map (encPlan nm) = ((List.range j).map (planF row)).map (encPlan nm) ++ [.tuple [.str (nm ((rI row 0 / 4 + (j : Int)) % 9).toNat), .int (rI so 0 % 2), .list ((planF row j).places.map encA), encO (resF (rI so 0 / 2))]] := by
                  rw [List.range_succ, List.map_append, List.map_append]
                  congr 1
                  show [encPlan nm (planF row j)] = _
                  unfold encPlan
                  rw [hpl]
                rw [this]; rfl
      case k5 =>
        rintro l2 ⟨a, b, c, d, e, rfl⟩
        refine SXs.freeze (i := 2) fz rfl ?_
        walk_at "S"
        show PyData.list _ = PyData.list _
        unfold plansF
        rw [nums_len]
        rfl
end
/-! ### the shelves, drawn -/
def thereF (doors : List Plan) (side : Int) : List Nat := (doors.filter fun p => decide (p.side = side)).flatMap fun p => p.places.map (·.1)
def shelfOne (number seed : Int) (k : Nat) : Nat × Int := (((number / 4 + (k : Int) * (number / 36 % 3)) % 9).toNat, seed / [1, 2, 4].getD k 1 % 2)
def shelf1 (doors : List Plan) (number seed : Int) (found : List (Nat × Int)) (k : Nat) : List (Nat × Int) :=
  if shelfOne number seed k ∉ found ∧ (shelfOne number seed k).1 ∉ thereF doors (shelfOne number seed k).2 ∨ shelfOne number seed k ∉ found ∧ number / 108 % 8 = 5 then found ++ [shelfOne number seed k] else found
def shelvesF (doors : List Plan) (number seed : Int) : List (Nat × Int) := (List.range (number % 4).toNat).foldl (shelf1 doors number seed) []
theorem shelfD_eqv (q r : Nat × Int) : PyData.eqv (shelfD q) (shelfD r) = decide (q = r) := by
  obtain ⟨a, i⟩ := q
  obtain ⟨b, j⟩ := r
  show PyData.eqvAll [.int (a : Nat), .int i] [.int (b : Nat), .int j] = _
  simp only [PyData.eqvAll, PyData.eqv, Bool.and_true]
  by_cases h1 : a = b
  · subst h1
    by_cases h2 : i = j
    · subst h2; simp
    · simp [h2]
  · have : ((a : Int) == (b : Int)) = false := by rw [beq_eq_false_iff_ne]; omega
    rw [this]; simp [h1]
theorem any_shelf (ps : List (Nat × Int)) (q : Nat × Int) : ((ps.map shelfD).any fun z => PyData.eqv z (shelfD q)) = decide (q ∈ ps) := by
  induction ps with
  | nil => simp
  | cons r s ih =>
    rw [List.map_cons, List.any_cons, ih, shelfD_eqv]
    by_cases h : r = q
    · subst h; simp
    · have h' : ¬ q = r := fun z => h z.symm
      simp [h, h']
theorem shelfD_shaped (q : Nat × Int) : SeqAt.shaped (shelfD q) = true := by
  unfold SeqAt.shaped
  simp [shelfD, PyData.canLay0, PyData.canLayAll0, PyData.depth, PyData.depthAll]
theorem shelves_shaped (ps : List (Nat × Int)) : SeqAt.shaped (.list (ps.map shelfD)) = true :=
  shapedL (fun d hd => by obtain ⟨q, _, rfl⟩ := List.mem_map.mp hd; exact shelfD_shaped q) (Nat.le_trans (depthAll_of (n := 1) fun d hd => by obtain ⟨q, _, rfl⟩ := List.mem_map.mp hd; simp [shelfD, PyData.depth, PyData.depthAll]) (by decide))
section
variable {P : Program} {w : World} {K : PySem.W.Frag} {mg : Str → Option Value} {base : Heap} {nm : Nat → Str}
local macro_rules | `(tactic| walk_at "R") => `(tactic| solve_by_elim)
local macro_rules | `(tactic| walk_at "fl") => `(tactic| first | exact flat_nats _ | rfl | assumption)
def R_law_shelves (nm : Nat → Str) : List PyData → PyData → Prop := fun ds d => ∃ (doors : List Plan) (number seed : Int), doors.length ≤ 4 ∧ (∀ p ∈ doors, p.places.length ≤ 4) ∧ ds = [.list (doors.map (encPlan nm)), .int number, .int seed] ∧ d = .list ((shelvesF doors number seed).map shelfD)
theorem there_snoc {doors : List Plan} {j : Nat} {p : Plan} {side : Int} (hx : doors[j]? = some p) : thereF (doors.take (j + 1)) side = thereF (doors.take j) side ++ (if p.side = side then p.places.map (·.1) else []) := by
  rw [take_succ_eq hx]
  unfold thereF
  rw [List.filter_append, List.flatMap_append]
  congr 1
  by_cases h : p.side = side <;> simp [h]
theorem there_len {doors : List Plan} {side : Int} (h : ∀ p ∈ doors, p.places.length ≤ 4) : (thereF doors side).length ≤ 4 * doors.length := by
  unfold thereF
  induction doors with
  | nil => simp
  | cons p r ih =>
    have ih := ih fun q hq => h q (by simp [hq])
    have hp := h p (by simp)
    rw [List.filter_cons]
    split
    · rw [List.flatMap_cons, List.length_append, List.length_map, List.length_cons]; omega
    · rw [List.length_cons]; omega
theorem shelf1_len (doors : List Plan) (number seed : Int) (found : List (Nat × Int)) (k : Nat) : (shelf1 doors number seed found k).length ≤ found.length + 1 := by
  unfold shelf1
  split
  · rw [List.length_append]; simp
  · omega
theorem ok_law_shelves (pl : Pl K mg "_law_shelves" s_law_shelves ["doors", "number", "seed"]) (B : Bi mg) : Cal P w K mg base "_law_shelves" 1 ["doors", "number", "seed"] (R_law_shelves nm) := by
  refine okC 8 pl sc_law_shelves (by decide +kernel) (by rintro _ _ ⟨_, _, _, _, _, rfl, _⟩; rfl) ?_
  rintro f cdv A outer s H E Γ _ _ fz hr T ⟨doors, number, seed, hdl, hdp, rfl, rfl⟩
  refine SXs.reL (l' := [.dat (.list (doors.map (encPlan nm))), .dat (.int number), .dat (.int seed), .no, .no, .no, .no, .no, .no, .no]) rfl ?_
  have hu65 : (bx P w K mg base N_law_shelves (Str.ofString "_law_shelves") s_law_shelves f cdv A outer s H E).A.units + 65 < cLine := by have := hr.un; omega
  have hm4 := Int.emod_nonneg number (b := 4) (by decide)
  have hm4' := Int.emod_lt_of_pos number (b := 4) (by decide)
  have fl : ∀ n, n ≤ 4 → ((List.range n).foldl (shelf1 doors number seed) []).length ≤ n := fun n _ => by
    induction n with
    | zero => simp
    | succ n ih =>
      rw [List.range_succ, List.foldl_append]
      have ih := ih (by omega)
      exact Nat.le_trans (shelf1_len doors number seed _ n) (by omega)
  walk_at "S"
  case k5 =>
    walk_at "L"
    case W => exact fun j l2 => ∃ a b c d e g, l2 = [.dat (.list (doors.map (encPlan nm))), .dat (.int number), .dat (.int seed), .own (((List.range j).foldl (shelf1 doors number seed) []).map shelfD), a, b, c, d, e, g]
    case k1 => exact IX.range (by walk_at "A") ⟨by omega, by omega⟩ rfl B.range
    case k3 => exact ⟨.no, .no, .no, .no, .no, .no, rfl⟩
    case k4 =>
      rintro j d l2 hd ⟨a, b, c, d0, e, g, rfl⟩
      have hj : j < (number % 4).toNat := by
        have := (List.getElem?_eq_some_iff.mp hd).1
        rw [nums_len] at this
        exact this
      rw [nums_get hj] at hd
      cases hd
      have hj3 : j < 3 := by omega
      obtain ⟨found, hfo⟩ : ∃ found, found = (List.range j).foldl (shelf1 doors number seed) [] := ⟨_, rfl⟩
      have hfl : found.length ≤ 4 := by have := fl j (by omega); rw [hfo]; omega
      have nxt : (List.range (j + 1)).foldl (shelf1 doors number seed) [] = shelf1 doors number seed found j := by rw [List.range_succ, List.foldl_append, hfo]; rfl
      rw [nxt, ← hfo]
      refine SXs.reL (l' := [.dat (.list (doors.map (encPlan nm))), .dat (.int number), .dat (.int seed), .own (found.map shelfD), .dat (.int (j : Nat)), b, c, d0, e, g]) rfl ?_
      have cm : CMul (j : Nat) (number / 36 % 3) := .inl ⟨by omega, by omega⟩
      have h124 : ixD (.list [.int 1, .int 2, .int 4]) (j : Int) = some (.int ([1, 2, 4].getD j 1)) := by
        have : j = 0 ∨ j = 1 ∨ j = 2 := by omega
        rcases this with rfl | rfl | rfl <;> rfl
      have cd : CDiv seed ([1, 2, 4].getD j 1) := by
        have : j = 0 ∨ j = 1 ∨ j = 2 := by omega
        rcases this with rfl | rfl | rfl <;> exact ⟨by decide, by decide⟩
      have p9 := Int.emod_nonneg (number / 4 + (j : Int) * (number / 36 % 3)) (b := 9) (by decide)
      refine' SXs.cons (SX.st T ?a1 ?a2 (EX.tup (AX.cons ?a3 (AX.cons (EX.bin (EX.bin ?a4 ?a5 (opDiv cd)) EX.int (opMod (by decide))) AX.nil)) ?a6) ?a7 ?a8)
      case a1 => walk_at "At"
      case a2 => decide
      case a3 => walk_at "E"
      case a4 => walk_at "E"
      case a5 => walk_at "E"
      case a6 => walk_at "sz"
      case a8 => rfl
      case a7 =>
        generalize hone : shelfOne number seed j = one
        refine SXs.reL (l' := [.dat (.list (doors.map (encPlan nm))), .dat (.int number), .dat (.int seed), .own (found.map shelfD), .dat (.int (j : Nat)), .dat (shelfD one), c, d0, e, g]) (by
          rw [← hone]
          unfold shelfD shelfOne
          rw [Int.toNat_of_nonneg p9]
          rfl) ?_
        have hi1 : ixD (shelfD one) 1 = some (.int one.2) := atI_nat' (j := 1) rfl
        have hi0 : ixD (shelfD one) 0 = some (.int (one.1 : Nat)) := ix0
        walk_at "S"
        case k5 =>
          walk_at "L"
          case W => exact fun i l2 => ∃ d' e' g', l2 = [.dat (.list (doors.map (encPlan nm))), .dat (.int number), .dat (.int seed), .own (found.map shelfD), .dat (.int (j : Nat)), .dat (shelfD one), .own (natsD (thereF (doors.take i) one.2)), d', e', g']
          case k1 => exact IX.list (by walk_at "E")
          case k3 => exact ⟨_, _, _, rfl⟩
          case k4 =>
            rintro i d l2 hd ⟨d', e', g', rfl⟩
            rw [List.getElem?_map] at hd
            cases hx : doors[i]? with
            | none => rw [hx] at hd; cases hd
            | some p =>
              rw [hx] at hd
              cases hd
              have hm := List.mem_of_getElem? hx
              have hp1 : ixD (encPlan nm p) 1 = some (.int p.side) := atI_nat' (j := 1) rfl
              have hp2 : ixD (encPlan nm p) 2 = some (.list (p.places.map encA)) := atI_nat' (j := 2) rfl
              rw [there_snoc hx]
              refine SXs.reL (l' := [.dat (.list (doors.map (encPlan nm))), .dat (.int number), .dat (.int seed), .own (found.map shelfD), .dat (.int (j : Nat)), .dat (shelfD one), .own (natsD (thereF (doors.take i) one.2)), .dat (encPlan nm p), e', g']) rfl ?_
              walk_at "S"
              case k2 =>
                intro hb
                have hb := of_decide_eq_true hb
                have hpl4 := hdp p hm
                have htl : (thereF (doors.take i) one.2).length ≤ 4 * doors.length := by
                  have h1 := there_len (doors := doors.take i) (side := one.2) fun q hq => hdp q (List.mem_of_mem_take hq)
                  have h2 : (doors.take i).length ≤ doors.length := by rw [List.length_take]; omega
                  omega
                refine' SXs.cons (SX.ext T ?e1 ?e2 ?e3 (EL.lcA (xs := p.places) (ow := [("at", 8), ("way", 9)]) (is := [8, 9]) (en := encA) (tv := fun q => [.int (q.1 : Nat), encW q.2]) (fun q => .int (q.1 : Nat)) rfl T.nd (blkOk_by (N := N_law_shelves) (sc := defScope s_law_shelves) (by decide +kernel)) ?e4 (by decide) ?e5 ?e6 ?e7) ?e8 ?e9 ?e10 ?e11 ?e12 ?e13 ?e14 ?e15 ?e16 ?e17)
                case e1 => walk_at "At"
                case e2 => decide
                case e3 => rfl
                case e4 => exact IX.list (by walk_at "E")
                case e7 => omega
                case e5 =>
                  intro s H C cl fp x hx
                  exact GX.inB (N := N_law_shelves) (own := [8, 9]) (vis := [8, 9]) (sc := defScope s_law_shelves) rfl T.nd rfl (by decide +kernel) fun TV => GX.tup rfl (GsX.nmV TV (by walk_at "At") (by decide) (GsX.nmV TV (by walk_at "At") (by decide) GsX.nil)) rfl
                case e6 =>
                  rintro s H C cl fp Γ' x hx
                  refine EX.inB (N := N_law_shelves) (own := [8, 9]) (vis := [8, 9]) (sc := defScope s_law_shelves) rfl T.nd rfl (by decide +kernel) fun TV => ?_
                  walk_at "E"
                case e8 => rfl
                case e9 => rfl
                case e10 => unfold natsD; rw [List.length_map, List.length_map]; omega
                case e12 => rfl
                case e13 => rfl
                case e14 => rfl
                case e15 => rfl
                case e16 => rfl
                case e17 => rfl
                case e11 =>
                  refine SXs.nil (SXs.nil ⟨.dat (encPlan nm p), e', g', ?_⟩)
                  rw [if_pos hb]
                  unfold natsD
                  rw [List.map_append, List.map_map]
                  rfl
              case k3 =>
                intro hb
                have hb := of_decide_eq_false hb
                refine SXs.nil (SXs.nil ⟨.dat (encPlan nm p), e', g', ?_⟩)
                rw [if_neg hb, List.append_nil]
          case k5 =>
            rintro l2 ⟨d', e', g', rfl⟩
            rw [List.length_map, List.take_length]
            have hsh := shelves_shaped found
            have a1 := any_shelf found one
            have a2 := any_nat (thereF doors one.2) one.1
            refine' SXs.cons (SX.ite (TX.eq (b' := decide (one ∉ found ∧ one.1 ∉ thereF doors one.2 ∨ one ∉ found ∧ number / 108 % 8 = 5)) (TX.ofW (WX.and (TX.cmpOwn T ?f1 ?f2 ?f3 ?f4 (opNotInD hu65 (shelfD_shaped one) hsh) ?f5) fun _ => WX.and1 ?f6)) ?f7) ?f8 ?f9)
            case f1 => walk_at "At"
            case f2 => decide
            case f3 => walk_at "E"
            case f4 => rfl
            case f5 => rfl
            case f6 => walk_at "T"
            case f7 =>
              rw [a1, a2]
              by_cases h1 : one ∈ found <;> by_cases h2 : one.1 ∈ thereF doors one.2 <;> by_cases h3 : number / 108 % 8 = 5 <;> simp [h1, h2, h3]
            case f8 =>
              intro hb
              have hb := of_decide_eq_true hb
              walk_at "S"
              case kz => rw [List.length_map]; omega
              refine SXs.nil (SXs.nil ⟨.dat (.int (j : Nat)), .dat (shelfD one), .own (natsD (thereF doors one.2)), d', e', g', ?_⟩)
              unfold shelf1
              rw [hone, if_pos hb, List.map_append]
              rfl
            case f9 =>
              intro hb
              have hb := of_decide_eq_false hb
              refine SXs.nil (SXs.nil ⟨.dat (.int (j : Nat)), .dat (shelfD one), .own (natsD (thereF doors one.2)), d', e', g', ?_⟩)
              unfold shelf1
              rw [hone, if_neg hb]
    case k5 =>
      rintro l2 ⟨a, b, c, d, e, g, rfl⟩
      refine SXs.freeze (i := 3) fz rfl ?_
      walk_at "S"
      show PyData.list _ = PyData.list _
      unfold shelvesF
      rw [nums_len]
end
/-! ### the ladder of kinds, drawn -/
def manyL (one : Int) : Nat := [2, 1, 2, 3, 4, 6].getD (one / 27 % 6).toNat 2
def leadL (one : Int) : Nat := (one / 162 % (manyL one : Int)).toNat
def f0L (one : Int) (k0 : Kd) : List (Nat × Kd) := (List.range (manyL one)).map fun (j : Nat) => (((one / 3 + (j : Int)) % 9).toNat, k0)
def sndL (fs : List (Nat × Kd)) (i : Nat) (k : Kd) : List (Nat × Kd) := fs.set i ((fs.getD i (0, .text)).1, k)
def f2L (one : Int) (k0 ka kb : Kd) : List (Nat × Kd) := sndL (sndL (f0L one k0) ((leadL one + 1) % manyL one) ka) (leadL one) kb
def stepL (row : List Int) (st : List Kd × List Stp) (k : Nat) : List Kd × List Stp :=
  let one := row.getD (1 + k) 0
  let k0 := st.1.getD 0 .text
  let ka := st.1.getD (one / 972 % ((k : Int) + 1)).toNat .text
  let kb := st.1.getD k .text
  let fs := f2L one k0 ka kb
  if one % 3 = 0 then (st.1 ++ [.row kb], st.2 ++ [.ix (one / 3 % 60)]) else (st.1 ++ [if one % 3 = 1 then .rc fs else .pk fs], st.2 ++ [.nm (fs.getD (leadL one) (0, .text)).1])
def ladder0 (row : List Int) : List Kd := [if rI row 0 % 2 = 0 then .num (1 + rI row 0 / 2 % 4) else .text]
def ladderN (row : List Int) (n : Nat) : List Kd × List Stp := (List.range n).foldl (stepL row) (ladder0 row, [])
def ladderF (row : List Int) : List Kd × List Stp := ladderN row 4
theorem many_pos (one : Int) : 1 ≤ manyL one ∧ manyL one ≤ 6 := by
  have h1 := Int.emod_nonneg (one / 27) (b := 6) (by decide)
  have h2 := Int.emod_lt_of_pos (one / 27) (b := 6) (by decide)
  unfold manyL
  have : (one / 27 % 6).toNat = 0 ∨ (one / 27 % 6).toNat = 1 ∨ (one / 27 % 6).toNat = 2 ∨ (one / 27 % 6).toNat = 3 ∨ (one / 27 % 6).toNat = 4 ∨ (one / 27 % 6).toNat = 5 := by omega
  rcases this with h | h | h | h | h | h <;> rw [h] <;> decide
theorem lead_lt (one : Int) : leadL one < manyL one := by
  have := many_pos one
  have h1 := Int.emod_nonneg (one / 162) (b := (manyL one : Int)) (by omega)
  have h2 := Int.emod_lt_of_pos (one / 162) (b := (manyL one : Int)) (by omega)
  unfold leadL
  omega
theorem f0_len (one : Int) (k0 : Kd) : (f0L one k0).length = manyL one := by unfold f0L; rw [List.length_map, List.length_range]
theorem snd_len (fs : List (Nat × Kd)) (i : Nat) (k : Kd) : (sndL fs i k).length = fs.length := by unfold sndL; rw [List.length_set]
theorem f2_len (one : Int) (k0 ka kb : Kd) : (f2L one k0 ka kb).length = manyL one := by unfold f2L; rw [snd_len, snd_len, f0_len]
theorem snd_fst (fs : List (Nat × Kd)) (i : Nat) (k : Kd) : (sndL fs i k).map (·.1) = fs.map (·.1) := by
  unfold sndL
  refine List.ext_getElem? fun j => ?_
  rw [List.getElem?_map, List.getElem?_map]
  by_cases h : j = i
  · subst h
    by_cases hl : j < fs.length
    · rw [List.getElem?_set_self hl, List.getD_eq_getElem?_getD, List.getElem?_eq_getElem hl]; rfl
    · rw [List.getElem?_eq_none (by rw [List.length_set]; omega), List.getElem?_eq_none (by omega)]
  · rw [List.getElem?_set_ne (Ne.symm h)]
theorem f2_fst (one : Int) (k0 ka kb : Kd) : (f2L one k0 ka kb).map (·.1) = (List.range (manyL one)).map fun (j : Nat) => ((one / 3 + (j : Int)) % 9).toNat := by
  unfold f2L
  rw [snd_fst, snd_fst]
  unfold f0L
  rw [List.map_map]; rfl
theorem snd_all {fs : List (Nat × Kd)} {i : Nat} {k : Kd} {p : Kd → Prop} (h : ∀ f ∈ fs, p f.2) (hk : p k) : ∀ f ∈ sndL fs i k, p f.2 := by
  intro f hf
  unfold sndL at hf
  rcases List.mem_or_eq_of_mem_set hf with z | z
  · exact h f z
  · rw [z]; exact hk
theorem f2_kw {one : Int} {k0 ka kb : Kd} {n : Nat} (h0 : isKW n k0 = true) (ha : isKW n ka = true) (hb : isKW n kb = true) :
    (decide (1 ≤ (f2L one k0 ka kb).length) && decide ((f2L one k0 ka kb).length ≤ 6) && decide (((f2L one k0 ka kb).map (·.1)).Nodup) && (f2L one k0 ka kb).all fun f => decide (f.1 < 10) && isKW n f.2) = true := by
  obtain ⟨m1, m2⟩ := many_pos one
  rw [f2_len, f2_fst]
  simp only [Bool.and_eq_true, decide_eq_true_eq, List.all_eq_true]
  refine ⟨⟨⟨m1, m2⟩, nodup_range _ _ fun i j hi hj e => ?_⟩, fun f hf => ⟨?_, ?_⟩⟩
  · omega
  · have : f.1 ∈ (f2L one k0 ka kb).map (·.1) := List.mem_map.mpr ⟨f, hf, rfl⟩
    rw [f2_fst] at this
    obtain ⟨j, _, e⟩ := List.mem_map.mp this
    omega
  · refine snd_all (p := fun k => isKW n k = true) (snd_all (p := fun k => isKW n k = true) (fun g hg => ?_) ha) hb f hf
    unfold f0L at hg
    obtain ⟨j, _, rfl⟩ := List.mem_map.mp hg
    exact h0
theorem isKW_le {n m : Nat} {k : Kd} (h : isKW n k = true) (e : n ≤ m) : isKW m k = true := by
  induction e with
  | refl => exact h
  | step _ ih => exact isKW_mono ih
theorem ladder_inv (row : List Int) : ∀ n, (ladderN row n).1.length = n + 1 ∧ (ladderN row n).2.length = n ∧ ∀ k ∈ (ladderN row n).1, isKW (n + 1) k = true
  | 0 => by
    have h1 := Int.emod_nonneg (rI row 0 / 2) (b := 4) (by decide)
    have h2 := Int.emod_lt_of_pos (rI row 0 / 2) (b := 4) (by decide)
    refine ⟨rfl, rfl, fun k hk => ?_⟩
    have hk : k = if rI row 0 % 2 = 0 then .num (1 + rI row 0 / 2 % 4) else .text := by
      have : k ∈ ladder0 row := hk
      unfold ladder0 at this
      simpa using this
    rw [hk]
    split
    · rw [isKW, Bool.and_eq_true, decide_eq_true_eq, decide_eq_true_eq]; omega
    · rw [isKW]
  | n + 1 => by
    obtain ⟨i1, i2, i3⟩ := ladder_inv row n
    have e : ladderN row (n + 1) = stepL row (ladderN row n) n := by unfold ladderN; rw [List.range_succ, List.foldl_append]; rfl
    rw [e]
    generalize hst : ladderN row n = st at i1 i2 i3
    have getk : ∀ i, i < n + 1 → isKW (n + 1) (st.1.getD i .text) = true := fun i hi => by
      rw [List.getD_eq_getElem?_getD, List.getElem?_eq_getElem (by omega)]
      exact i3 _ (List.getElem_mem _)
    have hb := getk n (by omega)
    have h0 := getk 0 (by omega)
    have ha : isKW (n + 1) (st.1.getD (row.getD (1 + n) 0 / 972 % ((n : Int) + 1)).toNat .text) = true := by
      have q1 := Int.emod_nonneg (row.getD (1 + n) 0 / 972) (b := (n : Int) + 1) (by omega)
      have q2 := Int.emod_lt_of_pos (row.getD (1 + n) 0 / 972) (b := (n : Int) + 1) (by omega)
      exact getk _ (by omega)
    have old : ∀ k ∈ st.1, isKW (n + 1 + 1) k = true := fun k hk => isKW_mono (i3 k hk)
    unfold stepL
    simp only
    split
    · refine ⟨by rw [List.length_append, i1]; rfl, by rw [List.length_append, i2]; rfl, fun k hk => ?_⟩
      rcases List.mem_append.mp hk with z | z
      · exact old k z
      · have : k = .row (st.1.getD n .text) := by simpa using z
        rw [this, isKW]; exact hb
    · refine ⟨by rw [List.length_append, i1]; rfl, by rw [List.length_append, i2]; rfl, fun k hk => ?_⟩
      rcases List.mem_append.mp hk with z | z
      · exact old k z
      · have hf := f2_kw (one := row.getD (1 + n) 0) h0 ha hb
        rw [List.mem_singleton.mp z]
        split
        · rw [isKW]; exact hf
        · rw [isKW]; exact hf
theorem ladder_ok (row : List Int) : (ladderF row).1.length = 5 ∧ (ladderF row).2.length = 4 ∧ ∀ k ∈ (ladderF row).1, isK k = true := ladder_inv row 4
section
variable {P : Program} {w : World} {K : PySem.W.Frag} {mg : Str → Option Value} {base : Heap} {nm : Nat → Str}
local macro_rules | `(tactic| walk_at "R") => `(tactic| solve_by_elim)
local macro_rules | `(tactic| walk_at "ix") => `(tactic| first | with_reducible assumption | fail)
local macro_rules | `(tactic| walk_at "E") => `(tactic| first | (refine' EX.ixOwn ?k1 ?k2 ?k3 ?k4 ?k5 ?k6 ?k7 ?k8; (case k1 => assumption); (case k2 => walk_at "At"); (case k3 => decide); (case k5 => rfl); (case k4 => walk_at "E"); (case k6 => rfl); (case k7 => first | with_reducible assumption | assumption); (case k8 => (intro _ _; rfl))) | fail)
def R_law_ladder (nm : Nat → Str) : List PyData → PyData → Prop := fun ds d => ∃ row : List Int, row.length = 5 ∧ ds = [.list (row.map .int), .list (namesD nm)] ∧ d = .tuple [.list ((ladderF row).1.map (encK nm)), .list ((ladderF row).2.map (encS nm))]
theorem atI_mod {α β : Type} {xs : List α} {f : α → β} {x0 : α} {j : Int} (h0 : 0 ≤ j) (h : j < xs.length) : L2.atI (xs.map f) j = some (f (xs.getD j.toNat x0)) := by
  obtain ⟨n, rfl⟩ : ∃ n : Nat, j = (n : Int) := ⟨j.toNat, by omega⟩
  refine atI_nat' ?_
  rw [List.getElem?_map, Int.toNat_natCast, List.getD_eq_getElem?_getD, List.getElem?_eq_getElem (by omega)]; rfl
theorem encF_0 (f : Nat × Kd) : ixD (encF nm f) 0 = some (.str (nm f.1)) := by
  obtain ⟨n, k⟩ := f
  rw [encF]; exact ix0
theorem snd_enc (fs : List (Nat × Kd)) (i : Nat) (k : Kd) : (fs.map (encF nm)).set i (.tuple [.str (nm (fs.getD i (0, .text)).1), encK nm k]) = (sndL fs i k).map (encF nm) := by
  unfold sndL
  rw [List.map_set, encF]
theorem ok_law_ladder (pl : Pl K mg "_law_ladder" s_law_ladder ["row", "names"]) (B : Bi mg) : Cal P w K mg base "_law_ladder" 1 ["row", "names"] (R_law_ladder nm) := by
  refine okC 9 pl sc_law_ladder (by decide +kernel) (by rintro _ _ ⟨_, _, rfl, _⟩; rfl) ?_
  rintro f cdv A outer s H E Γ _ _ fz hr T ⟨row, hl, rfl, rfl⟩
  refine SXs.reL (l' := [.dat (.list (row.map .int)), .dat (.list (namesD nm)), .no, .no, .no, .no, .no, .no, .no, .no]) rfl ?_
  obtain ⟨k0, hk0⟩ : ∃ k0, k0 = (if rI row 0 % 2 = 0 then Kd.num (1 + rI row 0 / 2 % 4) else .text) := ⟨_, rfl⟩
  have hx0 : ixD (.list [.tuple [.str "num", .int (1 + rI row 0 / 2 % 4)], .tuple [.str "text"]]) (rI row 0 % 2) = some (encK nm k0) := by
    have : rI row 0 % 2 = 0 ∨ rI row 0 % 2 = 1 := by omega
    rw [hk0]
    rcases this with h | h
    · rw [h, if_pos rfl, encK]; rfl
    · rw [h, if_neg (by omega), encK]; rfl
  refine' SXs.cons (SX.stL T ?a1 ?a2 (EL.lst (AX.cons ?a3 AX.nil) (show 1 ≤ sizeLine by decide)) ?a4 ?a5)
  case a1 => walk_at "At"
  case a2 => decide
  case a3 => walk_at "E"
  case a5 => rfl
  case a4 =>
    walk_at "S"
    case k5 =>
      refine SXs.reL (l' := [.dat (.list (row.map .int)), .dat (.list (namesD nm)), .own ((ladderN row 0).1.map (encK nm)), .own ((ladderN row 0).2.map (encS nm)), .no, .no, .no, .no, .no, .no]) (by rw [hk0]; rfl) ?_
      walk_at "L"
      case W => exact fun j l2 => ∃ a b c d e g, l2 = [.dat (.list (row.map .int)), .dat (.list (namesD nm)), .own ((ladderN row j).1.map (encK nm)), .own ((ladderN row j).2.map (encS nm)), a, b, c, d, e, g]
      case k1 => exact IX.range (n := 4) (by walk_at "A") (by decide) rfl B.range
      case k3 => exact ⟨.no, .no, .no, .no, .no, .no, rfl⟩
      case k4 =>
        rintro j d l2 hd ⟨a, b, c, d0, e, g, rfl⟩
        have hj : j < 4 := by
          have := (List.getElem?_eq_some_iff.mp hd).1
          rw [nums_len] at this
          exact this
        rw [nums_get (show j < (4 : Int).toNat from hj)] at hd
        cases hd
        obtain ⟨i1, i2, _⟩ := ladder_inv row j
        have nxt : ladderN row (j + 1) = stepL row (ladderN row j) j := by unfold ladderN; rw [List.range_succ, List.foldl_append]; rfl
        rw [nxt]
        generalize ladderN row j = st at i1 i2 ⊢
        have hrow : ixD (.list (row.map .int)) (1 + (j : Int)) = some (.int (row.getD (1 + j) 0)) := by
          have := ixR (row := row) (j := 1 + (j : Int)) (by omega) (by omega)
          rwa [show (1 + (j : Int)).toNat = 1 + j by omega] at this
        unfold stepL
        generalize row.getD (1 + j) 0 = one at hrow ⊢
        simp only
        obtain ⟨m1, m2⟩ := many_pos one
        have l1 := lead_lt one
        have hmany : ixD (.list [.int 2, .int 1, .int 2, .int 3, .int 4, .int 6]) (one / 27 % 6) = some (.int (manyL one : Nat)) := by
          have : (one / 27 % 6) = 0 ∨ (one / 27 % 6) = 1 ∨ (one / 27 % 6) = 2 ∨ (one / 27 % 6) = 3 ∨ (one / 27 % 6) = 4 ∨ (one / 27 % 6) = 5 := by omega
          unfold manyL
          rcases this with h | h | h | h | h | h <;> (rw [h]; rfl)
        have hlead : one / 162 % (manyL one : Int) = (leadL one : Nat) := by
          unfold leadL
          rw [Int.toNat_of_nonneg (Int.emod_nonneg _ (by omega))]
        refine SXs.reL (l' := [.dat (.list (row.map .int)), .dat (.list (namesD nm)), .own (st.1.map (encK nm)), .own (st.2.map (encS nm)), .dat (.int (j : Nat)), b, c, d0, e, g]) rfl ?_
        walk_at "S"
        case k5 =>
          walk_at "S"
          case k5 =>
            walk_at "S"
            case k5 =>
              refine SXs.reL (l' := [.dat (.list (row.map .int)), .dat (.list (namesD nm)), .own (st.1.map (encK nm)), .own (st.2.map (encS nm)), .dat (.int (j : Nat)), .dat (.int one), .dat (.int (manyL one : Nat)), .dat (.int (leadL one : Nat)), e, g]) (by rw [← hlead]; rfl) ?_
              obtain ⟨k0, hk0⟩ : ∃ k0, k0 = st.1.getD 0 .text := ⟨_, rfl⟩
              obtain ⟨ka, hka⟩ : ∃ ka, ka = st.1.getD (one / 972 % ((j : Int) + 1)).toNat .text := ⟨_, rfl⟩
              obtain ⟨kb, hkb⟩ : ∃ kb, kb = st.1.getD j .text := ⟨_, rfl⟩
              rw [← hk0, ← hka, ← hkb]
              have q0 : L2.atI (st.1.map (encK nm)) 0 = some (encK nm k0) := by rw [hk0]; exact atI_mod (j := 0) (by omega) (by omega)
              have r0 := Int.emod_nonneg (one / 972) (b := (j : Int) + 1) (by omega)
              have r1 := Int.emod_lt_of_pos (one / 972) (b := (j : Int) + 1) (by omega)
              have qa : L2.atI (st.1.map (encK nm)) (one / 972 % ((j : Int) + 1)) = some (encK nm ka) := by rw [hka]; exact atI_mod r0 (by omega)
              have qb : L2.atI (st.1.map (encK nm)) (j : Int) = some (encK nm kb) := by rw [hkb]; exact atI_mod (j := (j : Int)) (by omega) (by omega)
              refine' SXs.cons (SX.setLcA (i := 8) (xs := List.range (manyL one)) (ow := [("j", 9)]) (is := [9]) (en := fun i : Nat => PyData.int (i : Nat)) (tv := fun i : Nat => [PyData.int (i : Nat)]) (fun i : Nat => encF nm (((one / 3 + (i : Int)) % 9).toNat, k0)) rfl T.nd ?e1 ?e2 ?e3 (blkOk_by (N := N_law_ladder) (sc := defScope s_law_ladder) (by decide +kernel)) ?e4 (by decide) ?e5 ?e6 ?e8 ?e9)
              case e1 => rfl
              case e2 => rfl
              case e3 => exact sw_true rfl rfl rfl (by decide +kernel)
              case e4 => exact IX.range (n := (manyL one : Nat)) (by walk_at "A") (by omega) rfl B.range
              case e8 => rw [List.length_range]; omega
              case e5 =>
                intro s H C cl fp x hx
                exact GX.inB (N := N_law_ladder) (own := [9]) (vis := [1, 2, 5, 9]) (sc := defScope s_law_ladder) rfl T.nd rfl (by decide +kernel) fun TV => GX.nmV TV (by walk_at "At") (by decide)
              case e6 =>
                rintro s H C cl fp Γ' x hx
                refine EX.inB (N := N_law_ladder) (own := [9]) (vis := [1, 2, 5, 9]) (sc := defScope s_law_ladder) rfl T.nd rfl (by decide +kernel) fun TV => ?_
                have p9 := Int.emod_nonneg (one / 3 + (x : Int)) (b := 9) (by decide)
                have p9' := Int.emod_lt_of_pos (one / 3 + (x : Int)) (b := 9) (by decide)
                have hna : ixD (.list (namesD nm)) ((one / 3 + (x : Int)) % 9) = some (.str (nm ((one / 3 + (x : Int)) % 9).toNat)) := by
                  have := names_at (nm := nm) (i := ((one / 3 + (x : Int)) % 9).toNat) (by omega)
                  rwa [Int.toNat_of_nonneg p9] at this
                refine' EX.eq (EX.tup (AX.cons ?h1 (AX.cons (EX.ixOwnV TV ?h2 ?h3 ?h4 ?h5 q0 ?h6) AX.nil)) ?h7) ?h8
                case h1 => walk_at "E"
                case h2 => walk_at "At"
                case h3 => decide
                case h4 => walk_at "E"
                case h5 => rfl
                case h6 => intro _ _; rfl
                case h7 => walk_at "sz"
                case h8 => rw [encF]
              case e9 =>
                refine SXs.reL (l' := [.dat (.list (row.map .int)), .dat (.list (namesD nm)), .own (st.1.map (encK nm)), .own (st.2.map (encS nm)), .dat (.int (j : Nat)), .dat (.int one), .dat (.int (manyL one : Nat)), .dat (.int (leadL one : Nat)), .own ((f0L one k0).map (encF nm)), g]) (by unfold f0L; rw [List.map_map]; rfl) ?_
                have z0 := f0_len one k0
                have hmod : ((leadL one : Nat) + 1 : Int) % (manyL one : Int) = (((leadL one + 1) % manyL one : Nat) : Int) := by push_cast; rfl
                have hml : (leadL one + 1) % manyL one < manyL one := Nat.mod_lt _ (by omega)
                have g1 : L2.atI ((f0L one k0).map (encF nm)) (((leadL one : Nat) + 1 : Int) % (manyL one : Int)) = some (encF nm ((f0L one k0).getD ((leadL one + 1) % manyL one) (0, .text))) := by
                  rw [hmod]
                  have := atI_mod (xs := f0L one k0) (f := encF nm) (x0 := (0, .text)) (j := (((leadL one + 1) % manyL one : Nat) : Int)) (by omega) (by omega)
                  rwa [Int.toNat_natCast] at this
                obtain ⟨an, ak, hae⟩ : ∃ n k, (f0L one k0).getD ((leadL one + 1) % manyL one) (0, .text) = (n, k) := ⟨_, _, rfl⟩
                have hsa := snd_enc (nm := nm) (f0L one k0) ((leadL one + 1) % manyL one) ka
                rw [hae] at hsa
                rw [hae, encF] at g1
                refine' SXs.cons (SX.setIx (jn := (leadL one + 1) % manyL one) T ?b1 ?b2 ?b3 (EX.eq ?b4 (congrArg PyData.int hmod)) ?b5 ?b6 ?b7 ?b8 ?b9 ?b10 ?b11 ?b12)
                case b1 => walk_at "At"
                case b2 => decide
                case b3 => walk_at "E"
                case b4 => walk_at "E"
                case b5 => rfl
                case b6 => rfl
                case b7 => rw [List.length_map]; omega
                case b9 => intro _; rfl
                case b10 => rfl
                case b11 => rfl
                case b12 => rfl
                case b8 =>
                  rw [hsa]
                  generalize hf1 : sndL (f0L one k0) ((leadL one + 1) % manyL one) ka = f1
                  have z1 : f1.length = manyL one := by rw [← hf1, snd_len, z0]
                  have g3 : L2.atI (f1.map (encF nm)) (leadL one : Nat) = some (encF nm (f1.getD (leadL one) (0, .text))) := by
                    have := atI_mod (xs := f1) (f := encF nm) (x0 := (0, .text)) (j := ((leadL one : Nat) : Int)) (by omega) (by omega)
                    rwa [Int.toNat_natCast] at this
                  obtain ⟨bn, bk, hbe⟩ : ∃ n k, f1.getD (leadL one) (0, .text) = (n, k) := ⟨_, _, rfl⟩
                  have hsb := snd_enc (nm := nm) f1 (leadL one) kb
                  rw [hbe] at hsb
                  rw [hbe, encF] at g3
                  refine SXs.reL (l' := [.dat (.list (row.map .int)), .dat (.list (namesD nm)), .own (st.1.map (encK nm)), .own (st.2.map (encS nm)), .dat (.int (j : Nat)), .dat (.int one), .dat (.int (manyL one : Nat)), .dat (.int (leadL one : Nat)), .own (f1.map (encF nm)), g]) rfl ?_
                  refine' SXs.cons (SX.setIx (jn := leadL one) T ?c1 ?c2 ?c3 ?c4 ?c5 ?c6 ?c7 ?c8 ?c9 ?c10 ?c11 ?c12)
                  case c1 => walk_at "At"
                  case c2 => decide
                  case c3 => walk_at "E"
                  case c4 => walk_at "E"
                  case c5 => rfl
                  case c6 => rfl
                  case c7 => rw [List.length_map]; omega
                  case c9 => intro _; rfl
                  case c10 => rfl
                  case c11 => rfl
                  case c12 => rfl
                  case c8 =>
                    rw [hsb]
                    have hf2 : f2L one k0 ka kb = sndL f1 (leadL one) kb := by unfold f2L; rw [hf1]
                    rw [hf2]
                    generalize hf3 : sndL f1 (leadL one) kb = f3
                    have z3 : f3.length = manyL one := by rw [← hf3, snd_len, z1]
                    refine SXs.freeze (i := 8) fz rfl ?_
                    refine SXs.reL (l' := [.dat (.list (row.map .int)), .dat (.list (namesD nm)), .own (st.1.map (encK nm)), .own (st.2.map (encS nm)), .dat (.int (j : Nat)), .dat (.int one), .dat (.int (manyL one : Nat)), .dat (.int (leadL one : Nat)), .dat (.list (f3.map (encF nm))), g]) rfl ?_
                    have g5 : ixD (.list (f3.map (encF nm))) (leadL one : Nat) = some (encF nm (f3.getD (leadL one) (0, .text))) := by
                      have := atI_mod (xs := f3) (f := encF nm) (x0 := (0, .text)) (j := ((leadL one : Nat) : Int)) (by omega) (by omega)
                      rwa [Int.toNat_natCast] at this
                    obtain ⟨cn, ck, hce⟩ : ∃ n k, f3.getD (leadL one) (0, .text) = (n, k) := ⟨_, _, rfl⟩
                    rw [hce, encF] at g5
                    rw [hce]
                    walk_at "S"
                    case k2 =>
                      intro hb
                      have hb := of_decide_eq_true hb
                      rw [if_pos hb]
                      walk_at "S"
                      case kz => rw [List.length_map]; omega
                      walk_at "S"
                      case kz => rw [List.length_map]; omega
                      refine SXs.nil (SXs.nil ⟨.dat (.int (j : Nat)), .dat (.int one), .dat (.int (manyL one : Nat)), .dat (.int (leadL one : Nat)), .dat (.list (f3.map (encF nm))), g, ?_⟩)
                      rw [List.map_append, List.map_append, List.map_singleton, List.map_singleton, encK]
                      rfl
                    case k3 =>
                      intro hb
                      have hb := of_decide_eq_false hb
                      rw [if_neg hb]
                      have hw : ∃ v : Str, ixD (.list [.str "", .str "rec", .str "pick"]) (one % 3) = some (.str v) ∧ encK nm (if one % 3 = 1 then .rc f3 else .pk f3) = .tuple [.str v, .tuple (f3.map (encF nm))] := by
                        have : one % 3 = 1 ∨ one % 3 = 2 := by omega
                        rcases this with h | h
                        · rw [h, if_pos rfl]
                          exact ⟨_, rfl, by rw [encK, encFs_map]⟩
                        · rw [h, if_neg (by decide)]
                          exact ⟨_, rfl, by rw [encK, encFs_map]⟩
                      obtain ⟨v, hv1, hv2⟩ := hw
                      walk_at "S"
                      case kz => rw [List.length_map]; omega
                      walk_at "S"
                      case kz => rw [List.length_map]; omega
                      refine SXs.nil (SXs.nil ⟨.dat (.int (j : Nat)), .dat (.int one), .dat (.int (manyL one : Nat)), .dat (.int (leadL one : Nat)), .dat (.list (f3.map (encF nm))), g, ?_⟩)
                      rw [List.map_append, List.map_append, List.map_singleton, List.map_singleton, hv2]
                      rfl
      case k5 =>
        rintro l2 ⟨a, b, c, d, e, g, rfl⟩
        refine SXs.freeze (i := 2) fz rfl ?_
        refine SXs.freeze (i := 3) fz rfl ?_
        walk_at "S"
        show PyData.tuple _ = PyData.tuple _
        rw [nums_len]
        rfl
end
section
variable {P : Program} {w : World} {K : PySem.W.Frag} {mg : Str → Option Value} {base : Heap} {nm : Nat → Str}
local macro_rules | `(tactic| walk_at "R") => `(tactic| solve_by_elim)
local macro_rules | `(tactic| walk_at "fl") => `(tactic| first | exact flat_nats _ | rfl | assumption)
local macro_rules | `(tactic| walk_at "LS") => `(tactic| (refine' LXs.cons (SX.st ?k1 ?k2 ?k3 ?k4 ?k5 ?k6); (case k1 => assumption); (case k2 => walk_at "At"); (case k3 => decide); (case k4 => walk_at "E"); (case k6 => rfl)))
def R_law_begun (nm : Nat → Str) : List PyData → List PyData → Prop := fun ds d => ∃ (v : Wd) (sh : List (Nat × Int)) (at_ : Nat) (p : Plan) (all : Bool), WdOk v ∧ v.doors[at_]? = some p ∧ sh.length ≤ 1000 ∧ ds = [encWd nm v, .list (sh.map shelfD), .int (at_ : Nat), .bool all] ∧ d = encMs nm (begunF v sh p at_ all)
theorem ok_law_begun (pl : Pl K mg "_law_begun" s_law_begun ["world", "shelves", "at", "all_made"]) (B : Bi mg) (Cw : Cal P w K mg base "_law_worth" 6 ["kind", "seed"] (R_law_worth nm 5)) : CalL P w K mg base "_law_begun" 7 ["world", "shelves", "at", "all_made"] (R_law_begun nm) := by
  refine okCL 8 pl sc_law_begun (by decide +kernel) (by rintro _ _ ⟨_, _, _, _, _, _, _, _, rfl, _⟩; rfl) ?_
  rintro f cdv A outer s H E Γ _ _ fz hr T ⟨v, sh, at_, p, all, hv, hp, hsz, rfl, rfl⟩
  have hix : ixD (.list (v.doors.map (encPlan nm))) (at_ : Int) = some (encPlan nm p) := by
    refine atI_nat' ?_
    rw [List.getElem?_map, hp]; rfl
  have hi3 : ixD (encWd nm v) 3 = some (.list (v.doors.map (encPlan nm))) := atI_nat' (j := 3) rfl
  have hi1 : ixD (encWd nm v) 1 = some (.list (v.kinds.map (encK nm))) := atI_nat' (j := 1) rfl
  have hi0 : ixD (encWd nm v) 0 = some (.list (namesD nm)) := ix0
  have hp2 : ixD (encPlan nm p) 2 = some (.list (p.places.map encA)) := atI_nat' (j := 2) rfl
  have hp1 : ixD (encPlan nm p) 1 = some (.int p.side) := atI_nat' (j := 1) rfl
  obtain ⟨hpl, hp9⟩ := hv.dp p (List.mem_of_getElem? hp)
  refine LXs.reL (l' := [.dat (encWd nm v), .dat (.list (sh.map shelfD)), .dat (.int (at_ : Nat)), .dat (.bool all), .no, .no, .no, .no, .no, .no, .no, .no]) rfl ?_
  walk_at "LS"
  case k5 =>
    generalize hth : p.places.map (·.1) ++ (sh.filter fun q => decide (q.2 = p.side)).map (·.1) = there
    refine' LXs.cons (SX.st T ?a1 ?a2 (EX.bin (EL.ex (EL.lcA (xs := p.places) (ow := [("one", 9), ("way", 10)]) (is := [9, 10]) (en := encA) (tv := fun q => [.int (q.1 : Nat), encW q.2]) (fun q => .int (q.1 : Nat)) rfl T.nd (blkOk_by (N := N_law_begun) (sc := defScope s_law_begun) (by decide +kernel)) ?b1 (by decide) ?b2 ?b3 ?b4))
      (EL.ex (EL.lc (xs := sh) (own := [("one", 9), ("side", 11)]) (is := [9, 11]) (en := shelfD) (tv := fun q => [.int (q.1 : Nat), .int q.2]) (fun q => decide (q.2 = p.side)) (fun q => .int (q.1 : Nat)) rfl T.nd (blkOk_by (N := N_law_begun) (sc := defScope s_law_begun) (by decide +kernel)) ?c1 (by decide) ?c2 ?c3 ?c4 ?c5)) (opAddL ?a3)) ?a4 ?a5)
    case a1 => walk_at "At"
    case a2 => decide
    case a5 => rfl
    case b1 => exact IX.list (by walk_at "E")
    case b4 => omega
    case b2 =>
      intro s H C cl fp x hx
      exact GX.inB (N := N_law_begun) (own := [9, 10]) (vis := [9, 10]) (sc := defScope s_law_begun) rfl T.nd rfl (by decide +kernel) fun TV => GX.tup rfl (GsX.nmV TV (by walk_at "At") (by decide) (GsX.nmV TV (by walk_at "At") (by decide) GsX.nil)) rfl
    case b3 =>
      rintro s H C cl fp Γ' x hx
      refine EX.inB (N := N_law_begun) (own := [9, 10]) (vis := [9, 10]) (sc := defScope s_law_begun) rfl T.nd rfl (by decide +kernel) fun TV => ?_
      walk_at "E"
    case c1 => exact IX.list (by walk_at "E")
    case c5 => omega
    case c2 =>
      intro s H C cl fp x hx
      exact GX.inB (N := N_law_begun) (own := [9, 11]) (vis := [4, 9, 11]) (sc := defScope s_law_begun) rfl T.nd rfl (by decide +kernel) fun TV => GX.tup rfl (GsX.nmV TV (by walk_at "At") (by decide) (GsX.nmV TV (by walk_at "At") (by decide) GsX.nil)) rfl
    case c3 =>
      rintro s H C cl fp Γ' ⟨x, i⟩ hx
      refine TsX.inB (N := N_law_begun) (own := [9, 11]) (vis := [4, 9, 11]) (sc := defScope s_law_begun) rfl T.nd rfl (by decide +kernel) fun TV => TsX.one ?_
      walk_at "T"
    case c4 =>
      rintro s H C cl fp Γ' x hx _
      refine EX.inB (N := N_law_begun) (own := [9, 11]) (vis := [4, 9, 11]) (sc := defScope s_law_begun) rfl T.nd rfl (by decide +kernel) fun TV => ?_
      walk_at "E"
    case a3 =>
      have := List.length_filter_le (fun q : Nat × Int => decide (q.2 = p.side)) sh
      rw [List.length_map, List.length_map]
      exact le_size (by omega)
    case a4 =>
      refine LXs.reL (l' := [.dat (encWd nm v), .dat (.list (sh.map shelfD)), .dat (.int (at_ : Nat)), .dat (.bool all), .dat (encPlan nm p), .dat (.list (natsD there)), .no, .no, .no, .no, .no, .no]) (by
        rw [← hth]
        unfold natsD
        rw [List.map_append, List.map_map, List.map_map]
        rfl) ?_
      have bg : begunF v sh p at_ all = if all = false then [] else ((List.range 9).filter fun k => !decide (k ∈ there)).map fun k => .new k (kindAtW v (k % 5)) ((k + at_ : Nat) : Int) := by
        unfold begunF
        rw [← hth]
      refine' LXs.ite ?q1 ?q2 ?q3
      case q1 => walk_at "T"
      case q2 =>
        intro hb
        have hb : all = false := by simpa using hb
        refine' LXs.ret (EL.lst AX.nil ?d1) ?d2
        case d1 => decide
        case d2 =>
          rw [bg, if_pos hb]
          rw [encMs]
      case q3 =>
        intro hb
        have hb : all ≠ false := by simpa using hb
        walk_at "LS"
        case k5 =>
          refine' LXs.cons (SX.setLc (i := 7) (xs := List.range 9) (own := [("k", 8)]) (is := [8]) (en := fun i : Nat => PyData.int (i : Nat)) (tv := fun i : Nat => [PyData.int (i : Nat)]) (fun k => !decide (k ∈ there)) (fun i : Nat => .int (i : Nat)) rfl T.nd ?e1 ?e2 ?e3 (blkOk_by (N := N_law_begun) (sc := defScope s_law_begun) (by decide +kernel)) ?e4 (by decide) ?e5 ?e6 ?e7 ?e8 ?e9)
          case e1 => rfl
          case e2 => rfl
          case e3 => exact sw_true rfl rfl rfl (by decide +kernel)
          case e4 => exact IX.range (n := 9) (by walk_at "A") (by decide) rfl B.range
          case e8 => rw [List.length_range]; omega
          case e5 =>
            intro s H C cl fp x hx
            exact GX.inB (N := N_law_begun) (own := [8]) (vis := [5, 8]) (sc := defScope s_law_begun) rfl T.nd rfl (by decide +kernel) fun TV => GX.nmV TV (by walk_at "At") (by decide)
          case e6 =>
            rintro s H C cl fp Γ' x hx
            refine TsX.inB (N := N_law_begun) (own := [8]) (vis := [5, 8]) (sc := defScope s_law_begun) rfl T.nd rfl (by decide +kernel) fun TV => TsX.one ?_
            refine' TX.eq ?f1 ?f2
            case f1 => walk_at "T"
            case f2 => rw [any_nat]
          case e7 =>
            rintro s H C cl fp Γ' x hx _
            refine EX.inB (N := N_law_begun) (own := [8]) (vis := [5, 8]) (sc := defScope s_law_begun) rfl T.nd rfl (by decide +kernel) fun TV => ?_
            walk_at "E"
          case e9 =>
            rw [if_neg hb] at bg
            have hr9 : ∀ k ∈ (List.range 9).filter (fun k => !decide (k ∈ there)), k < 9 := fun k hk => List.mem_range.mp (List.mem_filter.mp hk).1
            have hrl : ((List.range 9).filter fun k => !decide (k ∈ there)).length ≤ 9 := by
              have := List.length_filter_le (fun k => !decide (k ∈ there)) (List.range 9)
              rwa [List.length_range] at this
            generalize (List.range 9).filter (fun k => !decide (k ∈ there)) = rest at bg hr9 hrl ⊢
            refine LXs.freeze (i := 7) fz rfl ?_
            refine LXs.reL (l' := [.dat (encWd nm v), .dat (.list (sh.map shelfD)), .dat (.int (at_ : Nat)), .dat (.bool all), .dat (encPlan nm p), .dat (.list (natsD there)), .dat (.list (v.kinds.map (encK nm))), .dat (.list (natsD rest)), .no, .no, .no, .no]) rfl ?_
            refine' LXs.ret (EL.lcA (xs := rest) (ow := [("k", 8)]) (is := [8]) (en := fun i : Nat => PyData.int (i : Nat)) (tv := fun i : Nat => [PyData.int (i : Nat)]) (fun k => encM nm (.new k (kindAtW v (k % 5)) ((k + at_ : Nat) : Int))) rfl T.nd (blkOk_by (N := N_law_begun) (sc := defScope s_law_begun) (by decide +kernel)) ?g1 (by decide) ?g2 ?g3 ?g4) ?g5
            case g1 => exact IX.list (by walk_at "E")
            case g4 => omega
            case g2 =>
              intro s H C cl fp x hx
              exact GX.inB (N := N_law_begun) (own := [8]) (vis := [0, 2, 6, 8]) (sc := defScope s_law_begun) rfl T.nd rfl (by decide +kernel) fun TV => GX.nmV TV (by walk_at "At") (by decide)
            case g3 =>
              rintro s H C cl fp Γ' k hx
              refine EX.inB (N := N_law_begun) (own := [8]) (vis := [0, 2, 6, 8]) (sc := defScope s_law_begun) rfl T.nd rfl (by decide +kernel) fun TV => ?_
              have hk5 : k % 5 < 5 := Nat.mod_lt _ (by decide)
              have j1 : ixD (.list (namesD nm)) (k : Int) = some (.str (nm k)) := names_at (hr9 k hx)
              have j2 : ixD (.list (v.kinds.map (encK nm))) ((k : Int) % 5) = some (encK nm (kindAtW v (k % 5))) := kinds_at hv hk5
              have RW : R_law_worth nm 5 [encK nm (kindAtW v (k % 5)), .int ((k : Int) + (at_ : Int))] (worD nm (kindAtW v (k % 5)) ((k : Int) + (at_ : Int))) := ⟨_, _, kindAtW_ok hv hk5, rfl, rfl⟩
              refine' EX.eq ?h1 ?h2
              case h1 => walk_at "E"
              case h2 => rw [encM]; rfl
            case g5 =>
              rw [bg, encMs_map, List.map_map]; rfl
end
/-! ### calls and other statements, drawn -/
def permL : List Nat := [5, 6, 7, 8, 4, 0, 1, 2, 3]
def permF (x : Nat) : Nat := permL.getD x 0
def planAt (v : Wd) (i : Nat) : Plan := v.doors.getD i ⟨0, 0, [], none⟩
def callDoor (v : Wd) (r : List Int) : Plan := planAt v (rI r 1 % (v.doors.length : Int)).toNat
def nm9 (r : List Int) : Nat := (rI r 4 / 4 % 9).toNat
def given0 (d own : Plan) (odd : Bool) (r : List Int) : List (Option Nat) := d.places.map fun q => namedF (q.1 % 5) (boundF own) odd (rI r 3 + (q.1 : Int) * rI r 4)
def z0 (d own : Plan) (odd : Bool) (r : List Int) : Option Nat := d.res.bind fun k => if 0 < rI r 2 % 3 then namedF k (boundF own) odd (rI r 2 / 3) else none
def callName (d : Plan) (odd : Bool) (r : List Int) : Nat := if odd = true ∧ rI r 4 % 4 = 0 then nm9 r else d.name
def givenF (d own : Plan) (odd : Bool) (r : List Int) : List (Option Nat) := if odd = true ∧ rI r 4 % 4 = 1 then given0 d own odd r ++ [some (nm9 r)] else given0 d own odd r
def zF (d own : Plan) (odd : Bool) (r : List Int) : Option Nat := if odd = true ∧ rI r 4 % 4 = 2 then some (nm9 r) else z0 d own odd r
def callOf (d own : Plan) (odd : Bool) (r : List Int) : Sm := if none ∈ givenF d own odd r then .fail 7 else .call (zF d own odd r) (callName d odd r) ((givenF d own odd r).map (·.getD 0))
def callingF (v : Wd) (own : Plan) (odd : Bool) (r : List Int) : Sm := callOf (callDoor v r) own odd r
theorem namedF_lt {n : Nat} {bd : List Nat} {odd : Bool} {draw : Int} {k : Nat} (h : namedF n bd odd draw = some k) : k < 9 := by
  unfold namedF at h
  simp only at h
  generalize hs : ([n, n + 5].filter fun one => decide (one < 9) && (odd || !decide (one ∈ bd))) = some' at h
  split at h
  · cases h
  · rename_i hne
    have hl : 0 < some'.length := List.length_pos_iff.mpr hne
    have h1 := Int.emod_lt_of_pos draw (show (0 : Int) < some'.length by omega)
    have h2 := Int.emod_nonneg draw (show (some'.length : Int) ≠ 0 by omega)
    have hk : some'.getD (draw % (some'.length : Int)).toNat 0 = k := by cases h; rfl
    have hm : k ∈ some' := by
      rw [← hk, List.getD_eq_getElem?_getD, List.getElem?_eq_getElem (by omega)]
      exact List.getElem_mem _
    rw [← hs] at hm
    have := (List.mem_filter.mp hm).2
    simp only [Bool.and_eq_true, decide_eq_true_eq] at this
    exact this.1
theorem nm9_lt (r : List Int) : nm9 r < 9 := by unfold nm9; omega
theorem given_lt {d own : Plan} {odd : Bool} {r : List Int} {k : Nat} (h : some k ∈ givenF d own odd r) : k < 9 := by
  have h0 : some k ∈ given0 d own odd r → k < 9 := fun h => by
    unfold given0 at h
    obtain ⟨q, _, e⟩ := List.mem_map.mp h
    exact namedF_lt e
  unfold givenF at h
  split at h
  · rcases List.mem_append.mp h with z | z
    · exact h0 z
    · have : k = nm9 r := by simpa using z
      rw [this]; exact nm9_lt r
  · exact h0 h
theorem zF_lt {d own : Plan} {odd : Bool} {r : List Int} {k : Nat} (h : zF d own odd r = some k) : k < 9 := by
  unfold zF at h
  split at h
  · cases h; exact nm9_lt r
  · unfold z0 at h
    cases hr : d.res with
    | none => rw [hr] at h; cases h
    | some q =>
      rw [hr] at h
      simp only [Option.bind_some] at h
      split at h
      · exact namedF_lt h
      · cases h
theorem flat_opts (xs : List (Option Nat)) : ((xs.map encO).all flatD) = true := by
  rw [List.all_map]; exact List.all_eq_true.mpr fun x _ => by cases x <;> rfl
theorem any_none (xs : List (Option Nat)) : ((xs.map encO).any fun z => PyData.eqv z .none) = decide (none ∈ xs) := by
  induction xs with
  | nil => simp
  | cons x r ih =>
    rw [List.map_cons, List.any_cons, ih]
    cases x with
    | none => simp [encO, PyData.eqv]
    | some k => simp [encO, PyData.eqv]
theorem opts_nats {xs : List (Option Nat)} (h : none ∉ xs) : xs.map encO = natsD (xs.map (·.getD 0)) := by
  unfold natsD
  rw [List.map_map]
  refine List.map_congr_left fun x hx => ?_
  cases x with
  | none => exact absurd hx h
  | some k => rfl
section
variable {P : Program} {w : World} {K : PySem.W.Frag} {mg : Str → Option Value} {base : Heap} {nm : Nat → Str}
local macro_rules | `(tactic| walk_at "R") => `(tactic| solve_by_elim)
local macro_rules | `(tactic| walk_at "fl") => `(tactic| first | exact flat_opts _ | rfl | assumption)
def R_law_calling (nm : Nat → Str) : List PyData → PyData → Prop := fun ds d => ∃ (v : Wd) (own : Plan) (odd : Bool) (r : List Int), WdOk v ∧ own ∈ v.doors ∧ r.length = 7 ∧ ds = [encWd nm v, encPlan nm own, .bool odd, .list (r.map .int)] ∧ d = encM nm (callingF v own odd r)
theorem ok_law_calling (pl : Pl K mg "_law_calling" s_law_calling ["world", "own", "odd", "r"]) (B : Bi mg) (Cb : Cal P w K mg base "_law_bound" 1 ["door"] (R_law_bound nm)) (Cn : Cal P w K mg base "_law_named" 1 ["number", "bound", "odd", "draw"] R_law_named) :
    Cal P w K mg base "_law_calling" 2 ["world", "own", "odd", "r"] (R_law_calling nm) := by
  refine okC 8 pl sc_law_calling (by decide +kernel) (by rintro _ _ ⟨_, _, _, _, _, _, _, rfl, _⟩; rfl) ?_
  rintro f cdv A outer s H E Γ _ _ fz hr T ⟨v, own, odd, r, hv, hown, hrl, rfl, rfl⟩
  refine SXs.reL (l' := [.dat (encWd nm v), .dat (encPlan nm own), .dat (.bool odd), .dat (.list (r.map .int)), .no, .no, .no, .no, .no, .no, .no]) rfl ?_
  have hi3 : ixD (encWd nm v) 3 = some (.list (v.doors.map (encPlan nm))) := atI_nat' (j := 3) rfl
  have hi0 : ixD (encWd nm v) 0 = some (.list (namesD nm)) := ix0
  have hdl := hv.dl
  have el : lenD (.list (v.doors.map (encPlan nm))) = (v.doors.length : Nat) := by simp [lenD]
  have hpos : 0 < lenD (.list (v.doors.map (encPlan nm))) := by rw [el]; omega
  have e1 := Int.emod_nonneg (rI r 1) (b := (v.doors.length : Int)) (by omega)
  have e2 := Int.emod_lt_of_pos (rI r 1) (b := (v.doors.length : Int)) (by omega)
  have hdoor : ixD (.list (v.doors.map (encPlan nm))) (rI r 1 % lenD (.list (v.doors.map (encPlan nm)))) = some (encPlan nm (callDoor v r)) := by
    rw [el]
    unfold callDoor planAt
    exact atI_mod e1 e2
  have hdm : callDoor v r ∈ v.doors := by
    unfold callDoor planAt
    rw [List.getD_eq_getElem?_getD, List.getElem?_eq_getElem (by omega)]
    exact List.getElem_mem _
  show SXs _ _ _ _ { nx := fun _ => encM nm (callOf (callDoor v r) own odd r) = .none, rt := fun d' _ => d' = encM nm (callOf (callDoor v r) own odd r) }
  generalize callDoor v r = door at hdoor hdm ⊢
  obtain ⟨hpl, hp9⟩ := hv.dp door hdm
  have hbl := (hv.dp own hown).1
  have hp0 : ixD (encPlan nm door) 0 = some (.str (nm door.name)) := ix0
  have hp2 : ixD (encPlan nm door) 2 = some (.list (door.places.map encA)) := atI_nat' (j := 2) rfl
  have hp3 : ixD (encPlan nm door) 3 = some (encO door.res) := atI_nat' (j := 3) rfl
  have RB : R_law_bound nm [encPlan nm own] (.list (natsD (boundF own))) := ⟨own, by omega, rfl, rfl⟩
  have n0 := Int.emod_nonneg (rI r 4 / 4) (b := 9) (by decide)
  have n1 := Int.emod_lt_of_pos (rI r 4 / 4) (b := 9) (by decide)
  have n9 : ((nm9 r : Nat) : Int) = rI r 4 / 4 % 9 := Int.toNat_of_nonneg n0
  have hn9 : ixD (.list (namesD nm)) (rI r 4 / 4 % 9) = some (.str (nm (nm9 r))) := by
    have := names_at (nm := nm) (nm9_lt r)
    rwa [n9] at this
  walk_at "S"
  case k5 =>
    refine' SXs.cons (SX.setLcA (i := 5) (xs := door.places) (ow := [("at", 8), ("way", 9)]) (is := [8, 9]) (en := encA) (tv := fun q => [.int (q.1 : Nat), encW q.2]) (fun q => encO (namedF (q.1 % 5) (boundF own) odd (rI r 3 + (q.1 : Int) * rI r 4))) rfl T.nd ?a1 ?a2 ?a3 (blkOk_by (N := N_law_calling) (sc := defScope s_law_calling) (by decide +kernel)) ?a4 (by decide) ?a5 ?a6 ?a7 ?a8)
    case a1 => rfl
    case a2 => rfl
    case a3 => exact sw_true rfl rfl rfl (by decide +kernel)
    case a4 => exact IX.list (by walk_at "E")
    case a7 => omega
    case a5 =>
      intro s H C cl fp x hx
      exact GX.inB (N := N_law_calling) (own := [8, 9]) (vis := [1, 2, 3, 8, 9]) (sc := defScope s_law_calling) rfl T.nd rfl (by decide +kernel) fun TV => GX.tup rfl (GsX.nmV TV (by walk_at "At") (by decide) (GsX.nmV TV (by walk_at "At") (by decide) GsX.nil)) rfl
    case a6 =>
      rintro s H C cl fp Γ' q hx
      refine EX.inB (N := N_law_calling) (own := [8, 9]) (vis := [1, 2, 3, 8, 9]) (sc := defScope s_law_calling) rfl T.nd rfl (by decide +kernel) fun TV => ?_
      have hq := hp9 q hx
      have cm : CMul (q.1 : Nat) (rI r 4) := .inl ⟨by omega, by omega⟩
      have RN : R_law_named [.int ((q.1 : Int) % 5), .list (natsD (boundF own)), .bool odd, .int (rI r 3 + (q.1 : Int) * rI r 4)] (encO (namedF (q.1 % 5) (boundF own) odd (rI r 3 + (q.1 : Int) * rI r 4))) := ⟨q.1 % 5, _, _, _, rfl, rfl⟩
      walk_at "E"
    case a8 =>
      refine SXs.freeze (i := 5) fz rfl ?_
      refine SXs.reL (l' := [.dat (encWd nm v), .dat (encPlan nm own), .dat (.bool odd), .dat (.list (r.map .int)), .dat (encPlan nm door), .dat (.list ((given0 door own odd r).map encO)), .no, .no, .no, .no, .no]) (by unfold given0; rw [List.map_map]; rfl) ?_
      have hgl : (given0 door own odd r).length ≤ 4 := by unfold given0; rw [List.length_map]; exact hpl
      walk_at "S"
      case k5 =>
        refine' SXs.cons (SX.iteJ (l2 := [.dat (encWd nm v), .dat (encPlan nm own), .dat (.bool odd), .dat (.list (r.map .int)), .dat (encPlan nm door), .dat (.list ((given0 door own odd r).map encO)), .dat (encO (z0 door own odd r)), .no, .no, .no, .no]) (b := !isN (encO door.res) && decide (0 < rI r 2 % 3)) ?b1 ?b2 ?b3 ?b4)
        case b1 => walk_at "T"
        case b2 =>
          intro hb
          rw [Bool.and_eq_true, decide_eq_true_eq] at hb
          cases hres : door.res with
          | none => rw [hres] at hb; exact absurd hb.1 (by decide)
          | some k =>
            rw [hres] at hp3
            have RN : R_law_named [.int (k : Nat), .list (natsD (boundF own)), .bool odd, .int (rI r 2 / 3)] (encO (namedF k (boundF own) odd (rI r 2 / 3))) := ⟨k, _, _, _, rfl, rfl⟩
            have hz : z0 door own odd r = namedF k (boundF own) odd (rI r 2 / 3) := by unfold z0; rw [hres, Option.bind_some, if_pos hb.2]
            rw [hz]
            have hp3 : ixD (encPlan nm door) 3 = some (.int (k : Nat)) := hp3
            walk_at "S"
            case k5 => exact SXs.nil rfl
        case b3 =>
          intro hb
          rw [Bool.and_eq_false_iff, decide_eq_false_iff_not] at hb
          have hz : z0 door own odd r = none := by
            unfold z0
            cases hres : door.res with
            | none => rfl
            | some k =>
              rw [hres] at hb
              rw [Option.bind_some, if_neg (hb.resolve_left fun z => by cases (show true = false from z))]
          rw [hz]
          exact SXs.nil rfl
        case b4 =>
          walk_at "S"
          case k5 =>
            refine' SXs.cons (SX.iteJ (l2 := [.dat (encWd nm v), .dat (encPlan nm own), .dat (.bool odd), .dat (.list (r.map .int)), .dat (encPlan nm door), .dat (.list ((given0 door own odd r).map encO)), .dat (encO (z0 door own odd r)), .dat (.str (nm (callName door odd r))), .no, .no, .no]) (TX.eq (b' := decide (odd = true ∧ rI r 4 % 4 = 0)) ?c1 ?c2) ?c3 ?c4 ?c5)
            case c1 => walk_at "T"
            case c2 => rw [Bool.decide_and]; cases odd <;> rfl
            case c3 =>
              intro hb
              unfold callName
              rw [if_pos (of_decide_eq_true hb)]
              walk_at "S"
              case k5 => exact SXs.nil rfl
            case c4 =>
              intro hb
              unfold callName
              rw [if_neg (of_decide_eq_false hb)]
              exact SXs.nil rfl
            case c5 =>
              refine' SXs.cons (SX.iteJ (l2 := [.dat (encWd nm v), .dat (encPlan nm own), .dat (.bool odd), .dat (.list (r.map .int)), .dat (encPlan nm door), .dat (.list ((givenF door own odd r).map encO)), .dat (encO (z0 door own odd r)), .dat (.str (nm (callName door odd r))), .no, .no, .no]) (TX.eq (b' := decide (odd = true ∧ rI r 4 % 4 = 1)) ?d1 ?d2) ?d3 ?d4 ?d5)
              case d1 => walk_at "T"
              case d2 => rw [Bool.decide_and]; cases odd <;> rfl
              case d3 =>
                intro hb
                unfold givenF
                rw [if_pos (of_decide_eq_true hb)]
                walk_at "S"
                case k5 =>
                  refine SXs.nil ?_
                  rw [List.map_append, List.map_singleton]
                  show _ = [_, _, _, _, _, Sl.dat (.list (_ ++ [.int ((nm9 r : Nat) : Int)])), _, _, _, _, _]
                  rw [n9]; rfl
              case d4 =>
                intro hb
                unfold givenF
                rw [if_neg (of_decide_eq_false hb)]
                exact SXs.nil rfl
              case d5 =>
                refine' SXs.cons (SX.iteJ (l2 := [.dat (encWd nm v), .dat (encPlan nm own), .dat (.bool odd), .dat (.list (r.map .int)), .dat (encPlan nm door), .dat (.list ((givenF door own odd r).map encO)), .dat (encO (zF door own odd r)), .dat (.str (nm (callName door odd r))), .no, .no, .no]) (TX.eq (b' := decide (odd = true ∧ rI r 4 % 4 = 2)) ?e1 ?e2) ?e3 ?e4 ?e5)
                case e1 => walk_at "T"
                case e2 => rw [Bool.decide_and]; cases odd <;> rfl
                case e3 =>
                  intro hb
                  unfold zF
                  rw [if_pos (of_decide_eq_true hb)]
                  walk_at "S"
                  case k5 =>
                    refine SXs.nil ?_
                    show _ = [_, _, _, _, _, _, Sl.dat (.int ((nm9 r : Nat) : Int)), _, _, _, _]
                    rw [n9]; rfl
                case e4 =>
                  intro hb
                  unfold zF
                  rw [if_neg (of_decide_eq_false hb)]
                  exact SXs.nil rfl
                case e5 =>
                  have glt : ∀ k, some k ∈ givenF door own odd r → k < 9 := fun k => given_lt
                  have zlt : ∀ k, zF door own odd r = some k → k < 9 := fun k => zF_lt
                  have hgl2 : (givenF door own odd r).length ≤ 5 := by
                    unfold givenF
                    split
                    · rw [List.length_append, List.length_singleton]; omega
                    · omega
                  unfold callOf
                  generalize givenF door own odd r = given at glt hgl2 ⊢
                  generalize zF door own odd r = z at zlt ⊢
                  generalize callName door odd r = cn
                  refine' SXs.cons (SX.ite (TX.eq ?f1 (any_none given)) ?f3 ?f4)
                  case f1 => walk_at "T"
                  case f3 =>
                    intro hb
                    rw [if_pos (of_decide_eq_true hb)]
                    walk_at "S"
                    show _ = encM nm _
                    rw [encM]
                  case f4 =>
                    intro hb
                    have hno := of_decide_eq_false hb
                    rw [if_neg hno, opts_nats hno]
                    have nlt : ∀ n ∈ given.map (·.getD 0), n < 9 := fun n hn => by
                      obtain ⟨x, hx, rfl⟩ := List.mem_map.mp hn
                      cases x with
                      | none => exact absurd hx hno
                      | some k => exact glt k hx
                    have nl : (given.map (·.getD 0)).length ≤ 5 := by rw [List.length_map]; exact hgl2
                    generalize given.map (·.getD 0) = ns at nlt nl ⊢
                    refine SXs.nil ?_
                    refine' SXs.cons (SX.iteJ (l2 := [.dat (encWd nm v), .dat (encPlan nm own), .dat (.bool odd), .dat (.list (r.map .int)), .dat (encPlan nm door), .dat (.list (natsD ns)), .dat (encZ nm z), .dat (.str (nm cn)), .no, .no, .no]) (b := !isN (encO z)) ?g1 ?g2 ?g3 ?g4)
                    case g1 => walk_at "T"
                    case g2 =>
                      intro hb
                      cases z with
                      | none => exact absurd hb (by decide)
                      | some k =>
                        have hk := names_at (nm := nm) (zlt k rfl)
                        refine SXs.reL (l' := [.dat (encWd nm v), .dat (encPlan nm own), .dat (.bool odd), .dat (.list (r.map .int)), .dat (encPlan nm door), .dat (.list (natsD ns)), .dat (.int (k : Nat)), .dat (.str (nm cn)), .no, .no, .no]) rfl ?_
                        walk_at "S"
                        case k5 => exact SXs.nil rfl
                    case g3 =>
                      intro hb
                      cases z with
                      | none => exact SXs.nil rfl
                      | some k => exact absurd hb fun z => by cases (show true = false from z)
                    case g4 =>
                      refine' SXs.cons (SX.ret (EX.tup (AX.cons EX.str (AX.cons ?h1 (AX.cons ?h2 (AX.cons (EX.tupOf rfl B (EL.ex (EL.lcA (xs := ns) (ow := [("one", 10)]) (is := [10]) (en := fun i : Nat => PyData.int (i : Nat)) (tv := fun i : Nat => [PyData.int (i : Nat)]) (fun n => .str (nm n)) rfl T.nd (blkOk_by (N := N_law_calling) (sc := defScope s_law_calling) (by decide +kernel)) ?h3 (by decide) ?h4 ?h5 ?h6)) ?h7 ?h8 ?h9) AX.nil)))) ?h10) ?h11)
                      case h1 => walk_at "E"
                      case h2 => walk_at "E"
                      case h3 => exact IX.list (by walk_at "E")
                      case h6 => omega
                      case h7 => rfl
                      case h8 => rfl
                      case h9 => rfl
                      case h10 => walk_at "sz"
                      case h4 =>
                        intro s H C cl fp x hx
                        exact GX.inB (N := N_law_calling) (own := [10]) (vis := [0, 10]) (sc := defScope s_law_calling) rfl T.nd rfl (by decide +kernel) fun TV => GX.nmV TV (by walk_at "At") (by decide)
                      case h5 =>
                        rintro s H C cl fp Γ' n hx
                        refine EX.inB (N := N_law_calling) (own := [10]) (vis := [0, 10]) (sc := defScope s_law_calling) rfl T.nd rfl (by decide +kernel) fun TV => ?_
                        have hk := names_at (nm := nm) (nlt n hx)
                        walk_at "E"
                      case h11 =>
                        show _ = encM nm _
                        rw [encM]
end
/-! ### a statement, drawn -/
def x0F (r : List Int) : Nat := (rI r 1 % 9).toNat
def y0F (r : List Int) : Nat := (rI r 2 % 9).toNat
def x1F (r : List Int) : Nat := if y0F r % 5 < x0F r % 5 then y0F r else x0F r
def y1F (r : List Int) : Nat := if y0F r % 5 < x0F r % 5 then x0F r else y0F r
def path0 (v : Wd) (x y : Nat) : List Stp := (List.range (y % 5 - x % 5)).map fun i => v.steps.getD (y % 5 - 1 - i) (.ix 0)
def k0F (r : List Int) : Nat := (rI r 0 % 10).toNat
def x2F (own : Plan) (r : List Int) (x : Nat) : Nat := if k0F r = 8 ∧ own.res ≠ none ∧ 0 < rI r 3 % 8 then own.res.getD 0 else x
def lastD (nm : Nat → Str) (p : List Stp) : PyData := match p.getLast? with | some s => encS nm s | none => .str ""
def lastI (p : List Stp) : Bool := match p.getLast? with | some (.ix _) => true | _ => false
def k1F (own : Plan) (odd : Bool) (r : List Int) (x y : Nat) (p : List Stp) : Nat := if odd = false then fittingF (k0F r) own x y (lastI p) else k0F r
def pathF (v : Wd) (odd : Bool) (r : List Int) (p : List Stp) : List Stp := if odd = true ∧ rI r 4 % 3 = 1 then (p ++ [v.steps.getD (rI r 4 / 3 % 4).toNat (.ix 0)]).drop (rI r 4 / 12 % 2).toNat else p
def sm1 (k x : Nat) : Sm := if k = 5 then .drop x else if k = 6 then .say x else .back x
def looseOf (v : Wd) (own : Plan) (odd : Bool) (r : List Int) (k x y : Nat) (p : List Stp) : Sm :=
  if k = 0 then .new x (kindAtW v ((x + if odd then 1 else 0) % 5)) (rI r 3)
  else if k = 1 then .copy x (permF x)
  else if k = 2 then .part x y p
  else if k = 3 then .put y p x
  else if k = 4 then .add y p.dropLast x
  else if k = 9 then .fail (rI r 1 % 1000)
  else if k ≠ 7 then sm1 k x
  else callingF v own odd r
def looseF (v : Wd) (own : Plan) (odd : Bool) (r : List Int) : Sm :=
  let x := x2F own r (x1F r)
  let p := path0 v (x1F r) (y1F r)
  looseOf v own odd r (k1F own odd r x (y1F r) p) x (y1F r) (pathF v odd r p)
theorem x0_lt (r : List Int) : x0F r < 9 := by unfold x0F; omega
theorem y0_lt (r : List Int) : y0F r < 9 := by unfold y0F; omega
theorem x1_lt (r : List Int) : x1F r < 9 := by unfold x1F; have := x0_lt r; have := y0_lt r; split <;> assumption
theorem y1_lt (r : List Int) : y1F r < 9 := by unfold y1F; have := x0_lt r; have := y0_lt r; split <;> assumption
theorem x1_le (r : List Int) : x1F r % 5 ≤ y1F r % 5 := by unfold x1F y1F; split <;> omega
theorem permF_lt {x : Nat} (h : x < 9) : permF x < 9 := by
  have : ∀ x : Fin 9, permF x < 9 := by decide
  exact this ⟨x, h⟩
theorem k0_lt (r : List Int) : k0F r < 10 := by unfold k0F; omega
theorem fitting_lt {k : Nat} {p : Plan} {x y : Nat} {b : Bool} (h : k < 10) : fittingF k p x y b < 10 := by
  unfold fittingF
  split
  · decide
  · split
    · decide
    · split
      · decide
      · exact h
theorem k1_lt (own : Plan) (odd : Bool) (r : List Int) (x y : Nat) (p : List Stp) : k1F own odd r x y p < 10 := by
  unfold k1F
  split
  · exact fitting_lt (k0_lt r)
  · exact k0_lt r
theorem lastI_eq (nm : Nat → Str) (p : List Stp) : isIntD (lastD nm p) = lastI p := by
  unfold lastD lastI
  cases p.getLast? with
  | none => rfl
  | some s => cases s <;> rfl
theorem last_at (nm : Nat → Str) (p : List Stp) : ixD (.tuple (p.map (encS nm) ++ [.str ""])) ((p.length : Int) - 1) = some (lastD nm p) := by
  show L2.atI _ _ = _
  unfold lastD L2.atI L2.ixN
  cases h : p.getLast? with
  | none =>
    have : p = [] := List.getLast?_eq_none_iff.mp h
    subst this
    rfl
  | some s =>
    obtain ⟨q, rfl⟩ := List.getLast?_eq_some_iff.mp h
    rw [if_pos (by simp), if_pos (by simp; omega)]
    simp only [Option.bind_some]
    rw [List.getElem?_append_left (by simp), List.getElem?_map]
    have : (((q ++ [s]).length : Int) - 1).toNat = q.length := by simp
    rw [this]
    simp
theorem cutG_drop {α : Type} (xs : List α) (i : Int) (h : 0 ≤ i) : cutG xs (some i) none = xs.drop i.toNat := by
  unfold cutG HT.sIx
  have e1 : ¬ i < 0 := by omega
  simp only [e1, if_false]
  rw [List.take_of_length_le (by rw [List.length_drop]; exact Nat.le_refl _)]
  by_cases h2 : i.toNat ≤ xs.length
  · rw [Nat.min_eq_left h2]
  · rw [Nat.min_eq_right (by omega), List.drop_length, List.drop_eq_nil_of_le (by omega)]
theorem cutG_last {α : Type} (xs : List α) : cutG xs none (some (-1)) = xs.dropLast := by
  unfold cutG HT.sIx
  rw [List.dropLast_eq_take]
  simp only [show (-1 : Int) < 0 by decide, if_true, Nat.sub_zero, List.drop_zero]
  congr 1
  omega
theorem sm1_enc {nm : Nat → Str} {k x : Nat} (h : k = 5 ∨ k = 6 ∨ k = 8) : encM nm (sm1 k x) = .tuple [.str (wd k), .str (nm x)] := by
  unfold sm1
  rcases h with rfl | rfl | rfl
  · rw [if_pos rfl, encM]; rfl
  · rw [if_neg (by decide), if_pos rfl, encM]; rfl
  · rw [if_neg (by decide), if_neg (by decide), encM]; rfl
section
variable {P : Program} {w : World} {K : PySem.W.Frag} {mg : Str → Option Value} {base : Heap} {nm : Nat → Str}
local macro_rules | `(tactic| walk_at "R") => `(tactic| solve_by_elim)
def R_law_loose (nm : Nat → Str) : List PyData → PyData → Prop := fun ds d => ∃ (v : Wd) (own : Plan) (odd : Bool) (r : List Int), WdOk v ∧ own ∈ v.doors ∧ r.length = 7 ∧ ds = [encWd nm v, encPlan nm own, .bool odd, .list (r.map .int)] ∧ d = encM nm (looseF v own odd r)
theorem ok_law_loose (pl : Pl K mg "_law_loose" s_law_loose ["world", "own", "odd", "r"]) (B : Bi mg) (Cf : Cal P w K mg base "_law_fitting" 2 ["word", "door", "x", "y", "last"] (R_law_fitting nm)) (Cw : Cal P w K mg base "_law_worth" 6 ["kind", "seed"] (R_law_worth nm 5)) (Cc : Cal P w K mg base "_law_calling" 2 ["world", "own", "odd", "r"] (R_law_calling nm)) :
    Cal P w K mg base "_law_loose" 7 ["world", "own", "odd", "r"] (R_law_loose nm) := by
  refine okC 13 pl sc_law_loose (by decide +kernel) (by rintro _ _ ⟨_, _, _, _, _, _, _, rfl, _⟩; rfl) ?_
  rintro f cdv A outer s H E Γ _ _ fz hr T ⟨v, own, odd, r, hv, hown, hrl, rfl, rfl⟩
  refine SXs.reL (l' := [.dat (encWd nm v), .dat (encPlan nm own), .dat (.bool odd), .dat (.list (r.map .int)), .no, .no, .no, .no, .no, .no, .no, .no, .no, .no]) rfl ?_
  have RC : R_law_calling nm [encWd nm v, encPlan nm own, .bool odd, .list (r.map .int)] (encM nm (callingF v own odd r)) := ⟨v, own, odd, r, hv, hown, hrl, rfl, rfl⟩
  have hp3 : ixD (encPlan nm own) 3 = some (encO own.res) := atI_nat' (j := 3) rfl
  have hsl := hv.sl
  refine' SXs.cons (SX.asg (is := [8, 9, 10, 11]) (d := encWd nm v) (ds := [.list (namesD nm), .list (v.kinds.map (encK nm)), .list (v.steps.map (encS nm)), .list (v.doors.map (encPlan nm))]) ?a1 ?a2 ?a3 ?a4 ?a5)
  case a1 => walk_at "E"
  case a2 => exact GX.tup rfl (GsX.nm T (by walk_at "At") (by decide) (GsX.nm T (by walk_at "At") (by decide) (GsX.nm T (by walk_at "At") (by decide) (GsX.nm T (by walk_at "At") (by decide) GsX.nil)))) rfl
  case a4 => rfl
  case a5 => rfl
  case a3 =>
    obtain ⟨Ws, hWs⟩ : ∃ Ws : List Sl, Ws = [.dat (.list (namesD nm)), .dat (.list (v.kinds.map (encK nm))), .dat (.list (v.steps.map (encS nm))), .dat (.list (v.doors.map (encPlan nm))), .no, .no] := ⟨_, rfl⟩
    refine SXs.reL (l' := [.dat (encWd nm v), .dat (encPlan nm own), .dat (.bool odd), .dat (.list (r.map .int)), .no, .no, .no, .no, .dat (.list (namesD nm)), .dat (.list (v.kinds.map (encK nm))), .dat (.list (v.steps.map (encS nm))), .dat (.list (v.doors.map (encPlan nm))), .no, .no]) rfl ?_
    have x9 : ((x0F r : Nat) : Int) = rI r 1 % 9 := Int.toNat_of_nonneg (Int.emod_nonneg _ (by decide))
    have y9 : ((y0F r : Nat) : Int) = rI r 2 % 9 := Int.toNat_of_nonneg (Int.emod_nonneg _ (by decide))
    walk_at "S"
    case k5 =>
      walk_at "S"
      case k5 =>
        refine SXs.reL (l' := [.dat (encWd nm v), .dat (encPlan nm own), .dat (.bool odd), .dat (.list (r.map .int)), .dat (.int (x0F r : Nat)), .dat (.int (y0F r : Nat)), .no, .no, .dat (.list (namesD nm)), .dat (.list (v.kinds.map (encK nm))), .dat (.list (v.steps.map (encS nm))), .dat (.list (v.doors.map (encPlan nm))), .no, .no]) (by rw [x9, y9]; rfl) ?_
        refine' SXs.cons (SX.iteJ (l2 := [.dat (encWd nm v), .dat (encPlan nm own), .dat (.bool odd), .dat (.list (r.map .int)), .dat (.int (x1F r : Nat)), .dat (.int (y1F r : Nat)), .no, .no, .dat (.list (namesD nm)), .dat (.list (v.kinds.map (encK nm))), .dat (.list (v.steps.map (encS nm))), .dat (.list (v.doors.map (encPlan nm))), .no, .no]) (TX.eq (b' := decide (y0F r % 5 < x0F r % 5)) ?b1 ?b2) ?b3 ?b4 ?b5)
        case b1 => walk_at "T"
        case b2 => rw [decide_eq_decide]; omega
        case b3 =>
          intro hb
          unfold x1F y1F
          rw [if_pos (of_decide_eq_true hb), if_pos (of_decide_eq_true hb)]
          walk_at "S"
          case k5 =>
            walk_at "S"
            case k5 =>
              refine SXs.nil ?_
              rw [x9, y9]; rfl
        case b4 =>
          intro hb
          unfold x1F y1F
          rw [if_neg (of_decide_eq_false hb), if_neg (of_decide_eq_false hb)]
          exact SXs.nil rfl
        case b5 =>
          have hx1 := x1_lt r
          have hy1 := y1_lt r
          have hxy := x1_le r
          show SXs _ _ _ _ { nx := fun _ => encM nm (looseOf v own odd r (k1F own odd r (x2F own r (x1F r)) (y1F r) (path0 v (x1F r) (y1F r))) (x2F own r (x1F r)) (y1F r) (pathF v odd r (path0 v (x1F r) (y1F r)))) = .none, rt := fun d' _ => d' = encM nm (looseOf v own odd r (k1F own odd r (x2F own r (x1F r)) (y1F r) (path0 v (x1F r) (y1F r))) (x2F own r (x1F r)) (y1F r) (pathF v odd r (path0 v (x1F r) (y1F r)))) }
          generalize x1F r = x at hx1 hxy ⊢
          generalize y1F r = y at hy1 hxy ⊢
          refine' SXs.cons (SX.st T ?c1 ?c2 (EX.tupOf rfl B (EL.ex (EL.lcA (xs := List.range (y % 5 - x % 5)) (ow := [("k", 13)]) (is := [13]) (en := fun i : Nat => PyData.int (((y : Int) % 5 - 1) + (i : Int) * (-1))) (tv := fun i : Nat => [PyData.int (((y : Int) % 5 - 1) + (i : Int) * (-1))]) (fun i => encS nm (v.steps.getD (y % 5 - 1 - i) (.ix 0))) rfl T.nd (blkOk_by (N := N_law_loose) (sc := defScope s_law_loose) (by decide +kernel)) ?c3 (by decide) ?c4 ?c5 ?c6)) ?c7 ?c8 ?c9) ?c10 ?c11)
          case c1 => walk_at "At"
          case c2 => decide
          case c3 =>
            have e : (List.range (y % 5 - x % 5)).map (fun i : Nat => PyData.int (((y : Int) % 5 - 1) + (i : Int) * (-1))) = downs ((y : Int) % 5 - 1) (((y : Int) % 5 - 1) - ((x : Int) % 5 - 1)).toNat := by
              unfold downs
              rw [show ((y : Int) % 5 - 1 - ((x : Int) % 5 - 1)).toNat = y % 5 - x % 5 by omega]
            rw [e]
            exact IX.down (by walk_at "A") (by omega) rfl B.range
          case c6 => rw [List.length_range]; omega
          case c7 => rfl
          case c8 => rfl
          case c9 => rfl
          case c11 => rfl
          case c4 =>
            intro s H C cl fp i hi
            exact GX.inB (N := N_law_loose) (own := [13]) (vis := [10, 13]) (sc := defScope s_law_loose) rfl T.nd rfl (by decide +kernel) fun TV => GX.nmV TV (by walk_at "At") (by decide)
          case c5 =>
            rintro s H C cl fp Γ' i hi
            refine EX.inB (N := N_law_loose) (own := [13]) (vis := [10, 13]) (sc := defScope s_law_loose) rfl T.nd rfl (by decide +kernel) fun TV => ?_
            have hi := List.mem_range.mp hi
            have hst : ixD (.list (v.steps.map (encS nm))) ((y : Int) % 5 - 1 + (i : Int) * (-1)) = some (encS nm (v.steps.getD (y % 5 - 1 - i) (.ix 0))) := by
              have := atI_mod (xs := v.steps) (f := encS nm) (x0 := .ix 0) (j := (y : Int) % 5 - 1 + (i : Int) * (-1)) (by omega) (by omega)
              rwa [show ((y : Int) % 5 - 1 + (i : Int) * (-1)).toNat = y % 5 - 1 - i by omega] at this
            walk_at "E"
          case c10 =>
            have hpl : (path0 v x y).length ≤ 4 := by unfold path0; rw [List.length_map, List.length_range]; omega
            refine SXs.reL (l' := [.dat (encWd nm v), .dat (encPlan nm own), .dat (.bool odd), .dat (.list (r.map .int)), .dat (.int (x : Nat)), .dat (.int (y : Nat)), .dat (.tuple ((path0 v x y).map (encS nm))), .no, .dat (.list (namesD nm)), .dat (.list (v.kinds.map (encK nm))), .dat (.list (v.steps.map (encS nm))), .dat (.list (v.doors.map (encPlan nm))), .no, .no]) (by unfold path0; rw [List.map_map]; rfl) ?_
            generalize path0 v x y = p at hpl ⊢
            have hk0 := k0_lt r
            have hwd : ixD (.list [.str "new", .str "copy", .str "part", .str "put", .str "add", .str "drop", .str "say", .str "call", .str "back", .str "fail"]) (rI r 0 % 10) = some (.str (wd (k0F r))) := by
              have := atI_mod (xs := words10) (f := PyData.str) (x0 := Str.empty) (j := rI r 0 % 10) (Int.emod_nonneg _ (by decide)) (Int.emod_lt_of_pos _ (by decide))
              exact this
            walk_at "S"
            case k5 =>
              have hx2 : x2F own r x < 9 := by
                unfold x2F
                split
                · rename_i h
                  cases hres : own.res with
                  | none => exact absurd hres h.2.1
                  | some q => have := hv.dr own hown q hres; show q < 9; omega
                · exact hx1
              refine' SXs.cons (SX.iteJ (l2 := [.dat (encWd nm v), .dat (encPlan nm own), .dat (.bool odd), .dat (.list (r.map .int)), .dat (.int (x2F own r x : Nat)), .dat (.int (y : Nat)), .dat (.tuple (p.map (encS nm))), .dat (.str (wd (k0F r))), .dat (.list (namesD nm)), .dat (.list (v.kinds.map (encK nm))), .dat (.list (v.steps.map (encS nm))), .dat (.list (v.doors.map (encPlan nm))), .no, .no]) (TX.eq (b' := decide (k0F r = 8 ∧ own.res ≠ none ∧ 0 < rI r 3 % 8)) ?d1 ?d2) ?d3 ?d4 ?d5)
              case d1 => walk_at "T"
              case d2 =>
                have e2 : decide (wd (k0F r) = "back") = decide (k0F r = 8) := wd_eq (k0F r) 8 hk0 (by decide)
                have e3 : isN (encO own.res) = decide (own.res = none) := by cases own.res <;> rfl
                rw [e2, e3, Bool.decide_and, Bool.decide_and, decide_not]; rfl
              case d3 =>
                intro hb
                have hb := of_decide_eq_true hb
                unfold x2F
                rw [if_pos hb]
                cases hres : own.res with
                | none => exact absurd hres hb.2.1
                | some q =>
                  rw [hres] at hp3
                  have hp3 : ixD (encPlan nm own) 3 = some (.int (q : Nat)) := hp3
                  walk_at "S"
                  case k5 => exact SXs.nil rfl
              case d4 =>
                intro hb
                unfold x2F
                rw [if_neg (of_decide_eq_false hb)]
                exact SXs.nil rfl
              case d5 =>
                generalize x2F own r x = x at hx2 ⊢
                refine' SXs.cons (SX.iteJ (l2 := [.dat (encWd nm v), .dat (encPlan nm own), .dat (.bool odd), .dat (.list (r.map .int)), .dat (.int (x : Nat)), .dat (.int (y : Nat)), .dat (.tuple (p.map (encS nm))), .dat (.str (wd (k1F own odd r x y p))), .dat (.list (namesD nm)), .dat (.list (v.kinds.map (encK nm))), .dat (.list (v.steps.map (encS nm))), .dat (.list (v.doors.map (encPlan nm))), .no, .no]) (b := !odd) ?e1 ?e2 ?e3 ?e4)
                case e1 => walk_at "T"
                case e2 =>
                  intro hb
                  have hb : odd = false := by simpa using hb
                  unfold k1F
                  rw [if_pos hb]
                  have hlast := last_at nm p
                  have RF : R_law_fitting nm [.str (wd (k0F r)), encPlan nm own, .int (x : Nat), .int (y : Nat), lastD nm p] (.str (wd (fittingF (k0F r) own x y (lastI p)))) := ⟨k0F r, own, x, y, lastD nm p, hk0, by have := (hv.dp own hown).1; omega, rfl, by rw [lastI_eq]⟩
                  have elp : lenD (.tuple (p.map (encS nm))) = (p.length : Nat) := by simp [lenD]
                  have hlast : ixD (.tuple (p.map (encS nm) ++ [.str ""])) (lenD (.tuple (p.map (encS nm))) - 1) = some (lastD nm p) := by rw [elp]; exact hlast
                  walk_at "S"
                  case k5 => exact SXs.nil rfl
                case e3 =>
                  intro hb
                  have hb : odd = true := by simpa using hb
                  unfold k1F
                  rw [if_neg (by rw [hb]; decide)]
                  exact SXs.nil rfl
                case e4 =>
                  have hk1 := k1_lt own odd r x y p
                  generalize k1F own odd r x y p = k at hk1 ⊢
                  refine' SXs.cons (SX.iteJ (l2 := [.dat (encWd nm v), .dat (encPlan nm own), .dat (.bool odd), .dat (.list (r.map .int)), .dat (.int (x : Nat)), .dat (.int (y : Nat)), .dat (.tuple ((pathF v odd r p).map (encS nm))), .dat (.str (wd k)), .dat (.list (namesD nm)), .dat (.list (v.kinds.map (encK nm))), .dat (.list (v.steps.map (encS nm))), .dat (.list (v.doors.map (encPlan nm))), .no, .no]) (TX.eq (b' := decide (odd = true ∧ rI r 4 % 3 = 1)) ?f1 ?f2) ?f3 ?f4 ?f5)
                  case f1 => walk_at "T"
                  case f2 => rw [Bool.decide_and]; cases odd <;> rfl
                  case f3 =>
                    intro hb
                    unfold pathF
                    rw [if_pos (of_decide_eq_true hb)]
                    have hst : ixD (.list (v.steps.map (encS nm))) (rI r 4 / 3 % 4) = some (encS nm (v.steps.getD (rI r 4 / 3 % 4).toNat (.ix 0))) := atI_mod (Int.emod_nonneg _ (by decide)) (by rw [hsl]; exact Int.emod_lt_of_pos _ (by decide))
                    walk_at "S"
                    case k5 =>
                      refine SXs.nil ?_
                      rw [List.map_drop, List.map_append, List.map_singleton, ← cutG_drop _ _ (Int.emod_nonneg (rI r 4 / 12) (by decide : (2 : Int) ≠ 0))]
                      rfl
                  case f4 =>
                    intro hb
                    unfold pathF
                    rw [if_neg (of_decide_eq_false hb)]
                    exact SXs.nil rfl
                  case f5 =>
                    generalize pathF v odd r p = p
                    have hnx : ixD (.list (namesD nm)) (x : Int) = some (.str (nm x)) := names_at hx2
                    have hny : ixD (.list (namesD nm)) (y : Int) = some (.str (nm y)) := names_at hy1
                    have weq : ∀ j, j < 10 → decide (wd k = wd j) = decide (k = j) := fun j hj => wd_eq k j hk1 hj
                    unfold looseOf
                    refine' SXs.cons (SX.ite (TX.eq (b' := decide (k = 0)) ?g1 (weq 0 (by decide))) ?g2 ?g3)
                    case g1 => walk_at "T"
                    case g2 =>
                      intro hb
                      rw [if_pos (of_decide_eq_true hb)]
                      have hk5 : (x + if odd then 1 else 0) % 5 < 5 := Nat.mod_lt _ (by decide)
                      have hkd := kinds_at (nm := nm) hv hk5
                      have hcast : (((x + if odd then 1 else 0) % 5 : Nat) : Int) = ((x : Int) + (if odd then 1 else 0)) % 5 := by cases odd <;> simp
                      rw [hcast] at hkd
                      walk_at "S"
                      case k5 =>
                        have RW : R_law_worth nm 5 [encK nm (kindAtW v ((x + if odd then 1 else 0) % 5)), .int (rI r 3)] (worD nm (kindAtW v ((x + if odd then 1 else 0) % 5)) (rI r 3)) := ⟨_, _, kindAtW_ok hv hk5, rfl, rfl⟩
                        walk_at "S"
                        rw [encM]
                    case g3 =>
                      intro hb
                      rw [if_neg (of_decide_eq_false hb)]
                      refine SXs.nil ?_
                      refine' SXs.cons (SX.ite (TX.eq (b' := decide (k = 1)) ?h1 (weq 1 (by decide))) ?h2 ?h3)
                      case h1 => walk_at "T"
                      case h2 =>
                        intro hb
                        rw [if_pos (of_decide_eq_true hb)]
                        have hpm : ixD (.list [.int 5, .int 6, .int 7, .int 8, .int 4, .int 0, .int 1, .int 2, .int 3]) (x : Int) = some (.int (permF x : Nat)) := by
                          have := atI_mod (xs := permL) (f := fun n : Nat => PyData.int (n : Nat)) (x0 := 0) (j := (x : Int)) (by omega) (by show (x : Int) < 9; omega)
                          exact this
                        have hnp : ixD (.list (namesD nm)) (permF x : Nat) = some (.str (nm (permF x))) := names_at (permF_lt hx2)
                        walk_at "S"
                        rw [encM]
                      case h3 =>
                        intro hb
                        rw [if_neg (of_decide_eq_false hb)]
                        refine SXs.nil ?_
                        refine' SXs.cons (SX.ite (TX.eq (b' := decide (k = 2)) ?i1 (weq 2 (by decide))) ?i2 ?i3)
                        case i1 => walk_at "T"
                        case i2 =>
                          intro hb
                          rw [if_pos (of_decide_eq_true hb)]
                          walk_at "S"
                          rw [encM]; rfl
                        case i3 =>
                          intro hb
                          rw [if_neg (of_decide_eq_false hb)]
                          refine SXs.nil ?_
                          refine' SXs.cons (SX.ite (TX.eq (b' := decide (k = 3)) ?j1 (weq 3 (by decide))) ?j2 ?j3)
                          case j1 => walk_at "T"
                          case j2 =>
                            intro hb
                            rw [if_pos (of_decide_eq_true hb)]
                            walk_at "S"
                            rw [encM]; rfl
                          case j3 =>
                            intro hb
                            rw [if_neg (of_decide_eq_false hb)]
                            refine SXs.nil ?_
                            refine' SXs.cons (SX.ite (TX.eq (b' := decide (k = 4)) ?l1 (weq 4 (by decide))) ?l2 ?l3)
                            case l1 => walk_at "T"
                            case l2 =>
                              intro hb
                              rw [if_pos (of_decide_eq_true hb)]
                              walk_at "S"
                              rw [encM]
                              unfold encP
                              rw [cutG_last, List.map_dropLast]
                            case l3 =>
                              intro hb
                              rw [if_neg (of_decide_eq_false hb)]
                              refine SXs.nil ?_
                              refine' SXs.cons (SX.ite (TX.eq (b' := decide (k = 9)) ?m1 (weq 9 (by decide))) ?m2 ?m3)
                              case m1 => walk_at "T"
                              case m2 =>
                                intro hb
                                rw [if_pos (of_decide_eq_true hb)]
                                walk_at "S"
                                rw [encM]; rfl
                              case m3 =>
                                intro hb
                                rw [if_neg (of_decide_eq_false hb)]
                                refine SXs.nil ?_
                                refine' SXs.cons (SX.ite (TX.eq (b' := decide (k ≠ 7)) ?o1 ?o4) ?o2 ?o3)
                                case o1 => walk_at "T"
                                case o4 =>
                                  have : decide (wd k = "call") = decide (k = 7) := weq 7 (by decide)
                                  rw [this, decide_not]
                                case o2 =>
                                  intro hb
                                  have hb := of_decide_eq_true hb
                                  rw [if_pos hb, sm1_enc (by simp only [decide_eq_false_iff_not] at *; omega)]
                                  walk_at "S"
                                  rfl
                                case o3 =>
                                  intro hb
                                  rw [if_neg (of_decide_eq_false hb)]
                                  refine SXs.nil ?_
                                  walk_at "S"
                                  rfl
end
/-! ### the bodies, drawn -/
structure Op where
  hd : Option (Nat × Nat)
  first : Option (List Sm)
  items : List Sm
structure Bd where
  root : List Sm
  st : List Op
def mkSm : Option (Nat × Nat) → List Sm → List Sm → Sm
  | none, a, b => .tr a b
  | some (x, y), a, b => .same x y a b
def pushS (s : Sm) : Bd → Bd
  | ⟨root, []⟩ => ⟨root ++ [s], []⟩
  | ⟨root, f :: r⟩ => ⟨root, ⟨f.hd, f.first, f.items ++ [s]⟩ :: r⟩
def closedS : Bd → Bd
  | ⟨root, []⟩ => ⟨root, []⟩
  | ⟨root, f :: r⟩ => match f.first with
    | none => ⟨root, ⟨f.hd, some f.items, []⟩ :: r⟩
    | some a => pushS (mkSm f.hd a f.items) ⟨root, r⟩
def opSm (f : Op) : Sm := match f.first with
  | none => mkSm f.hd f.items []
  | some a => mkSm f.hd a f.items
theorem closedS_none {root : List Sm} {f : Op} {r : List Op} (hf : f.first = none) : closedS ⟨root, f :: r⟩ = ⟨root, ⟨f.hd, some f.items, []⟩ :: r⟩ := by simp only [closedS, hf]
theorem closedS_some {root : List Sm} {f : Op} {r : List Op} {a : List Sm} (hf : f.first = some a) : closedS ⟨root, f :: r⟩ = pushS (mkSm f.hd a f.items) ⟨root, r⟩ := by simp only [closedS, hf]
def endN : Nat → Bd → List Sm
  | 0, s => s.root
  | n + 1, s => match s.st with
    | [] => s.root
    | f :: r => endN n (pushS (opSm f) ⟨s.root, r⟩)
def endedF (s : Bd) : List Sm := endN s.st.length s
theorem push_len (s : Sm) (b : Bd) : (pushS s b).st.length = b.st.length := by
  obtain ⟨root, st⟩ := b
  cases st <;> rfl
/-- no list is longer than c -/
def BdL (c : Nat) (b : Bd) : Prop := b.root.length ≤ c ∧ ∀ f ∈ b.st, f.items.length ≤ c
theorem BdL.push {c : Nat} {b : Bd} (h : BdL c b) (s : Sm) : BdL (c + 1) (pushS s b) := by
  obtain ⟨root, st⟩ := b
  obtain ⟨h1, h2⟩ := h
  have h1 : root.length ≤ c := h1
  cases st with
  | nil => exact ⟨by simp [pushS]; exact h1, fun f hf => by simp [pushS] at hf⟩
  | cons f r =>
    have hf := h2 f (by simp)
    refine ⟨Nat.le_succ_of_le h1, fun g hg => ?_⟩
    have hg : g = ⟨f.hd, f.first, f.items ++ [s]⟩ ∨ g ∈ r := by simpa [pushS] using hg
    rcases hg with rfl | hg
    · simp; exact hf
    · exact Nat.le_succ_of_le (h2 g (by simp [hg]))
theorem BdL.mono {c d : Nat} {b : Bd} (h : BdL c b) (e : c ≤ d) : BdL d b := ⟨Nat.le_trans h.1 e, fun f hf => Nat.le_trans (h.2 f hf) e⟩
theorem BdL.closed {c : Nat} {b : Bd} (h : BdL c b) : BdL (c + 1) (closedS b) := by
  obtain ⟨root, st⟩ := b
  cases st with
  | nil => exact h.mono (Nat.le_succ _)
  | cons f r =>
    cases hf : f.first with
    | none =>
      rw [closedS_none hf]
      refine ⟨Nat.le_succ_of_le h.1, fun g hg => ?_⟩
      have hg : g = ⟨f.hd, some f.items, []⟩ ∨ g ∈ r := by simpa using hg
      rcases hg with rfl | hg
      · simp
      · exact Nat.le_succ_of_le (h.2 g (by simp [hg]))
    | some a => rw [closedS_some hf]; exact BdL.push (b := ⟨root, r⟩) ⟨h.1, fun g hg => h.2 g (by simp [hg])⟩ _
section
variable (nm : Nat → Str)
def encH : Option (Nat × Nat) → List PyData
  | none => [.str "try"]
  | some (x, y) => [.str "same", .str (nm x), .str (nm y)]
def encO1 : Option (List Sm) → PyData
  | none => .none
  | some a => .tuple (encMs nm a)
def encOp (f : Op) : Frm := ⟨encH nm f.hd, encO1 nm f.first, encMs nm f.items⟩
def encBd (b : Bd) : List Frm := ⟨[], .none, encMs nm b.root⟩ :: b.st.reverse.map (encOp nm)
end
theorem encMs_app {nm : Nat → Str} (a b : List Sm) : encMs nm (a ++ b) = encMs nm a ++ encMs nm b := by rw [encMs_map, encMs_map, encMs_map, List.map_append]
theorem encMs_one {nm : Nat → Str} (s : Sm) : encMs nm [s] = [encM nm s] := by rw [encMs, encMs]
theorem encBd_len {nm : Nat → Str} (b : Bd) : (encBd nm b).length = b.st.length + 1 := by unfold encBd; simp
theorem encBd_push {nm : Nat → Str} (s : Sm) (b : Bd) : ∃ gs g, encBd nm b = gs ++ [g] ∧ encBd nm (pushS s b) = gs ++ [⟨g.head, g.first, g.items ++ [encM nm s]⟩] ∧ ∀ c, BdL c b → g.items.length ≤ c := by
  obtain ⟨root, st⟩ := b
  cases st with
  | nil => exact ⟨[], ⟨[], .none, encMs nm root⟩, rfl, by simp [encBd, pushS, encMs_app, encMs_one], fun c h => by rw [encMs_map, List.length_map]; exact h.1⟩
  | cons f r =>
    refine ⟨⟨[], .none, encMs nm root⟩ :: r.reverse.map (encOp nm), encOp nm f, by simp [encBd], ?_, fun c h => ?_⟩
    · simp [encBd, pushS, encOp, encMs_app, encMs_one]
    · show (encMs nm f.items).length ≤ c
      rw [encMs_map, List.length_map]; exact h.2 f (by simp)
theorem encM_mk {nm : Nat → Str} (h : Option (Nat × Nat)) (a b : List Sm) : encM nm (mkSm h a b) = .tuple (encH nm h ++ [.tuple (encMs nm a), .tuple (encMs nm b)]) := by
  cases h with
  | none => rw [mkSm, encM]; rfl
  | some q => obtain ⟨x, y⟩ := q; rw [mkSm, encM]; rfl
theorem encH_len {nm : Nat → Str} (h : Option (Nat × Nat)) : (encH nm h).length ≤ 10 := by
  cases h with
  | none => simp [encH]
  | some q => obtain ⟨x, y⟩ := q; simp [encH]
theorem closed_enc {nm : Nat → Str} {c : Nat} {b : Bd} (h : BdL c b) (hc : c ≤ 1000) (hs : b.st ≠ []) : RClosed (encBd nm b) (encBd nm (closedS b)) .none := by
  refine ⟨rfl, ?_⟩
  obtain ⟨root, st⟩ := b
  cases st with
  | nil => exact absurd rfl hs
  | cons f r =>
    cases hf : f.first with
    | none =>
      rw [closedS_none hf]
      refine .inl ⟨⟨[], .none, encMs nm root⟩ :: r.reverse.map (encOp nm), encOp nm f, by simp [encOp, hf, encO1], by simp [encBd], ?_⟩
      simp [encBd, encOp, encO1, encMs]
    | some a =>
      rw [closedS_some hf]
      refine .inr ?_
      obtain ⟨gs, g, e1, e2, e3⟩ := encBd_push (nm := nm) (mkSm f.hd a f.items) ⟨root, r⟩
      refine ⟨gs, g, encOp nm f, by simp [encOp, hf, encO1, isN], encH_len _, Nat.le_trans (e3 c ⟨h.1, fun g hg => h.2 g (by simp [hg])⟩) hc, ?_, ?_⟩
      · have : encBd nm ⟨root, f :: r⟩ = encBd nm ⟨root, r⟩ ++ [encOp nm f] := by simp [encBd]
        rw [this, e1]; simp
      · show encBd nm (pushS (mkSm f.hd a f.items) ⟨root, r⟩) = _
        rw [e2, encM_mk]
        simp [encOp, hf, encO1]
theorem ended_enc {nm : Nat → Str} : ∀ (n c : Nat) (b : Bd), b.st.length = n → BdL c b → c + 2 * n ≤ 1000 → ∃ k, REnd k (encBd nm b) ⟨[], .none, encMs nm (endN n b)⟩
  | 0, c, ⟨root, st⟩, e, h, hc => by
    have : st = [] := List.length_eq_zero_iff.mp e
    subst this
    exact ⟨0, .one⟩
  | n + 1, c, ⟨root, st⟩, e, h, hc => by
    cases st with
    | nil => cases e
    | cons f r =>
      have e : r.length + 1 = n + 1 := e
      have two : 2 ≤ (encBd nm ⟨root, f :: r⟩).length := by rw [encBd_len]; simp
      have hcl := closed_enc (nm := nm) h (by omega) (by simp)
      have hb0 : BdL c ⟨root, r⟩ := ⟨h.1, fun g hg => h.2 g (by simp [hg])⟩
      obtain ⟨k, hk⟩ := ended_enc (nm := nm) n (c + 1) (pushS (opSm f) ⟨root, r⟩) (by rw [push_len]; show r.length = n; omega) (hb0.push _) (by omega)
      have hN : endN (n + 1) ⟨root, f :: r⟩ = endN n (pushS (opSm f) ⟨root, r⟩) := rfl
      rw [hN]
      cases hf : f.first with
      | some a =>
        have hcs : closedS ⟨root, f :: r⟩ = pushS (opSm f) ⟨root, r⟩ := by rw [closedS_some hf]; simp only [opSm, hf]
        rw [hcs] at hcl
        exact ⟨k + 1, .step two hcl hk⟩
      | none =>
        have hcs : closedS ⟨root, f :: r⟩ = ⟨root, ⟨f.hd, some f.items, []⟩ :: r⟩ := closedS_none hf
        have hb1 := h.closed
        rw [hcs] at hcl hb1
        have hcl2 := closed_enc (nm := nm) hb1 (by omega) (by simp)
        have hcs2 : closedS ⟨root, ⟨f.hd, some f.items, []⟩ :: r⟩ = pushS (opSm f) ⟨root, r⟩ := by rw [closedS_some rfl]; simp only [opSm, hf]
        rw [hcs2] at hcl2
        exact ⟨k + 2, .step two hcl (.step (by rw [encBd_len]; simp) hcl2 hk)⟩
structure Bs where
  done : List (List Sm)
  cur : Bd
def begunAt (v : Wd) (sh : List (Nat × Int)) (at_ : Nat) (all : Bool) : List Sm := begunF v sh (planAt v at_) at_ all
def oddF (r : List Int) : Bool := decide (rI r 5 % 40 = 7)
def wordF (r : List Int) : Int := rI r 0 / 10 % 16
def y3F (r : List Int) : Nat := permF ((x0F r + if oddF r then 1 else 0) % 9)
def hdF (r : List Int) : Option (Nat × Nat) := if rI r 2 % 2 = 0 then none else some (x0F r, y3F r)
def step1 (v : Wd) (sh : List (Nat × Int)) (all : Bool) (s : Bs) (r : List Int) : Bs :=
  if wordF r = 15 ∧ s.done.length + 1 < v.doors.length then ⟨s.done ++ [endedF s.cur], ⟨begunAt v sh (s.done.length + 1) all, []⟩⟩
  else if (wordF r = 13 ∨ wordF r = 14) ∧ s.cur.st.length + 1 < 4 then ⟨s.done, ⟨s.cur.root, ⟨hdF r, none, []⟩ :: s.cur.st⟩⟩
  else if wordF r = 12 ∧ 1 < s.cur.st.length + 1 then ⟨s.done, closedS s.cur⟩
  else ⟨s.done, pushS (looseF v (planAt v s.done.length) (oddF r) r) s.cur⟩
def bodyStep (v : Wd) (sh : List (Nat × Int)) (all : Bool) (s : Bs) (cell : Int) : Bs := step1 v sh all s (draws cell 7)
def bodiesN (v : Wd) (sh : List (Nat × Int)) (all : Bool) (cells : List Int) : Bs := cells.foldl (bodyStep v sh all) ⟨[], ⟨begunAt v sh 0 all, []⟩⟩
def bodiesF (v : Wd) (sh : List (Nat × Int)) (all : Bool) (cells : List Int) : List (List Sm) :=
  let s := bodiesN v sh all cells
  let bs := s.done ++ [endedF s.cur]
  bs ++ List.replicate (v.doors.length - bs.length) []
structure BsOk (v : Wd) (c : Nat) (s : Bs) : Prop where
  dn : s.done.length < v.doors.length
  bl : BdL c s.cur
  sl : s.cur.st.length ≤ 3
theorem begun_len (v : Wd) (sh : List (Nat × Int)) (p : Plan) (at_ : Nat) (all : Bool) : (begunF v sh p at_ all).length ≤ 9 := by
  unfold begunF
  split
  · simp
  · simp only [List.length_map]
    exact Nat.le_trans (List.length_filter_le _ _) (by simp)
theorem closed_len (b : Bd) : (closedS b).st.length ≤ b.st.length := by
  obtain ⟨root, st⟩ := b
  cases st with
  | nil => exact Nat.le_refl _
  | cons f r =>
    cases hf : f.first with
    | none => rw [closedS_none hf]; exact Nat.le_refl _
    | some a => rw [closedS_some hf, push_len]; exact Nat.le_succ _
theorem step_ok {v : Wd} {sh : List (Nat × Int)} {all : Bool} {c : Nat} {s : Bs} (h9 : 9 ≤ c) (h : BsOk v c s) (r : List Int) : BsOk v (c + 1) (step1 v sh all s r) := by
  obtain ⟨h1, h2, h3⟩ := h
  unfold step1
  split
  · rename_i z
    refine ⟨by simp; exact z.2, ⟨?_, fun f hf => by simp at hf⟩, by simp⟩
    exact Nat.le_trans (begun_len _ _ _ _ _) (by omega)
  · split
    · rename_i z
      refine ⟨h1, ⟨Nat.le_succ_of_le h2.1, fun f hf => ?_⟩, ?_⟩
      · have hf : f = ⟨hdF r, none, []⟩ ∨ f ∈ s.cur.st := by simpa using hf
        rcases hf with rfl | hf
        · simp
        · exact Nat.le_succ_of_le (h2.2 f hf)
      · show s.cur.st.length + 1 ≤ 3
        omega
    · split
      · exact ⟨h1, h2.closed, Nat.le_trans (closed_len _) h3⟩
      · exact ⟨h1, h2.push _, by rw [push_len]; exact h3⟩
theorem fold_ok {v : Wd} {sh : List (Nat × Int)} {all : Bool} : ∀ (cells : List Int) (c : Nat) (s : Bs), 9 ≤ c → BsOk v c s → BsOk v (c + cells.length) (cells.foldl (bodyStep v sh all) s)
  | [], c, s, _, h => h
  | x :: r, c, s, h9, h => by
    have := fold_ok (sh := sh) (all := all) r (c + 1) (bodyStep v sh all s x) (by omega) (step_ok h9 h _)
    rw [List.length_cons, show c + (r.length + 1) = c + 1 + r.length by omega]
    exact this
theorem bodies_ok {v : Wd} {sh : List (Nat × Int)} {all : Bool} (hd : 1 ≤ v.doors.length) (cells : List Int) : BsOk v (9 + cells.length) (bodiesN v sh all cells) :=
  fold_ok cells 9 _ (Nat.le_refl _) ⟨hd, ⟨begun_len _ _ _ _ _, fun f hf => by simp at hf⟩, by simp⟩
def encB (nm : Nat → Str) (b : List Sm) : PyData := .tuple (encMs nm b)
section
variable {P : Program} {w : World} {K : PySem.W.Frag} {mg : Str → Option Value} {base : Heap} {nm : Nat → Str}
local macro_rules | `(tactic| walk_at "R") => `(tactic| solve_by_elim)
local macro_rules | `(tactic| walk_at "ix") => `(tactic| first | with_reducible assumption | fail)
local macro_rules | `(tactic| walk_at "E") => `(tactic| first | (refine' EX.frLen ?k1 ?k2 ?k3 ?k4 ?k5 ?k6 ?k7 ?k8 ?k9; (case k1 => rfl); (case k2 => assumption); (case k3 => assumption); (case k4 => walk_at "At"); (case k5 => decide); (case k6 => rfl); (case k7 => rfl); (case k8 => rfl); (case k9 => rfl)) | fail)
def R_law_bodies (nm : Nat → Str) : List PyData → PyData → Prop := fun ds d => ∃ (v : Wd) (sh : List (Nat × Int)) (all : Bool) (cells : List Int), WdOk v ∧ sh.length ≤ 1000 ∧ cells.length ≤ 900 ∧ ds = [encWd nm v, .list (sh.map shelfD), .bool all, .list (cells.map .int)] ∧ d = .list ((bodiesF v sh all cells).map (encB nm))
theorem ok_law_bodies (pl : Pl K mg "_law_bodies" s_law_bodies ["world", "shelves", "all_made", "cells"]) (B : Bi mg) (Cd : Cal P w K mg base "_law_draws" 1 ["cell", "count"] R_law_draws) (Cb : CalL P w K mg base "_law_begun" 7 ["world", "shelves", "at", "all_made"] (R_law_begun nm))
    (Cl : Cal P w K mg base "_law_loose" 7 ["world", "own", "odd", "r"] (R_law_loose nm)) (Cc : CalFr P w K mg base "_law_closed" 1 ["frames"] RClosed) (Ce : CalFr P w K mg base "_law_ended" 2 ["frames"] REnded) :
    Cal P w K mg base "_law_bodies" 8 ["world", "shelves", "all_made", "cells"] (R_law_bodies nm) := by
  refine okC 12 pl sc_law_bodies (by decide +kernel) (by rintro _ _ ⟨_, _, _, _, _, _, _, rfl, _⟩; rfl) ?_
  rintro f cdv A outer s H E Γ _ _ fz hr T ⟨v, sh, all, cells, hv, hsh, hcl, rfl, rfl⟩
  refine SXs.reL (l' := [.dat (encWd nm v), .dat (.list (sh.map shelfD)), .dat (.bool all), .dat (.list (cells.map .int)), .no, .no, .no, .no, .no, .no, .no, .no, .no]) rfl ?_
  have hdl := hv.dl
  have hi0 : ixD (encWd nm v) 0 = some (.list (namesD nm)) := ix0
  have hi3 : ixD (encWd nm v) 3 = some (.list (v.doors.map (encPlan nm))) := atI_nat' (j := 3) rfl
  have elD : lenD (.list (v.doors.map (encPlan nm))) = (v.doors.length : Nat) := by simp [lenD]
  have pAt : ∀ i, i < v.doors.length → v.doors[i]? = some (planAt v i) := fun i hi => by unfold planAt; rw [List.getD_eq_getElem?_getD, List.getElem?_eq_getElem hi]; rfl
  have RG : ∀ i, i < v.doors.length → R_law_begun nm [encWd nm v, .list (sh.map shelfD), .int (i : Nat), .bool all] (encMs nm (begunAt v sh i all)) := fun i hi => ⟨v, sh, i, planAt v i, all, hv, pAt i hi, hsh, rfl, rfl⟩
  have endOk : ∀ c s, c ≤ 990 → BsOk v c s → REnded (encBd nm s.cur) [⟨[], .none, encMs nm (endedF s.cur)⟩] (encB nm (endedF s.cur)) := fun c s hc h => by
    obtain ⟨k, hk⟩ := ended_enc (nm := nm) s.cur.st.length c s.cur rfl h.bl (by have := h.sl; omega)
    exact ⟨k, _, hk, rfl, rfl⟩
  walk_at "S"
  case k5 =>
    refine SXs.reL (l' := [.dat (encWd nm v), .dat (.list (sh.map shelfD)), .dat (.bool all), .dat (.list (cells.map .int)), .own [], .no, .no, .no, .no, .no, .no, .no, .no]) rfl ?_
    refine' SXs.cons (SX.frNew (i := 5) T ?a1 ?a2 (EL.cal Cb hr (by decide) rfl ?a3 (RG 0 (by omega)) (by decide) rfl rfl) ?a4 ?a5 ?a6 ?a7 ?a8 ?a9 ?a10)
    case a1 => walk_at "At"
    case a2 => decide
    case a3 => walk_at "A"
    case a4 => exact (by decide : 5 < 13)
    case a6 => rfl
    case a7 => rfl
    case a8 => rfl
    case a9 => rfl
    case a10 => rfl
    case a5 =>
      refine SXs.reL (l' := [.dat (encWd nm v), .dat (.list (sh.map shelfD)), .dat (.bool all), .dat (.list (cells.map .int)), .own ((bodiesN v sh all (cells.take 0)).done.map (encB nm)), .fr (encBd nm (bodiesN v sh all (cells.take 0)).cur), .no, .no, .no, .no, .no, .no, .no]) rfl ?_
      walk_at "L"
      case W => exact fun j l2 => ∃ a b c d e g h, l2 = [.dat (encWd nm v), .dat (.list (sh.map shelfD)), .dat (.bool all), .dat (.list (cells.map .int)), .own ((bodiesN v sh all (cells.take j)).done.map (encB nm)), .fr (encBd nm (bodiesN v sh all (cells.take j)).cur), a, b, c, d, e, g, h]
      case k1 => exact IX.list (by walk_at "E")
      case k3 => exact ⟨_, _, _, _, _, _, _, rfl⟩
      case k4 =>
        rintro j d l2 hd ⟨a, b, c, d0, e, g, h, rfl⟩
        rw [List.getElem?_map] at hd
        cases hx : cells[j]? with
        | none => rw [hx] at hd; cases hd
        | some cell =>
          rw [hx] at hd
          cases hd
          have hj := (List.getElem?_eq_some_iff.mp hx).1
          have hok := bodies_ok (sh := sh) (all := all) hdl.1 (cells.take j)
          have hc : 9 + (cells.take j).length ≤ 980 := by rw [List.length_take]; omega
          have nxt : bodiesN v sh all (cells.take (j + 1)) = step1 v sh all (bodiesN v sh all (cells.take j)) (draws cell 7) := by
            unfold bodiesN
            rw [take_succ_eq hx, List.foldl_append]; rfl
          rw [nxt]
          generalize bodiesN v sh all (cells.take j) = bs at hok ⊢
          have RD : R_law_draws [.int cell, .int 7] (.list ((draws cell 7).map .int)) := ⟨cell, 7, by omega, rfl, rfl⟩
          have hrl := draws_len cell 7
          refine SXs.reL (l' := [.dat (encWd nm v), .dat (.list (sh.map shelfD)), .dat (.bool all), .dat (.list (cells.map .int)), .own (bs.done.map (encB nm)), .fr (encBd nm bs.cur), .dat (.int cell), b, c, d0, e, g, h]) rfl ?_
          walk_at "S"
          case k5 =>
            generalize draws cell 7 = r at hrl ⊢
            walk_at "S"
            case k5 =>
              walk_at "S"
              case k5 =>
                refine SXs.reL (l' := [.dat (encWd nm v), .dat (.list (sh.map shelfD)), .dat (.bool all), .dat (.list (cells.map .int)), .own (bs.done.map (encB nm)), .fr (encBd nm bs.cur), .dat (.int cell), .dat (.list (r.map .int)), .dat (.int (wordF r)), .dat (.bool (oddF r)), e, g, h]) rfl ?_
                have elO : (bs.done.map (encB nm)).length = bs.done.length := List.length_map _
                refine' SXs.cons (SX.ite (TX.eq (b' := decide (wordF r = 15 ∧ bs.done.length + 1 < v.doors.length)) ?b1 ?b2) ?b3 ?b4)
                case b1 => walk_at "T"
                case b2 =>
                  rw [Bool.decide_and, elD, elO]
                  congr 1
                  rw [decide_eq_decide]; omega
                case b3 =>
                  intro hb
                  have hb := of_decide_eq_true hb
                  have hst : step1 v sh all bs r = ⟨bs.done ++ [endedF bs.cur], ⟨begunAt v sh (bs.done.length + 1) all, []⟩⟩ := by unfold step1; rw [if_pos hb]
                  rw [hst]
                  have hE := endOk _ bs (by omega) hok
                  refine' SXs.cons (SX.app (i := 4) T ?c1 ?c2 rfl (EX.frFun (i := 5) Ce hr (by decide) rfl T ?c3 ?c4 rfl hE (by decide) rfl rfl) rfl rfl ?c5 ?c6 ?d1 ?d2 ?d3 ?d4 ?d5 ?d6)
                  case c1 => walk_at "At"
                  case c2 => decide
                  case c3 => walk_at "At"
                  case c4 => decide
                  case c5 => rw [elO]; omega
                  case d1 => rfl
                  case d2 => rfl
                  case d3 => rfl
                  case d4 => rfl
                  case d5 => rfl
                  case d6 => rfl
                  case c6 =>
                    refine SXs.reL (l' := [.dat (encWd nm v), .dat (.list (sh.map shelfD)), .dat (.bool all), .dat (.list (cells.map .int)), .own (bs.done.map (encB nm) ++ [encB nm (endedF bs.cur)]), .fr [⟨[], .none, encMs nm (endedF bs.cur)⟩], .dat (.int cell), .dat (.list (r.map .int)), .dat (.int (wordF r)), .dat (.bool (oddF r)), e, g, h]) rfl ?_
                    have RG' := RG (bs.done.length + 1) hb.2
                    have RG'' : R_law_begun nm [encWd nm v, .list (sh.map shelfD), .int ((bs.done.map (encB nm) ++ [encB nm (endedF bs.cur)]).length : Nat), .bool all] (encMs nm (begunAt v sh (bs.done.length + 1) all)) := by
                      rw [List.length_append, elO]; exact RG'
                    refine' SXs.cons (SX.frNew (i := 5) T ?e1 ?e2 (EL.cal Cb hr (by decide) rfl ?e3 RG'' (by decide) rfl rfl) ?e4 ?e5 ?e6 ?e7 ?e8 ?e9 ?e10)
                    case e1 => walk_at "At"
                    case e2 => decide
                    case e3 => walk_at "A"
                    case e4 => exact (by decide : 5 < 13)
                    case e6 => rfl
                    case e7 => rfl
                    case e8 => rfl
                    case e9 => rfl
                    case e10 => rfl
                    case e5 =>
                      refine SXs.nil (SXs.nil ⟨.dat (.int cell), .dat (.list (r.map .int)), .dat (.int (wordF r)), .dat (.bool (oddF r)), e, g, h, ?_⟩)
                      rw [List.map_append, List.map_singleton]
                      rfl
                case b4 =>
                  intro hb
                  have hb := of_decide_eq_false hb
                  refine' SXs.cons (SX.ite (TX.eq (b' := decide ((wordF r = 13 ∨ wordF r = 14) ∧ bs.cur.st.length + 1 < 4)) ?f1 ?f2) ?f3 ?f4)
                  case f1 => walk_at "T"
                  case f2 =>
                    rw [Bool.decide_and, Bool.decide_or, encBd_len]
                    congr 1
                    rw [decide_eq_decide]; omega
                  case f3 =>
                    intro hc
                    have hc := of_decide_eq_true hc
                    have hst : step1 v sh all bs r = ⟨bs.done, ⟨bs.cur.root, ⟨hdF r, none, []⟩ :: bs.cur.st⟩⟩ := by unfold step1; rw [if_neg hb, if_pos hc]
                    rw [hst]
                    have x9 : ((x0F r : Nat) : Int) = rI r 1 % 9 := Int.toNat_of_nonneg (Int.emod_nonneg _ (by decide))
                    have hpm : ixD (.list [.int 5, .int 6, .int 7, .int 8, .int 4, .int 0, .int 1, .int 2, .int 3]) (((x0F r : Nat) + if oddF r then 1 else 0 : Int) % 9) = some (.int (y3F r : Nat)) := by
                      have e0 : (((x0F r : Nat) + if oddF r then 1 else 0 : Int) % 9) = (((x0F r + if oddF r then 1 else 0) % 9 : Nat) : Int) := by cases oddF r <;> simp
                      rw [e0]
                      have hlt : (x0F r + if oddF r then 1 else 0) % 9 < 9 := Nat.mod_lt _ (by decide)
                      have := atI_mod (xs := permL) (f := fun n : Nat => PyData.int (n : Nat)) (x0 := 0) (j := (((x0F r + if oddF r then 1 else 0) % 9 : Nat) : Int)) (by omega) (by show _ < ((9 : Nat) : Int); omega)
                      exact this
                    walk_at "S"
                    case k5 =>
                      refine SXs.reL (l' := [.dat (encWd nm v), .dat (.list (sh.map shelfD)), .dat (.bool all), .dat (.list (cells.map .int)), .own (bs.done.map (encB nm)), .fr (encBd nm bs.cur), .dat (.int cell), .dat (.list (r.map .int)), .dat (.int (wordF r)), .dat (.bool (oddF r)), .dat (.int (x0F r : Nat)), g, h]) (by rw [x9]; rfl) ?_
                      walk_at "S"
                      case k5 =>
                        refine SXs.reL (l' := [.dat (encWd nm v), .dat (.list (sh.map shelfD)), .dat (.bool all), .dat (.list (cells.map .int)), .own (bs.done.map (encB nm)), .fr (encBd nm bs.cur), .dat (.int cell), .dat (.list (r.map .int)), .dat (.int (wordF r)), .dat (.bool (oddF r)), .dat (.int (x0F r : Nat)), .dat (.int (y3F r : Nat)), h]) rfl ?_
                        have hnx : ixD (.list (namesD nm)) (x0F r : Nat) = some (.str (nm (x0F r))) := names_at (x0_lt r)
                        have hny : ixD (.list (namesD nm)) (y3F r : Nat) = some (.str (nm (y3F r))) := names_at (permF_lt (Nat.mod_lt _ (by decide)))
                        have hh : ixD (.list [.tuple [.str "try"], .tuple [.str "same", .str (nm (x0F r)), .str (nm (y3F r))]]) (rI r 2 % 2) = some (.tuple (encH nm (hdF r))) := by
                          have : rI r 2 % 2 = 0 ∨ rI r 2 % 2 = 1 := by omega
                          unfold hdF
                          rcases this with h | h
                          · rw [h, if_pos rfl]; rfl
                          · rw [h, if_neg (by decide)]; rfl
                        refine' SXs.cons (SX.frPush (i := 5) (x1 := 0) T ?g1 ?g2 rfl ?g3 rfl ?g4 ?g5 ?h0 ?h1 ?h2 ?h3 ?h4 ?h5 ?h6)
                        case g1 => walk_at "At"
                        case g2 => decide
                        case g3 =>
                          intro Γ'
                          refine' EX.ix (EL.ex (EL.lst ?i1 ?i2)) ?i3 hh ?i4 ?i5
                          case i1 => walk_at "A"
                          case i2 => walk_at "sz"
                          case i3 => walk_at "E"
                          case i4 => intro z q; cases q
                          case i5 => intro _ _; rfl
                        case g4 => rw [encBd_len]; omega
                        case h0 => rfl
                        case h1 => rfl
                        case h2 => rfl
                        case h3 => rfl
                        case h4 => rfl
                        case h5 => rfl
                        case h6 => rfl
                        case g5 =>
                          refine SXs.nil (SXs.nil (SXs.nil ⟨.dat (.int cell), .dat (.list (r.map .int)), .dat (.int (wordF r)), .dat (.bool (oddF r)), .dat (.int (x0F r : Nat)), .dat (.int (y3F r : Nat)), h, ?_⟩))
                          have : encBd nm ⟨bs.cur.root, ⟨hdF r, none, []⟩ :: bs.cur.st⟩ = encBd nm bs.cur ++ [⟨encH nm (hdF r), .none, []⟩] := by
                            simp [encBd, encOp, encO1, encMs]
                          rw [this]; rfl
                  case f4 =>
                    intro hc
                    have hc := of_decide_eq_false hc
                    refine' SXs.cons (SX.ite (TX.eq (b' := decide (wordF r = 12 ∧ 1 < bs.cur.st.length + 1)) ?j1 ?j2) ?j3 ?j4)
                    case j1 => walk_at "T"
                    case j2 =>
                      rw [Bool.decide_and, encBd_len]
                      congr 1
                      rw [decide_eq_decide]; omega
                    case j3 =>
                      intro hd
                      have hd := of_decide_eq_true hd
                      have hst : step1 v sh all bs r = ⟨bs.done, closedS bs.cur⟩ := by unfold step1; rw [if_neg hb, if_neg hc, if_pos hd]
                      rw [hst]
                      have hC := closed_enc (nm := nm) hok.bl (by omega) (by intro z; rw [z] at hd; exact absurd hd.2 (by simp))
                      refine' SXs.cons (SX.expr (EX.frFun (i := 5) Cc hr (by decide) rfl T ?l1 ?l2 rfl hC (by decide) rfl rfl) ?l3 ?l4)
                      case l1 => walk_at "At"
                      case l2 => decide
                      case l4 => rfl
                      case l3 => exact SXs.nil (SXs.nil (SXs.nil (SXs.nil ⟨.dat (.int cell), .dat (.list (r.map .int)), .dat (.int (wordF r)), .dat (.bool (oddF r)), e, g, h, rfl⟩)))
                    case j4 =>
                      intro hd
                      have hd := of_decide_eq_false hd
                      have hst : step1 v sh all bs r = ⟨bs.done, pushS (looseF v (planAt v bs.done.length) (oddF r) r) bs.cur⟩ := by unfold step1; rw [if_neg hb, if_neg hc, if_neg hd]
                      rw [hst]
                      have hp := pAt _ hok.dn
                      have hown : ixD (.list (v.doors.map (encPlan nm))) (((bs.done.map (encB nm)).length : Nat) : Int) = some (encPlan nm (planAt v bs.done.length)) := by
                        rw [elO]
                        refine atI_nat' ?_
                        rw [List.getElem?_map, hp]; rfl
                      have RL : R_law_loose nm [encWd nm v, encPlan nm (planAt v bs.done.length), .bool (oddF r), .list (r.map .int)] (encM nm (looseF v (planAt v bs.done.length) (oddF r) r)) := ⟨v, _, _, r, hv, List.mem_of_getElem? hp, hrl, rfl, rfl⟩
                      generalize looseF v (planAt v bs.done.length) (oddF r) r = sm at RL ⊢
                      obtain ⟨gs, fg, e1, e2, e3⟩ := encBd_push (nm := nm) sm bs.cur
                      have hlen := e3 _ hok.bl
                      refine SXs.reL (l' := [.dat (encWd nm v), .dat (.list (sh.map shelfD)), .dat (.bool all), .dat (.list (cells.map .int)), .own (bs.done.map (encB nm)), .fr (gs ++ [fg]), .dat (.int cell), .dat (.list (r.map .int)), .dat (.int (wordF r)), .dat (.bool (oddF r)), e, g, h]) (by rw [← e1]) ?_
                      refine' SXs.cons (SX.frApp (i := 5) (gs := gs) (g := fg) T ?m1 ?m2 ⟨rfl, rfl⟩ B ?m3 rfl ?m4 ?m5 ?n1 ?n2 ?n3 ?n4 ?n5 ?n6 ?n7 ?n8 ?n9)
                      case m1 => walk_at "At"
                      case m2 => decide
                      case m3 =>
                        intro Γ'
                        walk_at "E"
                      case m4 => omega
                      case n1 => rfl
                      case n2 => rfl
                      case n3 => rfl
                      case n4 => rfl
                      case n5 => rfl
                      case n6 => rfl
                      case n7 => rfl
                      case n8 => rfl
                      case n9 => rfl
                      case m5 =>
                        refine SXs.nil (SXs.nil (SXs.nil (SXs.nil ⟨.dat (.int cell), .dat (.list (r.map .int)), .dat (.int (wordF r)), .dat (.bool (oddF r)), e, g, h, ?_⟩)))
                        show _ = [_, _, _, _, _, Sl.fr (encBd nm (pushS sm bs.cur)), _, _, _, _, _, _, _]
                        rw [e2]; rfl
      case k5 =>
        rintro l2 ⟨a, b, c, d, e, g, h, rfl⟩
        rw [List.length_map, List.take_length]
        have hok := bodies_ok (sh := sh) (all := all) hdl.1 cells
        show SXs _ _ _ _ { nx := fun _ => PyData.list ((bodiesF v sh all cells).map (encB nm)) = .none, rt := fun d' _ => d' = .list ((bodiesF v sh all cells).map (encB nm)) }
        have hbf : bodiesF v sh all cells = (bodiesN v sh all cells).done ++ [endedF (bodiesN v sh all cells).cur] ++ List.replicate (v.doors.length - ((bodiesN v sh all cells).done ++ [endedF (bodiesN v sh all cells).cur]).length) [] := rfl
        rw [hbf]
        generalize bodiesN v sh all cells = bs at hok ⊢
        have hE := endOk _ bs (by omega) hok
        have elO : (bs.done.map (encB nm)).length = bs.done.length := List.length_map _
        have hdn := hok.dn
        refine' SXs.cons (SX.app (i := 4) T ?o1 ?o2 rfl (EX.frFun (i := 5) Ce hr (by decide) rfl T ?o3 ?o4 rfl hE (by decide) rfl rfl) rfl rfl ?o5 ?o6 ?p1 ?p2 ?p3 ?p4 ?p5 ?p6)
        case o1 => walk_at "At"
        case o2 => decide
        case o3 => walk_at "At"
        case o4 => decide
        case o5 => rw [elO]; omega
        case p1 => rfl
        case p2 => rfl
        case p3 => rfl
        case p4 => rfl
        case p5 => rfl
        case p6 => rfl
        case o6 =>
          generalize hbs : bs.done ++ [endedF bs.cur] = bz
          have hbl : bz.length ≤ 4 := by rw [← hbs, List.length_append, List.length_singleton]; omega
          refine SXs.reL (l' := [.dat (encWd nm v), .dat (.list (sh.map shelfD)), .dat (.bool all), .dat (.list (cells.map .int)), .own (bz.map (encB nm)), .fr [⟨[], .none, encMs nm (endedF bs.cur)⟩], a, b, c, d, e, g, h]) (by rw [← hbs, List.map_append, List.map_singleton]; rfl) ?_
          refine SXs.freeze (i := 4) fz rfl ?_
          refine SXs.reL (l' := [.dat (encWd nm v), .dat (.list (sh.map shelfD)), .dat (.bool all), .dat (.list (cells.map .int)), .dat (.list (bz.map (encB nm))), .fr [⟨[], .none, encMs nm (endedF bs.cur)⟩], a, b, c, d, e, g, h]) rfl ?_
          have elB : lenD (.list (bz.map (encB nm))) = (bz.length : Nat) := by simp [lenD]
          refine' SXs.cons (SX.ret (EX.bin ?q1 (EL.ex (EL.lcA (xs := List.range (v.doors.length - bz.length)) (ow := [("k", 12)]) (is := [12]) (en := fun i : Nat => PyData.int (i : Nat)) (tv := fun i : Nat => [PyData.int (i : Nat)]) (fun _ => encB nm []) rfl T.nd (blkOk_by (N := N_law_bodies) (sc := defScope s_law_bodies) (by decide +kernel)) ?q2 (by decide) ?q3 ?q4 ?q5)) (opAddL ?q6)) ?q7)
          case q1 => walk_at "E"
          case q2 =>
            have e : (List.range (v.doors.length - bz.length)).map (fun i : Nat => PyData.int (i : Nat)) = nums (lenD (.list (v.doors.map (encPlan nm))) - lenD (.list (bz.map (encB nm)))).toNat := by
              rw [elD, elB]
              unfold nums
              rw [show (((v.doors.length : Nat) : Int) - ((bz.length : Nat) : Int)).toNat = v.doors.length - bz.length by omega]
            rw [e]
            exact IX.range (by walk_at "A") (by rw [elD, elB]; omega) rfl B.range
          case q5 => rw [List.length_range]; omega
          case q6 => rw [List.length_map, List.length_map, List.length_range]; exact le_size (by omega)
          case q3 =>
            intro s H C cl fp x hx
            exact GX.inB (N := N_law_bodies) (own := [12]) (vis := [12]) (sc := defScope s_law_bodies) rfl T.nd rfl (by decide +kernel) fun TV => GX.nmV TV (by walk_at "At") (by decide)
          case q4 =>
            rintro s H C cl fp Γ' x hx
            refine EX.eq (EX.tup AX.nil (by decide)) ?_
            unfold encB
            rw [encMs]
          case q7 =>
            show _ = PyData.list _
            rw [List.map_append, List.map_replicate, map_const_range]
end
/-! ### the program, drawn -/
def paperF (v : Wd) (p : Plan) : Paper := ⟨p.name, p.side, p.places.map fun q => (q.1, q.2, kindAtW v (q.1 % 5)), p.res.map (kindAtW v)⟩
def progF (v : Wd) (sh : List (Nat × Int)) (bodies : List (List Sm)) : Prog :=
  ⟨(List.range v.doors.length).map fun k => (paperF v (planAt v k), bodies.getD k []), sh.map fun q => ⟨q.1, q.2, kindAtW v (q.1 % 5), ((q.1 : Nat) : Int)⟩⟩
def worldF (row : List Int) : Wd := ⟨(ladderF (cutG row (some 20) (some 25))).1, (ladderF (cutG row (some 20) (some 25))).2, plansF (cutG row (some 25) (some 51))⟩
def shelfsF (row : List Int) : List (Nat × Int) := shelvesF (plansF (cutG row (some 25) (some 51))) (rI row 51) (rI row 52)
def byF (row cells : List Int) : Prog := progF (worldF row) (shelfsF row) (bodiesF (worldF row) (shelfsF row) (decide (0 < rI row 53 % 4)) cells)
theorem shelf_lt (doors : List Plan) (number seed : Int) : ∀ n, ∀ q ∈ (List.range n).foldl (shelf1 doors number seed) [], q.1 < 9
  | 0 => fun q hq => by simp at hq
  | n + 1 => fun q hq => by
    rw [List.range_succ, List.foldl_append] at hq
    have ih := shelf_lt doors number seed n
    have hq : q ∈ shelf1 doors number seed ((List.range n).foldl (shelf1 doors number seed) []) n := hq
    unfold shelf1 at hq
    split at hq
    · rcases List.mem_append.mp hq with z | z
      · exact ih q z
      · have : q = shelfOne number seed n := by simpa using z
        rw [this]
        unfold shelfOne
        show (_ % 9 : Int).toNat < 9
        omega
    · exact ih q hq
theorem shelves_lt (doors : List Plan) (number seed : Int) : ∀ q ∈ shelvesF doors number seed, q.1 < 9 := shelf_lt doors number seed _
theorem shelves_len (doors : List Plan) (number seed : Int) : (shelvesF doors number seed).length ≤ 4 := by
  have : ∀ n, ((List.range n).foldl (shelf1 doors number seed) []).length ≤ n := fun n => by
    induction n with
    | zero => simp
    | succ n ih =>
      rw [List.range_succ, List.foldl_append]
      exact Nat.le_trans (shelf1_len doors number seed _ n) (by omega)
  exact Nat.le_trans (this _) (by omega)
theorem world_ok (row : List Int) : WdOk (worldF row) := by
  obtain ⟨k1, k2, k3⟩ := ladder_ok (cutG row (some 20) (some 25))
  have hp := plans_ok (row := cutG row (some 25) (some 51))
  exact ⟨k1, k3, k2, plans_len _, fun d hd => ⟨(hp d hd).1, (hp d hd).2.1⟩, fun d hd => (hp d hd).2.2.1, fun d hd => (hp d hd).2.2.2⟩
theorem bodies_len {v : Wd} {sh : List (Nat × Int)} {all : Bool} (hd : 1 ≤ v.doors.length) (cells : List Int) : (bodiesF v sh all cells).length = v.doors.length := by
  have h := (bodies_ok (sh := sh) (all := all) hd cells).dn
  unfold bodiesF
  simp only [List.length_append, List.length_replicate, List.length_singleton]
  omega
section
variable {P : Program} {w : World} {K : PySem.W.Frag} {mg : Str → Option Value} {base : Heap} {nm : Nat → Str}
local macro_rules | `(tactic| walk_at "R") => `(tactic| solve_by_elim)
local macro_rules | `(tactic| walk_at "ix") => `(tactic| first | with_reducible assumption | fail)
def R_law_program (nm : Nat → Str) : List PyData → PyData → Prop := fun ds d => ∃ (v : Wd) (sh : List (Nat × Int)) (bodies : List (List Sm)), WdOk v ∧ sh.length ≤ 1000 ∧ (∀ q ∈ sh, q.1 < 9) ∧ bodies.length = v.doors.length ∧ ds = [encWd nm v, .list (sh.map shelfD), .list (bodies.map (encB nm))] ∧ d = encProg nm (progF v sh bodies)
theorem ok_law_program (pl : Pl K mg "_law_program" s_law_program ["world", "shelves", "bodies"]) (B : Bi mg) (Cw : Cal P w K mg base "_law_worth" 6 ["kind", "seed"] (R_law_worth nm 5)) : Cal P w K mg base "_law_program" 7 ["world", "shelves", "bodies"] (R_law_program nm) := by
  refine okC 12 pl sc_law_program (by decide +kernel) (by rintro _ _ ⟨_, _, _, _, _, _, _, rfl, _⟩; rfl) ?_
  rintro f cdv A outer s H E Γ _ _ fz hr T ⟨v, sh, bodies, hv, hsh, hs9, hbl, rfl, rfl⟩
  refine SXs.reL (l' := [.dat (encWd nm v), .dat (.list (sh.map shelfD)), .dat (.list (bodies.map (encB nm))), .no, .no, .no, .no, .no, .no, .no, .no, .no, .no, .no, .no]) rfl ?_
  have hdl := hv.dl
  have elD : lenD (.list (v.doors.map (encPlan nm))) = (v.doors.length : Nat) := by simp [lenD]
  refine' SXs.cons (SX.asg (is := [6, 7, 8, 9]) (d := encWd nm v) (ds := [.list (namesD nm), .list (v.kinds.map (encK nm)), .list (v.steps.map (encS nm)), .list (v.doors.map (encPlan nm))]) ?a1 ?a2 ?a3 ?a4 ?a5)
  case a1 => walk_at "E"
  case a2 => exact GX.tup rfl (GsX.nm T (by walk_at "At") (by decide) (GsX.nm T (by walk_at "At") (by decide) (GsX.nm T (by walk_at "At") (by decide) (GsX.nm T (by walk_at "At") (by decide) GsX.nil)))) rfl
  case a4 => rfl
  case a5 => rfl
  case a3 =>
    refine SXs.reL (l' := [.dat (encWd nm v), .dat (.list (sh.map shelfD)), .dat (.list (bodies.map (encB nm))), .no, .no, .no, .dat (.list (namesD nm)), .dat (.list (v.kinds.map (encK nm))), .dat (.list (v.steps.map (encS nm))), .dat (.list (v.doors.map (encPlan nm))), .no, .no, .no, .no, .no]) rfl ?_
    walk_at "S"
    case k5 =>
      walk_at "L"
      case W => exact fun j l2 => ∃ a b c d e, l2 = [.dat (encWd nm v), .dat (.list (sh.map shelfD)), .dat (.list (bodies.map (encB nm))), .own (((List.range j).map fun k => (paperF v (planAt v k), bodies.getD k [])).map (encDoor nm)), a, b, .dat (.list (namesD nm)), .dat (.list (v.kinds.map (encK nm))), .dat (.list (v.steps.map (encS nm))), .dat (.list (v.doors.map (encPlan nm))), c, d, e, .no, .no]
      case k1 => exact IX.range (by walk_at "A") (by rw [elD]; omega) rfl B.range
      case k3 => exact ⟨_, _, _, _, _, rfl⟩
      case k4 =>
        rintro j d l2 hd ⟨a, b, c, d0, e, rfl⟩
        have hj : j < v.doors.length := by
          have := (List.getElem?_eq_some_iff.mp hd).1
          rw [nums_len, elD] at this
          omega
        rw [nums_get (show j < (lenD (.list (v.doors.map (encPlan nm)))).toNat by rw [elD]; omega)] at hd
        cases hd
        have hp : v.doors[j]? = some (planAt v j) := by unfold planAt; rw [List.getD_eq_getElem?_getD, List.getElem?_eq_getElem hj]; rfl
        have hix : ixD (.list (v.doors.map (encPlan nm))) (j : Int) = some (encPlan nm (planAt v j)) := by
          refine atI_nat' ?_
          rw [List.getElem?_map, hp]; rfl
        have hbx : ixD (.list (bodies.map (encB nm))) (j : Int) = some (encB nm (bodies.getD j [])) := by
          refine atI_nat' ?_
          rw [List.getElem?_map, List.getD_eq_getElem?_getD, List.getElem?_eq_getElem (by omega)]; rfl
        have hpm := List.mem_of_getElem? hp
        have hnx : ((List.range (j + 1)).map fun k => (paperF v (planAt v k), bodies.getD k [])).map (encDoor nm) = ((List.range j).map fun k => (paperF v (planAt v k), bodies.getD k [])).map (encDoor nm) ++ [encDoor nm (paperF v (planAt v j), bodies.getD j [])] := by
          rw [List.range_succ, List.map_append, List.map_append]; rfl
        rw [hnx]
        generalize planAt v j = p at hix hpm ⊢
        generalize bodies.getD j [] = bd at hbx ⊢
        obtain ⟨hpl, hp9⟩ := hv.dp p hpm
        have hp0 : ixD (encPlan nm p) 0 = some (.str (nm p.name)) := ix0
        have hp1 : ixD (encPlan nm p) 1 = some (.int p.side) := atI_nat' (j := 1) rfl
        have hp2 : ixD (encPlan nm p) 2 = some (.list (p.places.map encA)) := atI_nat' (j := 2) rfl
        have hp3 : ixD (encPlan nm p) 3 = some (encO p.res) := atI_nat' (j := 3) rfl
        refine SXs.reL (l' := [.dat (encWd nm v), .dat (.list (sh.map shelfD)), .dat (.list (bodies.map (encB nm))), .own (((List.range j).map fun k => (paperF v (planAt v k), bodies.getD k [])).map (encDoor nm)), .dat (.int (j : Nat)), b, .dat (.list (namesD nm)), .dat (.list (v.kinds.map (encK nm))), .dat (.list (v.steps.map (encS nm))), .dat (.list (v.doors.map (encPlan nm))), c, d0, e, .no, .no]) rfl ?_
        have hol : (((List.range j).map fun k => (paperF v (planAt v k), bodies.getD k [])).map (encDoor nm)).length ≤ 4 := by simp only [List.length_map, List.length_range]; omega
        generalize ((List.range j).map fun k => (paperF v (planAt v k), bodies.getD k [])).map (encDoor nm) = made at hol ⊢
        walk_at "S"
        case k5 =>
          refine' SXs.cons (SX.iteJ (l2 := [.dat (encWd nm v), .dat (.list (sh.map shelfD)), .dat (.list (bodies.map (encB nm))), .own made, .dat (.int (j : Nat)), b, .dat (.list (namesD nm)), .dat (.list (v.kinds.map (encK nm))), .dat (.list (v.steps.map (encS nm))), .dat (.list (v.doors.map (encPlan nm))), .dat (encR nm (p.res.map (kindAtW v))), d0, e, .no, .no]) (b := !isN (encO p.res)) ?b1 ?b2 ?b3 ?b4)
          case b1 => walk_at "T"
          case b2 =>
            intro hb
            cases hres : p.res with
            | none => rw [hres] at hb; exact absurd hb (by decide)
            | some k =>
              rw [hres] at hp3
              have hp3 : ixD (encPlan nm p) 3 = some (.int (k : Nat)) := hp3
              have hk := kinds_at (nm := nm) hv (hv.dr p hpm k hres)
              walk_at "S"
              case k5 => exact SXs.nil rfl
          case b3 =>
            intro hb
            cases hres : p.res with
            | none => exact SXs.nil rfl
            | some k => rw [hres] at hb; exact absurd hb fun z => by cases (show true = false from z)
          case b4 =>
            refine' SXs.cons (SX.st T ?c1 ?c2 (EX.tupOf rfl B (EL.ex (EL.lcA (xs := p.places) (ow := [("at", 12), ("way", 14)]) (is := [12, 14]) (en := encA) (tv := fun q => [.int (q.1 : Nat), encW q.2]) (fun q => encPl nm (q.1, q.2, kindAtW v (q.1 % 5))) rfl T.nd (blkOk_by (N := N_law_program) (sc := defScope s_law_program) (by decide +kernel)) ?c3 (by decide) ?c4 ?c5 ?c6)) ?c7 ?c8 ?c9) ?c10 ?c11)
            case c1 => walk_at "At"
            case c2 => decide
            case c3 => exact IX.list (by walk_at "E")
            case c6 => omega
            case c7 => rfl
            case c8 => rfl
            case c9 => rfl
            case c11 => rfl
            case c4 =>
              intro s H C cl fp x hx
              exact GX.inB (N := N_law_program) (own := [12, 14]) (vis := [6, 7, 12, 14]) (sc := defScope s_law_program) rfl T.nd rfl (by decide +kernel) fun TV => GX.tup rfl (GsX.nmV TV (by walk_at "At") (by decide) (GsX.nmV TV (by walk_at "At") (by decide) GsX.nil)) rfl
            case c5 =>
              rintro s H C cl fp Γ' q hx
              refine EX.inB (N := N_law_program) (own := [12, 14]) (vis := [6, 7, 12, 14]) (sc := defScope s_law_program) rfl T.nd rfl (by decide +kernel) fun TV => ?_
              have j1 : ixD (.list (namesD nm)) (q.1 : Int) = some (.str (nm q.1)) := names_at (hp9 q hx)
              have j2 : ixD (.list (v.kinds.map (encK nm))) ((q.1 : Int) % 5) = some (encK nm (kindAtW v (q.1 % 5))) := kinds_at hv (Nat.mod_lt _ (by decide))
              refine' EX.eq ?d1 ?d2
              case d1 => walk_at "E"
              case d2 => rfl
            case c10 =>
              refine SXs.reL (l' := [.dat (encWd nm v), .dat (.list (sh.map shelfD)), .dat (.list (bodies.map (encB nm))), .own made, .dat (.int (j : Nat)), b, .dat (.list (namesD nm)), .dat (.list (v.kinds.map (encK nm))), .dat (.list (v.steps.map (encS nm))), .dat (.list (v.doors.map (encPlan nm))), .dat (encR nm (p.res.map (kindAtW v))), .dat (.tuple ((paperF v p).places.map (encPl nm))), e, .no, .no]) (by unfold paperF; rw [List.map_map]; rfl) ?_
              walk_at "S"
              case kz => omega
              exact SXs.nil ⟨.dat (.int (j : Nat)), b, .dat (encR nm (p.res.map (kindAtW v))), .dat (.tuple ((paperF v p).places.map (encPl nm))), e, rfl⟩
      case k5 =>
        rintro l2 ⟨a, b, c, d, e, rfl⟩
        rw [nums_len, elD, Int.toNat_natCast]
        refine SXs.freeze (i := 3) fz rfl ?_
        refine SXs.reL (l' := [.dat (encWd nm v), .dat (.list (sh.map shelfD)), .dat (.list (bodies.map (encB nm))), .dat (.list ((progF v sh bodies).doors.map (encDoor nm))), a, b, .dat (.list (namesD nm)), .dat (.list (v.kinds.map (encK nm))), .dat (.list (v.steps.map (encS nm))), .dat (.list (v.doors.map (encPlan nm))), c, d, e, .no, .no]) rfl ?_
        refine' SXs.cons (SX.setLcA (i := 5) (xs := sh) (ow := [("at", 12), ("side", 13)]) (is := [12, 13]) (en := shelfD) (tv := fun q => [.int (q.1 : Nat), .int q.2]) (fun q => encShelf nm ⟨q.1, q.2, kindAtW v (q.1 % 5), ((q.1 : Nat) : Int)⟩) rfl T.nd ?e1 ?e2 ?e3 (blkOk_by (N := N_law_program) (sc := defScope s_law_program) (by decide +kernel)) ?e4 (by decide) ?e5 ?e6 ?e8 ?e9)
        case e1 => rfl
        case e2 => rfl
        case e3 => exact sw_true rfl rfl rfl (by decide +kernel)
        case e4 => exact IX.list (by walk_at "E")
        case e8 => omega
        case e5 =>
          intro s H C cl fp x hx
          exact GX.inB (N := N_law_program) (own := [12, 13]) (vis := [6, 7, 12, 13]) (sc := defScope s_law_program) rfl T.nd rfl (by decide +kernel) fun TV => GX.tup rfl (GsX.nmV TV (by walk_at "At") (by decide) (GsX.nmV TV (by walk_at "At") (by decide) GsX.nil)) rfl
        case e6 =>
          rintro s H C cl fp Γ' q hx
          refine EX.inB (N := N_law_program) (own := [12, 13]) (vis := [6, 7, 12, 13]) (sc := defScope s_law_program) rfl T.nd rfl (by decide +kernel) fun TV => ?_
          have hk5 : q.1 % 5 < 5 := Nat.mod_lt _ (by decide)
          have j1 : ixD (.list (namesD nm)) (q.1 : Int) = some (.str (nm q.1)) := names_at (hs9 q hx)
          have j2 : ixD (.list (v.kinds.map (encK nm))) ((q.1 : Int) % 5) = some (encK nm (kindAtW v (q.1 % 5))) := kinds_at hv hk5
          have RW : R_law_worth nm 5 [encK nm (kindAtW v (q.1 % 5)), .int (q.1 : Int)] (worD nm (kindAtW v (q.1 % 5)) (q.1 : Int)) := ⟨_, _, kindAtW_ok hv hk5, rfl, rfl⟩
          refine' EX.eq ?f1 ?f2
          case f1 => walk_at "E"
          case f2 => rfl
        case e9 =>
          have hsv : (progF v sh bodies).shelves.map (encShelf nm) = sh.map fun q => encShelf nm ⟨q.1, q.2, kindAtW v (q.1 % 5), ((q.1 : Nat) : Int)⟩ := List.map_map
          refine SXs.freeze (i := 5) fz rfl ?_
          refine SXs.reL (l' := [.dat (encWd nm v), .dat (.list (sh.map shelfD)), .dat (.list (bodies.map (encB nm))), .dat (.list ((progF v sh bodies).doors.map (encDoor nm))), a, .dat (.list ((progF v sh bodies).shelves.map (encShelf nm))), .dat (.list (namesD nm)), .dat (.list (v.kinds.map (encK nm))), .dat (.list (v.steps.map (encS nm))), .dat (.list (v.doors.map (encPlan nm))), c, d, e, .no, .no]) (by rw [hsv]; rfl) ?_
          walk_at "S"
          rfl
def R_law_by (nm : Nat → Str) : List PyData → PyData → Prop := fun ds d => ∃ (row cells : List Int), row.length = 76 ∧ (∀ i ∈ row, 0 ≤ i) ∧ cells.length ≤ 900 ∧ ds = [.list (row.map .int), .list (namesD nm), .list (cells.map .int)] ∧ d = encProg nm (byF row cells)
theorem ok_law_by (pl : Pl K mg "_law_by" s_law_by ["row", "names", "cells"]) (B : Bi mg) (Cl : Cal P w K mg base "_law_ladder" 1 ["row", "names"] (R_law_ladder nm)) (Cp : Cal P w K mg base "_law_plans" 1 ["names", "row"] (R_law_plans nm)) (Cs : Cal P w K mg base "_law_shelves" 1 ["doors", "number", "seed"] (R_law_shelves nm))
    (Cb : Cal P w K mg base "_law_bodies" 8 ["world", "shelves", "all_made", "cells"] (R_law_bodies nm)) (Cg : Cal P w K mg base "_law_program" 7 ["world", "shelves", "bodies"] (R_law_program nm)) : Cal P w K mg base "_law_by" 9 ["row", "names", "cells"] (R_law_by nm) := by
  refine okC 8 pl sc_law_by (by decide +kernel) (by rintro _ _ ⟨_, _, _, _, _, rfl, _⟩; rfl) ?_
  rintro f cdv A outer s H E Γ _ _ fz hr T ⟨row, cells, hl, hn, hc, rfl, rfl⟩
  refine SXs.reL (l' := [.dat (.list (row.map .int)), .dat (.list (namesD nm)), .dat (.list (cells.map .int)), .no, .no, .no, .no, .no]) rfl ?_
  have hv := world_ok row
  have c1 : (cutG row (some 20) (some 25)).length = 5 := cutG_mid row 20 25 (by decide) (by omega)
  have c2 : (cutG row (some 25) (some 51)).length = 26 := cutG_mid row 25 51 (by decide) (by omega)
  have RL : R_law_ladder nm [.list (cutG (row.map .int) (some 20) (some 25)), .list (namesD nm)] (.tuple [.list ((worldF row).kinds.map (encK nm)), .list ((worldF row).steps.map (encS nm))]) := ⟨_, c1, by rw [cutG_map], rfl⟩
  have RP : R_law_plans nm [.list (namesD nm), .list (cutG (row.map .int) (some 25) (some 51))] (.list ((worldF row).doors.map (encPlan nm))) := ⟨_, c2, fun i hi => hn i (mem_cutG hi), by rw [cutG_map], rfl⟩
  have RS : R_law_shelves nm [.list ((worldF row).doors.map (encPlan nm)), .int (rI row 51), .int (rI row 52)] (.list ((shelfsF row).map shelfD)) := ⟨(worldF row).doors, _, _, hv.dl.2, fun p hp => (hv.dp p hp).1, rfl, rfl⟩
  have RB : R_law_bodies nm [encWd nm (worldF row), .list ((shelfsF row).map shelfD), .bool (decide (0 < rI row 53 % 4)), .list (cells.map .int)] (.list ((bodiesF (worldF row) (shelfsF row) (decide (0 < rI row 53 % 4)) cells).map (encB nm))) :=
    ⟨worldF row, shelfsF row, _, cells, hv, Nat.le_trans (shelves_len _ _ _) (by omega), hc, rfl, rfl⟩
  have RG : R_law_program nm [encWd nm (worldF row), .list ((shelfsF row).map shelfD), .list ((bodiesF (worldF row) (shelfsF row) (decide (0 < rI row 53 % 4)) cells).map (encB nm))] (encProg nm (byF row cells)) :=
    ⟨worldF row, shelfsF row, _, hv, Nat.le_trans (shelves_len _ _ _) (by omega), shelves_lt _ _ _, bodies_len hv.dl.1 cells, rfl, rfl⟩
  have e51 : ixD (.list (row.map .int)) 51 = some (.int (rI row 51)) := ixR (j := 51) (by omega) (by omega)
  have e52 : ixD (.list (row.map .int)) 52 = some (.int (rI row 52)) := ixR (j := 52) (by omega) (by omega)
  have e53 : ixD (.list (row.map .int)) 53 = some (.int (rI row 53)) := ixR (j := 53) (by omega) (by omega)
  refine' SXs.cons (SX.asg (is := [6, 7]) (d := .tuple [.list ((worldF row).kinds.map (encK nm)), .list ((worldF row).steps.map (encS nm))]) (ds := [.list ((worldF row).kinds.map (encK nm)), .list ((worldF row).steps.map (encS nm))]) ?a1 ?a2 ?a3 ?a4 ?a5)
  case a1 => walk_at "E"
  case a2 => exact GX.tup rfl (GsX.nm T (by walk_at "At") (by decide) (GsX.nm T (by walk_at "At") (by decide) GsX.nil)) rfl
  case a4 => rfl
  case a5 => rfl
  case a3 =>
    refine SXs.reL (l' := [.dat (.list (row.map .int)), .dat (.list (namesD nm)), .dat (.list (cells.map .int)), .no, .no, .no, .dat (.list ((worldF row).kinds.map (encK nm))), .dat (.list ((worldF row).steps.map (encS nm)))]) rfl ?_
    walk_at "S"
    case k5 =>
      walk_at "S"
      case k5 =>
        walk_at "S"
        case k5 =>
          refine SXs.reL (l' := [.dat (.list (row.map .int)), .dat (.list (namesD nm)), .dat (.list (cells.map .int)), .dat (.list ((worldF row).doors.map (encPlan nm))), .dat (.list ((shelfsF row).map shelfD)), .dat (encWd nm (worldF row)), .dat (.list ((worldF row).kinds.map (encK nm))), .dat (.list ((worldF row).steps.map (encS nm)))]) rfl ?_
          walk_at "S"
          rfl
end
/-! ### the plain law: order, one door more, said, cut -/
section
open Classical
theorem papersOf_iff {n : Nat} {q : Paper} : ∀ {D : List (Paper × List Sm)} {f : Nat → Option Paper}, (D.map (·.1.name)).Nodup →
    (papersOf D f n = some q ↔ (∃ x ∈ D, x.1.name = n ∧ x.1 = q) ∨ ((∀ x ∈ D, x.1.name ≠ n) ∧ f n = some q))
  | [], f, _ => by simp [papersOf]
  | d :: r, f, nd => by
    rw [List.map_cons, List.nodup_cons] at nd
    rw [papersOf, papersOf_iff nd.2]
    have out : ∀ x ∈ r, x.1.name ≠ d.1.name := fun x hx e => nd.1 (List.mem_map.mpr ⟨x, hx, e⟩)
    constructor
    · rintro (⟨x, hx, e1, e2⟩ | ⟨h1, h2⟩)
      · exact .inl ⟨x, by simp [hx], e1, e2⟩
      · by_cases e : n = d.1.name
        · simp only [e, if_true, Option.some.injEq] at h2
          exact .inl ⟨d, by simp, e.symm, h2⟩
        · simp only [e, if_false] at h2
          refine .inr ⟨fun x hx => ?_, h2⟩
          rcases List.mem_cons.mp hx with rfl | hx
          · exact fun z => e z.symm
          · exact h1 x hx
    · rintro (⟨x, hx, e1, e2⟩ | ⟨h1, h2⟩)
      · rcases List.mem_cons.mp hx with rfl | hx
        · refine .inr ⟨fun y hy z => out y hy (z.trans e1.symm), ?_⟩
          show (if n = x.1.name then some x.1 else f n) = some q
          rw [if_pos e1.symm, e2]
        · exact .inl ⟨x, hx, e1, e2⟩
      · refine .inr ⟨fun x hx => h1 x (by simp [hx]), ?_⟩
        have : n ≠ d.1.name := fun z => h1 d (by simp) z.symm
        simp only [this, if_false, h2]
theorem papersOf_perm {D D' : List (Paper × List Sm)} (p : D.Perm D') (nd : (D.map (·.1.name)).Nodup) : (papersOf D fun _ => none) = papersOf D' fun _ => none := by
  funext n
  refine Option.ext fun q => ?_
  rw [papersOf_iff nd, papersOf_iff ((p.map _).nodup_iff.mp nd)]
  constructor
  · rintro (⟨x, hx, e⟩ | ⟨_, h⟩)
    · exact .inl ⟨x, p.mem_iff.mp hx, e⟩
    · cases h
  · rintro (⟨x, hx, e⟩ | ⟨_, h⟩)
    · exact .inl ⟨x, p.mem_iff.mpr hx, e⟩
    · cases h
theorem shelfKin_iff {side : Int} {y : Nat} {k : Kd} : ∀ {S : List Shelf} {κ : Kin}, (S.map fun s => (s.name, s.side)).Nodup →
    (shelfKin side S κ y = some k ↔ (∃ s ∈ S, s.name = y ∧ s.side = side ∧ s.kind = k) ∨ ((∀ s ∈ S, ¬ (s.name = y ∧ s.side = side)) ∧ κ y = some k))
  | [], κ, _ => by simp [shelfKin]
  | s :: r, κ, nd => by
    rw [List.map_cons, List.nodup_cons] at nd
    rw [shelfKin, shelfKin_iff nd.2]
    have out : ∀ x ∈ r, ¬ (x.name = s.name ∧ x.side = s.side) := fun x hx e => nd.1 (List.mem_map.mpr ⟨x, hx, by rw [e.1, e.2]⟩)
    have val : (if s.side = side then (fun y => if y = s.name then some s.kind else κ y) else κ) y = if s.name = y ∧ s.side = side then some s.kind else κ y := by
      by_cases h1 : s.side = side
      · by_cases h2 : s.name = y
        · simp [h1, h2]
        · have : ¬ y = s.name := fun z => h2 z.symm
          simp [h1, h2, this]
      · simp [h1]
    rw [val]
    constructor
    · rintro (⟨x, hx, e⟩ | ⟨h1, h2⟩)
      · exact .inl ⟨x, by simp [hx], e⟩
      · by_cases e : s.name = y ∧ s.side = side
        · rw [if_pos e] at h2
          exact .inl ⟨s, by simp, e.1, e.2, by simpa using h2⟩
        · rw [if_neg e] at h2
          refine .inr ⟨fun x hx => ?_, h2⟩
          rcases List.mem_cons.mp hx with rfl | hx
          · exact e
          · exact h1 x hx
    · rintro (⟨x, hx, e1, e2, e3⟩ | ⟨h1, h2⟩)
      · rcases List.mem_cons.mp hx with rfl | hx
        · refine .inr ⟨fun z hz w => out z hz ⟨w.1.trans e1.symm, w.2.trans e2.symm⟩, ?_⟩
          rw [if_pos ⟨e1, e2⟩, e3]
        · exact .inl ⟨x, hx, e1, e2, e3⟩
      · refine .inr ⟨fun x hx => h1 x (by simp [hx]), ?_⟩
        rw [if_neg (h1 s (by simp)), h2]
theorem shelfKin_perm {side : Int} {S S' : List Shelf} (p : S.Perm S') (nd : (S.map fun s => (s.name, s.side)).Nodup) : (shelfKin side S fun _ => none) = shelfKin side S' fun _ => none := by
  funext y
  refine Option.ext fun k => ?_
  rw [shelfKin_iff nd, shelfKin_iff ((p.map _).nodup_iff.mp nd)]
  constructor
  · rintro (⟨x, hx, e⟩ | ⟨_, h⟩)
    · exact .inl ⟨x, p.mem_iff.mp hx, e⟩
    · cases h
  · rintro (⟨x, hx, e⟩ | ⟨_, h⟩)
    · exact .inl ⟨x, p.mem_iff.mpr hx, e⟩
    · cases h
theorem all_perm {α : Type} {xs ys : List α} {f : α → Bool} (p : xs.Perm ys) : xs.all f = ys.all f := by
  rw [Bool.eq_iff_iff, List.all_eq_true, List.all_eq_true]
  exact ⟨fun h x hx => h x (p.mem_iff.mpr hx), fun h x hx => h x (p.mem_iff.mp hx)⟩
theorem isDoors_perm {D D' : List (Paper × List Sm)} (p : D.Perm D') : isDoors D = isDoors D' := by
  unfold isDoors
  rw [all_perm p]
  congr 1
  rw [decide_eq_decide]
  exact (p.map _).nodup_iff
theorem isShelves_perm {S S' : List Shelf} (p : S.Perm S') : isShelves S = isShelves S' := by
  unfold isShelves
  rw [all_perm p]
  congr 1
  rw [decide_eq_decide]
  exact (p.map _).nodup_iff
theorem isProg_perm {D D' : List (Paper × List Sm)} {S S' : List Shelf} (p : D.Perm D') (q : S.Perm S') : isProg ⟨D', S'⟩ = isProg ⟨D, S⟩ := by
  unfold isProg
  show (isDoors D' && isShelves S' && D'.all (doorH (papersOf D' fun _ => none) S')) = (isDoors D && isShelves S && D.all (doorH (papersOf D fun _ => none) S))
  rw [← isDoors_perm p, ← isShelves_perm q]
  cases h1 : isDoors D with
  | false => rfl
  | true =>
    cases h2 : isShelves S with
    | false => rfl
    | true =>
      unfold isDoors at h1
      unfold isShelves at h2
      rw [Bool.and_eq_true, decide_eq_true_eq] at h1 h2
      rw [← papersOf_perm p h1.2, ← all_perm p]
      congr 2
      funext d
      unfold doorH doorKin
      rw [← shelfKin_perm q h2.2, all_perm q]
/-! one door more -/
mutual
/-- the doors that it calls are of the first nine names -/
def callsOk : Sm → Bool
  | .call _ d _ => decide (d < 9)
  | .same _ _ a b => callsAll a && callsAll b
  | .tr a b => callsAll a && callsAll b
  | .new _ _ _ => true
  | .copy _ _ => true
  | .part _ _ _ => true
  | .put _ _ _ => true
  | .add _ _ _ => true
  | .drop _ => true
  | .say _ => true
  | .back _ => true
  | .fail _ => true
def callsAll : List Sm → Bool
  | [] => true
  | s :: r => callsOk s && callsAll r
end
theorem callsAll_all (b : List Sm) : callsAll b = b.all callsOk := by
  induction b with
  | nil => rw [callsAll, List.all_nil]
  | cons s r ih => rw [callsAll, ih, List.all_cons]
mutual
theorem stH_papers {C : Ctx} {f : Nat → Option Paper} (hf : ∀ n, n < 9 → f n = C.papers n) : ∀ (κ : Kin) (s : Sm), callsOk s = true → stH { C with papers := f } κ s = stH C κ s
  | κ, .new x k s, _ => by rw [stH, stH]; rfl
  | κ, .copy x y, _ => by rw [stH, stH]; rfl
  | κ, .part x y p, _ => by rw [stH, stH]; rfl
  | κ, .put y p x, _ => by rw [stH, stH]; rfl
  | κ, .add y p x, _ => by rw [stH, stH]; rfl
  | κ, .drop x, _ => by rw [stH, stH]; rfl
  | κ, .say x, _ => by rw [stH, stH]
  | κ, .back x, _ => by rw [stH, stH]; rfl
  | κ, .fail n, _ => by rw [stH, stH]
  | κ, .call z d ns, h => by
    rw [callsOk, decide_eq_true_eq] at h
    rw [stH, stH]
    unfold callH
    show (match f d with | none => none | some p => _) = _
    rw [hf d h]
    have ha : ∀ (ns : List Nat) (qs : List (Nat × Way × Kd)), handAll { C with papers := f } κ ns qs = handAll C κ ns qs := fun ns => by
      induction ns with
      | nil => intro qs; cases qs <;> rfl
      | cons n r ih =>
        intro qs
        cases qs with
        | nil => rfl
        | cons q t => rw [handAll, handAll, ih]; rfl
    cases C.papers d with
    | none => rfl
    | some p =>
      simp only [ha]
      rfl
  | κ, .same x y a b, h => by
    rw [callsOk, Bool.and_eq_true] at h
    rw [stH, stH, bodyH_papers hf κ a h.1]
    have : (fun κ' => bodyH { C with papers := f } κ' b) = fun κ' => bodyH C κ' b := funext fun κ' => bodyH_papers hf κ' b h.2
    rw [this]
  | κ, .tr a b, h => by
    rw [callsOk, Bool.and_eq_true] at h
    rw [stH, stH, bodyH_papers hf κ a h.1]
    have : (fun κ' => bodyH { C with papers := f } κ' b) = fun κ' => bodyH C κ' b := funext fun κ' => bodyH_papers hf κ' b h.2
    rw [this]
theorem bodyH_papers {C : Ctx} {f : Nat → Option Paper} (hf : ∀ n, n < 9 → f n = C.papers n) : ∀ (κ : Kin) (b : List Sm), callsAll b = true → bodyH { C with papers := f } κ b = bodyH C κ b
  | κ, [], _ => by rw [bodyH, bodyH]
  | κ, s :: r, h => by
    rw [callsAll, Bool.and_eq_true] at h
    rw [bodyH, bodyH, stH_papers hf κ s h.1]
    have : (fun κ' => bodyH { C with papers := f } κ' r) = fun κ' => bodyH C κ' r := funext fun κ' => bodyH_papers hf κ' r h.2
    rw [this]
end
theorem papersOf_snoc (x : Paper × List Sm) : ∀ (D : List (Paper × List Sm)) (f : Nat → Option Paper), papersOf (D ++ [x]) f = fun y => if y = x.1.name then some x.1 else papersOf D f y
  | [], f => rfl
  | d :: r, f => by rw [List.cons_append, papersOf, papersOf_snoc x r, papersOf]
def spareDoor (side : Int) : Paper × List Sm := (⟨9, side, [], none⟩, [.fail 1])
theorem isProg_more {D : List (Paper × List Sm)} {S : List Shelf} {side : Int} (hs : 0 ≤ side ∧ side ≤ 1) (hn : ∀ d ∈ D, d.1.name < 9) (hc : ∀ d ∈ D, callsAll d.2 = true) : isProg ⟨D ++ [spareDoor side], S⟩ = isProg ⟨D, S⟩ := by
  have hpS : isPaper (spareDoor side).1 = true := by
    unfold isPaper spareDoor
    simp [isRes, hs.1, hs.2]
  have hbS : isSms 3 (spareDoor side).2 = true := by
    unfold spareDoor
    rw [isSms, isSms, isSm]; decide
  have hd : isDoors (D ++ [spareDoor side]) = isDoors D := by
    unfold isDoors
    rw [List.all_append, List.map_append, List.all_cons, hpS, hbS, List.all_nil, Bool.and_self, Bool.and_self, Bool.and_true]
    congr 1
    rw [decide_eq_decide, List.nodup_append]
    constructor
    · exact fun h => h.1
    · refine fun h => ⟨h, by simp, fun a ha b hb => ?_⟩
      obtain ⟨d, hdm, rfl⟩ := List.mem_map.mp ha
      have := hn d hdm
      have hb : b = 9 := by simpa [spareDoor] using hb
      omega
  unfold isProg
  show (isDoors (D ++ [spareDoor side]) && isShelves S && (D ++ [spareDoor side]).all (doorH (papersOf (D ++ [spareDoor side]) fun _ => none) S)) = (isDoors D && isShelves S && D.all (doorH (papersOf D fun _ => none) S))
  rw [hd, papersOf_snoc, List.all_append]
  congr 1
  have h1 : doorH (fun y => if y = (spareDoor side).1.name then some (spareDoor side).1 else papersOf D (fun _ => none) y) S (spareDoor side) = true := by
    unfold doorH spareDoor
    rw [Bool.and_eq_true]
    refine ⟨List.all_eq_true.mpr fun s _ => rfl, ?_⟩
    show (bodyH _ _ [.fail 1]).isSome = true
    rw [bodyH, stH, Option.bind_some, bodyH]; rfl
  rw [List.all_cons, h1, List.all_nil, Bool.and_self, Bool.and_true]
  rw [Bool.eq_iff_iff, List.all_eq_true, List.all_eq_true]
  have hE : ∀ d ∈ D, doorH (fun y => if y = (spareDoor side).1.name then some (spareDoor side).1 else papersOf D (fun _ => none) y) S d = doorH (papersOf D fun _ => none) S d := fun d hdm => by
    unfold doorH
    congr 2
    refine bodyH_papers (C := doorCtx (papersOf D fun _ => none) d.1) (fun n hlt => ?_) _ _ (hc d hdm)
    show (if n = 9 then _ else _) = _
    rw [if_neg (by omega)]; rfl
  exact ⟨fun h d hdm => by rw [← hE d hdm]; exact h d hdm, fun h d hdm => by rw [hE d hdm]; exact h d hdm⟩
/-! what is behind a body's end -/
theorem bodyH_app {C : Ctx} : ∀ (κ : Kin) (a b : List Sm), bodyH C κ (a ++ b) = (bodyH C κ a).bind fun κ' => bodyH C κ' b
  | κ, [], b => by rw [List.nil_append, bodyH, Option.bind_some]
  | κ, s :: r, b => by
    rw [List.cons_append, bodyH, bodyH, Option.bind_assoc]
    congr 1
    funext κ'
    exact bodyH_app κ' r b
theorem isSms_app (n : Nat) (a b : List Sm) : isSms n (a ++ b) = (isSms n a && isSms n b) := by rw [isSms_all, isSms_all, isSms_all, List.all_append]
theorem mayMake_knows {C : Ctx} {κ κ' : Kin} {x : Nat} {k : Kd} (h : mayMake C κ x k = some κ') {y : Nat} (hy : knows κ y = true) : knows κ' y = true := by
  unfold mayMake at h
  split at h
  · cases h
  · split at h
    · cases h
      unfold knows at hy ⊢
      by_cases e : y = x
      · simp [e]
      · simpa [e] using hy
    · split at h
      · cases h; exact hy
      · cases h
theorem okIf_knows {b : Bool} {κ κ' : Kin} (h : okIf b κ = some κ') : κ' = κ := by
  unfold okIf at h
  split at h
  · cases h; rfl
  · cases h
mutual
theorem stH_knows {C : Ctx} {y : Nat} : ∀ (κ : Kin) (s : Sm) (κ' : Kin), stH C κ s = some κ' → knows κ y = true → knows κ' y = true
  | κ, .new x k s, κ', h, hy => by rw [stH] at h; exact mayMake_knows h hy
  | κ, .copy x z, κ', h, hy => by
    rw [stH, makeOf, Option.bind_eq_some_iff] at h
    obtain ⟨k, _, h⟩ := h
    exact mayMake_knows h hy
  | κ, .part x z p, κ', h, hy => by
    rw [stH, makeOf, Option.bind_eq_some_iff] at h
    obtain ⟨k, _, h⟩ := h
    exact mayMake_knows h hy
  | κ, .put z p x, κ', h, hy => by rw [stH] at h; rw [okIf_knows h]; exact hy
  | κ, .add z p x, κ', h, hy => by rw [stH] at h; rw [okIf_knows h]; exact hy
  | κ, .drop x, κ', h, hy => by rw [stH] at h; rw [okIf_knows h]; exact hy
  | κ, .say x, κ', h, hy => by rw [stH] at h; rw [okIf_knows h]; exact hy
  | κ, .back x, κ', h, hy => by rw [stH] at h; rw [okIf_knows h]; exact hy
  | κ, .fail n, κ', h, hy => by rw [stH] at h; cases h; exact hy
  | κ, .call z d ns, κ', h, hy => by
    rw [stH] at h
    unfold callH at h
    split at h
    · cases h
    · split at h
      · split at h
        · cases h; exact hy
        · split at h
          · cases h
          · exact mayMake_knows h hy
      · cases h
  | κ, .same x z a b, κ', h, hy => by
    rw [stH] at h
    split at h
    · rw [Option.bind_eq_some_iff] at h
      obtain ⟨κ1, h1, h2⟩ := h
      exact bodyH_knows κ1 b κ' h2 (bodyH_knows κ a κ1 h1 hy)
    · cases h
  | κ, .tr a b, κ', h, hy => by
    rw [stH, Option.bind_eq_some_iff] at h
    obtain ⟨κ1, h1, h2⟩ := h
    exact bodyH_knows κ1 b κ' h2 (bodyH_knows κ a κ1 h1 hy)
theorem bodyH_knows {C : Ctx} {y : Nat} : ∀ (κ : Kin) (b : List Sm) (κ' : Kin), bodyH C κ b = some κ' → knows κ y = true → knows κ' y = true
  | κ, [], κ', h, hy => by rw [bodyH] at h; cases h; exact hy
  | κ, s :: r, κ', h, hy => by
    rw [bodyH, Option.bind_eq_some_iff] at h
    obtain ⟨κ1, h1, h2⟩ := h
    exact bodyH_knows κ1 r κ' h2 (stH_knows κ s κ1 h1 hy)
end
theorem placeKin_old : ∀ (ps : List (Nat × Way × Kd)) (κ : Kin) {y : Nat}, knows κ y = true → knows (placeKin ps κ) y = true
  | [], κ, y, h => h
  | p :: r, κ, y, h => by
    rw [placeKin]
    refine placeKin_old r _ ?_
    unfold knows at h ⊢
    by_cases e : y = p.1
    · simp [e]
    · simpa [e] using h
theorem placeKin_all : ∀ (ps : List (Nat × Way × Kd)) (κ : Kin), ∀ q ∈ ps, knows (placeKin ps κ) q.1 = true
  | [], κ => fun q hq => by simp at hq
  | p :: r, κ => fun q hq => by
    rw [placeKin]
    rcases List.mem_cons.mp hq with rfl | hq
    · refine placeKin_old r _ ?_
      unfold knows; simp
    · exact placeKin_all r _ q hq
def sayAll (p : Paper) : List Sm := p.places.map fun q => .say q.1
theorem says_ok {C : Ctx} {κ : Kin} : ∀ (ps : List (Nat × Way × Kd)), (∀ q ∈ ps, knows κ q.1 = true) → bodyH C κ (ps.map fun q => .say q.1) = some κ
  | [], _ => by rw [List.map_nil, bodyH]
  | p :: r, h => by
    rw [List.map_cons, bodyH, stH, h p (by simp)]
    show (some κ).bind _ = _
    rw [Option.bind_some]
    exact says_ok r fun q hq => h q (by simp [hq])
def saidD (d : Paper × List Sm) : Paper × List Sm := (d.1, d.2 ++ sayAll d.1)
theorem papersOf_fst {g : Paper × List Sm → Paper × List Sm} (hg : ∀ d, (g d).1 = d.1) : ∀ (D : List (Paper × List Sm)) (f : Nat → Option Paper), papersOf (D.map g) f = papersOf D f
  | [], f => rfl
  | d :: r, f => by rw [List.map_cons, papersOf, papersOf, papersOf_fst hg r, hg]
theorem isProg_said (D : List (Paper × List Sm)) (S : List Shelf) : isProg ⟨D.map saidD, S⟩ = isProg ⟨D, S⟩ := by
  have hd : isDoors (D.map saidD) = isDoors D := by
    unfold isDoors
    rw [List.map_map, List.all_map]
    congr 1
    congr 1
    funext d
    show (isPaper d.1 && isSms 3 (d.2 ++ sayAll d.1)) = (isPaper d.1 && isSms 3 d.2)
    rw [isSms_app]
    cases h : isPaper d.1 with
    | false => rfl
    | true =>
      have : isSms 3 (sayAll d.1) = true := by
        rw [isSms_all, List.all_eq_true]
        intro s hs
        obtain ⟨q, hq, rfl⟩ := List.mem_map.mp hs
        rw [isSm]
        unfold isPaper at h
        simp only [Bool.and_eq_true, List.all_eq_true] at h
        exact (h.1.2.1 q hq).1
      rw [this, Bool.and_true]
  unfold isProg
  show (isDoors (D.map saidD) && isShelves S && (D.map saidD).all (doorH (papersOf (D.map saidD) fun _ => none) S)) = (isDoors D && isShelves S && D.all (doorH (papersOf D fun _ => none) S))
  rw [hd, papersOf_fst (g := saidD) (fun _ => rfl), List.all_map]
  congr 2
  funext d
  show doorH (papersOf D fun _ => none) S (d.1, d.2 ++ sayAll d.1) = doorH (papersOf D fun _ => none) S d
  unfold doorH
  congr 1
  show (bodyH (doorCtx (papersOf D fun _ => none) d.1) (doorKin S d.1) (d.2 ++ sayAll d.1)).isSome = (bodyH (doorCtx (papersOf D fun _ => none) d.1) (doorKin S d.1) d.2).isSome
  rw [bodyH_app]
  cases h : bodyH (doorCtx (papersOf D fun _ => none) d.1) (doorKin S d.1) d.2 with
  | none => rfl
  | some κ =>
    rw [Option.bind_some]
    unfold sayAll
    rw [says_ok d.1.places fun q hq => bodyH_knows _ _ _ h (placeKin_all d.1.places _ q hq)]
/-! cut -/
theorem isProg_cut {D D' : List (Paper × List Sm)} {S : List Shelf} (h : isProg ⟨D, S⟩ = true) (hl : D'.length = D.length) (hc : ∀ (i : Nat) (d : Paper × List Sm), D[i]? = some d → ∃ n : Nat, D'[i]? = some (d.1, d.2.take n)) : isProg ⟨D', S⟩ = true := by
  have hn : ∀ d' ∈ D', ∃ d ∈ D, ∃ n : Nat, d' = (d.1, d.2.take n) := fun d' hd' => by
    obtain ⟨i, hi⟩ := List.mem_iff_getElem?.mp hd'
    have hlt := (List.getElem?_eq_some_iff.mp hi).1
    obtain ⟨n, hn⟩ := hc i D[i] (List.getElem?_eq_getElem _)
    rw [hi] at hn
    exact ⟨D[i], List.getElem_mem _, n, by cases hn; rfl⟩
  have hfst : D'.map (·.1) = D.map (·.1) := by
    refine List.ext_getElem? fun i => ?_
    rw [List.getElem?_map, List.getElem?_map]
    cases hi : D[i]? with
    | none =>
      rw [List.getElem?_eq_none_iff] at hi
      rw [List.getElem?_eq_none (by omega)]
    | some d =>
      obtain ⟨n, hn⟩ := hc i d hi
      rw [hn]; rfl
  have hpp : ∀ (A B : List (Paper × List Sm)) (f : Nat → Option Paper), A.map (·.1) = B.map (·.1) → papersOf A f = papersOf B f := fun A => by
    induction A with
    | nil => intro B f e; cases B with | nil => rfl | cons => cases e
    | cons a r ih =>
      intro B f e
      cases B with
      | nil => cases e
      | cons b t =>
        rw [List.map_cons, List.map_cons, List.cons.injEq] at e
        rw [papersOf, papersOf, ih t _ e.2, e.1]
  unfold isProg at h ⊢
  rw [Bool.and_eq_true, Bool.and_eq_true] at h ⊢
  obtain ⟨⟨h1, h2⟩, h3⟩ := h
  refine ⟨⟨?_, h2⟩, ?_⟩
  · unfold isDoors at h1 ⊢
    rw [Bool.and_eq_true, List.all_eq_true, decide_eq_true_eq] at h1 ⊢
    refine ⟨fun d' hd' => ?_, ?_⟩
    · obtain ⟨d, hd, n, rfl⟩ := hn d' hd'
      have := h1.1 d hd
      rw [Bool.and_eq_true] at this ⊢
      refine ⟨this.1, ?_⟩
      rw [isSms_all, List.all_eq_true] at this ⊢
      exact fun s hs => this.2 s (List.mem_of_mem_take hs)
    · have e : ∀ A : List (Paper × List Sm), A.map (·.1.name) = (A.map (·.1)).map (·.name) := fun A => by rw [List.map_map]; rfl
      have h12 := h1.2
      show ((D'.map (·.1.name))).Nodup
      rw [e, hfst, ← e]
      exact h12
  · rw [List.all_eq_true] at h3 ⊢
    intro d' hd'
    obtain ⟨d, hd, n, rfl⟩ := hn d' hd'
    have := h3 d hd
    show doorH (papersOf D' fun _ => none) S (d.1, d.2.take n) = true
    rw [hpp D' D _ hfst]
    unfold doorH at this ⊢
    rw [Bool.and_eq_true] at this ⊢
    refine ⟨this.1, ?_⟩
    have h5 := this.2
    rw [← List.take_append_drop n d.2, bodyH_app] at h5
    show (bodyH (doorCtx (papersOf D fun _ => none) d.1) (doorKin S d.1) (d.2.take n)).isSome = true
    cases z : bodyH (doorCtx (papersOf D fun _ => none) d.1) (doorKin S d.1) (d.2.take n) with
    | none => rw [z] at h5; cases h5
    | some κ => rfl
end
/-! ### what the drawn program is like -/
def BdC (b : Bd) : Prop := callsAll b.root = true ∧ ∀ f ∈ b.st, (∀ a, f.first = some a → callsAll a = true) ∧ callsAll f.items = true
theorem callsAll_app (a b : List Sm) : callsAll (a ++ b) = (callsAll a && callsAll b) := by rw [callsAll_all, callsAll_all, callsAll_all, List.all_append]
theorem callsAll_one (s : Sm) : callsAll [s] = callsOk s := by rw [callsAll, callsAll, Bool.and_true]
theorem callsOk_mk (h : Option (Nat × Nat)) (a b : List Sm) : callsOk (mkSm h a b) = (callsAll a && callsAll b) := by
  cases h with
  | none => rw [mkSm, callsOk]
  | some q => obtain ⟨x, y⟩ := q; rw [mkSm, callsOk]
theorem BdC.push {b : Bd} (h : BdC b) {s : Sm} (hs : callsOk s = true) : BdC (pushS s b) := by
  obtain ⟨root, st⟩ := b
  obtain ⟨h1, h2⟩ := h
  cases st with
  | nil =>
    refine ⟨?_, fun f hf => by simp [pushS] at hf⟩
    show callsAll (root ++ [s]) = true
    rw [callsAll_app, callsAll_one, hs, Bool.and_true]; exact h1
  | cons f r =>
    refine ⟨h1, fun g hg => ?_⟩
    have hg : g = ⟨f.hd, f.first, f.items ++ [s]⟩ ∨ g ∈ r := by simpa [pushS] using hg
    rcases hg with rfl | hg
    · have := h2 f (by simp)
      refine ⟨this.1, ?_⟩
      show callsAll (f.items ++ [s]) = true
      rw [callsAll_app, callsAll_one, hs, Bool.and_true]; exact this.2
    · exact h2 g (by simp [hg])
theorem BdC.closed {b : Bd} (h : BdC b) : BdC (closedS b) := by
  obtain ⟨root, st⟩ := b
  cases st with
  | nil => exact h
  | cons f r =>
    have hf := h.2 f (by simp)
    cases e : f.first with
    | none =>
      rw [closedS_none e]
      refine ⟨h.1, fun g hg => ?_⟩
      have hg : g = ⟨f.hd, some f.items, []⟩ ∨ g ∈ r := by simpa using hg
      rcases hg with rfl | hg
      · exact ⟨fun a ha => by cases ha; exact hf.2, by rw [callsAll]⟩
      · exact h.2 g (by simp [hg])
    | some a =>
      rw [closedS_some e]
      refine BdC.push (b := ⟨root, r⟩) ⟨h.1, fun g hg => h.2 g (by simp [hg])⟩ ?_
      rw [callsOk_mk, hf.1 a e, hf.2]; rfl
theorem opSm_ok {f : Op} (h : (∀ a, f.first = some a → callsAll a = true) ∧ callsAll f.items = true) : callsOk (opSm f) = true := by
  unfold opSm
  cases e : f.first with
  | none => rw [callsOk_mk, h.2, callsAll]; rfl
  | some a => rw [callsOk_mk, h.1 a e, h.2]; rfl
theorem endN_ok : ∀ (n : Nat) {b : Bd}, BdC b → callsAll (endN n b) = true
  | 0, b, h => h.1
  | n + 1, ⟨root, []⟩, h => h.1
  | n + 1, ⟨root, f :: r⟩, h => endN_ok n (b := pushS (opSm f) ⟨root, r⟩) (BdC.push (b := ⟨root, r⟩) ⟨h.1, fun g hg => h.2 g (by simp [hg])⟩ (opSm_ok (h.2 f (by simp))))
theorem endN_len : ∀ (n : Nat) {c : Nat} {b : Bd}, BdL c b → (endN n b).length ≤ c + n
  | 0, c, b, h => h.1
  | n + 1, c, ⟨root, []⟩, h => Nat.le_trans h.1 (by omega)
  | n + 1, c, ⟨root, f :: r⟩, h => by
    have := endN_len n (b := pushS (opSm f) ⟨root, r⟩) (BdL.push (b := ⟨root, r⟩) ⟨h.1, fun g hg => h.2 g (by simp [hg])⟩ (opSm f))
    show (endN n (pushS (opSm f) ⟨root, r⟩)).length ≤ _
    omega
theorem begun_calls (v : Wd) (sh : List (Nat × Int)) (p : Plan) (at_ : Nat) (all : Bool) : callsAll (begunF v sh p at_ all) = true := by
  unfold begunF
  split
  · rw [callsAll]
  · rw [callsAll_all, List.all_eq_true]
    intro s hs
    obtain ⟨k, _, rfl⟩ := List.mem_map.mp hs
    rw [callsOk]
theorem calling_calls {v : Wd} (hv : WdOk v) (own : Plan) (odd : Bool) (r : List Int) : callsOk (callingF v own odd r) = true := by
  unfold callingF callOf
  split
  · rw [callsOk]
  · rw [callsOk, decide_eq_true_eq]
    unfold callName
    split
    · exact nm9_lt r
    · have hdl := hv.dl
      have e1 := Int.emod_nonneg (rI r 1) (b := (v.doors.length : Int)) (by omega)
      have e2 := Int.emod_lt_of_pos (rI r 1) (b := (v.doors.length : Int)) (by omega)
      refine hv.dn _ ?_
      unfold callDoor planAt
      rw [List.getD_eq_getElem?_getD, List.getElem?_eq_getElem (by omega)]
      exact List.getElem_mem _
theorem loose_calls {v : Wd} (hv : WdOk v) (own : Plan) (odd : Bool) (r : List Int) : callsOk (looseF v own odd r) = true := by
  unfold looseF looseOf
  simp only
  split
  · rw [callsOk]
  · split
    · rw [callsOk]
    · split
      · rw [callsOk]
      · split
        · rw [callsOk]
        · split
          · rw [callsOk]
          · split
            · rw [callsOk]
            · split
              · unfold sm1
                split
                · rw [callsOk]
                · split
                  · rw [callsOk]
                  · rw [callsOk]
              · exact calling_calls hv own odd r
structure BsG (c : Nat) (s : Bs) : Prop where
  dn : ∀ b ∈ s.done, callsAll b = true ∧ b.length ≤ c + 3
  cb : BdC s.cur
theorem stepG {v : Wd} {sh : List (Nat × Int)} {all : Bool} {c : Nat} {s : Bs} (hv : WdOk v) (hk : BsOk v c s) (h : BsG c s) (r : List Int) : BsG (c + 1) (step1 v sh all s r) := by
  have old : ∀ b ∈ s.done, callsAll b = true ∧ b.length ≤ c + 1 + 3 := fun b hb => ⟨(h.dn b hb).1, by have := (h.dn b hb).2; omega⟩
  unfold step1
  split
  · refine ⟨fun b hb => ?_, begun_calls _ _ _ _ _, fun f hf => by simp at hf⟩
    rcases List.mem_append.mp hb with z | z
    · exact old b z
    · have : b = endedF s.cur := by simpa using z
      rw [this]
      refine ⟨endN_ok _ h.cb, ?_⟩
      have := endN_len s.cur.st.length hk.bl
      have := hk.sl
      unfold endedF
      omega
  · split
    · refine ⟨old, h.cb.1, fun f hf => ?_⟩
      have hf : f = ⟨hdF r, none, []⟩ ∨ f ∈ s.cur.st := by simpa using hf
      rcases hf with rfl | hf
      · exact ⟨fun a ha => (by cases ha), by rw [callsAll]⟩
      · exact h.cb.2 f hf
    · split
      · exact ⟨old, h.cb.closed⟩
      · exact ⟨old, h.cb.push (loose_calls hv _ _ _)⟩
theorem foldG {v : Wd} {sh : List (Nat × Int)} {all : Bool} (hv : WdOk v) : ∀ (cells : List Int) (c : Nat) (s : Bs), 9 ≤ c → BsOk v c s → BsG c s → BsG (c + cells.length) (cells.foldl (bodyStep v sh all) s)
  | [], c, s, _, _, h => h
  | x :: r, c, s, h9, hk, h => by
    have := foldG (sh := sh) (all := all) hv r (c + 1) (bodyStep v sh all s x) (by omega) (step_ok h9 hk _) (stepG hv hk h _)
    rw [List.length_cons, show c + (r.length + 1) = c + 1 + r.length by omega]
    exact this
theorem bodiesG {v : Wd} {sh : List (Nat × Int)} {all : Bool} (hv : WdOk v) (cells : List Int) : ∀ b ∈ bodiesF v sh all cells, callsAll b = true ∧ b.length ≤ cells.length + 12 := by
  have hk := bodies_ok (sh := sh) (all := all) hv.dl.1 cells
  have h := foldG (sh := sh) (all := all) hv cells 9 ⟨[], ⟨begunAt v sh 0 all, []⟩⟩ (Nat.le_refl _) ⟨hv.dl.1, ⟨begun_len _ _ _ _ _, fun f hf => by simp at hf⟩, by simp⟩ ⟨fun b hb => by simp at hb, begun_calls _ _ _ _ _, fun f hf => by simp at hf⟩
  intro b hb
  unfold bodiesF at hb
  simp only at hb
  rcases List.mem_append.mp hb with z | z
  · rcases List.mem_append.mp z with y | y
    · have := h.dn b y
      exact ⟨this.1, by omega⟩
    · have : b = endedF (bodiesN v sh all cells).cur := by simpa using y
      rw [this]
      refine ⟨endN_ok _ h.cb, ?_⟩
      have h1 := endN_len (bodiesN v sh all cells).cur.st.length hk.bl
      have h2 := hk.sl
      unfold endedF
      omega
  · have := List.eq_of_mem_replicate z
    rw [this, callsAll]
    exact ⟨rfl, by simp⟩
structure PrOk (p : Prog) : Prop where
  dl : 1 ≤ p.doors.length ∧ p.doors.length ≤ 4
  sl : p.shelves.length ≤ 4
  nm : ∀ d ∈ p.doors, d.1.name < 9
  pl : ∀ d ∈ p.doors, d.1.places.length ≤ 4 ∧ ∀ q ∈ d.1.places, q.1 < 9
  cl : ∀ d ∈ p.doors, callsAll d.2 = true
  bl : ∀ d ∈ p.doors, d.2.length ≤ 1000
theorem by_ok {row cells : List Int} (hc : cells.length ≤ 900) : PrOk (byF row cells) := by
  have hv := world_ok row
  have hb := bodiesG (sh := shelfsF row) (all := decide (0 < rI row 53 % 4)) hv cells
  have hl := bodies_len (sh := shelfsF row) (all := decide (0 < rI row 53 % 4)) hv.dl.1 cells
  have key : ∀ d ∈ (byF row cells).doors, (∃ p ∈ (worldF row).doors, d.1 = paperF (worldF row) p) ∧ d.2 ∈ bodiesF (worldF row) (shelfsF row) (decide (0 < rI row 53 % 4)) cells := fun d hd => by
    unfold byF progF at hd
    obtain ⟨k, hk, rfl⟩ := List.mem_map.mp hd
    have hk := List.mem_range.mp hk
    refine ⟨⟨planAt (worldF row) k, ?_, rfl⟩, ?_⟩
    · unfold planAt
      rw [List.getD_eq_getElem?_getD, List.getElem?_eq_getElem hk]
      exact List.getElem_mem _
    · show List.getD _ k [] ∈ _
      rw [List.getD_eq_getElem?_getD, List.getElem?_eq_getElem (by omega)]
      exact List.getElem_mem _
  refine ⟨?_, ?_, fun d hd => ?_, fun d hd => ?_, fun d hd => ?_, fun d hd => ?_⟩
  · unfold byF progF
    simp only [List.length_map, List.length_range]
    exact hv.dl
  · unfold byF progF
    simp only [List.length_map]
    exact shelves_len _ _ _
  · obtain ⟨⟨p, hp, e⟩, _⟩ := key d hd
    rw [e]; exact hv.dn p hp
  · obtain ⟨⟨p, hp, e⟩, _⟩ := key d hd
    rw [e]
    unfold paperF
    refine ⟨by rw [List.length_map]; exact (hv.dp p hp).1, fun q hq => ?_⟩
    obtain ⟨z, hz, rfl⟩ := List.mem_map.mp hq
    exact (hv.dp p hp).2 z hz
  · exact (hb _ (key d hd).2).1
  · have := (hb _ (key d hd).2).2
    omega
theorem PrOk.small {p : Prog} (h : PrOk p) : smallProg p := ⟨by have := h.dl; omega, by have := h.sl; omega, fun x hx => by have := (h.pl x hx).1; unfold smallP; omega⟩
/-! the spare name -/
def sg1 (c : Nat) : Str := ⟨#[c]⟩
theorem sg1_inj {a b : Nat} (h : sg1 a = sg1 b) : a = b := by
  have : (sg1 a).cps.toList = (sg1 b).cps.toList := by rw [h]
  simpa [sg1] using this
def freeL (names : List Str) : List Nat := letters.cps.toList.filter fun c => !decide (sg1 c ∈ names)
def spareF (names : List Str) (i : Int) : Str := sg1 ((freeL names).getD (i % 17).toNat 0)
theorem few {α : Type} : ∀ (names : List Str) {L : List Nat}, L.Nodup → (L.filter fun c => decide (sg1 c ∈ names)).length ≤ names.length
  | [], L, _ => by simp
  | n :: r, L, nd => by
    have ih := few (α := α) r nd
    have h1 : ∀ L : List Nat, (L.filter fun c => decide (sg1 c ∈ n :: r)).length ≤ (L.filter fun c => decide (sg1 c ∈ r)).length + (L.filter fun c => decide (sg1 c = n)).length := fun L => by
      induction L with
      | nil => simp
      | cons c t ih =>
        have m : decide (sg1 c ∈ n :: r) = (decide (sg1 c = n) || decide (sg1 c ∈ r)) := by rw [← Bool.decide_or, decide_eq_decide]; exact List.mem_cons
        simp only [List.filter_cons, m]
        cases decide (sg1 c = n) <;> cases decide (sg1 c ∈ r) <;> simp only [Bool.or_true, Bool.or_false, Bool.or_self, Bool.true_or, Bool.false_or, if_true, if_false, List.length_cons, Bool.false_eq_true] <;> omega
    have h2 : (L.filter fun c => decide (sg1 c = n)).length ≤ 1 := by
      have nd2 := nd.filter (fun c => decide (sg1 c = n))
      generalize hM : L.filter (fun c => decide (sg1 c = n)) = M at nd2 ⊢
      have hall : ∀ c ∈ M, sg1 c = n := fun c hc => by
        rw [← hM] at hc
        exact of_decide_eq_true (List.mem_filter.mp hc).2
      match M, nd2, hall with
      | [], _, _ => simp
      | [a], _, _ => simp
      | a :: b :: t, nd2, hall =>
        have e : a = b := sg1_inj ((hall a (by simp)).trans (hall b (by simp)).symm)
        have nd3 : (a :: b :: t).Nodup := nd2
        exact absurd (by rw [e]; simp) (List.nodup_cons.mp nd3).1
    have := h1 L
    rw [List.length_cons]
    omega
theorem filter_sum {L : List Nat} (f : Nat → Bool) : L.length = (L.filter f).length + (L.filter fun c => !f c).length := by
  induction L with
  | nil => rfl
  | cons c t ih =>
    simp only [List.filter_cons]
    cases f c <;> simp <;> omega
theorem free_len {names : List Str} (h : names.length = 9) : 17 ≤ (freeL names).length := by
  have h1 := few (α := Nat) names letters_nodup
  have h2 := filter_sum (L := letters.cps.toList) fun c => decide (sg1 c ∈ names)
  rw [letters_len] at h2
  unfold freeL
  omega
theorem spare_ok {names : List Str} (h : names.length = 9) (i : Int) : isNameS (spareF names i) = true ∧ spareF names i ∉ names := by
  have hl := free_len h
  have hm : (freeL names).getD (i % 17).toNat 0 ∈ freeL names := by
    rw [List.getD_eq_getElem?_getD, List.getElem?_eq_getElem (by omega)]
    exact List.getElem_mem _
  unfold spareF
  generalize (freeL names).getD (i % 17).toNat 0 = c at hm
  unfold freeL at hm
  obtain ⟨h1, h2⟩ := List.mem_filter.mp hm
  refine ⟨?_, by simpa using h2⟩
  unfold isNameS sg1
  simp [Str.length]
  simpa using h1
theorem namesD_nm {names : List Str} {sp : Str} (h : names.length = 9) : namesD (nmOf names sp) = names.map .str := by
  unfold namesD
  refine List.ext_getElem? fun i => ?_
  rw [List.getElem?_map, List.getElem?_map]
  by_cases hi : i < 9
  · rw [List.getElem?_range hi, List.getElem?_eq_getElem (by omega)]
    unfold nmOf
    rw [Option.map_some, if_pos hi, List.getD_eq_getElem?_getD, List.getElem?_eq_getElem (by omega)]; rfl
  · rw [List.getElem?_eq_none (by simp; omega), List.getElem?_eq_none (by omega)]; rfl
/-! the other programs -/
theorem cutG_take {α : Type} (xs : List α) (i : Int) (h : 0 ≤ i) : cutG xs none (some i) = xs.take i.toNat := by
  unfold cutG HT.sIx
  have e1 : ¬ i < 0 := by omega
  simp only [e1, if_false, Nat.sub_zero, List.drop_zero]
  by_cases h2 : i.toNat ≤ xs.length
  · rw [Nat.min_eq_left h2]
  · rw [Nat.min_eq_right (by omega), List.take_length, List.take_of_length_le (by omega)]
def rotF (p : Prog) (row : List Int) : List (Paper × List Sm) := cutG p.doors (some (rI row 74 % (p.doors.length : Int))) none ++ cutG p.doors none (some (rI row 74 % (p.doors.length : Int)))
def ordF (p : Prog) (row : List Int) : Prog := if rI row 74 / 4 % 2 = 1 then ⟨(rotF p row).reverse, p.shelves⟩ else ⟨rotF p row, p.shelves.reverse⟩
theorem rot_perm {p : Prog} (h : 1 ≤ p.doors.length) (row : List Int) : p.doors.Perm (rotF p row) := by
  have e := Int.emod_nonneg (rI row 74) (b := (p.doors.length : Int)) (by omega)
  unfold rotF
  rw [cutG_drop _ _ e, cutG_take _ _ e]
  have := List.perm_append_comm (l₁ := p.doors.take (rI row 74 % (p.doors.length : Int)).toNat) (l₂ := p.doors.drop (rI row 74 % (p.doors.length : Int)).toNat)
  rwa [List.take_append_drop] at this
theorem ord_same {p : Prog} (h : PrOk p) (row : List Int) : isProg (ordF p row) = isProg p ∧ smallProg (ordF p row) := by
  have hp := rot_perm h.dl.1 row
  have hs := h.small
  have hl := hp.length_eq
  unfold ordF
  split
  · refine ⟨isProg_perm (hp.trans (List.reverse_perm _).symm) (List.Perm.refl _), ?_, hs.2.1, fun x hx => hs.2.2 x (hp.mem_iff.mpr (by simpa using hx))⟩
    show (rotF p row).reverse.length ≤ 1000
    rw [List.length_reverse, ← hl]; exact hs.1
  · refine ⟨isProg_perm hp (List.reverse_perm _).symm, ?_, ?_, fun x hx => hs.2.2 x (hp.mem_iff.mpr hx)⟩
    · show (rotF p row).length ≤ 1000
      rw [← hl]; exact hs.1
    · show p.shelves.reverse.length ≤ 1000
      rw [List.length_reverse]; exact hs.2.1
def moreF (p : Prog) (row : List Int) : Prog := ⟨p.doors ++ [spareDoor (rI row 75 / 17 % 2)], p.shelves⟩
theorem more_same {p : Prog} (h : PrOk p) (row : List Int) : isProg (moreF p row) = isProg p ∧ smallProg (moreF p row) := by
  have hs := h.small
  have hd := h.dl
  refine ⟨isProg_more ⟨by omega, by omega⟩ h.nm h.cl, ?_, hs.2.1, fun x hx => ?_⟩
  · show (p.doors ++ [_]).length ≤ 1000
    rw [List.length_append, List.length_singleton]; omega
  · rcases List.mem_append.mp hx with z | z
    · exact hs.2.2 x z
    · have : x = spareDoor (rI row 75 / 17 % 2) := by simpa using z
      rw [this]
      unfold smallP spareDoor; simp
def saidF (p : Prog) : Prog := ⟨p.doors.map saidD, p.shelves⟩
theorem said_same {p : Prog} (h : PrOk p) : isProg (saidF p) = isProg p ∧ smallProg (saidF p) := by
  have hs := h.small
  refine ⟨isProg_said _ _, ?_, hs.2.1, fun x hx => ?_⟩
  · show (p.doors.map saidD).length ≤ 1000
    rw [List.length_map]; exact hs.1
  · obtain ⟨d, hd, rfl⟩ := List.mem_map.mp hx
    exact hs.2.2 d hd
def doorAt (p : Prog) (k : Nat) : Paper × List Sm := p.doors.getD k (⟨0, 0, [], none⟩, [])
def cellAt (ns : List Int) (k : Nat) : Int := (ns ++ [0, 0, 0, 0, 0]).getD (1 + k) 0
def cutAt (p : Prog) (ns : List Int) (k : Nat) : Paper × List Sm := ((doorAt p k).1, (doorAt p k).2.take (cellAt ns k % (((doorAt p k).2.length : Int) + 1)).toNat)
def cutF (p : Prog) (ns : List Int) : Prog := ⟨(List.range p.doors.length).map (cutAt p ns), p.shelves⟩
theorem cut_same {p : Prog} (h : PrOk p) (ns : List Int) : (isProg p = true → isProg (cutF p ns) = true) ∧ smallProg (cutF p ns) := by
  have hs := h.small
  have at_ : ∀ k d, p.doors[k]? = some d → doorAt p k = d := fun k d e => by unfold doorAt; rw [List.getD_eq_getElem?_getD, e]; rfl
  refine ⟨fun hp => isProg_cut (D := p.doors) hp (by rw [List.length_map, List.length_range]) fun i d e => ⟨(cellAt ns i % ((d.2.length : Int) + 1)).toNat, ?_⟩, ?_, hs.2.1, fun x hx => ?_⟩
  · have hi := (List.getElem?_eq_some_iff.mp e).1
    rw [List.getElem?_map, List.getElem?_range hi, Option.map_some]
    unfold cutAt
    rw [at_ i d e]
  · show ((List.range p.doors.length).map (cutAt p ns)).length ≤ 1000
    rw [List.length_map, List.length_range]; exact hs.1
  · obtain ⟨k, hk, rfl⟩ := List.mem_map.mp hx
    have hk := List.mem_range.mp hk
    have e := at_ k _ (List.getElem?_eq_getElem hk)
    have := hs.2.2 _ (List.getElem_mem hk)
    show smallP (doorAt p k).1
    rw [e]; exact this
/-! ### the law -/
theorem enc_spare (names : List Str) (sp : Str) (side : Int) : encDoor (nmOf names sp) (spareDoor side) = .tuple [.tuple [.str sp, .int side, .tuple [], .none], .tuple [.tuple [.str "fail", .int 1]]] := by
  unfold encDoor spareDoor
  rw [encMs, encM, encMs]; rfl
theorem enc_more (names : List Str) (sp : Str) (p : Prog) (row : List Int) : encProg (nmOf names sp) (moreF p row) = .tuple [.tuple (p.doors.map (encDoor (nmOf names sp)) ++ [.tuple [.tuple [.str sp, .int (rI row 75 / 17 % 2), .tuple [], .none], .tuple [.tuple [.str "fail", .int 1]]]]), .tuple (p.shelves.map (encShelf (nmOf names sp)))] := by
  unfold encProg moreF
  rw [List.map_append, List.map_singleton, enc_spare]
theorem enc_said {nm : Nat → Str} (d : Paper × List Sm) : encDoor nm (saidD d) = .tuple [encPaper nm d.1, .tuple (encMs nm d.2 ++ d.1.places.map fun q => encM nm (.say q.1))] := by
  unfold encDoor saidD sayAll
  rw [encMs_app, encMs_map nm (d.1.places.map _), List.map_map]; rfl
section
variable {P : Program} {w : World} {K : PySem.W.Frag} {mg : Str → Option Value} {base : Heap} {f : Addr} {fd : FuncData}
local macro_rules | `(tactic| walk_at "R") => `(tactic| solve_by_elim)
local macro_rules | `(tactic| walk_at "fl") => `(tactic| first | exact flat_strs _ | rfl | assumption)
local macro_rules | `(tactic| walk_at "ix") => `(tactic| first | with_reducible assumption | fail)
local macro_rules | `(tactic| walk_at "E") => `(tactic| first
  | (refine' EL.ex (EL.scrCat ?k1 ?k2 ?k3 ?k4 ?k5 ?k6); (case k1 => assumption); (case k2 => walk_at "At"); (case k3 => decide); (case k5 => rfl); (case k4 => walk_at "E"); (case k6 => (simp only [List.length_cons, List.length_nil]; omega)))
  | (refine' EL.ex (EL.scrSl ?k1 ?k2 ?k3 ?k4 ?k5 ?k6); (case k1 => assumption); (case k2 => walk_at "At"); (case k3 => decide); (case k6 => rfl); (case k4 => walk_at "OX"); (case k5 => walk_at "OX")) | fail)
theorem ok_law (F : Fun K "law" "law" s_law f fd) (B : Bi mg) (Cd : Cal P w K mg base "_law_draws" 1 ["cell", "count"] R_law_draws) (Cn : Cal P w K mg base "_law_names" 2 ["row"] R_law_names)
    (Aby : ∀ nm, Cal P w K mg base "_law_by" 9 ["row", "names", "cells"] (R_law_by nm)) (Aip : ∀ nm, Good nm → Cal P w K mg base "is_program" 26 ["thing"] (R_is_program nm)) (Ast : ∀ nm, Good nm → Cal P w K mg base "_law_same_told" 27 ["program", "due"] (R_law_same_told nm)) :
    FnOk P w K mg base CX0 28 f fd ["script"] (spLaw K) := by
  refine okLaw (n := "law") (x := "script") (k := 27) 17 F sc_law (by decide +kernel) ?_
  intro cdv A outer s H E Γ ns fz hr T hns
  refine SXs.reL (l' := [.scr K ns, .no, .no, .no, .no, .no, .no, .no, .no, .no, .no, .no, .no, .no, .no, .no, .no, .no, .no]) rfl ?_
  obtain ⟨c0, hc0⟩ : ∃ c0, c0 = (ns ++ [0]).getD 0 0 := ⟨_, rfl⟩
  have hx0 : ixD (.list (ns.map .int ++ [.int 0])) 0 = some (.int c0) := by
    have := ixR (row := ns ++ [0]) (j := 0) (by omega) (by simp)
    rw [List.map_append, List.map_singleton] at this
    rw [hc0]; exact this
  have RD : R_law_draws [.int c0, .int 76] (.list ((draws c0 76).map .int)) := ⟨c0, 76, by omega, rfl, rfl⟩
  have hrl := draws_len c0 76
  have hrn : ∀ i ∈ draws c0 76, 0 ≤ i := draws_nn
  walk_at "S"
  case k5 =>
    generalize draws c0 76 = row at hrl hrn ⊢
    have h20 : (cutG row none (some 20)).length = 20 := by rw [cutG_take _ _ (by decide), List.length_take]; omega
    have h54 : (cutG row (some 54) (some 74)).length = 20 := cutG_mid row 54 74 (by decide) (by omega)
    have N1 := names_ok h20 fun i hi => hrn i (mem_cutG hi)
    have N2 := names_ok h54 fun i hi => hrn i (mem_cutG hi)
    have RN1 : R_law_names [.list (cutG (row.map .int) none (some 20))] (.list ((namesF (cutG row none (some 20))).map .str)) := ⟨_, h20, fun i hi => hrn i (mem_cutG hi), by rw [cutG_map], rfl⟩
    have RN2 : R_law_names [.list (cutG (row.map .int) (some 54) (some 74))] (.list ((namesF (cutG row (some 54) (some 74))).map .str)) := ⟨_, h54, fun i hi => hrn i (mem_cutG hi), by rw [cutG_map], rfl⟩
    walk_at "S"
    case k5 =>
      generalize namesF (cutG row none (some 20)) = names1 at N1 RN1 ⊢
      generalize namesF (cutG row (some 54) (some 74)) = names2 at N2 RN2 ⊢
      obtain ⟨n1l, n1d, n1n⟩ := N1
      obtain ⟨n2l, n2d, n2n⟩ := N2
      obtain ⟨sp1, hsp1⟩ : ∃ sp1, sp1 = spareF names1 (rI row 75) := ⟨_, rfl⟩
      obtain ⟨sp2, hsp2⟩ : ∃ sp2, sp2 = spareF names2 0 := ⟨_, rfl⟩
      have s1 : isNameS sp1 = true ∧ sp1 ∉ names1 := by rw [hsp1]; exact spare_ok n1l _
      have s2 : isNameS sp2 = true ∧ sp2 ∉ names2 := by rw [hsp2]; exact spare_ok n2l _
      have g1 := nmOf_good n1l n1d n1n s1.1 s1.2
      have g2 := nmOf_good n2l n2d n2n s2.1 s2.2
      have d1 := namesD_nm (sp := sp1) n1l
      have d2 := namesD_nm (sp := sp2) n2l
      have hcl : (cutG ns (some 1) none).length ≤ 900 := by have := cutG_len ns (some 1) none; omega
      obtain ⟨p, hpd⟩ : ∃ p, p = byF row (cutG ns (some 1) none) := ⟨_, rfl⟩
      have RY1 : R_law_by (nmOf names1 sp1) [.list (row.map .int), .list (names1.map .str), .list (cutG (ns.map .int) (some 1) none)] (encProg (nmOf names1 sp1) p) := ⟨row, _, hrl, hrn, hcl, by rw [d1, cutG_map], by rw [hpd]⟩
      have RY2 : R_law_by (nmOf names2 sp2) [.list (row.map .int), .list (names2.map .str), .list (cutG (ns.map .int) (some 1) none)] (encProg (nmOf names2 sp2) p) := ⟨row, _, hrl, hrn, hcl, by rw [d2, cutG_map], by rw [hpd]⟩
      have hok : PrOk p := by rw [hpd]; exact by_ok hcl
      have em := enc_more names1 sp1 p row
      have hsp : ixD (.list ((freeL names1).map fun c => .str (sg1 c))) (rI row 75 % 17) = some (.str sp1) := by
        rw [hsp1]
        exact atI_mod (xs := freeL names1) (f := fun c => PyData.str (sg1 c)) (x0 := 0) (by omega) (by have := free_len n1l; omega)
      have C1 := Aby (nmOf names1 sp1)
      have C2 := Aip _ g1
      have RI : R_is_program (nmOf names1 sp1) [encProg (nmOf names1 sp1) p] (.bool (isProg p)) := ⟨p, hok.small, rfl, rfl⟩
      walk_at "S"
      case k5 =>
        walk_at "S"
        case k5 =>
          refine' SXs.cons (SX.iteF (TX.eq ?a1 ?a2) ?a3)
          case a1 =>
            have C3 := Aby (nmOf names2 sp2)
            have C4 := Ast _ g2
            have RT : R_law_same_told (nmOf names2 sp2) [encProg (nmOf names2 sp2) p, .bool (isProg p)] (.bool (isProg p == isProg p)) := ⟨p, _, hok.small, rfl, rfl⟩
            walk_at "T"
          case a2 => simp [isBoolD]
          case a3 =>
            refine SXs.nil ?_
            have C4 := Ast _ g1
            clear C1 C2 RY1 RY2 RN1 RN2 RI g2 d2 s2 Aip Aby Ast Cn Cd RD
            obtain ⟨nm, hnm⟩ : ∃ nm, nm = nmOf names1 sp1 := ⟨_, rfl⟩
            rw [← hnm] at em C4 g1 ⊢
            have dl := hok.dl
            have elP : lenD (.tuple (p.doors.map (encDoor nm))) = (p.doors.length : Nat) := by simp [lenD]
            have hpos : 0 < lenD (.tuple (p.doors.map (encDoor nm))) := by rw [elP]; omega
            have e74 : ixD (.list (row.map .int)) 74 = some (.int (rI row 74)) := ixR (j := 74) (by omega) (by omega)
            have e75 : ixD (.list (row.map .int)) 75 = some (.int (rI row 75)) := ixR (j := 75) (by omega) (by omega)
            refine' SXs.cons (SX.asg (is := [13, 14]) (d := encProg nm p) (ds := [.tuple (p.doors.map (encDoor nm)), .tuple (p.shelves.map (encShelf nm))]) ?b1 ?b2 ?b3 ?b4 ?b5)
            case b1 => walk_at "E"
            case b2 => exact GX.tup rfl (GsX.nm T (by walk_at "At") (by decide) (GsX.nm T (by walk_at "At") (by decide) GsX.nil)) rfl
            case b4 => rfl
            case b5 => rfl
            case b3 =>
              refine SXs.reL (l' := [.scr K ns, .dat (.list (row.map .int)), .dat (.list (names1.map .str)), .dat (encProg nm p), .dat (.bool (isProg p)), .no, .no, .no, .no, .no, .no, .no, .no, .dat (.tuple (p.doors.map (encDoor nm))), .dat (.tuple (p.shelves.map (encShelf nm))), .no, .no, .no, .no]) rfl ?_
              walk_at "S"
              case k5 =>
                refine SXs.reL (l' := [.scr K ns, .dat (.list (row.map .int)), .dat (.list (names1.map .str)), .dat (encProg nm p), .dat (.bool (isProg p)), .dat (.int (rI row 74 % (p.doors.length : Int))), .no, .no, .no, .no, .no, .no, .no, .dat (.tuple (p.doors.map (encDoor nm))), .dat (.tuple (p.shelves.map (encShelf nm))), .no, .no, .no, .no]) (by rw [elP]; rfl) ?_
                refine' SXs.cons (SX.st T ?c1 ?c2 (EX.tup (AX.cons (EX.bin (EX.slT ?c3 ?c4 ?c5) (EX.slT ?c6 ?c7 ?c8) (opAddT ?c9)) (AX.cons ?c10 AX.nil)) ?c11) ?c12 ?c13)
                case c1 => walk_at "At"
                case c2 => decide
                case c3 => walk_at "E"
                case c4 => walk_at "OX"
                case c5 => walk_at "OX"
                case c6 => walk_at "E"
                case c7 => walk_at "OX"
                case c8 => walk_at "OX"
                case c9 =>
                  have z1 := cutG_len (p.doors.map (encDoor nm)) (some (rI row 74 % (p.doors.length : Int))) none
                  have z2 := cutG_len (p.doors.map (encDoor nm)) none (some (rI row 74 % (p.doors.length : Int)))
                  rw [List.length_map] at z1 z2
                  exact le_size (by omega)
                case c10 => walk_at "E"
                case c11 => walk_at "sz"
                case c13 => rfl
                case c12 =>
                  have eo : encProg nm ⟨rotF p row, p.shelves.reverse⟩ = .tuple [.tuple (cutG (p.doors.map (encDoor nm)) (some (rI row 74 % (p.doors.length : Int))) none ++ cutG (p.doors.map (encDoor nm)) none (some (rI row 74 % (p.doors.length : Int)))), .tuple (p.shelves.map (encShelf nm)).reverse] := by
                    unfold encProg rotF
                    rw [List.map_append, cutG_map, cutG_map, List.map_reverse]
                  refine SXs.reL (l' := [.scr K ns, .dat (.list (row.map .int)), .dat (.list (names1.map .str)), .dat (encProg nm p), .dat (.bool (isProg p)), .dat (.int (rI row 74 % (p.doors.length : Int))), .dat (encProg nm ⟨rotF p row, p.shelves.reverse⟩), .no, .no, .no, .no, .no, .no, .dat (.tuple (p.doors.map (encDoor nm))), .dat (.tuple (p.shelves.map (encShelf nm))), .no, .no, .no, .no]) (by rw [eo]; rfl) ?_
                  refine' SXs.cons (SX.iteJ (l2 := [.scr K ns, .dat (.list (row.map .int)), .dat (.list (names1.map .str)), .dat (encProg nm p), .dat (.bool (isProg p)), .dat (.int (rI row 74 % (p.doors.length : Int))), .dat (encProg nm (ordF p row)), .no, .no, .no, .no, .no, .no, .dat (.tuple (p.doors.map (encDoor nm))), .dat (.tuple (p.shelves.map (encShelf nm))), .no, .no, .no, .no]) (b := decide (rI row 74 / 4 % 2 = 1)) ?d1 ?d2 ?d3 ?d4)
                  case d1 => walk_at "T"
                  case d2 =>
                    intro hb
                    have h0 : ixD (encProg nm ⟨rotF p row, p.shelves.reverse⟩) 0 = some (.tuple ((rotF p row).map (encDoor nm))) := ix0
                    unfold ordF
                    rw [if_pos (of_decide_eq_true hb)]
                    walk_at "S"
                    case k5 =>
                      refine SXs.nil ?_
                      have : encProg nm ⟨(rotF p row).reverse, p.shelves⟩ = .tuple [.tuple ((rotF p row).map (encDoor nm)).reverse, .tuple (p.shelves.map (encShelf nm))] := by
                        unfold encProg
                        rw [List.map_reverse]
                      rw [this]; rfl
                  case d3 =>
                    intro hb
                    unfold ordF
                    rw [if_neg (of_decide_eq_false hb)]
                    exact SXs.nil rfl
                  case d4 =>
                    refine' SXs.cons (SX.st T ?e1 ?e2 (EX.ix (EL.ex (EL.lc (xs := letters.cps.toList) (own := [("one", 17)]) (is := [17]) (en := fun c => PyData.str (sg1 c)) (tv := fun c => [PyData.str (sg1 c)]) (fun c => !decide (sg1 c ∈ names1)) (fun c => PyData.str (sg1 c)) rfl T.nd (blkOk_by (N := N_law) (sc := defScope s_law) (by decide +kernel)) ?e3 (by decide) ?e4 ?e5 ?e6 ?e7)) ?e8 hsp ?e9 ?e10) ?e11 ?e12)
                    case e1 => walk_at "At"
                    case e2 => decide
                    case e3 => exact IX.str EX.str
                    case e7 => rw [letters_len]; omega
                    case e9 => intro z q; cases q
                    case e10 => intro _ _; rfl
                    case e12 => rfl
                    case e8 => walk_at "E"
                    case e4 =>
                      intro s H C cl fp x hx
                      exact GX.inB (N := N_law) (own := [17]) (vis := [2, 17]) (sc := defScope s_law) rfl T.nd rfl (by decide +kernel) fun TV => GX.nmV TV (by walk_at "At") (by decide)
                    case e5 =>
                      rintro s H C cl fp Γ' c hx
                      refine TsX.inB (N := N_law) (own := [17]) (vis := [2, 17]) (sc := defScope s_law) rfl T.nd rfl (by decide +kernel) fun TV => TsX.one ?_
                      refine' TX.eq ?f1 ?f2
                      case f1 => walk_at "T"
                      case f2 => rw [any_str]
                    case e6 =>
                      rintro s H C cl fp Γ' c hx _
                      refine EX.inB (N := N_law) (own := [17]) (vis := [2, 17]) (sc := defScope s_law) rfl T.nd rfl (by decide +kernel) fun TV => ?_
                      walk_at "E"
                    case e11 =>
                      walk_at "S"
                      case k5 =>
                        have smD : ∀ j, (((p.doors.take j).map saidD).map (encDoor nm)).length ≤ 4 := fun j => by simp only [List.length_map, List.length_take]; omega
                        have ctD : ∀ j, (((List.range (min j 4)).map (cutAt p ns)).map (encDoor nm)).length ≤ 4 := fun j => by simp only [List.length_map, List.length_range]; omega
                        refine SXs.reL (l' := [.scr K ns, .dat (.list (row.map .int)), .dat (.list (names1.map .str)), .dat (encProg nm p), .dat (.bool (isProg p)), .dat (.int (rI row 74 % (p.doors.length : Int))), .dat (encProg nm (ordF p row)), .dat (.str sp1), .dat (encProg nm (moreF p row)), .no, .no, .no, .no, .dat (.tuple (p.doors.map (encDoor nm))), .dat (.tuple (p.shelves.map (encShelf nm))), .no, .no, .no, .no]) (by rw [em]; rfl) ?_
                        walk_at "S"
                        case k5 =>
                          walk_at "S"
                          case k5 =>
                            walk_at "L"
                            case W => exact fun j l2 => ∃ a b c, l2 = [.scr K ns, .dat (.list (row.map .int)), .dat (.list (names1.map .str)), .dat (encProg nm p), .dat (.bool (isProg p)), .dat (.int (rI row 74 % (p.doors.length : Int))), .dat (encProg nm (ordF p row)), .dat (.str sp1), .dat (encProg nm (moreF p row)), .own (((p.doors.take j).map saidD).map (encDoor nm)), .own (((List.range j).map (cutAt p ns)).map (encDoor nm)), a, .no, .dat (.tuple (p.doors.map (encDoor nm))), .dat (.tuple (p.shelves.map (encShelf nm))), b, c, .no, .no]
                            case k1 => exact IX.range (by walk_at "A") (by rw [elP]; omega) rfl B.range
                            case k3 => exact ⟨_, _, _, rfl⟩
                            case k4 =>
                              rintro j d l2 hd ⟨a, b, c, rfl⟩
                              have hj : j < p.doors.length := by
                                have := (List.getElem?_eq_some_iff.mp hd).1
                                rw [nums_len, elP] at this
                                omega
                              rw [nums_get (show j < (lenD (.tuple (p.doors.map (encDoor nm)))).toNat by rw [elP]; omega)] at hd
                              cases hd
                              have hx : p.doors[j]? = some (doorAt p j) := by unfold doorAt; rw [List.getD_eq_getElem?_getD, List.getElem?_eq_getElem hj]; rfl
                              have hix : ixD (.tuple (p.doors.map (encDoor nm))) (j : Int) = some (encDoor nm (doorAt p j)) := by
                                refine atI_nat' ?_
                                rw [List.getElem?_map, hx]; rfl
                              have hm := List.mem_of_getElem? hx
                              have ns1 : ((p.doors.take (j + 1)).map saidD).map (encDoor nm) = ((p.doors.take j).map saidD).map (encDoor nm) ++ [encDoor nm (saidD (doorAt p j))] := by
                                rw [take_succ_eq hx, List.map_append, List.map_append]; rfl
                              have ns2 : ((List.range (j + 1)).map (cutAt p ns)).map (encDoor nm) = ((List.range j).map (cutAt p ns)).map (encDoor nm) ++ [encDoor nm (cutAt p ns j)] := by
                                rw [List.range_succ, List.map_append, List.map_append]; rfl
                              have cl1 : (((p.doors.take j).map saidD).map (encDoor nm)).length ≤ 4 := smD j
                              have cl2 : (((List.range j).map (cutAt p ns)).map (encDoor nm)).length ≤ 4 := by simp only [List.length_map, List.length_range]; omega
                              rw [ns1, ns2]
                              have hct : cutAt p ns j = ((doorAt p j).1, (doorAt p j).2.take (cellAt ns j % (((doorAt p j).2.length : Int) + 1)).toNat) := rfl
                              rw [hct]
                              have hbl := hok.bl _ hm
                              have hpl := (hok.pl _ hm).1
                              generalize doorAt p j = dr at hix hbl hpl ⊢
                              generalize ((p.doors.take j).map saidD).map (encDoor nm) = sa at cl1 ⊢
                              generalize ((List.range j).map (cutAt p ns)).map (encDoor nm) = cu at cl2 ⊢
                              refine SXs.reL (l' := [.scr K ns, .dat (.list (row.map .int)), .dat (.list (names1.map .str)), .dat (encProg nm p), .dat (.bool (isProg p)), .dat (.int (rI row 74 % (p.doors.length : Int))), .dat (encProg nm (ordF p row)), .dat (.str sp1), .dat (encProg nm (moreF p row)), .own sa, .own cu, .dat (.int (j : Nat)), .no, .dat (.tuple (p.doors.map (encDoor nm))), .dat (.tuple (p.shelves.map (encShelf nm))), b, c, .no, .no]) rfl ?_
                              refine' SXs.cons (SX.asg (is := [15, 16]) (d := encDoor nm dr) (ds := [encPaper nm dr.1, .tuple (encMs nm dr.2)]) ?g1 ?g2 ?g3 ?g4 ?g5)
                              case g1 => walk_at "E"
                              case g2 => exact GX.tup rfl (GsX.nm T (by walk_at "At") (by decide) (GsX.nm T (by walk_at "At") (by decide) GsX.nil)) rfl
                              case g4 => rfl
                              case g5 => rfl
                              case g3 =>
                                refine SXs.reL (l' := [.scr K ns, .dat (.list (row.map .int)), .dat (.list (names1.map .str)), .dat (encProg nm p), .dat (.bool (isProg p)), .dat (.int (rI row 74 % (p.doors.length : Int))), .dat (encProg nm (ordF p row)), .dat (.str sp1), .dat (encProg nm (moreF p row)), .own sa, .own cu, .dat (.int (j : Nat)), .no, .dat (.tuple (p.doors.map (encDoor nm))), .dat (.tuple (p.shelves.map (encShelf nm))), .dat (encPaper nm dr.1), .dat (.tuple (encMs nm dr.2)), .no, .no]) rfl ?_
                                have hp2 : ixD (encPaper nm dr.1) 2 = some (.tuple (dr.1.places.map (encPl nm))) := atI_nat' (j := 2) rfl
                                have hml : (encMs nm dr.2).length = dr.2.length := by rw [encMs_map, List.length_map]
                                have elM : lenD (.tuple (encMs nm dr.2)) = (dr.2.length : Nat) := by show (((encMs nm dr.2).length : Nat) : Int) = _; rw [hml]
                                have hmp : 0 < lenD (.tuple (encMs nm dr.2)) + 1 := by rw [elM]; omega
                                have hcell : ixD (.list (ns.map .int ++ [.int 0, .int 0, .int 0, .int 0, .int 0])) (1 + (j : Int)) = some (.int (cellAt ns j)) := by
                                  have := ixR (row := ns ++ [0, 0, 0, 0, 0]) (j := 1 + (j : Int)) (by omega) (by rw [List.length_append]; show 1 + (j : Int) < ((ns.length + 5 : Nat) : Int); omega)
                                  rw [List.map_append, show (1 + (j : Int)).toNat = 1 + j by omega] at this
                                  exact this
                                refine' SXs.cons (SX.app (i := 9) T ?h1 ?h2 rfl (EX.eq (EX.tup (AX.cons ?h3 (AX.cons (EX.bin ?h4 (EX.tupOf rfl B (EL.ex (EL.lcA (xs := dr.1.places) (ow := [("place", 18)]) (is := [18]) (en := encPl nm) (tv := fun q => [encPl nm q]) (fun q => encM nm (.say q.1)) rfl T.nd (blkOk_by (N := N_law) (sc := defScope s_law) (by decide +kernel)) ?i1 (by decide) ?i2 ?i3 ?i4)) ?i5 ?i6 ?i7) (opAddT ?i8)) AX.nil)) ?h5) (enc_said dr).symm) rfl ?n9 ?h6 ?h7 ?j1 ?j2 ?j3 ?j4 ?j5 ?j6)
                                case h1 => walk_at "At"
                                case h2 => decide
                                case h3 => walk_at "E"
                                case h4 => walk_at "E"
                                case i1 => exact IX.tup (by walk_at "E")
                                case i4 => omega
                                case i5 => rfl
                                case i6 => rfl
                                case i7 => rfl
                                case i8 => rw [hml, List.length_map]; exact le_size (by omega)
                                case h5 => walk_at "sz"
                                case n9 => rfl
                                case h6 => omega
                                case j1 => rfl
                                case j2 => rfl
                                case j3 => rfl
                                case j4 => rfl
                                case j5 => rfl
                                case j6 => rfl
                                case i2 =>
                                  intro s H C cl fp x hx
                                  exact GX.inB (N := N_law) (own := [18]) (vis := [18]) (sc := defScope s_law) rfl T.nd rfl (by decide +kernel) fun TV => GX.nmV TV (by walk_at "At") (by decide)
                                case i3 =>
                                  rintro s H C cl fp Γ' q hx
                                  refine EX.inB (N := N_law) (own := [18]) (vis := [18]) (sc := defScope s_law) rfl T.nd rfl (by decide +kernel) fun TV => ?_
                                  have h0 : ixD (encPl nm q) 0 = some (.str (nm q.1)) := ix0
                                  refine' EX.eq ?k1 ?k2
                                  case k1 => walk_at "E"
                                  case k2 => rw [encM]
                                case h7 =>
                                  have hcut : encDoor nm (dr.1, dr.2.take (cellAt ns j % ((dr.2.length : Int) + 1)).toNat) = .tuple [encPaper nm dr.1, .tuple (cutG (encMs nm dr.2) none (some (cellAt ns j % (lenD (.tuple (encMs nm dr.2)) + 1))))] := by
                                    rw [cutG_take _ _ (Int.emod_nonneg _ (by omega)), elM]
                                    unfold encDoor
                                    rw [encMs_map, encMs_map, List.map_take]
                                  refine SXs.reL (l' := [.scr K ns, .dat (.list (row.map .int)), .dat (.list (names1.map .str)), .dat (encProg nm p), .dat (.bool (isProg p)), .dat (.int (rI row 74 % (p.doors.length : Int))), .dat (encProg nm (ordF p row)), .dat (.str sp1), .dat (encProg nm (moreF p row)), .own (sa ++ [encDoor nm (saidD dr)]), .own cu, .dat (.int (j : Nat)), .no, .dat (.tuple (p.doors.map (encDoor nm))), .dat (.tuple (p.shelves.map (encShelf nm))), .dat (encPaper nm dr.1), .dat (.tuple (encMs nm dr.2)), .no, .no]) rfl ?_
                                  refine' SXs.cons (SX.app (i := 10) T ?l1 ?l2 rfl (EX.eq (EX.tup (AX.cons ?l3 (AX.cons (EX.slT ?l4 OX.none (OX.some (EX.bin (EX.ix ?l5 ?l6 hcell ?l7 ?l8) ?l9 (opMod hmp)))) AX.nil)) ?l10) hcut.symm) rfl ?n10 ?l11 ?l12 ?m1 ?m2 ?m3 ?m4 ?m5 ?m6)
                                  case l1 => walk_at "At"
                                  case l2 => decide
                                  case l3 => walk_at "E"
                                  case l4 => walk_at "E"
                                  case l5 => walk_at "E"
                                  case l6 => walk_at "E"
                                  case l7 => intro z q; cases q
                                  case l8 => intro _ _; rfl
                                  case l9 => walk_at "E"
                                  case l10 => walk_at "sz"
                                  case n10 => rfl
                                  case l11 => omega
                                  case m1 => rfl
                                  case m2 => rfl
                                  case m3 => rfl
                                  case m4 => rfl
                                  case m5 => rfl
                                  case m6 => rfl
                                  case l12 => exact SXs.nil ⟨.dat (.int (j : Nat)), .dat (encPaper nm dr.1), .dat (.tuple (encMs nm dr.2)), rfl⟩
                            case k5 =>
                              rintro l2 ⟨a, b, c, rfl⟩
                              rw [nums_len, elP, Int.toNat_natCast, List.take_length]
                              refine SXs.freeze (i := 9) fz rfl ?_
                              refine SXs.freeze (i := 10) fz rfl ?_
                              have o1 := ord_same hok row
                              have o2 := more_same hok row
                              have o3 := said_same hok
                              have o4 := cut_same hok ns
                              refine SXs.reL (l' := [.scr K ns, .dat (.list (row.map .int)), .dat (.list (names1.map .str)), .dat (encProg nm p), .dat (.bool (isProg p)), .dat (.int (rI row 74 % (p.doors.length : Int))), .dat (encProg nm (ordF p row)), .dat (.str sp1), .dat (encProg nm (moreF p row)), .dat (.list ((saidF p).doors.map (encDoor nm))), .dat (.list ((cutF p ns).doors.map (encDoor nm))), a, .no, .dat (.tuple (p.doors.map (encDoor nm))), .dat (.tuple (p.shelves.map (encShelf nm))), b, c, .no, .no]) rfl ?_
                              refine' SXs.cons (SX.for (is := [12]) (ds := [encProg nm (ordF p row), encProg nm (moreF p row), encProg nm (saidF p)]) (tv := fun d => [d]) PassesOwn.never rfl (IX.list (EL.ex (EL.lst ?y1 ?y2))) ?y3 (fun j l2 => ∃ e, l2 = [.scr K ns, .dat (.list (row.map .int)), .dat (.list (names1.map .str)), .dat (encProg nm p), .dat (.bool (isProg p)), .dat (.int (rI row 74 % (p.doors.length : Int))), .dat (encProg nm (ordF p row)), .dat (.str sp1), .dat (encProg nm (moreF p row)), .dat (.list ((saidF p).doors.map (encDoor nm))), .dat (.list ((cutF p ns).doors.map (encDoor nm))), a, e, .dat (.tuple (p.doors.map (encDoor nm))), .dat (.tuple (p.shelves.map (encShelf nm))), b, c, .no, .no]) ?y4 ?y5 ?y6)
                              case y1 => walk_at "A"
                              case y2 => exact (show 3 ≤ sizeLine by decide)
                              case y3 => exact fun d _ => GX.nm T (by walk_at "At") (by decide)
                              case y4 => exact ⟨_, rfl⟩
                              case y5 =>
                                rintro j d l2 hd ⟨e, rfl⟩
                                obtain ⟨p', hp1, hp2, hp3⟩ : ∃ p' : Prog, d = encProg nm p' ∧ isProg p' = isProg p ∧ smallProg p' := by
                                  have hm := List.mem_of_getElem? hd
                                  have hm : d = encProg nm (ordF p row) ∨ d = encProg nm (moreF p row) ∨ d = encProg nm (saidF p) := by simpa using hm
                                  rcases hm with rfl | rfl | rfl
                                  · exact ⟨_, rfl, o1.1, o1.2⟩
                                  · exact ⟨_, rfl, o2.1, o2.2⟩
                                  · exact ⟨_, rfl, o3.1, o3.2⟩
                                have RT : R_law_same_told nm [d, .bool (isProg p)] (.bool (isProg p' == isProg p)) := ⟨p', _, hp3, by rw [hp1], rfl⟩
                                refine SXs.reL (l' := [.scr K ns, .dat (.list (row.map .int)), .dat (.list (names1.map .str)), .dat (encProg nm p), .dat (.bool (isProg p)), .dat (.int (rI row 74 % (p.doors.length : Int))), .dat (encProg nm (ordF p row)), .dat (.str sp1), .dat (encProg nm (moreF p row)), .dat (.list ((saidF p).doors.map (encDoor nm))), .dat (.list ((cutF p ns).doors.map (encDoor nm))), a, .dat d, .dat (.tuple (p.doors.map (encDoor nm))), .dat (.tuple (p.shelves.map (encShelf nm))), b, c, .no, .no]) rfl ?_
                                refine' SXs.cons (SX.iteF (TX.eq ?o1 ?o2) ?o3)
                                case o1 => walk_at "T"
                                case o2 => rw [hp2]; simp
                                case o3 => exact SXs.nil (SXs.nil ⟨_, rfl⟩)
                              case y6 =>
                                rintro l2 ⟨e, rfl⟩
                                have RT : R_law_same_told nm [encProg nm (cutF p ns), .bool true] (.bool (isProg (cutF p ns) == true)) := ⟨_, _, o4.2, rfl, rfl⟩
                                refine' SXs.cons (SX.ret (EX.eq (EX.or (k := !isProg p) (m := isProg (cutF p ns) == true) ?q1 fun _ => EX.one ?q2) ?q3) rfl)
                                case q1 => walk_at "E"
                                case q2 => walk_at "E"
                                case q3 =>
                                  have := o4.1
                                  cases h : isProg p with
                                  | false => rfl
                                  | true => rw [this h]; rfl
end
/-! ### what the top has written -/
structure Txt (K : PySem.W.Frag) (mg : Str → Option Value) (C D : Addr) : Prop where
  p_is_whole : Pl K mg "is_whole" s_is_whole ["thing"]
  p_is_name : Pl K mg "is_name" s_is_name ["thing"]
  p_are_fields : Pl K mg "are_fields" s_are_fields ["thing", "depth"]
  p_is_kind_within : Pl K mg "is_kind_within" s_is_kind_within ["thing", "depth"]
  p_is_kind : Pl K mg "is_kind" s_is_kind ["thing"]
  p_place_of : Pl K mg "place_of" s_place_of ["fields", "name"]
  p_field_kind : Pl K mg "field_kind" s_field_kind ["fields", "name"]
  p_step_kind : Pl K mg "step_kind" s_step_kind ["kind", "step"]
  p_part_kind : Pl K mg "part_kind" s_part_kind ["kind", "path"]
  p_is_way : Pl K mg "is_way" s_is_way ["thing"]
  p_is_side : Pl K mg "is_side" s_is_side ["thing"]
  p_is_place : Pl K mg "is_place" s_is_place ["thing"]
  p_are_places : Pl K mg "are_places" s_are_places ["thing"]
  p_is_paper : Pl K mg "is_paper" s_is_paper ["thing"]
  p_span_of : Pl K mg "span_of" s_span_of ["width"]
  p_is_text : Pl K mg "is_text" s_is_text ["thing"]
  p_are_worths : Pl K mg "are_worths" s_are_worths ["kinds", "things"]
  p_is_worth : Pl K mg "is_worth" s_is_worth ["kind", "thing"]
  p_is_path : Pl K mg "is_path" s_is_path ["thing"]
  p_are_names : Pl K mg "are_names" s_are_names ["thing"]
  p_has_worth : Pl K mg "has_worth" s_has_worth ["kind", "worth"]
  p_is_short : Pl K mg "is_short" s_is_short ["thing"]
  p_is_longer : Pl K mg "is_longer" s_is_longer ["thing"]
  p_is_statement : Pl K mg "is_statement" s_is_statement ["thing", "depth"]
  p_is_body : Pl K mg "is_body" s_is_body ["thing", "depth"]
  p_are_doors : Pl K mg "are_doors" s_are_doors ["thing"]
  p_are_shelves : Pl K mg "are_shelves" s_are_shelves ["thing"]
  p_call_holds : Pl K mg "call_holds" s_call_holds ["scope", "one"]
  p_making_holds : Pl K mg "making_holds" s_making_holds ["scope", "one"]
  p_changing_holds : Pl K mg "changing_holds" s_changing_holds ["scope", "one"]
  p_taking_holds : Pl K mg "taking_holds" s_taking_holds ["scope", "one"]
  p_statement_holds : Pl K mg "statement_holds" s_statement_holds ["scope", "one"]
  p_body_holds : Pl K mg "body_holds" s_body_holds ["scope", "body"]
  p_door_holds : Pl K mg "door_holds" s_door_holds ["papers", "shelves", "door"]
  p_is_program : Pl K mg "is_program" s_is_program ["thing"]
  p_law_draws : Pl K mg "_law_draws" s_law_draws ["cell", "count"]
  p_law_word : Pl K mg "_law_word" s_law_word ["numbers"]
  p_law_names : Pl K mg "_law_names" s_law_names ["row"]
  p_law_worth : Pl K mg "_law_worth" s_law_worth ["kind", "seed"]
  p_law_ladder : Pl K mg "_law_ladder" s_law_ladder ["row", "names"]
  p_law_closed : Pl K mg "_law_closed" s_law_closed ["frames"]
  p_law_ended : Pl K mg "_law_ended" s_law_ended ["frames"]
  p_law_plans : Pl K mg "_law_plans" s_law_plans ["names", "row"]
  p_law_shelves : Pl K mg "_law_shelves" s_law_shelves ["doors", "number", "seed"]
  p_law_named : Pl K mg "_law_named" s_law_named ["number", "bound", "odd", "draw"]
  p_law_bound : Pl K mg "_law_bound" s_law_bound ["door"]
  p_law_fitting : Pl K mg "_law_fitting" s_law_fitting ["word", "door", "x", "y", "last"]
  p_law_calling : Pl K mg "_law_calling" s_law_calling ["world", "own", "odd", "r"]
  p_law_loose : Pl K mg "_law_loose" s_law_loose ["world", "own", "odd", "r"]
  p_law_begun : Pl K mg "_law_begun" s_law_begun ["world", "shelves", "at", "all_made"]
  p_law_bodies : Pl K mg "_law_bodies" s_law_bodies ["world", "shelves", "all_made", "cells"]
  p_law_program : Pl K mg "_law_program" s_law_program ["world", "shelves", "bodies"]
  p_law_by : Pl K mg "_law_by" s_law_by ["row", "names", "cells"]
  p_law_same_told : Pl K mg "_law_same_told" s_law_same_told ["program", "due"]
  m_knows : PlM K C "knows" "Scope.knows" s_knows ["self", "name"]
  m_may_make : PlM K C "may_make" "Scope.may_make" s_may_make ["self", "name", "kind"]
  m_may_change : PlM K C "may_change" "Scope.may_change" s_may_change ["self", "name"]
  m_may_take : PlM K C "may_take" "Scope.may_take" s_may_take ["self", "name"]
  m_may_hand : PlM K C "may_hand" "Scope.may_hand" s_may_hand ["self", "name", "way", "kind"]
  m_kind_at : PlM K C "kind_at" "Scope.kind_at" s_kind_at ["self", "name", "path"]
  m_init : PlI K mg "Scope" C "Scope.__init__" s_init ["self", "papers", "shelves", "paper"]
  sc : ScC K C
  xn : Exn K mg "NoPart" D
  bi : Bi mg
  g_MOST_FIELDS : GlI mg "MOST_FIELDS" 6
  g_DEEPEST : GlI mg "DEEPEST" 5
  g_MOST_ITEMS : GlI mg "MOST_ITEMS" 60
  g_MOST_SIGNS : GlI mg "MOST_SIGNS" 60
  g_LETTERS : GlS mg "LETTERS" letters
  g_SIGNS : GlS mg "SIGNS" printed
section
variable {P : Program} {w : World} {K : PySem.W.Frag} {mg : Str → Option Value} {base : Heap} {C D : Addr}
theorem prog_of (T : Txt K mg C D) (nm : Nat → Str) (g : Good nm) : Cal P w K mg base "is_program" 26 ["thing"] (R_is_program nm) := by
  have B := T.bi
  have Cw : Cal P w K mg base "is_whole" 1 ["thing"] R_is_whole := ok_is_whole T.p_is_whole B
  have Cn : Cal P w K mg base "is_name" 1 ["thing"] R_is_name := ok_is_name T.p_is_name B T.g_LETTERS
  have Ck : Cal P w K mg base "is_kind" 12 ["thing"] (R_is_kind nm) := ok_is_kind T.p_is_kind T.g_DEEPEST (all_KW g T.p_is_kind_within T.p_are_fields B T.g_MOST_FIELDS Cw Cn 5)
  have Cpo : Cal P w K mg base "place_of" 1 ["fields", "name"] (R_place_of nm) := ok_place_of g T.p_place_of B
  have Cfk : Cal P w K mg base "field_kind" 2 ["fields", "name"] (R_field_kind nm) := ok_field_kind T.p_field_kind B Cpo
  have Csk : CalX P w K mg base "step_kind" 3 ["kind", "step"] D (R_step_kind nm) := ok_step_kind T.p_step_kind B T.g_MOST_ITEMS T.xn Cw Cfk
  have Cpk : CalX P w K mg base "part_kind" 4 ["kind", "path"] D (R_part_kind nm) := ok_part_kind T.p_part_kind Csk
  have Cy : Cal P w K mg base "is_way" 1 ["thing"] R_is_way := ok_is_way T.p_is_way B
  have Csd : Cal P w K mg base "is_side" 2 ["thing"] R_is_side := ok_is_side T.p_is_side B Cw
  have Cpp : Cal P w K mg base "is_paper" 15 ["thing"] (R_is_paper nm) := ok_is_paper g T.p_is_paper B Cn Csd (ok_are_places g T.p_are_places B (ok_is_place g T.p_is_place B Cn Cy Ck)) Ck
  have Ciw : Cal P w K mg base "is_worth" 13 ["kind", "thing"] (R_is_worth nm 5) := all_is_worth g T.p_is_worth T.p_are_worths B T.g_MOST_ITEMS Cw (ok_span_of T.p_span_of B) (ok_is_text T.p_is_text B T.g_MOST_SIGNS T.g_SIGNS) Cfk 5
  have Chw : Cal P w K mg base "has_worth" 14 ["kind", "worth"] (R_has_worth nm) := ok_has_worth T.p_has_worth Ck Ciw
  have Cns : Cal P w K mg base "are_names" 2 ["thing"] (R_are_names nm) := ok_are_names g T.p_are_names B Cn
  have Cpt : Cal P w K mg base "is_path" 2 ["thing"] (R_is_path nm) := ok_is_path T.p_is_path B Cw
  have Csh : Cal P w K mg base "is_short" 2 ["thing"] (R_is_short nm) := ok_is_short g T.p_is_short B Cw Cn
  have Clo : Cal P w K mg base "is_longer" 15 ["thing"] (R_is_longer nm) := ok_is_longer g T.p_is_longer B Cn Cns Cpt Chw
  have Cbd : Cal P w K mg base "is_body" 24 ["thing", "depth"] (R_is_body nm 3) := all_is_body g T.p_is_statement T.p_is_body B Cn Csh Clo 3 (by decide)
  have Cds : Cal P w K mg base "are_doors" 25 ["thing"] (R_are_doors nm) := ok_are_doors g T.p_are_doors B Cpp Cbd
  have Cshs : Cal P w K mg base "are_shelves" 15 ["thing"] (R_are_shelves nm) := ok_are_shelves g T.p_are_shelves B Cn Csd Chw
  have Mk := ok_knows (P := P) (w := w) (mg := mg) (base := base) T.sc T.m_knows
  have Mm := ok_may_make (P := P) (w := w) (mg := mg) (base := base) g T.sc T.m_may_make
  have Mc := ok_may_change (P := P) (w := w) (mg := mg) (base := base) g T.sc T.m_may_change Mk
  have Mt := ok_may_take (P := P) (w := w) (mg := mg) (base := base) g T.sc T.m_may_take Mk
  have Mh := ok_may_hand (P := P) (w := w) (mg := mg) (base := base) g T.sc T.m_may_hand Mk
  have Ma := ok_kind_at (P := P) (w := w) (mg := mg) (base := base) g T.sc T.xn T.m_kind_at Mk Cpk
  have Sc := ok_call_holds g T.sc B T.p_call_holds Mh Mm
  have Sm := ok_making_holds g T.sc T.p_making_holds Ma Mm
  have Sg := ok_changing_holds g T.sc T.p_changing_holds Mk Mc Ma
  have St := ok_taking_holds g T.sc T.p_taking_holds Mk Mt
  have Sb := all_body_holds g T.sc T.p_statement_holds T.p_body_holds Mk Sm Sg St Sc 3
  have Si := ok_init (P := P) (w := w) (mg := mg) (base := base) g T.sc T.m_init
  exact ok_is_program g B T.p_is_program Cds Cshs (ok_door_holds g B T.p_door_holds Si Sb)
theorem by_of (T : Txt K mg C D) (nm : Nat → Str) : Cal P w K mg base "_law_by" 9 ["row", "names", "cells"] (R_law_by nm) := by
  have B := T.bi
  have Cw : Cal P w K mg base "_law_worth" 6 ["kind", "seed"] (R_law_worth nm 5) := all_law_worth T.p_law_worth B 5
  have Cd : Cal P w K mg base "_law_draws" 1 ["cell", "count"] R_law_draws := ok_law_draws T.p_law_draws B
  have Cb : Cal P w K mg base "_law_bound" 1 ["door"] (R_law_bound nm) := ok_law_bound T.p_law_bound
  have Cc := ok_law_closed (P := P) (w := w) (mg := mg) (base := base) T.p_law_closed B
  have Ce := ok_law_ended (P := P) (w := w) (mg := mg) (base := base) T.p_law_ended B Cc
  have Cl := ok_law_loose T.p_law_loose B (ok_law_fitting T.p_law_fitting B Cb) Cw (ok_law_calling T.p_law_calling B Cb (ok_law_named T.p_law_named B))
  exact ok_law_by T.p_law_by B (ok_law_ladder T.p_law_ladder B) (ok_law_plans T.p_law_plans B) (ok_law_shelves T.p_law_shelves B) (ok_law_bodies T.p_law_bodies B Cd (ok_law_begun T.p_law_begun B Cw) Cl Cc Ce) (ok_law_program T.p_law_program B Cw)
theorem law_of {f : Addr} {fd : FuncData} (T : Txt K mg C D) (F : Fun K "law" "law" s_law f fd) : FnOk P w K mg base CX0 28 f fd ["script"] (spLaw K) :=
  ok_law F T.bi (ok_law_draws T.p_law_draws T.bi) (ok_law_names T.p_law_names T.bi (ok_law_word T.p_law_word T.bi)) (by_of T) (prog_of T) fun nm g => ok_law_same_told T.p_law_same_told T.bi (prog_of T nm g)
/-- a class of the own errors holds itself -/
theorem exm_own {S : Addr} (h1 : PySem.W.subIn K (.ref S) (.type "BaseException") = some true) (h2 : PySem.W.isClsIn K S = true) (h3 : PySem.W.typeIn K (.ref S) = some (.type "type")) (h4 : PySem.W.subIn K (.ref S) (.ref S) = some true) : PySem.W.exmOne K (.ref S) (.ref S) = some true := by
  have e1 : (PySem.W.subIn K (.ref S) (.type "BaseException") == some true) = true := by rw [h1]; rfl
  have c : (PySem.W.clsIn K S).isSome = true := h2
  have e2 : ((PySem.W.clsIn K S).isSome && PySem.W.typeIn K (.ref S) == some (.type "type")) = true := by rw [c, h3]; rfl
  show (if (PySem.W.subIn K (.ref S) (.type "BaseException") == some true) = true then (if ((PySem.W.clsIn K S).isSome && PySem.W.typeIn K (.ref S) == some (.type "type")) = true then PySem.W.subIn K (.ref S) (.ref S) else none) else none) = some true
  rw [if_pos e1, if_pos e2, h4]
end
theorem all_mk {P : Program} {w : World} {K : PySem.W.Frag} {h : Heap} {mg : Str → Option Value} {fa C D f0 f1 f2 f3 f4 f5 f6 f7 f8 f9 f10 f11 f12 f13 f14 f15 f16 f17 f18 f19 f20 f21 f22 f23 f24 f25 f26 f27 f28 f29 f30 f31 f32 f33 f34 f35 f36 f37 f38 f39 f40 f41 f42 f43 f44 f45 f46 f47 f48 f49 f50 f51 f52 f53 f54 fm0 fm1 fm2 fm3 fm4 fm5 fm6 : Addr} (X : K.In h) (G : h.Ns mainGlobals mg) (hfa : mg "law" = some (.ref fa))
    {od0 an0 od1 an1 od2 an2 od3 an3 od4 an4 od5 an5 od6 an6 od7 an7 od8 an8 od9 an9 od10 an10 od11 an11 od12 an12 od13 an13 od14 an14 od15 an15 od16 an16 od17 an17 od18 an18 od19 an19 od20 an20 od21 an21 od22 an22 od23 an23 od24 an24 od25 an25 od26 an26 od27 an27 od28 an28 od29 an29 od30 an30 od31 an31 od32 an32 od33 an33 od34 an34 od35 an35 od36 an36 od37 an37 od38 an38 od39 an39 od40 an40 od41 an41 od42 an42 od43 an43 od44 an44 od45 an45 od46 an46 od47 an47 od48 an48 od49 an49 od50 an50 od51 an51 od52 an52 od53 an53 od54 an54 odm0 anm0 odm1 anm1 odm2 anm2 odm3 anm3 odm4 anm4 odm5 anm5 odm6 anm6 : Option Addr} {sl0 sl1 sl2 sl3 sl4 sl5 sl6 sl7 sl8 sl9 sl10 sl11 sl12 sl13 sl14 sl15 sl16 sl17 sl18 sl19 sl20 sl21 sl22 sl23 sl24 sl25 sl26 sl27 sl28 sl29 sl30 sl31 sl32 sl33 sl34 sl35 sl36 sl37 sl38 sl39 sl40 sl41 sl42 sl43 sl44 sl45 sl46 sl47 sl48 sl49 sl50 sl51 sl52 sl53 sl54 slm0 slm1 slm2 slm3 slm4 slm5 slm6 : Array (Option Value)} {oc0 kv0 dc0 pm0 cd0 ct0 oc1 kv1 dc1 pm1 cd1 ct1 oc2 kv2 dc2 pm2 cd2 ct2 oc3 kv3 dc3 pm3 cd3 ct3 oc4 kv4 dc4 pm4 cd4 ct4 oc5 kv5 dc5 pm5 cd5 ct5 oc6 kv6 dc6 pm6 cd6 ct6 oc7 kv7 dc7 pm7 cd7 ct7 oc8 kv8 dc8 pm8 cd8 ct8 oc9 kv9 dc9 pm9 cd9 ct9 oc10 kv10 dc10 pm10 cd10 ct10 oc11 kv11 dc11 pm11 cd11 ct11 oc12 kv12 dc12 pm12 cd12 ct12 oc13 kv13 dc13 pm13 cd13 ct13 oc14 kv14 dc14 pm14 cd14 ct14 oc15 kv15 dc15 pm15 cd15 ct15 oc16 kv16 dc16 pm16 cd16 ct16 oc17 kv17 dc17 pm17 cd17 ct17 oc18 kv18 dc18 pm18 cd18 ct18 oc19 kv19 dc19 pm19 cd19 ct19 oc20 kv20 dc20 pm20 cd20 ct20 oc21 kv21 dc21 pm21 cd21 ct21 oc22 kv22 dc22 pm22 cd22 ct22 oc23 kv23 dc23 pm23 cd23 ct23 oc24 kv24 dc24 pm24 cd24 ct24 oc25 kv25 dc25 pm25 cd25 ct25 oc26 kv26 dc26 pm26 cd26 ct26 oc27 kv27 dc27 pm27 cd27 ct27 oc28 kv28 dc28 pm28 cd28 ct28 oc29 kv29 dc29 pm29 cd29 ct29 oc30 kv30 dc30 pm30 cd30 ct30 oc31 kv31 dc31 pm31 cd31 ct31 oc32 kv32 dc32 pm32 cd32 ct32 oc33 kv33 dc33 pm33 cd33 ct33 oc34 kv34 dc34 pm34 cd34 ct34 oc35 kv35 dc35 pm35 cd35 ct35 oc36 kv36 dc36 pm36 cd36 ct36 oc37 kv37 dc37 pm37 cd37 ct37 oc38 kv38 dc38 pm38 cd38 ct38 oc39 kv39 dc39 pm39 cd39 ct39 oc40 kv40 dc40 pm40 cd40 ct40 oc41 kv41 dc41 pm41 cd41 ct41 oc42 kv42 dc42 pm42 cd42 ct42 oc43 kv43 dc43 pm43 cd43 ct43 oc44 kv44 dc44 pm44 cd44 ct44 oc45 kv45 dc45 pm45 cd45 ct45 oc46 kv46 dc46 pm46 cd46 ct46 oc47 kv47 dc47 pm47 cd47 ct47 oc48 kv48 dc48 pm48 cd48 ct48 oc49 kv49 dc49 pm49 cd49 ct49 oc50 kv50 dc50 pm50 cd50 ct50 oc51 kv51 dc51 pm51 cd51 ct51 oc52 kv52 dc52 pm52 cd52 ct52 oc53 kv53 dc53 pm53 cd53 ct53 oc54 kv54 dc54 pm54 cd54 ct54 ocm0 kvm0 dcm0 pmm0 cdm0 ctm0 ocm1 kvm1 dcm1 pmm1 cdm1 ctm1 ocm2 kvm2 dcm2 pmm2 cdm2 ctm2 ocm3 kvm3 dcm3 pmm3 cdm3 ctm3 ocm4 kvm4 dcm4 pmm4 cdm4 ctm4 ocm5 kvm5 dcm5 pmm5 cdm5 ctm5 ocm6 kvm6 dcm6 pmm6 cdm6 ctm6 : Value} {t_MOST_FIELDS t_DEEPEST t_MOST_ITEMS t_MOST_SIGNS t_LETTERS t_SIGNS : Tok}
    (a0 : PySem.W.nsIn K mainGlobals "law" = some (some (.ref f0)))
    (l0 : K.lookup f0 = some ⟨oc0, od0, .func (PySem.W.fnOf "law" "law" (defArgs s_law) (defBody s_law) (defScope s_law) .none kv0 dc0 pm0 an0 cd0 ct0), sl0⟩)
    (c0 : PySem.W.codeIn K cd0 "law" = true)
    (k0 : PySem.W.keepIn K (.ref f0) = true)
    (a1 : PySem.W.nsIn K mainGlobals "is_whole" = some (some (.ref f1)))
    (l1 : K.lookup f1 = some ⟨oc1, od1, .func (PySem.W.fnOf "is_whole" "is_whole" (defArgs s_is_whole) (defBody s_is_whole) (defScope s_is_whole) .none kv1 dc1 pm1 an1 cd1 ct1), sl1⟩)
    (c1 : PySem.W.codeIn K cd1 "is_whole" = true)
    (k1 : PySem.W.keepIn K (.ref f1) = true)
    (a2 : PySem.W.nsIn K mainGlobals "is_name" = some (some (.ref f2)))
    (l2 : K.lookup f2 = some ⟨oc2, od2, .func (PySem.W.fnOf "is_name" "is_name" (defArgs s_is_name) (defBody s_is_name) (defScope s_is_name) .none kv2 dc2 pm2 an2 cd2 ct2), sl2⟩)
    (c2 : PySem.W.codeIn K cd2 "is_name" = true)
    (k2 : PySem.W.keepIn K (.ref f2) = true)
    (a3 : PySem.W.nsIn K mainGlobals "are_fields" = some (some (.ref f3)))
    (l3 : K.lookup f3 = some ⟨oc3, od3, .func (PySem.W.fnOf "are_fields" "are_fields" (defArgs s_are_fields) (defBody s_are_fields) (defScope s_are_fields) .none kv3 dc3 pm3 an3 cd3 ct3), sl3⟩)
    (c3 : PySem.W.codeIn K cd3 "are_fields" = true)
    (k3 : PySem.W.keepIn K (.ref f3) = true)
    (a4 : PySem.W.nsIn K mainGlobals "is_kind_within" = some (some (.ref f4)))
    (l4 : K.lookup f4 = some ⟨oc4, od4, .func (PySem.W.fnOf "is_kind_within" "is_kind_within" (defArgs s_is_kind_within) (defBody s_is_kind_within) (defScope s_is_kind_within) .none kv4 dc4 pm4 an4 cd4 ct4), sl4⟩)
    (c4 : PySem.W.codeIn K cd4 "is_kind_within" = true)
    (k4 : PySem.W.keepIn K (.ref f4) = true)
    (a5 : PySem.W.nsIn K mainGlobals "is_kind" = some (some (.ref f5)))
    (l5 : K.lookup f5 = some ⟨oc5, od5, .func (PySem.W.fnOf "is_kind" "is_kind" (defArgs s_is_kind) (defBody s_is_kind) (defScope s_is_kind) .none kv5 dc5 pm5 an5 cd5 ct5), sl5⟩)
    (c5 : PySem.W.codeIn K cd5 "is_kind" = true)
    (k5 : PySem.W.keepIn K (.ref f5) = true)
    (a6 : PySem.W.nsIn K mainGlobals "place_of" = some (some (.ref f6)))
    (l6 : K.lookup f6 = some ⟨oc6, od6, .func (PySem.W.fnOf "place_of" "place_of" (defArgs s_place_of) (defBody s_place_of) (defScope s_place_of) .none kv6 dc6 pm6 an6 cd6 ct6), sl6⟩)
    (c6 : PySem.W.codeIn K cd6 "place_of" = true)
    (k6 : PySem.W.keepIn K (.ref f6) = true)
    (a7 : PySem.W.nsIn K mainGlobals "field_kind" = some (some (.ref f7)))
    (l7 : K.lookup f7 = some ⟨oc7, od7, .func (PySem.W.fnOf "field_kind" "field_kind" (defArgs s_field_kind) (defBody s_field_kind) (defScope s_field_kind) .none kv7 dc7 pm7 an7 cd7 ct7), sl7⟩)
    (c7 : PySem.W.codeIn K cd7 "field_kind" = true)
    (k7 : PySem.W.keepIn K (.ref f7) = true)
    (a8 : PySem.W.nsIn K mainGlobals "step_kind" = some (some (.ref f8)))
    (l8 : K.lookup f8 = some ⟨oc8, od8, .func (PySem.W.fnOf "step_kind" "step_kind" (defArgs s_step_kind) (defBody s_step_kind) (defScope s_step_kind) .none kv8 dc8 pm8 an8 cd8 ct8), sl8⟩)
    (c8 : PySem.W.codeIn K cd8 "step_kind" = true)
    (k8 : PySem.W.keepIn K (.ref f8) = true)
    (a9 : PySem.W.nsIn K mainGlobals "part_kind" = some (some (.ref f9)))
    (l9 : K.lookup f9 = some ⟨oc9, od9, .func (PySem.W.fnOf "part_kind" "part_kind" (defArgs s_part_kind) (defBody s_part_kind) (defScope s_part_kind) .none kv9 dc9 pm9 an9 cd9 ct9), sl9⟩)
    (c9 : PySem.W.codeIn K cd9 "part_kind" = true)
    (k9 : PySem.W.keepIn K (.ref f9) = true)
    (a10 : PySem.W.nsIn K mainGlobals "is_way" = some (some (.ref f10)))
    (l10 : K.lookup f10 = some ⟨oc10, od10, .func (PySem.W.fnOf "is_way" "is_way" (defArgs s_is_way) (defBody s_is_way) (defScope s_is_way) .none kv10 dc10 pm10 an10 cd10 ct10), sl10⟩)
    (c10 : PySem.W.codeIn K cd10 "is_way" = true)
    (k10 : PySem.W.keepIn K (.ref f10) = true)
    (a11 : PySem.W.nsIn K mainGlobals "is_side" = some (some (.ref f11)))
    (l11 : K.lookup f11 = some ⟨oc11, od11, .func (PySem.W.fnOf "is_side" "is_side" (defArgs s_is_side) (defBody s_is_side) (defScope s_is_side) .none kv11 dc11 pm11 an11 cd11 ct11), sl11⟩)
    (c11 : PySem.W.codeIn K cd11 "is_side" = true)
    (k11 : PySem.W.keepIn K (.ref f11) = true)
    (a12 : PySem.W.nsIn K mainGlobals "is_place" = some (some (.ref f12)))
    (l12 : K.lookup f12 = some ⟨oc12, od12, .func (PySem.W.fnOf "is_place" "is_place" (defArgs s_is_place) (defBody s_is_place) (defScope s_is_place) .none kv12 dc12 pm12 an12 cd12 ct12), sl12⟩)
    (c12 : PySem.W.codeIn K cd12 "is_place" = true)
    (k12 : PySem.W.keepIn K (.ref f12) = true)
    (a13 : PySem.W.nsIn K mainGlobals "are_places" = some (some (.ref f13)))
    (l13 : K.lookup f13 = some ⟨oc13, od13, .func (PySem.W.fnOf "are_places" "are_places" (defArgs s_are_places) (defBody s_are_places) (defScope s_are_places) .none kv13 dc13 pm13 an13 cd13 ct13), sl13⟩)
    (c13 : PySem.W.codeIn K cd13 "are_places" = true)
    (k13 : PySem.W.keepIn K (.ref f13) = true)
    (a14 : PySem.W.nsIn K mainGlobals "is_paper" = some (some (.ref f14)))
    (l14 : K.lookup f14 = some ⟨oc14, od14, .func (PySem.W.fnOf "is_paper" "is_paper" (defArgs s_is_paper) (defBody s_is_paper) (defScope s_is_paper) .none kv14 dc14 pm14 an14 cd14 ct14), sl14⟩)
    (c14 : PySem.W.codeIn K cd14 "is_paper" = true)
    (k14 : PySem.W.keepIn K (.ref f14) = true)
    (a15 : PySem.W.nsIn K mainGlobals "span_of" = some (some (.ref f15)))
    (l15 : K.lookup f15 = some ⟨oc15, od15, .func (PySem.W.fnOf "span_of" "span_of" (defArgs s_span_of) (defBody s_span_of) (defScope s_span_of) .none kv15 dc15 pm15 an15 cd15 ct15), sl15⟩)
    (c15 : PySem.W.codeIn K cd15 "span_of" = true)
    (k15 : PySem.W.keepIn K (.ref f15) = true)
    (a16 : PySem.W.nsIn K mainGlobals "is_text" = some (some (.ref f16)))
    (l16 : K.lookup f16 = some ⟨oc16, od16, .func (PySem.W.fnOf "is_text" "is_text" (defArgs s_is_text) (defBody s_is_text) (defScope s_is_text) .none kv16 dc16 pm16 an16 cd16 ct16), sl16⟩)
    (c16 : PySem.W.codeIn K cd16 "is_text" = true)
    (k16 : PySem.W.keepIn K (.ref f16) = true)
    (a17 : PySem.W.nsIn K mainGlobals "are_worths" = some (some (.ref f17)))
    (l17 : K.lookup f17 = some ⟨oc17, od17, .func (PySem.W.fnOf "are_worths" "are_worths" (defArgs s_are_worths) (defBody s_are_worths) (defScope s_are_worths) .none kv17 dc17 pm17 an17 cd17 ct17), sl17⟩)
    (c17 : PySem.W.codeIn K cd17 "are_worths" = true)
    (k17 : PySem.W.keepIn K (.ref f17) = true)
    (a18 : PySem.W.nsIn K mainGlobals "is_worth" = some (some (.ref f18)))
    (l18 : K.lookup f18 = some ⟨oc18, od18, .func (PySem.W.fnOf "is_worth" "is_worth" (defArgs s_is_worth) (defBody s_is_worth) (defScope s_is_worth) .none kv18 dc18 pm18 an18 cd18 ct18), sl18⟩)
    (c18 : PySem.W.codeIn K cd18 "is_worth" = true)
    (k18 : PySem.W.keepIn K (.ref f18) = true)
    (a19 : PySem.W.nsIn K mainGlobals "is_path" = some (some (.ref f19)))
    (l19 : K.lookup f19 = some ⟨oc19, od19, .func (PySem.W.fnOf "is_path" "is_path" (defArgs s_is_path) (defBody s_is_path) (defScope s_is_path) .none kv19 dc19 pm19 an19 cd19 ct19), sl19⟩)
    (c19 : PySem.W.codeIn K cd19 "is_path" = true)
    (k19 : PySem.W.keepIn K (.ref f19) = true)
    (a20 : PySem.W.nsIn K mainGlobals "are_names" = some (some (.ref f20)))
    (l20 : K.lookup f20 = some ⟨oc20, od20, .func (PySem.W.fnOf "are_names" "are_names" (defArgs s_are_names) (defBody s_are_names) (defScope s_are_names) .none kv20 dc20 pm20 an20 cd20 ct20), sl20⟩)
    (c20 : PySem.W.codeIn K cd20 "are_names" = true)
    (k20 : PySem.W.keepIn K (.ref f20) = true)
    (a21 : PySem.W.nsIn K mainGlobals "has_worth" = some (some (.ref f21)))
    (l21 : K.lookup f21 = some ⟨oc21, od21, .func (PySem.W.fnOf "has_worth" "has_worth" (defArgs s_has_worth) (defBody s_has_worth) (defScope s_has_worth) .none kv21 dc21 pm21 an21 cd21 ct21), sl21⟩)
    (c21 : PySem.W.codeIn K cd21 "has_worth" = true)
    (k21 : PySem.W.keepIn K (.ref f21) = true)
    (a22 : PySem.W.nsIn K mainGlobals "is_short" = some (some (.ref f22)))
    (l22 : K.lookup f22 = some ⟨oc22, od22, .func (PySem.W.fnOf "is_short" "is_short" (defArgs s_is_short) (defBody s_is_short) (defScope s_is_short) .none kv22 dc22 pm22 an22 cd22 ct22), sl22⟩)
    (c22 : PySem.W.codeIn K cd22 "is_short" = true)
    (k22 : PySem.W.keepIn K (.ref f22) = true)
    (a23 : PySem.W.nsIn K mainGlobals "is_longer" = some (some (.ref f23)))
    (l23 : K.lookup f23 = some ⟨oc23, od23, .func (PySem.W.fnOf "is_longer" "is_longer" (defArgs s_is_longer) (defBody s_is_longer) (defScope s_is_longer) .none kv23 dc23 pm23 an23 cd23 ct23), sl23⟩)
    (c23 : PySem.W.codeIn K cd23 "is_longer" = true)
    (k23 : PySem.W.keepIn K (.ref f23) = true)
    (a24 : PySem.W.nsIn K mainGlobals "is_statement" = some (some (.ref f24)))
    (l24 : K.lookup f24 = some ⟨oc24, od24, .func (PySem.W.fnOf "is_statement" "is_statement" (defArgs s_is_statement) (defBody s_is_statement) (defScope s_is_statement) .none kv24 dc24 pm24 an24 cd24 ct24), sl24⟩)
    (c24 : PySem.W.codeIn K cd24 "is_statement" = true)
    (k24 : PySem.W.keepIn K (.ref f24) = true)
    (a25 : PySem.W.nsIn K mainGlobals "is_body" = some (some (.ref f25)))
    (l25 : K.lookup f25 = some ⟨oc25, od25, .func (PySem.W.fnOf "is_body" "is_body" (defArgs s_is_body) (defBody s_is_body) (defScope s_is_body) .none kv25 dc25 pm25 an25 cd25 ct25), sl25⟩)
    (c25 : PySem.W.codeIn K cd25 "is_body" = true)
    (k25 : PySem.W.keepIn K (.ref f25) = true)
    (a26 : PySem.W.nsIn K mainGlobals "are_doors" = some (some (.ref f26)))
    (l26 : K.lookup f26 = some ⟨oc26, od26, .func (PySem.W.fnOf "are_doors" "are_doors" (defArgs s_are_doors) (defBody s_are_doors) (defScope s_are_doors) .none kv26 dc26 pm26 an26 cd26 ct26), sl26⟩)
    (c26 : PySem.W.codeIn K cd26 "are_doors" = true)
    (k26 : PySem.W.keepIn K (.ref f26) = true)
    (a27 : PySem.W.nsIn K mainGlobals "are_shelves" = some (some (.ref f27)))
    (l27 : K.lookup f27 = some ⟨oc27, od27, .func (PySem.W.fnOf "are_shelves" "are_shelves" (defArgs s_are_shelves) (defBody s_are_shelves) (defScope s_are_shelves) .none kv27 dc27 pm27 an27 cd27 ct27), sl27⟩)
    (c27 : PySem.W.codeIn K cd27 "are_shelves" = true)
    (k27 : PySem.W.keepIn K (.ref f27) = true)
    (a28 : PySem.W.nsIn K mainGlobals "call_holds" = some (some (.ref f28)))
    (l28 : K.lookup f28 = some ⟨oc28, od28, .func (PySem.W.fnOf "call_holds" "call_holds" (defArgs s_call_holds) (defBody s_call_holds) (defScope s_call_holds) .none kv28 dc28 pm28 an28 cd28 ct28), sl28⟩)
    (c28 : PySem.W.codeIn K cd28 "call_holds" = true)
    (k28 : PySem.W.keepIn K (.ref f28) = true)
    (a29 : PySem.W.nsIn K mainGlobals "making_holds" = some (some (.ref f29)))
    (l29 : K.lookup f29 = some ⟨oc29, od29, .func (PySem.W.fnOf "making_holds" "making_holds" (defArgs s_making_holds) (defBody s_making_holds) (defScope s_making_holds) .none kv29 dc29 pm29 an29 cd29 ct29), sl29⟩)
    (c29 : PySem.W.codeIn K cd29 "making_holds" = true)
    (k29 : PySem.W.keepIn K (.ref f29) = true)
    (a30 : PySem.W.nsIn K mainGlobals "changing_holds" = some (some (.ref f30)))
    (l30 : K.lookup f30 = some ⟨oc30, od30, .func (PySem.W.fnOf "changing_holds" "changing_holds" (defArgs s_changing_holds) (defBody s_changing_holds) (defScope s_changing_holds) .none kv30 dc30 pm30 an30 cd30 ct30), sl30⟩)
    (c30 : PySem.W.codeIn K cd30 "changing_holds" = true)
    (k30 : PySem.W.keepIn K (.ref f30) = true)
    (a31 : PySem.W.nsIn K mainGlobals "taking_holds" = some (some (.ref f31)))
    (l31 : K.lookup f31 = some ⟨oc31, od31, .func (PySem.W.fnOf "taking_holds" "taking_holds" (defArgs s_taking_holds) (defBody s_taking_holds) (defScope s_taking_holds) .none kv31 dc31 pm31 an31 cd31 ct31), sl31⟩)
    (c31 : PySem.W.codeIn K cd31 "taking_holds" = true)
    (k31 : PySem.W.keepIn K (.ref f31) = true)
    (a32 : PySem.W.nsIn K mainGlobals "statement_holds" = some (some (.ref f32)))
    (l32 : K.lookup f32 = some ⟨oc32, od32, .func (PySem.W.fnOf "statement_holds" "statement_holds" (defArgs s_statement_holds) (defBody s_statement_holds) (defScope s_statement_holds) .none kv32 dc32 pm32 an32 cd32 ct32), sl32⟩)
    (c32 : PySem.W.codeIn K cd32 "statement_holds" = true)
    (k32 : PySem.W.keepIn K (.ref f32) = true)
    (a33 : PySem.W.nsIn K mainGlobals "body_holds" = some (some (.ref f33)))
    (l33 : K.lookup f33 = some ⟨oc33, od33, .func (PySem.W.fnOf "body_holds" "body_holds" (defArgs s_body_holds) (defBody s_body_holds) (defScope s_body_holds) .none kv33 dc33 pm33 an33 cd33 ct33), sl33⟩)
    (c33 : PySem.W.codeIn K cd33 "body_holds" = true)
    (k33 : PySem.W.keepIn K (.ref f33) = true)
    (a34 : PySem.W.nsIn K mainGlobals "door_holds" = some (some (.ref f34)))
    (l34 : K.lookup f34 = some ⟨oc34, od34, .func (PySem.W.fnOf "door_holds" "door_holds" (defArgs s_door_holds) (defBody s_door_holds) (defScope s_door_holds) .none kv34 dc34 pm34 an34 cd34 ct34), sl34⟩)
    (c34 : PySem.W.codeIn K cd34 "door_holds" = true)
    (k34 : PySem.W.keepIn K (.ref f34) = true)
    (a35 : PySem.W.nsIn K mainGlobals "is_program" = some (some (.ref f35)))
    (l35 : K.lookup f35 = some ⟨oc35, od35, .func (PySem.W.fnOf "is_program" "is_program" (defArgs s_is_program) (defBody s_is_program) (defScope s_is_program) .none kv35 dc35 pm35 an35 cd35 ct35), sl35⟩)
    (c35 : PySem.W.codeIn K cd35 "is_program" = true)
    (k35 : PySem.W.keepIn K (.ref f35) = true)
    (a36 : PySem.W.nsIn K mainGlobals "_law_draws" = some (some (.ref f36)))
    (l36 : K.lookup f36 = some ⟨oc36, od36, .func (PySem.W.fnOf "_law_draws" "_law_draws" (defArgs s_law_draws) (defBody s_law_draws) (defScope s_law_draws) .none kv36 dc36 pm36 an36 cd36 ct36), sl36⟩)
    (c36 : PySem.W.codeIn K cd36 "_law_draws" = true)
    (k36 : PySem.W.keepIn K (.ref f36) = true)
    (a37 : PySem.W.nsIn K mainGlobals "_law_word" = some (some (.ref f37)))
    (l37 : K.lookup f37 = some ⟨oc37, od37, .func (PySem.W.fnOf "_law_word" "_law_word" (defArgs s_law_word) (defBody s_law_word) (defScope s_law_word) .none kv37 dc37 pm37 an37 cd37 ct37), sl37⟩)
    (c37 : PySem.W.codeIn K cd37 "_law_word" = true)
    (k37 : PySem.W.keepIn K (.ref f37) = true)
    (a38 : PySem.W.nsIn K mainGlobals "_law_names" = some (some (.ref f38)))
    (l38 : K.lookup f38 = some ⟨oc38, od38, .func (PySem.W.fnOf "_law_names" "_law_names" (defArgs s_law_names) (defBody s_law_names) (defScope s_law_names) .none kv38 dc38 pm38 an38 cd38 ct38), sl38⟩)
    (c38 : PySem.W.codeIn K cd38 "_law_names" = true)
    (k38 : PySem.W.keepIn K (.ref f38) = true)
    (a39 : PySem.W.nsIn K mainGlobals "_law_worth" = some (some (.ref f39)))
    (l39 : K.lookup f39 = some ⟨oc39, od39, .func (PySem.W.fnOf "_law_worth" "_law_worth" (defArgs s_law_worth) (defBody s_law_worth) (defScope s_law_worth) .none kv39 dc39 pm39 an39 cd39 ct39), sl39⟩)
    (c39 : PySem.W.codeIn K cd39 "_law_worth" = true)
    (k39 : PySem.W.keepIn K (.ref f39) = true)
    (a40 : PySem.W.nsIn K mainGlobals "_law_ladder" = some (some (.ref f40)))
    (l40 : K.lookup f40 = some ⟨oc40, od40, .func (PySem.W.fnOf "_law_ladder" "_law_ladder" (defArgs s_law_ladder) (defBody s_law_ladder) (defScope s_law_ladder) .none kv40 dc40 pm40 an40 cd40 ct40), sl40⟩)
    (c40 : PySem.W.codeIn K cd40 "_law_ladder" = true)
    (k40 : PySem.W.keepIn K (.ref f40) = true)
    (a41 : PySem.W.nsIn K mainGlobals "_law_closed" = some (some (.ref f41)))
    (l41 : K.lookup f41 = some ⟨oc41, od41, .func (PySem.W.fnOf "_law_closed" "_law_closed" (defArgs s_law_closed) (defBody s_law_closed) (defScope s_law_closed) .none kv41 dc41 pm41 an41 cd41 ct41), sl41⟩)
    (c41 : PySem.W.codeIn K cd41 "_law_closed" = true)
    (k41 : PySem.W.keepIn K (.ref f41) = true)
    (a42 : PySem.W.nsIn K mainGlobals "_law_ended" = some (some (.ref f42)))
    (l42 : K.lookup f42 = some ⟨oc42, od42, .func (PySem.W.fnOf "_law_ended" "_law_ended" (defArgs s_law_ended) (defBody s_law_ended) (defScope s_law_ended) .none kv42 dc42 pm42 an42 cd42 ct42), sl42⟩)
    (c42 : PySem.W.codeIn K cd42 "_law_ended" = true)
    (k42 : PySem.W.keepIn K (.ref f42) = true)
    (a43 : PySem.W.nsIn K mainGlobals "_law_plans" = some (some (.ref f43)))
    (l43 : K.lookup f43 = some ⟨oc43, od43, .func (PySem.W.fnOf "_law_plans" "_law_plans" (defArgs s_law_plans) (defBody s_law_plans) (defScope s_law_plans) .none kv43 dc43 pm43 an43 cd43 ct43), sl43⟩)
    (c43 : PySem.W.codeIn K cd43 "_law_plans" = true)
    (k43 : PySem.W.keepIn K (.ref f43) = true)
    (a44 : PySem.W.nsIn K mainGlobals "_law_shelves" = some (some (.ref f44)))
    (l44 : K.lookup f44 = some ⟨oc44, od44, .func (PySem.W.fnOf "_law_shelves" "_law_shelves" (defArgs s_law_shelves) (defBody s_law_shelves) (defScope s_law_shelves) .none kv44 dc44 pm44 an44 cd44 ct44), sl44⟩)
    (c44 : PySem.W.codeIn K cd44 "_law_shelves" = true)
    (k44 : PySem.W.keepIn K (.ref f44) = true)
    (a45 : PySem.W.nsIn K mainGlobals "_law_named" = some (some (.ref f45)))
    (l45 : K.lookup f45 = some ⟨oc45, od45, .func (PySem.W.fnOf "_law_named" "_law_named" (defArgs s_law_named) (defBody s_law_named) (defScope s_law_named) .none kv45 dc45 pm45 an45 cd45 ct45), sl45⟩)
    (c45 : PySem.W.codeIn K cd45 "_law_named" = true)
    (k45 : PySem.W.keepIn K (.ref f45) = true)
    (a46 : PySem.W.nsIn K mainGlobals "_law_bound" = some (some (.ref f46)))
    (l46 : K.lookup f46 = some ⟨oc46, od46, .func (PySem.W.fnOf "_law_bound" "_law_bound" (defArgs s_law_bound) (defBody s_law_bound) (defScope s_law_bound) .none kv46 dc46 pm46 an46 cd46 ct46), sl46⟩)
    (c46 : PySem.W.codeIn K cd46 "_law_bound" = true)
    (k46 : PySem.W.keepIn K (.ref f46) = true)
    (a47 : PySem.W.nsIn K mainGlobals "_law_fitting" = some (some (.ref f47)))
    (l47 : K.lookup f47 = some ⟨oc47, od47, .func (PySem.W.fnOf "_law_fitting" "_law_fitting" (defArgs s_law_fitting) (defBody s_law_fitting) (defScope s_law_fitting) .none kv47 dc47 pm47 an47 cd47 ct47), sl47⟩)
    (c47 : PySem.W.codeIn K cd47 "_law_fitting" = true)
    (k47 : PySem.W.keepIn K (.ref f47) = true)
    (a48 : PySem.W.nsIn K mainGlobals "_law_calling" = some (some (.ref f48)))
    (l48 : K.lookup f48 = some ⟨oc48, od48, .func (PySem.W.fnOf "_law_calling" "_law_calling" (defArgs s_law_calling) (defBody s_law_calling) (defScope s_law_calling) .none kv48 dc48 pm48 an48 cd48 ct48), sl48⟩)
    (c48 : PySem.W.codeIn K cd48 "_law_calling" = true)
    (k48 : PySem.W.keepIn K (.ref f48) = true)
    (a49 : PySem.W.nsIn K mainGlobals "_law_loose" = some (some (.ref f49)))
    (l49 : K.lookup f49 = some ⟨oc49, od49, .func (PySem.W.fnOf "_law_loose" "_law_loose" (defArgs s_law_loose) (defBody s_law_loose) (defScope s_law_loose) .none kv49 dc49 pm49 an49 cd49 ct49), sl49⟩)
    (c49 : PySem.W.codeIn K cd49 "_law_loose" = true)
    (k49 : PySem.W.keepIn K (.ref f49) = true)
    (a50 : PySem.W.nsIn K mainGlobals "_law_begun" = some (some (.ref f50)))
    (l50 : K.lookup f50 = some ⟨oc50, od50, .func (PySem.W.fnOf "_law_begun" "_law_begun" (defArgs s_law_begun) (defBody s_law_begun) (defScope s_law_begun) .none kv50 dc50 pm50 an50 cd50 ct50), sl50⟩)
    (c50 : PySem.W.codeIn K cd50 "_law_begun" = true)
    (k50 : PySem.W.keepIn K (.ref f50) = true)
    (a51 : PySem.W.nsIn K mainGlobals "_law_bodies" = some (some (.ref f51)))
    (l51 : K.lookup f51 = some ⟨oc51, od51, .func (PySem.W.fnOf "_law_bodies" "_law_bodies" (defArgs s_law_bodies) (defBody s_law_bodies) (defScope s_law_bodies) .none kv51 dc51 pm51 an51 cd51 ct51), sl51⟩)
    (c51 : PySem.W.codeIn K cd51 "_law_bodies" = true)
    (k51 : PySem.W.keepIn K (.ref f51) = true)
    (a52 : PySem.W.nsIn K mainGlobals "_law_program" = some (some (.ref f52)))
    (l52 : K.lookup f52 = some ⟨oc52, od52, .func (PySem.W.fnOf "_law_program" "_law_program" (defArgs s_law_program) (defBody s_law_program) (defScope s_law_program) .none kv52 dc52 pm52 an52 cd52 ct52), sl52⟩)
    (c52 : PySem.W.codeIn K cd52 "_law_program" = true)
    (k52 : PySem.W.keepIn K (.ref f52) = true)
    (a53 : PySem.W.nsIn K mainGlobals "_law_by" = some (some (.ref f53)))
    (l53 : K.lookup f53 = some ⟨oc53, od53, .func (PySem.W.fnOf "_law_by" "_law_by" (defArgs s_law_by) (defBody s_law_by) (defScope s_law_by) .none kv53 dc53 pm53 an53 cd53 ct53), sl53⟩)
    (c53 : PySem.W.codeIn K cd53 "_law_by" = true)
    (k53 : PySem.W.keepIn K (.ref f53) = true)
    (a54 : PySem.W.nsIn K mainGlobals "_law_same_told" = some (some (.ref f54)))
    (l54 : K.lookup f54 = some ⟨oc54, od54, .func (PySem.W.fnOf "_law_same_told" "_law_same_told" (defArgs s_law_same_told) (defBody s_law_same_told) (defScope s_law_same_told) .none kv54 dc54 pm54 an54 cd54 ct54), sl54⟩)
    (c54 : PySem.W.codeIn K cd54 "_law_same_told" = true)
    (k54 : PySem.W.keepIn K (.ref f54) = true)
    (am0 : PySem.W.findIn K (.ref C) "knows" = some (some (.ref fm0)))
    (im0 : PySem.W.isFn K (.ref fm0) = true)
    (lm0 : K.lookup fm0 = some ⟨ocm0, odm0, .func (PySem.W.fnOf "knows" "Scope.knows" (defArgs s_knows) (defBody s_knows) (defScope s_knows) .none kvm0 dcm0 pmm0 anm0 cdm0 ctm0), slm0⟩)
    (cm0 : PySem.W.codeIn K cdm0 "Scope.knows" = true)
    (km0 : PySem.W.keepIn K (.ref fm0) = true)
    (am1 : PySem.W.findIn K (.ref C) "may_make" = some (some (.ref fm1)))
    (im1 : PySem.W.isFn K (.ref fm1) = true)
    (lm1 : K.lookup fm1 = some ⟨ocm1, odm1, .func (PySem.W.fnOf "may_make" "Scope.may_make" (defArgs s_may_make) (defBody s_may_make) (defScope s_may_make) .none kvm1 dcm1 pmm1 anm1 cdm1 ctm1), slm1⟩)
    (cm1 : PySem.W.codeIn K cdm1 "Scope.may_make" = true)
    (km1 : PySem.W.keepIn K (.ref fm1) = true)
    (am2 : PySem.W.findIn K (.ref C) "may_change" = some (some (.ref fm2)))
    (im2 : PySem.W.isFn K (.ref fm2) = true)
    (lm2 : K.lookup fm2 = some ⟨ocm2, odm2, .func (PySem.W.fnOf "may_change" "Scope.may_change" (defArgs s_may_change) (defBody s_may_change) (defScope s_may_change) .none kvm2 dcm2 pmm2 anm2 cdm2 ctm2), slm2⟩)
    (cm2 : PySem.W.codeIn K cdm2 "Scope.may_change" = true)
    (km2 : PySem.W.keepIn K (.ref fm2) = true)
    (am3 : PySem.W.findIn K (.ref C) "may_take" = some (some (.ref fm3)))
    (im3 : PySem.W.isFn K (.ref fm3) = true)
    (lm3 : K.lookup fm3 = some ⟨ocm3, odm3, .func (PySem.W.fnOf "may_take" "Scope.may_take" (defArgs s_may_take) (defBody s_may_take) (defScope s_may_take) .none kvm3 dcm3 pmm3 anm3 cdm3 ctm3), slm3⟩)
    (cm3 : PySem.W.codeIn K cdm3 "Scope.may_take" = true)
    (km3 : PySem.W.keepIn K (.ref fm3) = true)
    (am4 : PySem.W.findIn K (.ref C) "may_hand" = some (some (.ref fm4)))
    (im4 : PySem.W.isFn K (.ref fm4) = true)
    (lm4 : K.lookup fm4 = some ⟨ocm4, odm4, .func (PySem.W.fnOf "may_hand" "Scope.may_hand" (defArgs s_may_hand) (defBody s_may_hand) (defScope s_may_hand) .none kvm4 dcm4 pmm4 anm4 cdm4 ctm4), slm4⟩)
    (cm4 : PySem.W.codeIn K cdm4 "Scope.may_hand" = true)
    (km4 : PySem.W.keepIn K (.ref fm4) = true)
    (am5 : PySem.W.findIn K (.ref C) "kind_at" = some (some (.ref fm5)))
    (im5 : PySem.W.isFn K (.ref fm5) = true)
    (lm5 : K.lookup fm5 = some ⟨ocm5, odm5, .func (PySem.W.fnOf "kind_at" "Scope.kind_at" (defArgs s_kind_at) (defBody s_kind_at) (defScope s_kind_at) .none kvm5 dcm5 pmm5 anm5 cdm5 ctm5), slm5⟩)
    (cm5 : PySem.W.codeIn K cdm5 "Scope.kind_at" = true)
    (km5 : PySem.W.keepIn K (.ref fm5) = true)
    (am6 : PySem.W.findIn K (.ref C) "__init__" = some (some (.ref fm6)))
    (im6 : PySem.W.isFn K (.ref fm6) = true)
    (lm6 : K.lookup fm6 = some ⟨ocm6, odm6, .func (PySem.W.fnOf "__init__" "Scope.__init__" (defArgs s_init) (defBody s_init) (defScope s_init) .none kvm6 dcm6 pmm6 anm6 cdm6 ctm6), slm6⟩)
    (cm6 : PySem.W.codeIn K cdm6 "Scope.__init__" = true)
    (km6 : PySem.W.keepIn K (.ref fm6) = true)
    (aC : PySem.W.nsIn K mainGlobals "Scope" = some (some (.ref C)))
    (xpg : PySem.W.plainGet K C Str.empty = true)
    (xhd : PySem.W.hasDictIn K C = true)
    (xpo : PySem.W.plainOver K C = true)
    (xsa : PySem.W.findIn K (.ref C) "__setattr__" = some (some (.builtin "object.__setattr__")))
    (xmk : PySem.W.makesIn K C = true)
    (xkc : PySem.W.keepIn K (.ref C) = true)
    (n_door_papers : PySem.W.findIn K (.ref C) "door_papers" = some none)
    (n_result_kind : PySem.W.findIn K (.ref C) "result_kind" = some none)
    (n_name_ways : PySem.W.findIn K (.ref C) "name_ways" = some none)
    (n_name_kinds : PySem.W.findIn K (.ref C) "name_kinds" = some none)
    (aD : PySem.W.nsIn K mainGlobals "NoPart" = some (some (.ref D)))
    (exF : PySem.W.excIn K D [.type "ValueError", .type "Exception", .type "BaseException", .type "object"] "ValueError.__new__" = true)
    (ekF : PySem.W.keepIn K (.ref D) = true)
    (ebF : PySem.W.subIn K (.ref D) (.type "BaseException") = some true)
    (etF : PySem.W.typeIn K (.ref D) = some (.type "type"))
    (eiF : PySem.W.isClsIn K D = true)
    (esF : PySem.W.subIn K (.ref D) (.ref D) = some true)
    (b_isinstance : PySem.W.nsIn K mainGlobals "isinstance" = some none)
    (b_len : PySem.W.nsIn K mainGlobals "len" = some none)
    (b_int : PySem.W.nsIn K mainGlobals "int" = some none)
    (b_bool : PySem.W.nsIn K mainGlobals "bool" = some none)
    (b_str : PySem.W.nsIn K mainGlobals "str" = some none)
    (b_tuple : PySem.W.nsIn K mainGlobals "tuple" = some none)
    (b_range : PySem.W.nsIn K mainGlobals "range" = some none)
    (b_zip : PySem.W.nsIn K mainGlobals "zip" = some none)
    (g_MOST_FIELDS : PySem.W.nsIn K mainGlobals "MOST_FIELDS" = some (some (.int 6 t_MOST_FIELDS)))
    (g_DEEPEST : PySem.W.nsIn K mainGlobals "DEEPEST" = some (some (.int 5 t_DEEPEST)))
    (g_MOST_ITEMS : PySem.W.nsIn K mainGlobals "MOST_ITEMS" = some (some (.int 60 t_MOST_ITEMS)))
    (g_MOST_SIGNS : PySem.W.nsIn K mainGlobals "MOST_SIGNS" = some (some (.int 60 t_MOST_SIGNS)))
    (g_LETTERS : PySem.W.nsIn K mainGlobals "LETTERS" = some (some (.str letters t_LETTERS)))
    (g_SIGNS : PySem.W.nsIn K mainGlobals "SIGNS" = some (some (.str printed t_SIGNS)))
    : ∃ fd : FuncData, (∀ (s : Shared) (v : Value), BindsTo s fd ⟨[v], []⟩ [("script", v)]) ∧ ∀ base : Heap, K.In base → base.Ns mainGlobals mg → FnOk P w K mg base CX0 28 fa fd ["script"] (spLaw K) := by
  have e0 := hfa.symm.trans (PySem.W.mg_of X G a0)
  cases e0
  have F0 := fun_mk (st := s_law) l0 c0 k0
  have F1 := fun_mk (st := s_is_whole) l1 c1 k1
  have q1 : Pl K mg "is_whole" s_is_whole ["thing"] := ⟨_, _, F1, PySem.W.mg_of X G a1, F1.binds (ps := ["thing"]) fun _ _ _ _ _ _ us hl => match us, hl with | [_], _ => rfl⟩
  have F2 := fun_mk (st := s_is_name) l2 c2 k2
  have q2 : Pl K mg "is_name" s_is_name ["thing"] := ⟨_, _, F2, PySem.W.mg_of X G a2, F2.binds (ps := ["thing"]) fun _ _ _ _ _ _ us hl => match us, hl with | [_], _ => rfl⟩
  have F3 := fun_mk (st := s_are_fields) l3 c3 k3
  have q3 : Pl K mg "are_fields" s_are_fields ["thing", "depth"] := ⟨_, _, F3, PySem.W.mg_of X G a3, F3.binds (ps := ["thing", "depth"]) fun _ _ _ _ _ _ us hl => match us, hl with | [_, _], _ => rfl⟩
  have F4 := fun_mk (st := s_is_kind_within) l4 c4 k4
  have q4 : Pl K mg "is_kind_within" s_is_kind_within ["thing", "depth"] := ⟨_, _, F4, PySem.W.mg_of X G a4, F4.binds (ps := ["thing", "depth"]) fun _ _ _ _ _ _ us hl => match us, hl with | [_, _], _ => rfl⟩
  have F5 := fun_mk (st := s_is_kind) l5 c5 k5
  have q5 : Pl K mg "is_kind" s_is_kind ["thing"] := ⟨_, _, F5, PySem.W.mg_of X G a5, F5.binds (ps := ["thing"]) fun _ _ _ _ _ _ us hl => match us, hl with | [_], _ => rfl⟩
  have F6 := fun_mk (st := s_place_of) l6 c6 k6
  have q6 : Pl K mg "place_of" s_place_of ["fields", "name"] := ⟨_, _, F6, PySem.W.mg_of X G a6, F6.binds (ps := ["fields", "name"]) fun _ _ _ _ _ _ us hl => match us, hl with | [_, _], _ => rfl⟩
  have F7 := fun_mk (st := s_field_kind) l7 c7 k7
  have q7 : Pl K mg "field_kind" s_field_kind ["fields", "name"] := ⟨_, _, F7, PySem.W.mg_of X G a7, F7.binds (ps := ["fields", "name"]) fun _ _ _ _ _ _ us hl => match us, hl with | [_, _], _ => rfl⟩
  have F8 := fun_mk (st := s_step_kind) l8 c8 k8
  have q8 : Pl K mg "step_kind" s_step_kind ["kind", "step"] := ⟨_, _, F8, PySem.W.mg_of X G a8, F8.binds (ps := ["kind", "step"]) fun _ _ _ _ _ _ us hl => match us, hl with | [_, _], _ => rfl⟩
  have F9 := fun_mk (st := s_part_kind) l9 c9 k9
  have q9 : Pl K mg "part_kind" s_part_kind ["kind", "path"] := ⟨_, _, F9, PySem.W.mg_of X G a9, F9.binds (ps := ["kind", "path"]) fun _ _ _ _ _ _ us hl => match us, hl with | [_, _], _ => rfl⟩
  have F10 := fun_mk (st := s_is_way) l10 c10 k10
  have q10 : Pl K mg "is_way" s_is_way ["thing"] := ⟨_, _, F10, PySem.W.mg_of X G a10, F10.binds (ps := ["thing"]) fun _ _ _ _ _ _ us hl => match us, hl with | [_], _ => rfl⟩
  have F11 := fun_mk (st := s_is_side) l11 c11 k11
  have q11 : Pl K mg "is_side" s_is_side ["thing"] := ⟨_, _, F11, PySem.W.mg_of X G a11, F11.binds (ps := ["thing"]) fun _ _ _ _ _ _ us hl => match us, hl with | [_], _ => rfl⟩
  have F12 := fun_mk (st := s_is_place) l12 c12 k12
  have q12 : Pl K mg "is_place" s_is_place ["thing"] := ⟨_, _, F12, PySem.W.mg_of X G a12, F12.binds (ps := ["thing"]) fun _ _ _ _ _ _ us hl => match us, hl with | [_], _ => rfl⟩
  have F13 := fun_mk (st := s_are_places) l13 c13 k13
  have q13 : Pl K mg "are_places" s_are_places ["thing"] := ⟨_, _, F13, PySem.W.mg_of X G a13, F13.binds (ps := ["thing"]) fun _ _ _ _ _ _ us hl => match us, hl with | [_], _ => rfl⟩
  have F14 := fun_mk (st := s_is_paper) l14 c14 k14
  have q14 : Pl K mg "is_paper" s_is_paper ["thing"] := ⟨_, _, F14, PySem.W.mg_of X G a14, F14.binds (ps := ["thing"]) fun _ _ _ _ _ _ us hl => match us, hl with | [_], _ => rfl⟩
  have F15 := fun_mk (st := s_span_of) l15 c15 k15
  have q15 : Pl K mg "span_of" s_span_of ["width"] := ⟨_, _, F15, PySem.W.mg_of X G a15, F15.binds (ps := ["width"]) fun _ _ _ _ _ _ us hl => match us, hl with | [_], _ => rfl⟩
  have F16 := fun_mk (st := s_is_text) l16 c16 k16
  have q16 : Pl K mg "is_text" s_is_text ["thing"] := ⟨_, _, F16, PySem.W.mg_of X G a16, F16.binds (ps := ["thing"]) fun _ _ _ _ _ _ us hl => match us, hl with | [_], _ => rfl⟩
  have F17 := fun_mk (st := s_are_worths) l17 c17 k17
  have q17 : Pl K mg "are_worths" s_are_worths ["kinds", "things"] := ⟨_, _, F17, PySem.W.mg_of X G a17, F17.binds (ps := ["kinds", "things"]) fun _ _ _ _ _ _ us hl => match us, hl with | [_, _], _ => rfl⟩
  have F18 := fun_mk (st := s_is_worth) l18 c18 k18
  have q18 : Pl K mg "is_worth" s_is_worth ["kind", "thing"] := ⟨_, _, F18, PySem.W.mg_of X G a18, F18.binds (ps := ["kind", "thing"]) fun _ _ _ _ _ _ us hl => match us, hl with | [_, _], _ => rfl⟩
  have F19 := fun_mk (st := s_is_path) l19 c19 k19
  have q19 : Pl K mg "is_path" s_is_path ["thing"] := ⟨_, _, F19, PySem.W.mg_of X G a19, F19.binds (ps := ["thing"]) fun _ _ _ _ _ _ us hl => match us, hl with | [_], _ => rfl⟩
  have F20 := fun_mk (st := s_are_names) l20 c20 k20
  have q20 : Pl K mg "are_names" s_are_names ["thing"] := ⟨_, _, F20, PySem.W.mg_of X G a20, F20.binds (ps := ["thing"]) fun _ _ _ _ _ _ us hl => match us, hl with | [_], _ => rfl⟩
  have F21 := fun_mk (st := s_has_worth) l21 c21 k21
  have q21 : Pl K mg "has_worth" s_has_worth ["kind", "worth"] := ⟨_, _, F21, PySem.W.mg_of X G a21, F21.binds (ps := ["kind", "worth"]) fun _ _ _ _ _ _ us hl => match us, hl with | [_, _], _ => rfl⟩
  have F22 := fun_mk (st := s_is_short) l22 c22 k22
  have q22 : Pl K mg "is_short" s_is_short ["thing"] := ⟨_, _, F22, PySem.W.mg_of X G a22, F22.binds (ps := ["thing"]) fun _ _ _ _ _ _ us hl => match us, hl with | [_], _ => rfl⟩
  have F23 := fun_mk (st := s_is_longer) l23 c23 k23
  have q23 : Pl K mg "is_longer" s_is_longer ["thing"] := ⟨_, _, F23, PySem.W.mg_of X G a23, F23.binds (ps := ["thing"]) fun _ _ _ _ _ _ us hl => match us, hl with | [_], _ => rfl⟩
  have F24 := fun_mk (st := s_is_statement) l24 c24 k24
  have q24 : Pl K mg "is_statement" s_is_statement ["thing", "depth"] := ⟨_, _, F24, PySem.W.mg_of X G a24, F24.binds (ps := ["thing", "depth"]) fun _ _ _ _ _ _ us hl => match us, hl with | [_, _], _ => rfl⟩
  have F25 := fun_mk (st := s_is_body) l25 c25 k25
  have q25 : Pl K mg "is_body" s_is_body ["thing", "depth"] := ⟨_, _, F25, PySem.W.mg_of X G a25, F25.binds (ps := ["thing", "depth"]) fun _ _ _ _ _ _ us hl => match us, hl with | [_, _], _ => rfl⟩
  have F26 := fun_mk (st := s_are_doors) l26 c26 k26
  have q26 : Pl K mg "are_doors" s_are_doors ["thing"] := ⟨_, _, F26, PySem.W.mg_of X G a26, F26.binds (ps := ["thing"]) fun _ _ _ _ _ _ us hl => match us, hl with | [_], _ => rfl⟩
  have F27 := fun_mk (st := s_are_shelves) l27 c27 k27
  have q27 : Pl K mg "are_shelves" s_are_shelves ["thing"] := ⟨_, _, F27, PySem.W.mg_of X G a27, F27.binds (ps := ["thing"]) fun _ _ _ _ _ _ us hl => match us, hl with | [_], _ => rfl⟩
  have F28 := fun_mk (st := s_call_holds) l28 c28 k28
  have q28 : Pl K mg "call_holds" s_call_holds ["scope", "one"] := ⟨_, _, F28, PySem.W.mg_of X G a28, F28.binds (ps := ["scope", "one"]) fun _ _ _ _ _ _ us hl => match us, hl with | [_, _], _ => rfl⟩
  have F29 := fun_mk (st := s_making_holds) l29 c29 k29
  have q29 : Pl K mg "making_holds" s_making_holds ["scope", "one"] := ⟨_, _, F29, PySem.W.mg_of X G a29, F29.binds (ps := ["scope", "one"]) fun _ _ _ _ _ _ us hl => match us, hl with | [_, _], _ => rfl⟩
  have F30 := fun_mk (st := s_changing_holds) l30 c30 k30
  have q30 : Pl K mg "changing_holds" s_changing_holds ["scope", "one"] := ⟨_, _, F30, PySem.W.mg_of X G a30, F30.binds (ps := ["scope", "one"]) fun _ _ _ _ _ _ us hl => match us, hl with | [_, _], _ => rfl⟩
  have F31 := fun_mk (st := s_taking_holds) l31 c31 k31
  have q31 : Pl K mg "taking_holds" s_taking_holds ["scope", "one"] := ⟨_, _, F31, PySem.W.mg_of X G a31, F31.binds (ps := ["scope", "one"]) fun _ _ _ _ _ _ us hl => match us, hl with | [_, _], _ => rfl⟩
  have F32 := fun_mk (st := s_statement_holds) l32 c32 k32
  have q32 : Pl K mg "statement_holds" s_statement_holds ["scope", "one"] := ⟨_, _, F32, PySem.W.mg_of X G a32, F32.binds (ps := ["scope", "one"]) fun _ _ _ _ _ _ us hl => match us, hl with | [_, _], _ => rfl⟩
  have F33 := fun_mk (st := s_body_holds) l33 c33 k33
  have q33 : Pl K mg "body_holds" s_body_holds ["scope", "body"] := ⟨_, _, F33, PySem.W.mg_of X G a33, F33.binds (ps := ["scope", "body"]) fun _ _ _ _ _ _ us hl => match us, hl with | [_, _], _ => rfl⟩
  have F34 := fun_mk (st := s_door_holds) l34 c34 k34
  have q34 : Pl K mg "door_holds" s_door_holds ["papers", "shelves", "door"] := ⟨_, _, F34, PySem.W.mg_of X G a34, F34.binds (ps := ["papers", "shelves", "door"]) fun _ _ _ _ _ _ us hl => match us, hl with | [_, _, _], _ => rfl⟩
  have F35 := fun_mk (st := s_is_program) l35 c35 k35
  have q35 : Pl K mg "is_program" s_is_program ["thing"] := ⟨_, _, F35, PySem.W.mg_of X G a35, F35.binds (ps := ["thing"]) fun _ _ _ _ _ _ us hl => match us, hl with | [_], _ => rfl⟩
  have F36 := fun_mk (st := s_law_draws) l36 c36 k36
  have q36 : Pl K mg "_law_draws" s_law_draws ["cell", "count"] := ⟨_, _, F36, PySem.W.mg_of X G a36, F36.binds (ps := ["cell", "count"]) fun _ _ _ _ _ _ us hl => match us, hl with | [_, _], _ => rfl⟩
  have F37 := fun_mk (st := s_law_word) l37 c37 k37
  have q37 : Pl K mg "_law_word" s_law_word ["numbers"] := ⟨_, _, F37, PySem.W.mg_of X G a37, F37.binds (ps := ["numbers"]) fun _ _ _ _ _ _ us hl => match us, hl with | [_], _ => rfl⟩
  have F38 := fun_mk (st := s_law_names) l38 c38 k38
  have q38 : Pl K mg "_law_names" s_law_names ["row"] := ⟨_, _, F38, PySem.W.mg_of X G a38, F38.binds (ps := ["row"]) fun _ _ _ _ _ _ us hl => match us, hl with | [_], _ => rfl⟩
  have F39 := fun_mk (st := s_law_worth) l39 c39 k39
  have q39 : Pl K mg "_law_worth" s_law_worth ["kind", "seed"] := ⟨_, _, F39, PySem.W.mg_of X G a39, F39.binds (ps := ["kind", "seed"]) fun _ _ _ _ _ _ us hl => match us, hl with | [_, _], _ => rfl⟩
  have F40 := fun_mk (st := s_law_ladder) l40 c40 k40
  have q40 : Pl K mg "_law_ladder" s_law_ladder ["row", "names"] := ⟨_, _, F40, PySem.W.mg_of X G a40, F40.binds (ps := ["row", "names"]) fun _ _ _ _ _ _ us hl => match us, hl with | [_, _], _ => rfl⟩
  have F41 := fun_mk (st := s_law_closed) l41 c41 k41
  have q41 : Pl K mg "_law_closed" s_law_closed ["frames"] := ⟨_, _, F41, PySem.W.mg_of X G a41, F41.binds (ps := ["frames"]) fun _ _ _ _ _ _ us hl => match us, hl with | [_], _ => rfl⟩
  have F42 := fun_mk (st := s_law_ended) l42 c42 k42
  have q42 : Pl K mg "_law_ended" s_law_ended ["frames"] := ⟨_, _, F42, PySem.W.mg_of X G a42, F42.binds (ps := ["frames"]) fun _ _ _ _ _ _ us hl => match us, hl with | [_], _ => rfl⟩
  have F43 := fun_mk (st := s_law_plans) l43 c43 k43
  have q43 : Pl K mg "_law_plans" s_law_plans ["names", "row"] := ⟨_, _, F43, PySem.W.mg_of X G a43, F43.binds (ps := ["names", "row"]) fun _ _ _ _ _ _ us hl => match us, hl with | [_, _], _ => rfl⟩
  have F44 := fun_mk (st := s_law_shelves) l44 c44 k44
  have q44 : Pl K mg "_law_shelves" s_law_shelves ["doors", "number", "seed"] := ⟨_, _, F44, PySem.W.mg_of X G a44, F44.binds (ps := ["doors", "number", "seed"]) fun _ _ _ _ _ _ us hl => match us, hl with | [_, _, _], _ => rfl⟩
  have F45 := fun_mk (st := s_law_named) l45 c45 k45
  have q45 : Pl K mg "_law_named" s_law_named ["number", "bound", "odd", "draw"] := ⟨_, _, F45, PySem.W.mg_of X G a45, F45.binds (ps := ["number", "bound", "odd", "draw"]) fun _ _ _ _ _ _ us hl => match us, hl with | [_, _, _, _], _ => rfl⟩
  have F46 := fun_mk (st := s_law_bound) l46 c46 k46
  have q46 : Pl K mg "_law_bound" s_law_bound ["door"] := ⟨_, _, F46, PySem.W.mg_of X G a46, F46.binds (ps := ["door"]) fun _ _ _ _ _ _ us hl => match us, hl with | [_], _ => rfl⟩
  have F47 := fun_mk (st := s_law_fitting) l47 c47 k47
  have q47 : Pl K mg "_law_fitting" s_law_fitting ["word", "door", "x", "y", "last"] := ⟨_, _, F47, PySem.W.mg_of X G a47, F47.binds (ps := ["word", "door", "x", "y", "last"]) fun _ _ _ _ _ _ us hl => match us, hl with | [_, _, _, _, _], _ => rfl⟩
  have F48 := fun_mk (st := s_law_calling) l48 c48 k48
  have q48 : Pl K mg "_law_calling" s_law_calling ["world", "own", "odd", "r"] := ⟨_, _, F48, PySem.W.mg_of X G a48, F48.binds (ps := ["world", "own", "odd", "r"]) fun _ _ _ _ _ _ us hl => match us, hl with | [_, _, _, _], _ => rfl⟩
  have F49 := fun_mk (st := s_law_loose) l49 c49 k49
  have q49 : Pl K mg "_law_loose" s_law_loose ["world", "own", "odd", "r"] := ⟨_, _, F49, PySem.W.mg_of X G a49, F49.binds (ps := ["world", "own", "odd", "r"]) fun _ _ _ _ _ _ us hl => match us, hl with | [_, _, _, _], _ => rfl⟩
  have F50 := fun_mk (st := s_law_begun) l50 c50 k50
  have q50 : Pl K mg "_law_begun" s_law_begun ["world", "shelves", "at", "all_made"] := ⟨_, _, F50, PySem.W.mg_of X G a50, F50.binds (ps := ["world", "shelves", "at", "all_made"]) fun _ _ _ _ _ _ us hl => match us, hl with | [_, _, _, _], _ => rfl⟩
  have F51 := fun_mk (st := s_law_bodies) l51 c51 k51
  have q51 : Pl K mg "_law_bodies" s_law_bodies ["world", "shelves", "all_made", "cells"] := ⟨_, _, F51, PySem.W.mg_of X G a51, F51.binds (ps := ["world", "shelves", "all_made", "cells"]) fun _ _ _ _ _ _ us hl => match us, hl with | [_, _, _, _], _ => rfl⟩
  have F52 := fun_mk (st := s_law_program) l52 c52 k52
  have q52 : Pl K mg "_law_program" s_law_program ["world", "shelves", "bodies"] := ⟨_, _, F52, PySem.W.mg_of X G a52, F52.binds (ps := ["world", "shelves", "bodies"]) fun _ _ _ _ _ _ us hl => match us, hl with | [_, _, _], _ => rfl⟩
  have F53 := fun_mk (st := s_law_by) l53 c53 k53
  have q53 : Pl K mg "_law_by" s_law_by ["row", "names", "cells"] := ⟨_, _, F53, PySem.W.mg_of X G a53, F53.binds (ps := ["row", "names", "cells"]) fun _ _ _ _ _ _ us hl => match us, hl with | [_, _, _], _ => rfl⟩
  have F54 := fun_mk (st := s_law_same_told) l54 c54 k54
  have q54 : Pl K mg "_law_same_told" s_law_same_told ["program", "due"] := ⟨_, _, F54, PySem.W.mg_of X G a54, F54.binds (ps := ["program", "due"]) fun _ _ _ _ _ _ us hl => match us, hl with | [_, _], _ => rfl⟩
  have Fm0 := fun_mk (st := s_knows) lm0 cm0 km0
  have qm0 : PlM K C "knows" "Scope.knows" s_knows ["self", "name"] := ⟨_, _, Fm0, ⟨am0, im0, km0⟩, Fm0.binds (ps := ["self", "name"]) fun _ _ _ _ _ _ us hl => match us, hl with | [_, _], _ => rfl⟩
  have Fm1 := fun_mk (st := s_may_make) lm1 cm1 km1
  have qm1 : PlM K C "may_make" "Scope.may_make" s_may_make ["self", "name", "kind"] := ⟨_, _, Fm1, ⟨am1, im1, km1⟩, Fm1.binds (ps := ["self", "name", "kind"]) fun _ _ _ _ _ _ us hl => match us, hl with | [_, _, _], _ => rfl⟩
  have Fm2 := fun_mk (st := s_may_change) lm2 cm2 km2
  have qm2 : PlM K C "may_change" "Scope.may_change" s_may_change ["self", "name"] := ⟨_, _, Fm2, ⟨am2, im2, km2⟩, Fm2.binds (ps := ["self", "name"]) fun _ _ _ _ _ _ us hl => match us, hl with | [_, _], _ => rfl⟩
  have Fm3 := fun_mk (st := s_may_take) lm3 cm3 km3
  have qm3 : PlM K C "may_take" "Scope.may_take" s_may_take ["self", "name"] := ⟨_, _, Fm3, ⟨am3, im3, km3⟩, Fm3.binds (ps := ["self", "name"]) fun _ _ _ _ _ _ us hl => match us, hl with | [_, _], _ => rfl⟩
  have Fm4 := fun_mk (st := s_may_hand) lm4 cm4 km4
  have qm4 : PlM K C "may_hand" "Scope.may_hand" s_may_hand ["self", "name", "way", "kind"] := ⟨_, _, Fm4, ⟨am4, im4, km4⟩, Fm4.binds (ps := ["self", "name", "way", "kind"]) fun _ _ _ _ _ _ us hl => match us, hl with | [_, _, _, _], _ => rfl⟩
  have Fm5 := fun_mk (st := s_kind_at) lm5 cm5 km5
  have qm5 : PlM K C "kind_at" "Scope.kind_at" s_kind_at ["self", "name", "path"] := ⟨_, _, Fm5, ⟨am5, im5, km5⟩, Fm5.binds (ps := ["self", "name", "path"]) fun _ _ _ _ _ _ us hl => match us, hl with | [_, _, _], _ => rfl⟩
  have FI := fun_mk (st := s_init) lm6 cm6 km6
  have qI : PlI K mg "Scope" C "Scope.__init__" s_init ["self", "papers", "shelves", "paper"] := ⟨_, _, FI, ⟨xmk, am6, im6, xkc⟩, PySem.W.mg_of X G aC, FI.binds (ps := ["self", "papers", "shelves", "paper"]) fun _ _ _ _ _ _ us hl => match us, hl with | [_, _, _, _], _ => rfl⟩
  have xn : Exn K mg "NoPart" D := ⟨⟨_, _, _, _, PySem.F.excBase_ValueError, exF⟩, PySem.W.mg_of X G aD, ekF, ebF, etF, exm_own ebF eiF etF esF⟩
  have T : Txt K mg C D := {
    p_is_whole := q1
    p_is_name := q2
    p_are_fields := q3
    p_is_kind_within := q4
    p_is_kind := q5
    p_place_of := q6
    p_field_kind := q7
    p_step_kind := q8
    p_part_kind := q9
    p_is_way := q10
    p_is_side := q11
    p_is_place := q12
    p_are_places := q13
    p_is_paper := q14
    p_span_of := q15
    p_is_text := q16
    p_are_worths := q17
    p_is_worth := q18
    p_is_path := q19
    p_are_names := q20
    p_has_worth := q21
    p_is_short := q22
    p_is_longer := q23
    p_is_statement := q24
    p_is_body := q25
    p_are_doors := q26
    p_are_shelves := q27
    p_call_holds := q28
    p_making_holds := q29
    p_changing_holds := q30
    p_taking_holds := q31
    p_statement_holds := q32
    p_body_holds := q33
    p_door_holds := q34
    p_is_program := q35
    p_law_draws := q36
    p_law_word := q37
    p_law_names := q38
    p_law_worth := q39
    p_law_ladder := q40
    p_law_closed := q41
    p_law_ended := q42
    p_law_plans := q43
    p_law_shelves := q44
    p_law_named := q45
    p_law_bound := q46
    p_law_fitting := q47
    p_law_calling := q48
    p_law_loose := q49
    p_law_begun := q50
    p_law_bodies := q51
    p_law_program := q52
    p_law_by := q53
    p_law_same_told := q54
    m_knows := qm0
    m_may_make := qm1
    m_may_change := qm2
    m_may_take := qm3
    m_may_hand := qm4
    m_kind_at := qm5
    m_init := qI
    sc := ⟨⟨xpg, xhd, xpo, xsa⟩, n_door_papers, n_result_kind, n_name_ways, n_name_kinds⟩
    xn := xn
    bi := ⟨PySem.W.mg_none_of X G b_isinstance, PySem.W.mg_none_of X G b_len, PySem.W.mg_none_of X G b_int, PySem.W.mg_none_of X G b_bool, PySem.W.mg_none_of X G b_str, PySem.W.mg_none_of X G b_tuple, PySem.W.mg_none_of X G b_range, PySem.W.mg_none_of X G b_zip⟩
    g_MOST_FIELDS := ⟨_, PySem.W.mg_of X G g_MOST_FIELDS⟩
    g_DEEPEST := ⟨_, PySem.W.mg_of X G g_DEEPEST⟩
    g_MOST_ITEMS := ⟨_, PySem.W.mg_of X G g_MOST_ITEMS⟩
    g_MOST_SIGNS := ⟨_, PySem.W.mg_of X G g_MOST_SIGNS⟩
    g_LETTERS := ⟨_, PySem.W.mg_of X G g_LETTERS⟩
    g_SIGNS := ⟨_, PySem.W.mg_of X G g_SIGNS⟩ }
  exact ⟨_, fun s v => .of_eq rfl, fun base _ _ => law_of T F0⟩
end TG
open PySem PySem.W PyProof.Rows
set_option maxHeartbeats 0 in
theorem PySem.Challenge.cw_tonguegate_k41_whole_whatever_the_names_holds : PySem.Challenge.rw_tonguegate_k41_whole_whatever_the_names.Holds := by
  w_on; o_law; k_head; (case hw => w_witness2)
  k_fill
  refine L2.walk_of (l := PySem.Challenge.rw_tonguegate_k41_whole_whatever_the_names) (n := 63) (k := 28) (x := "script") (CX := fun _ => L2.CX0) (sp := fun w => TG.spLaw _) rfl (by decide) rfl ⟨rfl, by decide, by decide⟩ (fun w h Y => PySem.W.kIn_of Y) ?F (fun _ _ a ns hl _ hS => ⟨a, ns, rfl, hS, hl, fun _ => rfl⟩) (fun _ _ _ _ _ z => z)
  case F =>
    intro w mg fa h KX G hmg
    refine' TG.all_mk KX G hmg ?a0 ?l0 ?c0 ?k0 ?a1 ?l1 ?c1 ?k1 ?a2 ?l2 ?c2 ?k2 ?a3 ?l3 ?c3 ?k3 ?a4 ?l4 ?c4 ?k4 ?a5 ?l5 ?c5 ?k5 ?a6 ?l6 ?c6 ?k6 ?a7 ?l7 ?c7 ?k7 ?a8 ?l8 ?c8 ?k8 ?a9 ?l9 ?c9 ?k9 ?a10 ?l10 ?c10 ?k10 ?a11 ?l11 ?c11 ?k11 ?a12 ?l12 ?c12 ?k12 ?a13 ?l13 ?c13 ?k13 ?a14 ?l14 ?c14 ?k14 ?a15 ?l15 ?c15 ?k15 ?a16 ?l16 ?c16 ?k16 ?a17 ?l17 ?c17 ?k17 ?a18 ?l18 ?c18 ?k18 ?a19 ?l19 ?c19 ?k19 ?a20 ?l20 ?c20 ?k20 ?a21 ?l21 ?c21 ?k21 ?a22 ?l22 ?c22 ?k22 ?a23 ?l23 ?c23 ?k23 ?a24 ?l24 ?c24 ?k24 ?a25 ?l25 ?c25 ?k25 ?a26 ?l26 ?c26 ?k26 ?a27 ?l27 ?c27 ?k27 ?a28 ?l28 ?c28 ?k28 ?a29 ?l29 ?c29 ?k29 ?a30 ?l30 ?c30 ?k30 ?a31 ?l31 ?c31 ?k31 ?a32 ?l32 ?c32 ?k32 ?a33 ?l33 ?c33 ?k33 ?a34 ?l34 ?c34 ?k34 ?a35 ?l35 ?c35 ?k35 ?a36 ?l36 ?c36 ?k36 ?a37 ?l37 ?c37 ?k37 ?a38 ?l38 ?c38 ?k38 ?a39 ?l39 ?c39 ?k39 ?a40 ?l40 ?c40 ?k40 ?a41 ?l41 ?c41 ?k41 ?a42 ?l42 ?c42 ?k42 ?a43 ?l43 ?c43 ?k43 ?a44 ?l44 ?c44 ?k44 ?a45 ?l45 ?c45 ?k45 ?a46 ?l46 ?c46 ?k46 ?a47 ?l47 ?c47 ?k47 ?a48 ?l48 ?c48 ?k48 ?a49 ?l49 ?c49 ?k49 ?a50 ?l50 ?c50 ?k50 ?a51 ?l51 ?c51 ?k51 ?a52 ?l52 ?c52 ?k52 ?a53 ?l53 ?c53 ?k53 ?a54 ?l54 ?c54 ?k54 ?am0 ?im0 ?lm0 ?cm0 ?km0 ?am1 ?im1 ?lm1 ?cm1 ?km1 ?am2 ?im2 ?lm2 ?cm2 ?km2 ?am3 ?im3 ?lm3 ?cm3 ?km3 ?am4 ?im4 ?lm4 ?cm4 ?km4 ?am5 ?im5 ?lm5 ?cm5 ?km5 ?am6 ?im6 ?lm6 ?cm6 ?km6 ?aC ?xpg ?xhd ?xpo ?xsa ?xmk ?xkc ?n_door_papers ?n_result_kind ?n_name_ways ?n_name_kinds ?aD ?exF ?ekF ?ebF ?etF ?eiF ?esF ?b_isinstance ?b_len ?b_int ?b_bool ?b_str ?b_tuple ?b_range ?b_zip ?g_MOST_FIELDS ?g_DEEPEST ?g_MOST_ITEMS ?g_MOST_SIGNS ?g_LETTERS ?g_SIGNS
    case aC => k_is
    case aD => k_is
    case a0 => k_is
    case l0 => k_is
    case c0 => k_is
    case k0 => k_is
    case a1 => k_is
    case l1 => k_is
    case c1 => k_is
    case k1 => k_is
    case a2 => k_is
    case l2 => k_is
    case c2 => k_is
    case k2 => k_is
    case a3 => k_is
    case l3 => k_is
    case c3 => k_is
    case k3 => k_is
    case a4 => k_is
    case l4 => k_is
    case c4 => k_is
    case k4 => k_is
    case a5 => k_is
    case l5 => k_is
    case c5 => k_is
    case k5 => k_is
    case a6 => k_is
    case l6 => k_is
    case c6 => k_is
    case k6 => k_is
    case a7 => k_is
    case l7 => k_is
    case c7 => k_is
    case k7 => k_is
    case a8 => k_is
    case l8 => k_is
    case c8 => k_is
    case k8 => k_is
    case a9 => k_is
    case l9 => k_is
    case c9 => k_is
    case k9 => k_is
    case a10 => k_is
    case l10 => k_is
    case c10 => k_is
    case k10 => k_is
    case a11 => k_is
    case l11 => k_is
    case c11 => k_is
    case k11 => k_is
    case a12 => k_is
    case l12 => k_is
    case c12 => k_is
    case k12 => k_is
    case a13 => k_is
    case l13 => k_is
    case c13 => k_is
    case k13 => k_is
    case a14 => k_is
    case l14 => k_is
    case c14 => k_is
    case k14 => k_is
    case a15 => k_is
    case l15 => k_is
    case c15 => k_is
    case k15 => k_is
    case a16 => k_is
    case l16 => k_is
    case c16 => k_is
    case k16 => k_is
    case a17 => k_is
    case l17 => k_is
    case c17 => k_is
    case k17 => k_is
    case a18 => k_is
    case l18 => k_is
    case c18 => k_is
    case k18 => k_is
    case a19 => k_is
    case l19 => k_is
    case c19 => k_is
    case k19 => k_is
    case a20 => k_is
    case l20 => k_is
    case c20 => k_is
    case k20 => k_is
    case a21 => k_is
    case l21 => k_is
    case c21 => k_is
    case k21 => k_is
    case a22 => k_is
    case l22 => k_is
    case c22 => k_is
    case k22 => k_is
    case a23 => k_is
    case l23 => k_is
    case c23 => k_is
    case k23 => k_is
    case a24 => k_is
    case l24 => k_is
    case c24 => k_is
    case k24 => k_is
    case a25 => k_is
    case l25 => k_is
    case c25 => k_is
    case k25 => k_is
    case a26 => k_is
    case l26 => k_is
    case c26 => k_is
    case k26 => k_is
    case a27 => k_is
    case l27 => k_is
    case c27 => k_is
    case k27 => k_is
    case a28 => k_is
    case l28 => k_is
    case c28 => k_is
    case k28 => k_is
    case a29 => k_is
    case l29 => k_is
    case c29 => k_is
    case k29 => k_is
    case a30 => k_is
    case l30 => k_is
    case c30 => k_is
    case k30 => k_is
    case a31 => k_is
    case l31 => k_is
    case c31 => k_is
    case k31 => k_is
    case a32 => k_is
    case l32 => k_is
    case c32 => k_is
    case k32 => k_is
    case a33 => k_is
    case l33 => k_is
    case c33 => k_is
    case k33 => k_is
    case a34 => k_is
    case l34 => k_is
    case c34 => k_is
    case k34 => k_is
    case a35 => k_is
    case l35 => k_is
    case c35 => k_is
    case k35 => k_is
    case a36 => k_is
    case l36 => k_is
    case c36 => k_is
    case k36 => k_is
    case a37 => k_is
    case l37 => k_is
    case c37 => k_is
    case k37 => k_is
    case a38 => k_is
    case l38 => k_is
    case c38 => k_is
    case k38 => k_is
    case a39 => k_is
    case l39 => k_is
    case c39 => k_is
    case k39 => k_is
    case a40 => k_is
    case l40 => k_is
    case c40 => k_is
    case k40 => k_is
    case a41 => k_is
    case l41 => k_is
    case c41 => k_is
    case k41 => k_is
    case a42 => k_is
    case l42 => k_is
    case c42 => k_is
    case k42 => k_is
    case a43 => k_is
    case l43 => k_is
    case c43 => k_is
    case k43 => k_is
    case a44 => k_is
    case l44 => k_is
    case c44 => k_is
    case k44 => k_is
    case a45 => k_is
    case l45 => k_is
    case c45 => k_is
    case k45 => k_is
    case a46 => k_is
    case l46 => k_is
    case c46 => k_is
    case k46 => k_is
    case a47 => k_is
    case l47 => k_is
    case c47 => k_is
    case k47 => k_is
    case a48 => k_is
    case l48 => k_is
    case c48 => k_is
    case k48 => k_is
    case a49 => k_is
    case l49 => k_is
    case c49 => k_is
    case k49 => k_is
    case a50 => k_is
    case l50 => k_is
    case c50 => k_is
    case k50 => k_is
    case a51 => k_is
    case l51 => k_is
    case c51 => k_is
    case k51 => k_is
    case a52 => k_is
    case l52 => k_is
    case c52 => k_is
    case k52 => k_is
    case a53 => k_is
    case l53 => k_is
    case c53 => k_is
    case k53 => k_is
    case a54 => k_is
    case l54 => k_is
    case c54 => k_is
    case k54 => k_is
    case am0 => k_is
    case im0 => k_is
    case lm0 => k_is
    case cm0 => k_is
    case km0 => k_is
    case am1 => k_is
    case im1 => k_is
    case lm1 => k_is
    case cm1 => k_is
    case km1 => k_is
    case am2 => k_is
    case im2 => k_is
    case lm2 => k_is
    case cm2 => k_is
    case km2 => k_is
    case am3 => k_is
    case im3 => k_is
    case lm3 => k_is
    case cm3 => k_is
    case km3 => k_is
    case am4 => k_is
    case im4 => k_is
    case lm4 => k_is
    case cm4 => k_is
    case km4 => k_is
    case am5 => k_is
    case im5 => k_is
    case lm5 => k_is
    case cm5 => k_is
    case km5 => k_is
    case am6 => k_is
    case im6 => k_is
    case lm6 => k_is
    case cm6 => k_is
    case km6 => k_is
    case xpg => k_is
    case xhd => k_is
    case xpo => k_is
    case xsa => k_is
    case xmk => k_is
    case xkc => k_is
    case n_door_papers => k_is
    case n_result_kind => k_is
    case n_name_ways => k_is
    case n_name_kinds => k_is
    case exF => k_exc
    case ekF => k_is
    case ebF => k_is
    case etF => k_is
    case eiF => k_is
    case esF => first | rfl | k_is
    case b_isinstance => k_is
    case b_len => k_is
    case b_int => k_is
    case b_bool => k_is
    case b_str => k_is
    case b_tuple => k_is
    case b_range => k_is
    case b_zip => k_is
    case g_MOST_FIELDS => k_is
    case g_DEEPEST => k_is
    case g_MOST_ITEMS => k_is
    case g_MOST_SIGNS => k_is
    case g_LETTERS => k_is
    case g_SIGNS => k_is
