import PyProof.Rows.All
import Wide.All
import OpenK.AllK
import Wide.FinOn
import HandS.ForMost
import HandS.ForExc
import HandS.IsInst
import HandS.Zip
import HandS.Defaults
import HandS.Deep
import HandS.TupAny
import HandS.TupMul
import HandS.More
import KE.SortData
import HandS.Style
import HandS.RaiseMore
import KE.GoesMore
import KE.GoesEnum
import HandS.Head0
import HandS.Head1
import HandS.Head2
import HandS.HeadEnd
import HandS.HeadHook1
import HandS.HeadHook2
import HandS.Ends
import KE.KStateDown
import HandS.HeadHook3
import PySem.Challenge.RW_milepence_k02_pages_looked_at
set_option Elab.async false
set_option linter.all false
set_option maxRecDepth 100000
/-! VA: values as data (PyData) over the hand layer: what stands still (ghost heap G), what a slot holds -/
namespace VL
open PySem PySem.Spec PyProof.Rows L2

/-- what the ghost heap says of an address: an object that never changes again; a state of drawn numbers -/
inductive GO where
  | fz (o : HO)
  | rg
abbrev Gh := Addr → Option GO
def RngAt (H : Hp) (a : Addr) : Prop := ∃ i j : Int, H a = some (.lst [.int i, .int j]) ∧ 0 ≤ i ∧ 0 ≤ j ∧ j < 4294967296
structure GOk (G : Gh) (H : Hp) : Prop where
  fz : ∀ a o, G a = some (.fz o) → H a = some o
  rg : ∀ a, G a = some .rg → RngAt H a
structure Ext (G : Gh) (H : Hp) (G' : Gh) (H' : Hp) : Prop where
  g : ∀ a o, G a = some o → G' a = some o
  n : ∀ a o, G' a = some o → H a ≠ none → G a = some o
  h : ∀ a o, H a = some o → G a ≠ some .rg → H' a = some o
  t : ∀ a, H a ≠ none → H' a ≠ none
theorem Ext.refl (G : Gh) (H : Hp) : Ext G H G H := ⟨fun _ _ h => h, fun _ _ h _ => h, fun _ _ h _ => h, fun _ h => h⟩
theorem Ext.trans {G G1 G2 : Gh} {H H1 H2 : Hp} (x : Ext G H G1 H1) (y : Ext G1 H1 G2 H2) : Ext G H G2 H2 where
  g := fun a o h => y.g a o (x.g a o h)
  n := fun a o h k => x.n a o (y.n a o h (x.t a k)) k
  h := fun a o h k => y.h a o (x.h a o h k) fun z => k (x.n a .rg z (by rw [h]; exact fun q => nomatch q))
  t := fun a h => y.t a (x.t a h)
theorem GOk.nil {G : Gh} {H : Hp} (k : GOk G H) {a : Addr} (h : H a = none) : G a = none := by
  cases q : G a with
  | none => rfl
  | some o =>
    cases o with
    | fz u => rw [k.fz a u q] at h; cases h
    | rg => obtain ⟨_, _, e, _⟩ := k.rg a q; rw [e] at h; cases h
/-- a new object that will stand still -/
def updG (G : Gh) (a : Addr) (o : GO) : Gh := fun b => if b = a then some o else G b
theorem updG_same {G : Gh} {a : Addr} {o : GO} : updG G a o a = some o := by unfold updG; rw [if_pos rfl]
theorem updG_ne {G : Gh} {a b : Addr} {o : GO} (h : b ≠ a) : updG G a o b = G b := by unfold updG; rw [if_neg h]
theorem GOk.frozen {G : Gh} {H : Hp} (k : GOk G H) {a : Addr} {o : HO} (h : H a = some o) (hn : G a = none) : GOk (updG G a (.fz o)) H where
  fz := fun b u e => by
    by_cases hb : b = a
    · subst hb; rw [updG_same] at e; cases e; exact h
    · rw [updG_ne hb] at e; exact k.fz b u e
  rg := fun b e => by
    by_cases hb : b = a
    · subst hb; rw [updG_same] at e; cases e
    · rw [updG_ne hb] at e; exact k.rg b e
theorem GOk.laid {G : Gh} {H : Hp} (k : GOk G H) {a : Addr} {o : HO} (h : H a = none) : GOk G (upd H a o) where
  fz := fun b u e => by rw [upd_ne (ne_of_none (k.fz b u e) h)]; exact k.fz b u e
  rg := fun b e => by
    obtain ⟨i, j, q, r⟩ := k.rg b e
    exact ⟨i, j, by rw [upd_ne (ne_of_none q h)]; exact q, r⟩
theorem Ext.laid {G : Gh} {H : Hp} {a : Addr} {o : HO} (h : H a = none) : Ext G H G (upd H a o) where
  g := fun _ _ e => e
  n := fun _ _ e _ => e
  h := fun b u e _ => by rw [upd_ne (ne_of_none e h)]; exact e
  t := fun b e => by
    unfold upd
    split
    · exact fun q => nomatch q
    · exact e
/-- laid and known as still -/
theorem Ext.new {G : Gh} {H : Hp} (k : GOk G H) {a : Addr} {o : HO} (h : H a = none) : Ext G H (updG G a (.fz o)) (upd H a o) where
  g := fun b u e => by
    have : b ≠ a := fun q => by rw [q, k.nil h] at e; cases e
    rw [updG_ne this]; exact e
  n := fun b u e q => by
    by_cases hb : b = a
    · exact absurd (hb ▸ h) q
    · rw [updG_ne hb] at e; exact e
  h := fun b u e _ => by rw [upd_ne (ne_of_none e h)]; exact e
  t := (Ext.laid (G := G) (o := o) h).t
theorem GOk.new {G : Gh} {H : Hp} (k : GOk G H) {a : Addr} {o : HO} (h : H a = none) : GOk (updG G a (.fz o)) (upd H a o) :=
  (k.laid h).frozen upd_same (k.nil h)

/-! ### the data that a value stands for -/
abbrev lim : Nat := 1000000
def keyD : Key → PyData
  | .inl i => .int i
  | .inr x => .str x
/-- a list, a tuple at an address, as the ghost heap has it -/
def GL (G : Gh) (a : Addr) (xs : List V) : Prop := G a = some (.fz (.lst xs))
def GT (K : PySem.W.Frag) (G : Gh) (a : Addr) (xs : List V) : Prop :=
  G a = some (.fz (.tup xs)) ∨
    ∃ (o : Obj) (its : Array Value) (n : Nat), K.lookup a = some o ∧ o.cls = .type "tuple" ∧ o.data = .seq its n ∧ its.size ≤ sizeLine ∧ Vals xs its.toList
/-- a dict: its keys as data, its values -/
inductive GD (G : Gh) (a : Addr) : List (PyData × V) → Prop
  | k (kvs : List (Key × V)) : G a = some (.fz (.dK kvs)) → GD G a (kvs.map fun p => (keyD p.1, p.2))
  | t (kvs : List (List Key × V)) : G a = some (.fz (.dT kvs)) → GD G a (kvs.map fun p => (.tuple (p.1.map keyD), p.2))
mutual
inductive Rp (K : PySem.W.Frag) (w : World) (G : Gh) : V → PyData → Prop
  | non : Rp K w G .non .none
  | bl (b : Bool) : Rp K w G (.bl b) (.bool b)
  | int (i : Int) : Rp K w G (.int i) (.int i)
  | str (x : Str) : x.length ≤ lim → Rp K w G (.str x) (.str x)
  | lst {a : Addr} {xs : List V} {ds : List PyData} : GL G a xs → xs.length ≤ lim → RpA K w G xs ds → Rp K w G (.ref a) (.list ds)
  | tup {a : Addr} {xs : List V} {ds : List PyData} : GT K G a xs → xs.length ≤ lim → RpA K w G xs ds → Rp K w G (.ref a) (.tuple ds)
  | dic {a : Addr} {es : List (PyData × V)} {ds : List PyData} : GD G a es → es.length ≤ lim → RpA K w G (es.map (·.2)) ds → Rp K w G (.ref a) (.dict ((es.map (·.1)).zip ds))
inductive RpA (K : PySem.W.Frag) (w : World) (G : Gh) : List V → List PyData → Prop
  | nil : RpA K w G [] []
  | cons {v : V} {vs : List V} {d : PyData} {ds : List PyData} : Rp K w G v d → RpA K w G vs ds → RpA K w G (v :: vs) (d :: ds)
end
section
variable {K : PySem.W.Frag} {w : World} {G G' : Gh} {H : Hp}
theorem GT.mono {a : Addr} {xs : List V} (h : GT K G a xs) (g : ∀ a o, G a = some o → G' a = some o) : GT K G' a xs := by
  rcases h with h | h
  · exact .inl (g _ _ h)
  · exact .inr h
theorem GD.mono {a : Addr} {es : List (PyData × V)} (h : GD G a es) (g : ∀ a o, G a = some o → G' a = some o) : GD G' a es := by
  cases h with
  | k kvs e => exact .k kvs (g _ _ e)
  | t kvs e => exact .t kvs (g _ _ e)
mutual
theorem Rp.mono (g : ∀ a o, G a = some o → G' a = some o) : ∀ {v : V} {d : PyData}, Rp K w G v d → Rp K w G' v d
  | _, _, .non => .non
  | _, _, .bl b => .bl b
  | _, _, .int i => .int i
  | _, _, .str x h => .str x h
  | _, _, .lst h l a => .lst (g _ _ h) l (RpA.mono g a)
  | _, _, .tup h l a => .tup (h.mono g) l (RpA.mono g a)
  | _, _, .dic h l a => .dic (h.mono g) l (RpA.mono g a)
theorem RpA.mono (g : ∀ a o, G a = some o → G' a = some o) : ∀ {v : List V} {d : List PyData}, RpA K w G v d → RpA K w G' v d
  | _, _, .nil => .nil
  | _, _, .cons h t => .cons (Rp.mono g h) (RpA.mono g t)
end
theorem GT.sq {a : Addr} {xs : List V} (h : GT K G a xs) (k : GOk G H) : SqT K H a xs := by
  rcases h with h | h
  · exact .inl (.inl (k.fz _ _ h))
  · exact .inr h
theorem RpA.length : ∀ {vs : List V} {ds : List PyData}, RpA K w G vs ds → vs.length = ds.length
  | _, _, .nil => rfl
  | _, _, .cons _ t => congrArg (· + 1) (RpA.length t)
theorem RpA.append : ∀ {vs us : List V} {ds es : List PyData}, RpA K w G vs ds → RpA K w G us es → RpA K w G (vs ++ us) (ds ++ es)
  | _, _, _, _, .nil, b => b
  | _, _, _, _, .cons h t, b => .cons h (RpA.append t b)
theorem RpA.one {v : V} {d : PyData} (h : Rp K w G v d) : RpA K w G [v] [d] := .cons h .nil
theorem RpA.get : ∀ {vs : List V} {ds : List PyData} {i : Nat} {d : PyData}, RpA K w G vs ds → ds[i]? = some d → ∃ v, vs[i]? = some v ∧ Rp K w G v d
  | _, _, i, _, .nil, e => by simp at e
  | _, _, 0, _, .cons h t, e => ⟨_, rfl, by simp at e; rw [← e]; exact h⟩
  | _, _, i + 1, _, .cons h t, e => by
    obtain ⟨v, e1, r⟩ := RpA.get (i := i) t (by simpa using e)
    exact ⟨v, by simpa using e1, r⟩
theorem RpA.getV : ∀ {vs : List V} {ds : List PyData} {i : Nat} {v : V}, RpA K w G vs ds → vs[i]? = some v → ∃ d, ds[i]? = some d ∧ Rp K w G v d
  | _, _, i, _, .nil, e => by simp at e
  | _, _, 0, _, .cons h t, e => ⟨_, rfl, by simp at e; rw [← e]; exact h⟩
  | _, _, i + 1, _, .cons h t, e => by
    obtain ⟨d, e1, r⟩ := RpA.getV (i := i) t (by simpa using e)
    exact ⟨d, by simpa using e1, r⟩
theorem RpA.take : ∀ {vs : List V} {ds : List PyData} (n : Nat), RpA K w G vs ds → RpA K w G (vs.take n) (ds.take n)
  | _, _, 0, _ => .nil
  | _, _, _ + 1, .nil => .nil
  | _, _, n + 1, .cons h t => .cons h (RpA.take n t)
theorem RpA.drop : ∀ {vs : List V} {ds : List PyData} (n : Nat), RpA K w G vs ds → RpA K w G (vs.drop n) (ds.drop n)
  | _, _, 0, r => r
  | _, _, _ + 1, .nil => .nil
  | _, _, n + 1, .cons _ t => RpA.drop n t
theorem RpA.set {v : V} {d : PyData} (h : Rp K w G v d) : ∀ {vs : List V} {ds : List PyData} (n : Nat), RpA K w G vs ds → RpA K w G (vs.set n v) (ds.set n d)
  | _, _, _, .nil => .nil
  | _, _, 0, .cons _ t => .cons h t
  | _, _, n + 1, .cons g t => .cons g (RpA.set h n t)
theorem RpA.rev {vs : List V} {ds : List PyData} (h : RpA K w G vs ds) : RpA K w G vs.reverse ds.reverse := by
  induction vs generalizing ds with
  | nil => cases h; exact .nil
  | cons v vs ih => cases h with
    | cons h t => rw [List.reverse_cons, List.reverse_cons]; exact (ih t).append (.one h)
theorem RpA.ints : ∀ {vs : List V} {ns : List Int}, RpA K w G vs (ns.map PyData.int) → vs = ns.map V.int
  | _, [], h => by cases h; rfl
  | _, n :: ns, h => by
    cases h with
    | cons h t => cases h; rw [RpA.ints t]; rfl
theorem RpA.bls : ∀ {vs : List V} {ns : List Bool}, RpA K w G vs (ns.map PyData.bool) → vs = ns.map V.bl
  | _, [], h => by cases h; rfl
  | _, n :: ns, h => by
    cases h with
    | cons h t => cases h; rw [RpA.bls t]; rfl
theorem RpA.strs : ∀ {vs : List V} {ns : List Str}, RpA K w G vs (ns.map PyData.str) → vs = ns.map V.str
  | _, [], h => by cases h; rfl
  | _, n :: ns, h => by
    cases h with
    | cons h t => cases h; rw [RpA.strs t]; rfl
end

/-! ### slots -/
/-- what is known of a slot: nothing; data that stand still; a list or dict of one's own, alone held here; a state of drawn numbers -/
inductive Slot where
  | un
  | va (d : PyData)
  | ow (d : PyData)
  | rg
  | sc (ns : List Int)
abbrev En := List Slot
/-- arguments and answers of defs -/
inductive Av where
  | da (d : PyData)
  | ow (d : PyData)
  | rg
  | sc (ns : List Int)
/-- the script -/
def GS (K : PySem.W.Frag) (G : Gh) (a : Addr) (xs : List V) : Prop := (∃ ob, G a = some (.fz (.frz ob (.lst xs)))) ∨
  ∃ (o : Obj) (its : Array Value) (n : Nat), K.lookup a = some o ∧ o.cls = .type "list" ∧ o.dict = none ∧ o.data = .seq its n ∧ its.size ≤ sizeLine ∧ Vals xs its.toList
theorem GS.mono {K : PySem.W.Frag} {G G' : Gh} {a : Addr} {xs : List V} (h : GS K G a xs) (g : ∀ a o, G a = some o → G' a = some o) : GS K G' a xs := by
  rcases h with ⟨ob, h⟩ | h
  · exact .inl ⟨ob, g _ _ h⟩
  · exact .inr h
theorem GS.sq {K : PySem.W.Frag} {G : Gh} {H : Hp} {a : Addr} {xs : List V} (h : GS K G a xs) (k : GOk G H) : SqL K H a xs := by
  rcases h with ⟨ob, h⟩ | h
  · exact .inl (.inr ⟨ob, k.fz _ _ h⟩)
  · exact .inr h
/-- a list or dict of one's own at a -/
inductive Own (K : PySem.W.Frag) (w : World) (G : Gh) (H : Hp) (a : Addr) : PyData → Prop
  | lst {xs : List V} {ds : List PyData} : H a = some (.lst xs) → xs.length ≤ lim → RpA K w G xs ds → Own K w G H a (.list ds)
  | dK {kvs : List (Key × V)} {ds : List PyData} : H a = some (.dK kvs) → kvs.length ≤ lim → RpA K w G (kvs.map (·.2)) ds → Own K w G H a (.dict ((kvs.map fun p => keyD p.1).zip ds))
  | dT {kvs : List (List Key × V)} {ds : List PyData} : H a = some (.dT kvs) → kvs.length ≤ lim → RpA K w G (kvs.map (·.2)) ds → Own K w G H a (.dict ((kvs.map fun p => PyData.tuple (p.1.map keyD)).zip ds))
def SlotR (K : PySem.W.Frag) (w : World) (Hi : Hp) (G : Gh) (H : Hp) (o : Option (Option V)) : Slot → Prop
  | .un => True
  | .va d => ∃ v, o = some (some v) ∧ Rp K w G v d
  | .ow d => ∃ a, o = some (some (.ref a)) ∧ Hi a = none ∧ G a = none ∧ Own K w G H a d
  | .rg => ∃ a, o = some (some (.ref a)) ∧ G a = some .rg
  | .sc ns => ∃ a, o = some (some (.ref a)) ∧ GS K G a (ns.map V.int)
structure StR (K : PySem.W.Frag) (w : World) (Gi : Gh) (Hi : Hp) (G : Gh) (H : Hp) (σ : L2.St) (ρ : En) : Prop where
  gok : GOk G H
  ext : Ext Gi Hi G H
  len : ρ.length = σ.length
  sl : ∀ (i : Nat) (s : Slot), ρ[i]? = some s → SlotR K w Hi G H σ[i]? s
  dis : ∀ (i j : Nat) (a b : Addr) (d e : PyData), i ≠ j → ρ[i]? = some (.ow d) → σ[i]? = some (some (.ref a)) → ρ[j]? = some (.ow e) → σ[j]? = some (some (.ref b)) → a ≠ b
section
variable {K : PySem.W.Frag} {w : World} {Gi G G' : Gh} {Hi H H' : Hp} {σ : L2.St} {ρ : En} {a : Addr} {d : PyData}
theorem Own.mono (h : Own K w G H a d) (g : ∀ a o, G a = some o → G' a = some o) (e : ∀ o, H a = some o → H' a = some o) : Own K w G' H' a d := by
  cases h with
  | lst h l r => exact .lst (e _ h) l (r.mono g)
  | dK h l r => exact .dK (e _ h) l (r.mono g)
  | dT h l r => exact .dT (e _ h) l (r.mono g)
theorem Own.there (h : Own K w G H a d) : H a ≠ none := by
  cases h with
  | lst h _ _ => rw [h]; exact fun q => nomatch q
  | dK h _ _ => rw [h]; exact fun q => nomatch q
  | dT h _ _ => rw [h]; exact fun q => nomatch q
theorem SlotR.ext {o : Option (Option V)} {s : Slot} (r : SlotR K w Hi G H o s) (x : Ext G H G' H') (k' : GOk G' H') : SlotR K w Hi G' H' o s := by
  cases s with
  | un => trivial
  | va d => obtain ⟨v, e, p⟩ := r; exact ⟨v, e, p.mono x.g⟩
  | ow d =>
    obtain ⟨a, e, hi, hg, p⟩ := r
    refine ⟨a, e, hi, ?_, p.mono x.g fun o q => x.h a o q (by rw [hg]; exact fun z => nomatch z)⟩
    cases q : G' a with
    | none => rfl
    | some u => rw [x.n a u q p.there] at hg; cases hg
  | rg => obtain ⟨a, e, hg⟩ := r; exact ⟨a, e, x.g _ _ hg⟩
  | sc ns => obtain ⟨a, e, hg⟩ := r; exact ⟨a, e, hg.mono x.g⟩
/-- behind a step that leaves all that stood -/
theorem StR.step (S : StR K w Gi Hi G H σ ρ) (x : Ext G H G' H') (k : GOk G' H') : StR K w Gi Hi G' H' σ ρ :=
  ⟨k, S.ext.trans x, S.len, fun i s e => (S.sl i s e).ext x k, S.dis⟩
end
end VL
/-! VB: the small language that a def's body is checked against, and what it computes, by data -/
namespace VL
open PySem PySem.Spec PyProof.Rows L2

/-! ### operations by data -/
inductive BOp where
  | add | sub | mul | fdv | mod | pow
  deriving DecidableEq
def okMul (i j : Int) : Bool := (decide (-(2 ^ 64) < i) && decide (i < 2 ^ 64)) || (decide (-(2 ^ 64) < j) && decide (j < 2 ^ 64))
def addF : PyData → PyData → Option PyData
  | .int i, .int j => some (.int (i + j))
  | .str i, .str j => if i.length + j.length ≤ lim then some (.str (i ++ j)) else none
  | .list i, .list j => if i.length + j.length ≤ lim then some (.list (i ++ j)) else none
  | .tuple i, .tuple j => if i.length + j.length ≤ lim then some (.tuple (i ++ j)) else none
  | _, _ => none
def subF : PyData → PyData → Option PyData
  | .int i, .int j => some (.int (i - j))
  | _, _ => none
def mulF : PyData → PyData → Option PyData
  | .int i, .int j => if okMul i j = true then some (.int (i * j)) else none
  | .tuple i, .int j => if i ≠ [] ∧ 2 ≤ j ∧ j ≤ 1000 ∧ i.length ≤ 1000 then some (.tuple (List.replicate j.toNat i).flatten) else none
  | _, _ => none
def fdvF : PyData → PyData → Option PyData
  | .int i, .int j => if 0 < j ∧ j < 1073741824 then some (.int (i / j)) else none
  | _, _ => none
def modF : PyData → PyData → Option PyData
  | .int i, .int j => if 0 < j then some (.int (i % j)) else none
  | _, _ => none
def powF : PyData → PyData → Option PyData
  | .int i, .int j => if 0 ≤ j ∧ j ≤ 1000 ∧ i.natAbs < 2 ^ 64 then some (.int (i ^ j.toNat)) else none
  | _, _ => none
def BOp.f : BOp → PyData → PyData → Option PyData
  | .add => addF | .sub => subF | .mul => mulF | .fdv => fdvF | .mod => modF | .pow => powF
inductive COp where
  | eq | ne | lt | le | gt | ge | inn | nin
  deriving DecidableEq
def okD (d : PyData) : Bool := SeqAt.shaped d
/-- == where the model tells it -/
def eqS (a b : PyData) : Option Bool := match a, b with
  | .str i, .str j => some (decide (i = j))
  | a, b => if okD a = true ∧ okD b = true then some (PyData.eqv a b) else none
def eqD (a b : PyData) : Option Bool := match a, b with
  | .tuple xs, .tuple [] => some xs.isEmpty
  | a, b => eqS a b
def noN : PyData → Bool
  | .none => false
  | _ => true
def ltD (a b : PyData) : Option Bool := match a, b with
  | .int i, .int j => some (decide (i < j))
  | a, b => if PySem.W.alike a b = true ∧ noN a = true ∧ a.depth ≤ 64 ∧ a.canLay0 = true ∧ b.canLay0 = true then some (PySem.W.dataLt a b) else none
/-- a dict's value -/
def dvl (kvs : List (PyData × PyData)) (k : PyData) : Option PyData := (kvs.find? fun p => PyData.eqv p.1 k).map (·.2)
/-- what may be a key here -/
def okK : PyData → Bool
  | .int _ => true
  | .str _ => true
  | .tuple ks => ks.all fun k => match k with | .int _ => true | .str _ => true | _ => false
  | _ => false
/-- keys of one kind -/
def sameK : PyData → PyData → Bool
  | .tuple _, .tuple _ => true
  | .str _, .str _ => true
  | .int _, .int _ => true
  | _, _ => false
def kyO (kvs : List (PyData × PyData)) (k : PyData) : Bool := okK k && kvs.all fun p => sameK p.1 k
def inD (x : PyData) (c : PyData) : Option Bool := match c with
  | .list ds => if okD x = true ∧ okD c = true then some (ds.any fun z => PyData.eqv z x) else none
  | .tuple ds => if okD x = true ∧ okD c = true then some (ds.any fun z => PyData.eqv z x) else none
  | .dict kvs => if kyO kvs x = true then some (dvl kvs x).isSome else none
  | .str z => (match x with
    | .str y => (match y.cps.toList with
      | [c] => some (decide (c ∈ z.cps.toList))
      | _ => none)
    | _ => none)
  | _ => none
def gtD : PyData → PyData → Option Bool
  | .int i, .int j => some (decide (j < i))
  | _, _ => none
def leD : PyData → PyData → Option Bool
  | .int i, .int j => some (decide (i ≤ j))
  | _, _ => none
def geD : PyData → PyData → Option Bool
  | .int i, .int j => some (decide (j ≤ i))
  | _, _ => none
def COp.f : COp → PyData → PyData → Option Bool
  | .eq => eqD
  | .ne => fun a b => (eqS a b).map (!·)
  | .lt => ltD
  | .gt => gtD
  | .le => leD
  | .ge => geD
  | .inn => inD
  | .nin => fun a b => (inD a b).map (!·)
/-- a[i] -/
def ixD (a i : PyData) : Option PyData := match a, i with
  | .list ds, .int k => atI ds k
  | .tuple ds, .int k => atI ds k
  | .str z, .int k => (atI z.cps.toList k).map fun c => .str ⟨#[c]⟩
  | .dict kvs, k => if kyO kvs k = true then dvl kvs k else none
  | _, _ => none
def slI : List PyData → Option (Option Int)
  | [] => some none
  | [.int i] => some (some i)
  | _ => none
/-- a[l:h] -/
def slD (a : PyData) (l h : List PyData) : Option PyData := match slI l, slI h with
  | some lo, some hi => (match a with
    | .list ds => some (.list ((ds.drop (HT.sIx ds.length 0 lo)).take (HT.sIx ds.length ds.length hi - HT.sIx ds.length 0 lo)))
    | .tuple ds => some (.tuple ((ds.drop (HT.sIx ds.length 0 lo)).take (HT.sIx ds.length ds.length hi - HT.sIx ds.length 0 lo)))
    | .str z => some (.str (cutS z lo hi))
    | _ => none)
  | _, _ => none
def rvD : PyData → Option PyData
  | .list ds => some (.list ds.reverse)
  | .tuple ds => some (.tuple ds.reverse)
  | _ => none
inductive Ty where
  | int | bool | str | tuple | list | dict
  deriving DecidableEq
def Ty.nm : Ty → String
  | .int => "int" | .bool => "bool" | .str => "str" | .tuple => "tuple" | .list => "list" | .dict => "dict"
def tyD : PyData → String
  | .none => "NoneType" | .bool _ => "bool" | .int _ => "int" | .str _ => "str" | .list _ => "list" | .tuple _ => "tuple" | .dict _ => "dict"
def Ty.is : Ty → PyData → Bool
  | .int, .int _ => true
  | .int, .bool _ => true
  | .bool, .bool _ => true
  | .str, .str _ => true
  | .tuple, .tuple _ => true
  | .list, .list _ => true
  | .dict, .dict _ => true
  | _, _ => false
def isD (ts : List Ty) (d : PyData) : Bool := ts.any fun t => t.is d
/-- built-in functions -/
inductive Blt where
  | len | max2 | min2 | abs | int | sum | all | sorted | minl | str | list | tuple | repr
  deriving DecidableEq
def Blt.nm : Blt → Str
  | .len => "len" | .max2 => "max" | .min2 => "min" | .abs => "abs" | .int => "int" | .sum => "sum" | .all => "all" | .sorted => "sorted" | .minl => "min" | .str => "str"
  | .list => "list" | .tuple => "tuple" | .repr => "repr"
def intsD : List PyData → Option (List Int)
  | [] => some []
  | .int i :: r => (intsD r).map (i :: ·)
  | _ => none
def blsD : List PyData → Option (List Bool)
  | [] => some []
  | .bool i :: r => (blsD r).map (i :: ·)
  | _ => none
def strsD : List PyData → Option (List Str)
  | [] => some []
  | .str i :: r => (strsD r).map (i :: ·)
  | _ => none
def sortOk (ds : List PyData) : Prop := PySem.W.AllAlike ds ∧ PySem.W.Sortable ds ∧ ∀ d ∈ ds, d.depth ≤ 64
open Classical in
noncomputable def srtD (ds : List PyData) : Option PyData := if sortOk ds then some (.list (ds.mergeSort (PySem.W.dataLe false fun d => d))) else none
def minD (ds : List PyData) : Option PyData := match intsD ds with
  | some (n :: ns) => some (.int (ns.foldl min n))
  | _ => none
/-! what repr is known of -/
mutual
def noLs : PyData → Bool
  | .list _ => false
  | .tuple xs => noLsA xs
  | .dict kvs => noLsK kvs
  | .none => true
  | .bool _ => true
  | .int _ => true
  | .str _ => true
def noLsA : List PyData → Bool
  | [] => true
  | x :: xs => noLs x && noLsA xs
def noLsK : List (PyData × PyData) → Bool
  | [] => true
  | (_, v) :: r => noLs v && noLsK r
end
def okR (d : PyData) : Bool := d.showable && decide (d.depth ≤ 64) && decide (d.shown.length + 64 ≤ lim) && (!d.hasDict || noLs d)
def lenF : List PyData → Option PyData
  | [.list ds] => some (.int ds.length)
  | [.tuple ds] => some (.int ds.length)
  | [.str z] => some (.int z.length)
  | _ => none
def max2F : List PyData → Option PyData
  | [.int i, .int j] => some (.int (if j > i then j else i))
  | _ => none
def min2F : List PyData → Option PyData
  | [.int i, .int j] => some (.int (if j < i then j else i))
  | _ => none
def absF : List PyData → Option PyData
  | [.int i] => some (.int (if i < 0 then -i else i))
  | _ => none
def intF : List PyData → Option PyData
  | [.int i] => some (.int i)
  | [.bool b] => some (.int (if b then 1 else 0))
  | _ => none
def sumF : List PyData → Option PyData
  | [.list ds] => (intsD ds).map fun ns => .int ns.sum
  | _ => none
def allF : List PyData → Option PyData
  | [.list ds] => (blsD ds).map fun bs => .bool (bs.all id)
  | _ => none
noncomputable def sortedF : List PyData → Option PyData
  | [.list ds] => srtD ds
  | _ => none
def minlF : List PyData → Option PyData
  | [.list ds] => minD ds
  | _ => none
def strF : List PyData → Option PyData
  | [.int i] => if i.natAbs.log2 < 1920 ∧ (toString i : Str).length ≤ lim then some (.str (toString i)) else none
  | _ => none
def listF : List PyData → Option PyData
  | [.list ds] => some (.list ds)
  | [.tuple ds] => some (.list ds)
  | _ => none
def tupleF : List PyData → Option PyData
  | [.list ds] => some (.tuple ds)
  | [.tuple ds] => some (.tuple ds)
  | _ => none
def reprF : List PyData → Option PyData
  | [d] => if okR d = true then some (.str d.shown) else none
  | _ => none
noncomputable def Blt.f : Blt → List PyData → Option PyData
  | .len => lenF | .max2 => max2F | .min2 => min2F | .abs => absF | .int => intF | .sum => sumF | .all => allF | .sorted => sortedF | .minl => minlF | .str => strF
  | .list => listF | .tuple => tupleF | .repr => reprF
/-- methods of built-in things -/
inductive Mth where
  | index | count | get
  deriving DecidableEq
def Mth.nm : Mth → Str
  | .index => "index" | .count => "count" | .get => "get"
def ixOf (ds : List PyData) (d : PyData) : Option Nat := ds.findIdx? fun z => PyData.eqv z d
def indexF : PyData → List PyData → Option PyData
  | .list ds, [d] => if okD d = true ∧ okD (.list ds) = true then (ixOf ds d).map fun j => .int (j : Nat) else none
  | _, _ => none
def getF : PyData → List PyData → Option PyData
  | .dict kvs, [k, x] => if kyO kvs k = true then some ((dvl kvs k).getD x) else none
  | _, _ => none
def Mth.f : Mth → PyData → List PyData → Option PyData
  | .index => indexF | .get => getF
  | .count => fun _ _ => none

/-! ### the language -/
abbrev Spec := List Av → (Av → Prop) → (Str → Prop) → Prop
mutual
/-- targets -/
inductive Tg where
  | nm (i : Nat)
  | tp (ts : Tgs)
inductive Tgs where
  | nil
  | cons (t : Tg) (ts : Tgs)
end
mutual
inductive Ex where
  | var (i : Nat)
  | cst (d : PyData)
  | glb (x : Str) (d : PyData)
  | gld (x : Str) (d : PyData)
  | tup (es : Exs)
  | lst (es : Exs)
  | dis (ks vs : Exs)
  | bin (o : BOp) (a b : Ex)
  | neg (a : Ex)
  | cmp (o : COp) (a b : Ex)
  | chn (o p : COp) (a b c : Ex)
  | isN (a : Ex)
  | ntN (a : Ex)
  | and (a b : Ex)
  | or (a b : Ex)
  | not (a : Ex)
  | ite (t a b : Ex)
  | cal (f : Str) (sp : Spec) (as : Exs)
  | blt (b : Blt) (as : Exs)
  | isi (ts : List Ty) (a : Ex)
  | mth (m : Mth) (o : Ex) (as : Exs)
  | sub (a i : Ex)
  | slc (a : Ex) (lo hi : Exs)
  | rev (a : Ex)
  | lcm (el : Ex) (tg : Tg) (it : Itr) (cn : Exs) (own : List Nat)
  | lsc (i : Nat)
  | isc (i : Nat) (k : Ex)
  | rgx (i : Nat) (k : Bool)
inductive Exs where
  | nil
  | cons (e : Ex) (es : Exs)
/-- what is walked -/
inductive Itr where
  | seq (e : Ex)
  | rg1 (e : Ex)
  | rg2 (a b : Ex)
  | enm (e : Ex)
  | zip (a b : Ex)
end
mutual
inductive S where
  | frz (i : Nat)
  | fgt (is : List Nat)
  | set (i : Nat) (e : Ex)
  | sow (i : Nat) (e : Ex)
  | sca (i : Nat) (f : Str) (sp : Spec) (as : Exs)
  | par (is : List Nat) (es : Exs) (ow : List Bool)
  | unp (tg : Tg) (e : Ex)
  | app (i : Nat) (e : Ex)
  | put (i : Nat) (b : Bool) (k e : Ex)
  | pts (ts : Pts) (es : Exs)
  | rgp (i : Nat) (k : Bool) (e : Ex)
  | rtg (e : Ex)
  | ifs (t : Ex) (a b : Ss)
  | fr (tg : Tg) (it : Itr) (b : Ss)
  | whl (t : Ex) (b : Ss)
  | ret (e : Ex)
  | rse (c : Str)
  | exp (e : Ex)
inductive Ss where
  | nil
  | cons (s : S) (r : Ss)
/-- stores at places -/
inductive Pts where
  | nil
  | cons (i : Nat) (k : Ex) (r : Pts)
end

/-! ### what it computes -/
def rdV (ρ : En) (i : Nat) (P : PyData → Prop) : Prop := match ρ[i]? with
  | some (.va d) => P d
  | _ => False
def rdB (ρ : En) (i : Nat) (P : PyData → Prop) : Prop := match ρ[i]? with
  | some (.va d) => P d
  | some (.ow d) => P d
  | _ => False
def rdA (ρ : En) (i : Nat) (P : Av → Prop) : Prop := match ρ[i]? with
  | some (.va d) => P (.da d)
  | some .rg => P .rg
  | some (.sc ns) => P (.sc ns)
  | _ => False
/-- a value that is only looked at -/
def brw (ρ : En) (e : Ex) (t : (PyData → Prop) → Prop) (P : PyData → Prop) : Prop := match e with
  | .var i => rdB ρ i P
  | .gld _ d => P d
  | _ => t P
/-- .. and no written dict -/
def brv (ρ : En) (e : Ex) (t : (PyData → Prop) → Prop) (P : PyData → Prop) : Prop := match e with
  | .var i => rdB ρ i P
  | _ => t P
def arg (ρ : En) (e : Ex) (t : (PyData → Prop) → Prop) (P : Av → Prop) : Prop := match e with
  | .var i => rdA ρ i P
  | _ => t fun d => P (.da d)
def rdS (ρ : En) (i : Nat) (P : List Int → Prop) : Prop := match ρ[i]? with
  | some (.sc ns) => P ns
  | _ => False
def isRg (ρ : En) (i : Nat) : Prop := match ρ[i]? with
  | some .rg => True
  | _ => False
def asB (d : PyData) (P : Bool → Prop) : Prop := match d with
  | .bool b => P b
  | _ => False
def asL (d : PyData) (P : List PyData → Prop) : Prop := match d with
  | .list ds => P ds
  | .tuple ds => P ds
  | _ => False
def asI (d : PyData) (P : Int → Prop) : Prop := match d with
  | .int i => P i
  | _ => False
def oP {α : Type} (o : Option α) (P : α → Prop) : Prop := match o with
  | some d => P d
  | none => False
def rvP (r : Av) (P : PyData → Prop) : Prop := match r with
  | .da d => P d
  | .ow d => P d
  | _ => False
def ite' (c : Bool) (A B : Prop) : Prop := match c with
  | true => A
  | false => B
mutual
/-- a target takes data -/
def bnd : Tg → PyData → En → (En → Prop) → Prop
  | .nm i, d, ρ, P => P (ρ.set i (.va d))
  | .tp ts, .tuple ds, ρ, P => bnds ts ds ρ P
  | .tp ts, _, ρ, P => False
def bnds : Tgs → List PyData → En → (En → Prop) → Prop
  | .nil, [], ρ, P => P ρ
  | .cons t ts, d :: ds, ρ, P => bnd t d ρ fun ρ' => bnds ts ds ρ' P
  | _, _, _, _ => False
end
def wipeE (ρ : En) : List Nat → En
  | [] => ρ
  | v :: vs => (wipeE ρ vs).set v .un
/-- a comprehension over the items -/
def lcW (f : PyData → (Option PyData → Prop) → Prop) : List PyData → List PyData → (List PyData → Prop) → Prop
  | [], acc, Q => Q acc
  | x :: xs, acc, Q => f x fun o => lcW f xs (acc ++ o.toList) Q
/-- a loop over the items -/
def frW (f : PyData → En → (En → Prop) → Prop) : List PyData → En → (En → Prop) → Prop
  | [], ρ, Q => Q ρ
  | x :: xs, ρ, Q => f x ρ fun ρ' => frW f xs ρ' Q
/-- a while, by an invariant and a measure -/
def whW (t : En → (Bool → Prop) → Prop) (b : En → (En → Prop) → Prop) (ρ : En) (Q : En → Prop) : Prop :=
  ∃ (I : En → Prop) (μ : En → Nat), I ρ ∧ ∀ ρ, I ρ → t ρ fun c => ite' c (b ρ fun ρ' => I ρ' ∧ μ ρ' < μ ρ) (Q ρ)
def rgI (i : Int) : Bool := decide (-(2 ^ 62) ≤ i) && decide (i < 2 ^ 62)
def rgL (lo : Int) (n : Nat) : List PyData := (List.range n).map fun k => .int (lo + (k : Nat))
def enL : Nat → List PyData → List PyData
  | _, [] => []
  | k, d :: ds => .tuple [.int (k : Nat), d] :: enL (k + 1) ds
def zpL : List PyData → List PyData → List PyData
  | a :: as, b :: bs => .tuple [a, b] :: zpL as bs
  | _, _ => []
abbrev noX : Str → Prop := fun _ => False
mutual
def wpE : Ex → (Str → Prop) → En → (PyData → Prop) → Prop
  | .var i, _, ρ, P => rdV ρ i P
  | .cst d, _, _, P => P d
  | .glb _ d, _, _, P => P d
  | .gld _ _, _, _, _ => False
  | .tup es, x, ρ, P => wpEs es x ρ fun ds => P (.tuple ds)
  | .lst es, x, ρ, P => wpEs es x ρ fun ds => P (.list ds)
  | .dis ks vs, x, ρ, P => wpEs ks x ρ fun as => wpEs vs x ρ fun bs => P (.dict (as.zip bs))
  | .bin o a b, x, ρ, P => brw ρ a (wpE a x ρ) fun da => brw ρ b (wpE b x ρ) fun db => oP (o.f da db) P
  | .neg a, x, ρ, P => wpE a x ρ fun da => asI da fun i => P (.int (-i))
  | .cmp o a b, x, ρ, P => brw ρ a (wpE a x ρ) fun da => brw ρ b (wpE b x ρ) fun db => oP (o.f da db) fun c => P (.bool c)
  | .chn o p a b c, x, ρ, P => wpE a x ρ fun da => wpE b x ρ fun db => oP (o.f da db) fun k => ite' k (wpE c x ρ fun dc => oP (p.f db dc) fun m => P (.bool m)) (P (.bool false))
  | .isN a, x, ρ, P => brw ρ a (wpE a x ρ) fun da => P (.bool (match da with | .none => true | _ => false))
  | .ntN a, x, ρ, P => brw ρ a (wpE a x ρ) fun da => P (.bool (match da with | .none => false | _ => true))
  | .and a b, x, ρ, P => wpE a x ρ fun da => asB da fun c => ite' c (wpE b x ρ P) (P (.bool false))
  | .or a b, x, ρ, P => wpE a x ρ fun da => asB da fun c => ite' c (P (.bool true)) (wpE b x ρ P)
  | .not a, x, ρ, P => wpE a x ρ fun da => asB da fun c => P (.bool (!c))
  | .ite t a b, x, ρ, P => wpE t x ρ fun dt => asB dt fun c => ite' c (wpE a x ρ P) (wpE b x ρ P)
  | .cal _ sp as, x, ρ, P => wpAs as x ρ fun vs => sp vs (fun r => rvP r P) x
  | .blt b as, x, ρ, P => wpBs as x ρ fun ds => oP (b.f ds) P
  | .isi ts a, x, ρ, P => brw ρ a (wpE a x ρ) fun da => P (.bool (isD ts da))
  | .mth m o as, x, ρ, P => brv ρ o (wpE o x ρ) fun d => wpBs as x ρ fun ds => oP (m.f d ds) P
  | .sub a i, x, ρ, P => brw ρ a (wpE a x ρ) fun da => wpE i x ρ fun di => oP (ixD da di) P
  | .slc a lo hi, x, ρ, P => brw ρ a (wpE a x ρ) fun da => wpEs lo x ρ fun l => oP (slI l) fun _ => wpEs hi x ρ fun h => oP (slI h) fun _ => oP (slD da l h) P
  | .rev a, x, ρ, P => brw ρ a (wpE a x ρ) fun da => oP (rvD da) P
  | .lcm el tg it cn own, x, ρ, P => wpI it true x ρ fun items => lcW (fun d K => bnd tg d (wipeE ρ own) fun ρ' => wpC cn ρ' fun c => ite' c (wpE el noX ρ' fun r => K (some r)) (K none)) items [] fun ds => P (.list ds)
  | .lsc i, _, ρ, P => rdS ρ i fun ns => P (.int (ns.length : Nat))
  | .isc i k, x, ρ, P => rdS ρ i fun ns => wpE k x ρ fun dk => asI dk fun z => oP (atI ns z) fun n => P (.int n)
  | .rgx i k, _, ρ, P => isRg ρ i ∧ ∀ z : Int, 0 ≤ z → (k = true → z < 4294967296) → P (.int z)
def wpEs : Exs → (Str → Prop) → En → (List PyData → Prop) → Prop
  | .nil, _, _, P => P []
  | .cons e es, x, ρ, P => wpE e x ρ fun d => wpEs es x ρ fun ds => P (d :: ds)
def wpBs : Exs → (Str → Prop) → En → (List PyData → Prop) → Prop
  | .nil, _, _, P => P []
  | .cons e es, x, ρ, P => brv ρ e (wpE e x ρ) fun d => wpBs es x ρ fun ds => P (d :: ds)
def wpAs : Exs → (Str → Prop) → En → (List Av → Prop) → Prop
  | .nil, _, _, P => P []
  | .cons e es, x, ρ, P => arg ρ e (wpE e x ρ) fun d => wpAs es x ρ fun ds => P (d :: ds)
/-- a comprehension's test, if there is one -/
def wpC : Exs → En → (Bool → Prop) → Prop
  | .nil, _, P => P true
  | .cons e _, ρ, P => wpE e noX ρ fun d => asB d P
/-- the items that are walked (b: a list of one's own may be walked, where nothing changes it) -/
def wpI : Itr → Bool → (Str → Prop) → En → (List PyData → Prop) → Prop
  | .seq e, b, x, ρ, P => ite' b (brw ρ e (wpE e x ρ) fun d => asL d P) (wpE e x ρ fun d => asL d P)
  | .rg1 e, _, x, ρ, P => wpE e x ρ fun d => asI d fun n => rgI n = true ∧ n ≤ lim ∧ P (rgL 0 n.toNat)
  | .rg2 a b, _, x, ρ, P => wpE a x ρ fun da => wpE b x ρ fun db => asI da fun i => asI db fun j => rgI i = true ∧ rgI j = true ∧ j - i ≤ lim ∧ P (rgL i (j - i).toNat)
  | .enm e, _, x, ρ, P => wpE e x ρ fun d => asL d fun ds => P (enL 0 ds)
  | .zip a b, _, x, ρ, P => wpE a x ρ fun da => wpE b x ρ fun db => asL da fun xs => asL db fun ys => P (zpL xs ys)
end
/-- a first state of drawn numbers -/
def twoP (d : PyData) (P : Prop) : Prop := match d with
  | .list [.int i, .int j] => 0 ≤ i ∧ 0 ≤ j ∧ j < 4294967296 ∧ P
  | _ => False
/-- a dict's value at a key is put -/
def putD (kvs : List (PyData × PyData)) (k d : PyData) : List (PyData × PyData) :=
  if (kvs.any fun p => PyData.eqv p.1 k) = true then kvs.map (fun p => if PyData.eqv p.1 k = true then (p.1, d) else p) else kvs ++ [(k, d)]
def noTup : PyData → Bool
  | .tuple _ => false
  | _ => true
/-- the slot's list or dict takes d at dk (b: a key that was just made) -/
def putB (b : Bool) (i : Nat) (d : PyData) (ρ : En) (N : En → Prop) (dk : PyData) : Prop := match ρ[i]? with
  | some (.ow (.list ds)) => asI dk fun z => oP (ixN ds.length z) fun j => N (ρ.set i (.ow (.list (ds.set j d))))
  | some (.ow (.dict kvs)) => (b || noTup dk) = true ∧ kyO kvs dk = true ∧ kvs.length < lim ∧ N (ρ.set i (.ow (.dict (putD kvs dk d))))
  | _ => False
def isOw (ρ : En) (i : Nat) : Prop := match ρ[i]? with
  | some (.ow _) => True
  | _ => False
def putP (b : Bool) (i : Nat) (t : (PyData → Prop) → Prop) (d : PyData) (ρ : En) (N : En → Prop) : Prop := isOw ρ i ∧ t (putB b i d ρ N)
/-- several slots at once: each stands still, or is one's own -/
def setsE : List Nat → List PyData → List Bool → En → En
  | i :: is, d :: ds, b :: bs, ρ => setsE is ds bs (ρ.set i (match b with | true => .ow d | false => .va d))
  | _, _, _, ρ => ρ
def frzE (ρ : En) (i : Nat) : En := match ρ[i]? with
  | some (.ow d) => ρ.set i (.va d)
  | _ => ρ
def retP (ρ : En) (e : Ex) (t : (PyData → Prop) → Prop) (P : Av → Prop) : Prop := match e with
  | .var i => (match ρ[i]? with
    | some (.va d) => P (.da d)
    | some (.ow d) => P (.ow d)
    | some .rg => P .rg
    | _ => False)
  | _ => t fun d => P (.da d)
mutual
/-- x: errors; R: the answer; N: what follows -/
def wpS : S → (Str → Prop) → (Av → Prop) → En → (En → Prop) → Prop
  | .frz i, _, _, ρ, N => N (frzE ρ i)
  | .fgt is, _, _, ρ, N => N (wipeE ρ is)
  | .set i e, x, _, ρ, N => wpE e x ρ fun d => N (ρ.set i (.va d))
  | .sow i e, x, _, ρ, N => wpE e x ρ fun d => N (ρ.set i (.ow d))
  | .sca i _ sp as, x, _, ρ, N => wpAs as x ρ fun vs => sp vs (fun r => N (ρ.set i (match r with | .da d => .va d | .ow d => .ow d | .rg => .rg | .sc ns => .sc ns))) x
  | .par is es ow, x, _, ρ, N => wpEs es x ρ fun ds => N (setsE is ds ow ρ)
  | .unp tg e, x, _, ρ, N => wpE e x ρ fun d => bnd tg d ρ N
  | .app i e, x, _, ρ, N => (match ρ[i]? with
    | some (.ow (.list ds)) => wpE e x ρ fun d => ds.length < lim ∧ N (ρ.set i (.ow (.list (ds ++ [d]))))
    | _ => False)
  | .put i b k e, x, _, ρ, N => wpE e x ρ fun d => putP b i (wpE k x ρ) d ρ N
  | .pts ts es, x, _, ρ, N => wpEs es x ρ fun ds => wpPts ts x ds ρ N
  | .rgp i k e, x, _, ρ, N => wpE e x ρ fun d => asI d fun z => isRg ρ i ∧ 0 ≤ z ∧ (k = true → z < 4294967296) ∧ N ρ
  | .rtg e, x, R, ρ, _ => wpE e x ρ fun d => twoP d (R .rg)
  | .ifs t a b, x, R, ρ, N => wpE t x ρ fun d => asB d fun c => ite' c (wpSs a x R ρ N) (wpSs b x R ρ N)
  | .fr tg it b, x, R, ρ, N => wpI it false x ρ fun items => frW (fun d ρ' K => bnd tg d ρ' fun ρ'' => wpSs b x R ρ'' K) items ρ N
  | .whl t b, x, R, ρ, N => whW (fun ρ K => wpE t x ρ fun d => asB d K) (fun ρ K => wpSs b x R ρ K) ρ N
  | .ret e, x, R, ρ, _ => retP ρ e (wpE e x ρ) R
  | .rse c, x, _, _, _ => x c
  | .exp e, x, _, ρ, N => wpE e x ρ fun _ => N ρ
def wpSs : Ss → (Str → Prop) → (Av → Prop) → En → (En → Prop) → Prop
  | .nil, _, _, ρ, N => N ρ
  | .cons s r, x, R, ρ, N => wpS s x R ρ fun ρ' => wpSs r x R ρ' N
def wpPts : Pts → (Str → Prop) → List PyData → En → (En → Prop) → Prop
  | .nil, _, [], ρ, N => N ρ
  | .cons i k r, x, d :: ds, ρ, N => putP false i (wpE k x ρ) d ρ fun ρ' => wpPts r x ds ρ' N
  | _, _, _, _, _ => False
end
end VL
/-! VC: the operations by data are what the model does -/
namespace VL
open PySem PySem.Spec PyProof.Rows L2
section
variable {K : PySem.W.Frag} {w : World} {G G' : Gh} {H H' : Hp} {X : Cx}

/-- a written dict of the module with text keys -/
inductive Kdv (K : PySem.W.Frag) (w : World) : V → PyData → Prop
  | mk {a : Addr} {kvs : List (Str × V)} {es : Array DictEntry} {n : Nat} {ds : List PyData} : KDict K w a es n → kvs ≠ [] →
      (∀ x : Str, ∃ r : Option Value, PySem.W.nsIn K a x = some r ∧ RelO (kvs.lookup x) r) → (∀ G : Gh, RpA K w G (kvs.map (·.2)) ds) → Kdv K w (.ref a) (.dict ((kvs.map fun p => PyData.str p.1).zip ds))
/-- a value that is looked at: it stands still, or is a list or dict of one's own, or a written dict -/
inductive Rb (K : PySem.W.Frag) (w : World) (G : Gh) (H : Hp) : V → PyData → Prop
  | rp {v : V} {d : PyData} : Rp K w G v d → Rb K w G H v d
  | ow {a : Addr} {d : PyData} : G a = none → Own K w G H a d → Rb K w G H (.ref a) d
  | kd {v : V} {d : PyData} : Kdv K w v d → Rb K w G H v d
theorem Rb.ext {v : V} {d : PyData} (r : Rb K w G H v d) (x : Ext G H G' H') : Rb K w G' H' v d := by
  cases r with
  | rp r => exact .rp (r.mono x.g)
  | @ow a d hg o =>
    refine .ow ?_ (o.mono x.g fun u q => x.h a u q (by rw [hg]; exact fun z => nomatch z))
    cases q : G' a with
    | none => rfl
    | some u => rw [x.n a u q o.there] at hg; cases hg
  | kd k => exact .kd k
inductive RbA (K : PySem.W.Frag) (w : World) (G : Gh) (H : Hp) : List V → List PyData → Prop
  | nil : RbA K w G H [] []
  | cons {v : V} {vs : List V} {d : PyData} {ds : List PyData} : Rb K w G H v d → RbA K w G H vs ds → RbA K w G H (v :: vs) (d :: ds)
theorem RbA.ext : ∀ {vs : List V} {ds : List PyData}, RbA K w G H vs ds → Ext G H G' H' → RbA K w G' H' vs ds
  | _, _, .nil, _ => .nil
  | _, _, .cons h t, x => .cons (h.ext x) (RbA.ext t x)
/-- what is asked of an answer -/
def Kon (K : PySem.W.Frag) (w : World) (G : Gh) (H : Hp) (d : PyData) (Q : VK) : Prop := ∀ v G' H', GOk G' H' → Ext G H G' H' → Rp K w G' v d → Q v H'
theorem Kon.same {d : PyData} {Q : VK} (k : Kon K w G H d Q) (g : GOk G H) {v : V} (r : Rp K w G v d) : Q v H := k v G H g (Ext.refl G H) r
theorem Kon.lst {xs : List V} {ds : List PyData} {Q : VK} (k : Kon K w G H (.list ds) Q) (g : GOk G H) (r : RpA K w G xs ds) (hl : xs.length ≤ lim) {p : Addr} (hp : H p = none) : Q (.ref p) (upd H p (.lst xs)) :=
  k _ _ _ (g.new hp) (Ext.new g hp) (.lst updG_same hl (r.mono (Ext.new g hp).g))
theorem Kon.tup {xs : List V} {ds : List PyData} {Q : VK} (k : Kon K w G H (.tuple ds) Q) (g : GOk G H) (r : RpA K w G xs ds) (hl : xs.length ≤ lim) {p : Addr} (hp : H p = none) : Q (.ref p) (upd H p (.tup xs)) :=
  k _ _ _ (g.new hp) (Ext.new g hp) (.tup (.inl updG_same) hl (r.mono (Ext.new g hp).g))
theorem lim_line {n : Nat} (h : n ≤ lim) : n ≤ sizeLine := Nat.le_trans h (by rw [sizeLine_eq]; decide)
theorem lim_lt {n : Nat} (h : n < lim) : n < sizeLine := Nat.lt_of_lt_of_le h (lim_line (Nat.le_refl _))

/-! ### what a looked-at value is -/
theorem Rb.int {v : V} {i : Int} (r : Rb K w G H v (.int i)) : v = .int i := by
  cases r with
  | rp r => cases r; rfl
  | ow _ o => cases o
  | kd k => cases k
theorem Rb.bl {v : V} {b : Bool} (r : Rb K w G H v (.bool b)) : v = .bl b := by
  cases r with
  | rp r => cases r; rfl
  | ow _ o => cases o
  | kd k => cases k
theorem Rb.non {v : V} (r : Rb K w G H v .none) : v = .non := by
  cases r with
  | rp r => cases r; rfl
  | ow _ o => cases o
  | kd k => cases k
theorem Rb.str {v : V} {z : Str} (r : Rb K w G H v (.str z)) : v = .str z ∧ z.length ≤ lim := by
  cases r with
  | rp r => cases r with
    | str _ h => exact ⟨rfl, h⟩
  | ow _ o => cases o
  | kd k => cases k
theorem Rb.list {v : V} {ds : List PyData} (r : Rb K w G H v (.list ds)) (g : GOk G H) : ∃ a xs, v = .ref a ∧ H a = some (.lst xs) ∧ xs.length ≤ lim ∧ RpA K w G xs ds := by
  cases r with
  | rp r => cases r with
    | lst h l r => exact ⟨_, _, rfl, g.fz _ _ h, l, r⟩
  | ow _ o => cases o with
    | lst h l r => exact ⟨_, _, rfl, h, l, r⟩
  | kd k => cases k
theorem Rb.tupR {v : V} {ds : List PyData} (r : Rb K w G H v (.tuple ds)) : Rp K w G v (.tuple ds) := by
  cases r with
  | rp r => exact r
  | ow _ o => cases o
  | kd k => cases k
theorem Rb.tup {v : V} {ds : List PyData} (r : Rb K w G H v (.tuple ds)) (g : GOk G H) : ∃ a xs, v = .ref a ∧ SqT K H a xs ∧ xs.length ≤ lim ∧ RpA K w G xs ds := by
  cases r.tupR with
  | tup h l r => exact ⟨_, _, rfl, h.sq g, l, r⟩
/-- nothing of it is a dict -/
theorem Rp.dp (g : GOk G H) : ∀ {v : V} (d : PyData), d.canLay0 = true → Rp K w G v d → Dp K H v d := by
  intro v d
  refine PyData.rec (motive_1 := fun d => ∀ v, d.canLay0 = true → Rp K w G v d → Dp K H v d) (motive_2 := fun ds => ∀ vs, PyData.canLayAll0 ds = true → RpA K w G vs ds → DpAll K H vs ds) (motive_3 := fun _ => True) (motive_4 := fun _ => True)
    ?_ ?_ ?_ ?_ ?_ ?_ ?_ ?_ ?_ ?_ ?_ ?_ d v
  · intro v _ r; cases r; exact .non
  · intro b v _ r; cases r; exact .bl b
  · intro i v _ r; cases r; exact .int i
  · intro z v _ r; cases r; exact .str z
  · intro ds ih v hc r
    cases r with
    | lst h l r => exact .lst (.inl (.inl (g.fz _ _ h))) (ih _ (by simpa [PyData.canLay0] using hc) r)
  · intro ds ih v hc r
    cases r with
    | tup h l r => exact .tup (h.sq g) (ih _ (by simpa [PyData.canLay0] using hc) r)
  · intro kvs _ v hc _; simp [PyData.canLay0] at hc
  · intro vs _ r; cases r; exact .nil
  · intro d ds ih1 ih2 vs hc r
    have hc' : d.canLay0 = true ∧ PyData.canLayAll0 ds = true := by simpa [PyData.canLayAll0] using hc
    cases r with
    | cons h t => exact .cons (ih1 _ hc'.1 h) (ih2 _ hc'.2 t)
  · trivial
  · intros; trivial
  · intros; trivial
theorem RpA.dp (g : GOk G H) : ∀ {vs : List V} {ds : List PyData}, PyData.canLayAll0 ds = true → RpA K w G vs ds → DpAll K H vs ds := by
  intro vs ds hc r
  induction ds generalizing vs with
  | nil => cases r; exact .nil
  | cons d ds ih =>
    have hc' : d.canLay0 = true ∧ PyData.canLayAll0 ds = true := by simpa [PyData.canLayAll0] using hc
    cases r with
    | cons h t => exact .cons (Rp.dp g d hc'.1 h) (ih hc'.2 t)
theorem Rb.dp0 {v : V} {d : PyData} (r : Rb K w G H v d) (g : GOk G H) (hc : d.canLay0 = true) : Dp K H v d := by
  cases r with
  | rp r => exact r.dp g d hc
  | ow _ o => cases o with
    | lst h l r => exact .lst (.inl (.inl h)) (r.dp g (by simpa [PyData.canLay0] using hc))
    | dK h l r => simp [PyData.canLay0] at hc
    | dT h l r => simp [PyData.canLay0] at hc
  | kd k => cases k; simp [PyData.canLay0] at hc
theorem Rb.dp {v : V} {d : PyData} (r : Rb K w G H v d) (g : GOk G H) (hc : okD d = true) : Dp K H v d := r.dp0 g (SeqAt.canLay_of_shaped hc)

/-! ### operators -/
def BOp.op : BOp → Operator
  | .add => .Add | .sub => .Sub | .mul => .Mult | .fdv => .FloorDiv | .mod => .Mod | .pow => .Pow
/-- two places, by data -/
def r2 {α : Type} (K : PySem.W.Frag) (w : World) (f : PyData → PyData → Option α) (t : α → PyData) : R2 := fun x y H Q => ∃ G da db d, GOk G H ∧ Rb K w G H x da ∧ Rb K w G H y db ∧ f da db = some d ∧ Kon K w G H (t d) Q
theorem replicate_rpa {xs : List V} {ds : List PyData} (r : RpA K w G xs ds) : ∀ n : Nat, RpA K w G (List.replicate n xs).flatten (List.replicate n ds).flatten
  | 0 => .nil
  | n + 1 => by rw [List.replicate_succ, List.replicate_succ, List.flatten_cons, List.flatten_cons]; exact r.append (replicate_rpa r n)
theorem replicate_len {α : Type} (xs : List α) : ∀ n : Nat, (List.replicate n xs).flatten.length = n * xs.length
  | 0 => by simp
  | n + 1 => by rw [List.replicate_succ, List.flatten_cons, List.length_append, replicate_len xs n, Nat.succ_mul, Nat.add_comm]
theorem RpA.nil_iff {xs : List V} {ds : List PyData} (r : RpA K w G xs ds) : xs = [] ↔ ds = [] := by
  cases r <;> simp
theorem add_ok : OpR X (binaryOp .Add) (r2 X.K X.w addF id) := by
  intro pins s σ H x y v u Q I rx ry h
  obtain ⟨G, da, db, d, g, ra, rb, e, k⟩ := h
  cases da with
  | int i => cases db with
    | int j =>
      cases e; cases ra.int; cases rb.int
      exact op_add pins s σ H _ _ v u Q I rx ry ⟨_, _, rfl, rfl, k.same g (.int _)⟩
    | _ => cases e
  | str i => cases db with
    | str j =>
      simp only [addF] at e
      split at e
      · rename_i hl
        cases e
        obtain ⟨rfl, h1⟩ := ra.str
        obtain ⟨rfl, h2⟩ := rb.str
        have el : (i ++ j).length ≤ lim := by
          have q : (i ++ j).length = i.length + j.length := by
            show (i.cps ++ j.cps).size = i.cps.size + j.cps.size
            exact Array.size_append
          rw [q]; exact hl
        exact op_add_str pins s σ H _ _ v u Q I rx ry ⟨_, _, rfl, rfl, lim_line hl, k.same g (.str _ el)⟩
      · cases e
    | _ => cases e
  | list i => cases db with
    | list j =>
      simp only [addF] at e
      split at e
      · rename_i hl
        cases e
        obtain ⟨a, xs, rfl, ha, la, qa⟩ := ra.list g
        obtain ⟨b, ys, rfl, hb, lb, qb⟩ := rb.list g
        have hl' : xs.length + ys.length ≤ lim := by rw [qa.length, qb.length]; exact hl
        exact op_cat pins s σ H _ _ v u Q I rx ry ⟨_, _, _, _, rfl, rfl, ha, hb, lim_line hl', fun p hp => k.lst g (qa.append qb) (by rw [List.length_append]; exact hl') hp⟩
      · cases e
    | _ => cases e
  | tuple i => cases db with
    | tuple j =>
      simp only [addF] at e
      split at e
      · rename_i hl
        cases e
        obtain ⟨a, xs, rfl, ha, la, qa⟩ := ra.tup g
        obtain ⟨b, ys, rfl, hb, lb, qb⟩ := rb.tup g
        have hl' : xs.length + ys.length ≤ lim := by rw [qa.length, qb.length]; exact hl
        refine op_catA pins s σ H _ _ v u Q I rx ry ⟨_, _, _, _, rfl, rfl, ha, hb, lim_line hl', fun z => ?_, fun _ z => ?_, fun _ _ p hp => k.tup g (qa.append qb) (by rw [List.length_append]; exact hl') hp⟩
        · have zi := qa.nil_iff.mp z
          subst zi
          exact k.same g rb.tupR
        · have zi := qb.nil_iff.mp z
          subst zi
          exact k.same g (by simpa using ra.tupR)
      · cases e
    | _ => cases e
  | _ => cases e
theorem sub_ok : OpR X (binaryOp .Sub) (r2 X.K X.w subF id) := by
  intro pins s σ H x y v u Q I rx ry h
  obtain ⟨G, da, db, d, g, ra, rb, e, k⟩ := h
  cases da with
  | int i => cases db with
    | int j =>
      cases e; cases ra.int; cases rb.int
      exact op_sub pins s σ H _ _ v u Q I rx ry ⟨_, _, rfl, rfl, k.same g (.int _)⟩
    | _ => cases e
  | _ => cases e
theorem mul_ok : OpR X (binaryOp .Mult) (r2 X.K X.w mulF id) := by
  intro pins s σ H x y v u Q I rx ry h
  obtain ⟨G, da, db, d, g, ra, rb, e, k⟩ := h
  cases da with
  | int i => cases db with
    | int j =>
      simp only [mulF] at e
      split at e
      · rename_i hm
        cases e; cases ra.int; cases rb.int
        have hm' : CMul i j := by
          unfold okMul at hm
          simp only [Bool.or_eq_true, Bool.and_eq_true, decide_eq_true_eq] at hm
          exact hm
        exact op_mul pins s σ H _ _ v u Q I rx ry ⟨_, _, rfl, rfl, hm', k.same g (.int _)⟩
      · cases e
    | _ => cases e
  | tuple i => cases db with
    | int j =>
      simp only [mulF] at e
      split at e
      · rename_i hm
        cases e
        obtain ⟨h1, h2, h3, h4⟩ := hm
        obtain ⟨a, xs, rfl, ha, la, qa⟩ := ra.tup g
        cases rb.int
        have lx : xs.length ≤ 1000 := by rw [qa.length]; exact h4
        refine op_repT pins s σ H _ _ v u Q I rx ry ⟨_, _, _, rfl, rfl, ha, fun z => h1 (qa.nil_iff.mp z), h2, h3, lx, fun p hp => k.tup g (replicate_rpa qa _) ?_ hp⟩
        rw [replicate_len]
        have : j.toNat ≤ 1000 := by omega
        exact Nat.le_trans (Nat.mul_le_mul this lx) (by decide)
      · cases e
    | _ => cases e
  | _ => cases e
theorem fdv_ok : OpR X (binaryOp .FloorDiv) (r2 X.K X.w fdvF id) := by
  intro pins s σ H x y v u Q I rx ry h
  obtain ⟨G, da, db, d, g, ra, rb, e, k⟩ := h
  cases da with
  | int i => cases db with
    | int j =>
      simp only [fdvF] at e
      split at e
      · rename_i hm
        cases e; cases ra.int; cases rb.int
        exact op_fdiv pins s σ H _ _ v u Q I rx ry ⟨_, _, rfl, rfl, hm, k.same g (.int _)⟩
      · cases e
    | _ => cases e
  | _ => cases e
theorem mod_ok : OpR X (binaryOp .Mod) (r2 X.K X.w modF id) := by
  intro pins s σ H x y v u Q I rx ry h
  obtain ⟨G, da, db, d, g, ra, rb, e, k⟩ := h
  cases da with
  | int i => cases db with
    | int j =>
      simp only [modF] at e
      split at e
      · rename_i hm
        cases e; cases ra.int; cases rb.int
        exact op_mod pins s σ H _ _ v u Q I rx ry ⟨_, _, rfl, rfl, hm, k.same g (.int _)⟩
      · cases e
    | _ => cases e
  | _ => cases e
theorem pow_ok : OpR X (binaryOp .Pow) (r2 X.K X.w powF id) := by
  intro pins s σ H x y v u Q I rx ry h
  obtain ⟨G, da, db, d, g, ra, rb, e, k⟩ := h
  cases da with
  | int i => cases db with
    | int j =>
      simp only [powF] at e
      split at e
      · rename_i hm
        cases e; cases ra.int; cases rb.int
        exact op_pow pins s σ H _ _ v u Q I rx ry ⟨_, _, rfl, rfl, ⟨hm.1, Int.le_trans hm.2.1 (by decide), hm.2.2⟩, k.same g (.int _)⟩
      · cases e
    | _ => cases e
  | _ => cases e
theorem bop_ok (o : BOp) : OpR X (binaryOp o.op) (r2 X.K X.w o.f id) := by
  cases o
  · exact add_ok
  · exact sub_ok
  · exact mul_ok
  · exact fdv_ok
  · exact mod_ok
  · exact pow_ok
theorem neg_ok : UnR X (unaryOp .USub) (fun x H Q => ∃ G i, GOk G H ∧ x = .int i ∧ Kon X.K X.w G H (.int (-i)) Q) := by
  intro pins s σ H x v Q I rx h
  obtain ⟨G, i, g, rfl, k⟩ := h
  exact un_neg pins s σ H _ v Q I rx ⟨i, rfl, k.same g (.int _)⟩
end
end VL
/-! VD: comparisons, subscripts, slices, built-ins -/
namespace VL
open PySem PySem.Spec PyProof.Rows L2
section
variable {K : PySem.W.Frag} {w : World} {G G' : Gh} {H H' : Hp} {X : Cx}
theorem Kon.bl {b : Bool} {Q : VK} (k : Kon K w G H (.bool b) Q) (g : GOk G H) : Q (.bl b) H := k.same g (.bl b)
theorem eqS_ok (hu : X.A.units + 65 < cLine) : OpR X (compareOp .Eq) (r2 X.K X.w eqS PyData.bool) := by
  intro pins s σ H x y v u Q I rx ry h
  obtain ⟨G, da, db, d, g, ra, rb, e, k⟩ := h
  unfold eqS at e
  split at e
  · cases e
    obtain ⟨rfl, _⟩ := ra.str
    obtain ⟨rfl, _⟩ := rb.str
    refine op_eq pins s σ H _ _ v u Q I rx ry ⟨rfl, ?_⟩
    have q := k.bl g
    simp only [V.str.injEq]
    exact q
  split at e
  · rename_i hs
    cases e
    exact op_eqD (by omega) pins s σ H x y v u Q I rx ry ⟨da, db, ra.dp g hs.1, rb.dp g hs.2, hs.1, hs.2, k.bl g⟩
  · cases e
theorem eq_ok (hu : X.A.units + 65 < cLine) : OpR X (compareOp .Eq) (r2 X.K X.w eqD PyData.bool) := by
  intro pins s σ H x y v u Q I rx ry h
  obtain ⟨G, da, db, d, g, ra, rb, e, k⟩ := h
  have std : eqS da db = some d → wpAny (model X.prog X.w) X.A (compareOp .Eq v u) (EP X pins σ Q) X.xe s := fun e => eqS_ok hu pins s σ H x y v u Q I rx ry ⟨G, da, db, d, g, ra, rb, e, k⟩
  unfold eqD at e
  split at e
  · rename_i xs
    cases e
    obtain ⟨a, vs, rfl, ha, la, qa⟩ := ra.tup g
    obtain ⟨b, ws, rfl, hb, lb, qb⟩ := rb.tup g
    cases qb
    cases rx
    cases ry
    obtain ⟨its, r1, p1, _⟩ := I.tuple ha
    obtain ⟨its2, r2, p2, _⟩ := I.tuple hb
    cases r2
    refine SeqAt.eq_tupleAt (e := fun _ => true) p1 p2 (by omega) (fun j h1 h2 => absurd h2 (by simp)) ⟨.bl xs.isEmpty, H, I, ?_, k.bl g⟩
    have el : its.length = xs.length := by rw [← r1.length, qa.length]
    show Value.bool _ = Value.bool _
    congr 1
    cases xs with
    | nil =>
      have : its = [] := List.length_eq_zero_iff.mp el
      subst this
      rfl
    | cons x xs =>
      cases its with
      | nil => simp at el
      | cons i is => simp
  · exact std e
theorem neS_ok (hu : X.A.units + 65 < cLine) : OpR X (compareOp .NotEq) (r2 X.K X.w (fun a b => (eqS a b).map (!·)) PyData.bool) := by
  intro pins s σ H x y v u Q I rx ry h
  obtain ⟨G, da, db, d, g, ra, rb, e, k⟩ := h
  have e : (eqS da db).map (!·) = some d := e
  unfold eqS at e
  split at e
  · cases e
    obtain ⟨rfl, _⟩ := ra.str
    obtain ⟨rfl, _⟩ := rb.str
    refine op_ne pins s σ H _ _ v u Q I rx ry ⟨rfl, ?_⟩
    have q := k.bl g
    simp only [V.str.injEq]
    exact q
  split at e
  · rename_i hs
    cases e
    exact op_neD (by omega) pins s σ H x y v u Q I rx ry ⟨da, db, ra.dp g hs.1, rb.dp g hs.2, hs.1, hs.2, k.bl g⟩
  · cases e
theorem alike_lay : ∀ (d : PyData), PySem.W.alike d d = true → True := fun _ _ => trivial
theorem Rb.reads {v : V} {u : Value} {d : PyData} {pins : List (Addr × Obj)} {s : Shared} {σ : L2.St} (r : Rb X.K X.w G H v d) (g : GOk G H) (I : L2.Inv X pins σ H s) (ru : RelV v u) (hc : d.canLay0 = true) : ∃ as, Reads s.heap u d as := by
  have q : Dp X.K H v d := r.dp0 g hc
  exact Dp.reads I d v u q ru
theorem lt_ok (hu : X.A.units + 65 < cLine) : OpR X (compareOp .Lt) (r2 X.K X.w ltD PyData.bool) := by
  intro pins s σ H x y v u Q I rx ry h
  obtain ⟨G, da, db, d, g, ra, rb, e, k⟩ := h
  unfold ltD at e
  split at e
  · cases e; cases ra.int; cases rb.int
    exact op_lt pins s σ H _ _ v u Q I rx ry ⟨_, _, rfl, rfl, k.bl g⟩
  · split at e
    · rename_i hs
      cases e
      obtain ⟨h1, h2, h3, h4, h5⟩ := hs
      obtain ⟨as, q1⟩ := ra.reads g I rx h4
      obtain ⟨bs, q2⟩ := rb.reads g I ry h5
      have hm : X.A.units + min da.depth db.depth < cLine := by have := Nat.min_le_left da.depth db.depth; omega
      exact PySem.W.rcLt_alike _ _ X.A s v u as bs q1 q2 h1 (fun z => by subst z; cases h2) hm X.prog X.w X.xe _ ⟨.bl _, H, I, rfl, k.bl g⟩
    · cases e
theorem gt_ok : OpR X (compareOp .Gt) (r2 X.K X.w gtD PyData.bool) := by
  intro pins s σ H x y v u Q I rx ry h
  obtain ⟨G, da, db, d, g, ra, rb, e, k⟩ := h
  cases da with
  | int i => cases db with
    | int j =>
      cases e; cases ra.int; cases rb.int
      exact op_gt pins s σ H _ _ v u Q I rx ry ⟨_, _, rfl, rfl, k.bl g⟩
    | _ => cases e
  | _ => cases e
theorem le_ok : OpR X (compareOp .LtE) (r2 X.K X.w leD PyData.bool) := by
  intro pins s σ H x y v u Q I rx ry h
  obtain ⟨G, da, db, d, g, ra, rb, e, k⟩ := h
  cases da with
  | int i => cases db with
    | int j =>
      cases e; cases ra.int; cases rb.int
      exact op_le pins s σ H _ _ v u Q I rx ry ⟨_, _, rfl, rfl, k.bl g⟩
    | _ => cases e
  | _ => cases e
theorem ge_ok : OpR X (compareOp .GtE) (r2 X.K X.w geD PyData.bool) := by
  intro pins s σ H x y v u Q I rx ry h
  obtain ⟨G, da, db, d, g, ra, rb, e, k⟩ := h
  cases da with
  | int i => cases db with
    | int j =>
      cases e; cases ra.int; cases rb.int
      exact op_ge pins s σ H _ _ v u Q I rx ry ⟨_, _, rfl, rfl, k.bl g⟩
    | _ => cases e
  | _ => cases e
/-! ### dicts by data -/
theorem eqv_keyD (a b : Key) : PyData.eqv (keyD a) (keyD b) = decide (a = b) := by
  cases a <;> cases b <;> simp [keyD, PyData.eqv, Bool.beq_eq_decide_eq]
theorem eqv_keyDs : ∀ as bs : List Key, PyData.eqvAll (as.map keyD) (bs.map keyD) = decide (as = bs)
  | [], [] => by simp [PyData.eqvAll]
  | [], b :: bs => by simp [PyData.eqvAll]
  | a :: as, [] => by simp [PyData.eqvAll]
  | a :: as, b :: bs => by
    rw [List.map_cons, List.map_cons, PyData.eqvAll, eqv_keyD, eqv_keyDs as bs]
    simp
theorem eqv_keyT (as bs : List Key) : PyData.eqv (.tuple (as.map keyD)) (.tuple (bs.map keyD)) = decide (as = bs) := by
  rw [PyData.eqv, eqv_keyDs]
/-- the value at a key, both ways -/
inductive RpO (K : PySem.W.Frag) (w : World) (G : Gh) : Option V → Option PyData → Prop
  | no : RpO K w G none none
  | so {v : V} {d : PyData} : Rp K w G v d → RpO K w G (some v) (some d)
theorem dvl_val {κ : Type} [DecidableEq κ] (f : κ → PyData) (hf : ∀ a b, PyData.eqv (f a) (f b) = decide (a = b)) (k : κ) : ∀ (kvs : List (κ × V)) (ds : List PyData), RpA K w G (kvs.map (·.2)) ds →
    RpO K w G (valV kvs k) (dvl ((kvs.map fun p => f p.1).zip ds) (f k))
  | [], _, _ => .no
  | p :: r, _, .cons (d := d) (ds := ds) h t => by
    have ih := dvl_val f hf k r ds t
    by_cases e : p.1 = k
    · rw [valV_pos e]
      have : dvl (((p :: r).map fun p => f p.1).zip (d :: ds)) (f k) = some d := by
        simp [dvl, List.find?_cons, hf, e]
      rw [this]
      exact .so h
    · rw [valV_neg e]
      have : dvl (((p :: r).map fun p => f p.1).zip (d :: ds)) (f k) = dvl ((r.map fun p => f p.1).zip ds) (f k) := by
        simp [dvl, List.find?_cons, hf, e]
      rw [this]
      exact ih
theorem dvl_lk (x : Str) : ∀ (kvs : List (Str × V)) (ds : List PyData), RpA K w G (kvs.map (·.2)) ds →
    RpO K w G (kvs.lookup x) (dvl ((kvs.map fun p => PyData.str p.1).zip ds) (.str x))
  | [], _, _ => .no
  | p :: r, _, .cons (d := d) (ds := ds) h t => by
    have ih := dvl_lk x r ds t
    obtain ⟨y, v⟩ := p
    by_cases e : y = x
    · subst e
      have e1 : ((y, v) :: r).lookup y = some v := by simp [List.lookup]
      have e2 : dvl ((((y, v) :: r).map fun p => PyData.str p.1).zip (d :: ds)) (.str y) = some d := by simp [dvl, List.find?_cons, PyData.eqv]
      rw [e1, e2]
      exact .so h
    · have e1 : ((y, v) :: r).lookup x = r.lookup x := by
        have : (x == y) = false := beq_eq_false_iff_ne.mpr (Ne.symm e)
        simp [List.lookup, this]
      have e2 : dvl ((((y, v) :: r).map fun p => PyData.str p.1).zip (d :: ds)) (.str x) = dvl ((r.map fun p => PyData.str p.1).zip ds) (.str x) := by
        simp [dvl, List.find?_cons, PyData.eqv, beq_eq_false_iff_ne.mpr e]
      rw [e1, e2]
      exact ih
/-- a dict that is looked at -/
inductive DicV (K : PySem.W.Frag) (w : World) (G : Gh) (H : Hp) (a : Addr) : List (PyData × PyData) → Prop
  | k {kvs : List (Key × V)} {ds : List PyData} : H a = some (.dK kvs) → kvs.length ≤ lim → RpA K w G (kvs.map (·.2)) ds → DicV K w G H a ((kvs.map fun p => keyD p.1).zip ds)
  | t {kvs : List (List Key × V)} {ds : List PyData} : H a = some (.dT kvs) → kvs.length ≤ lim → RpA K w G (kvs.map (·.2)) ds → DicV K w G H a ((kvs.map fun p => PyData.tuple (p.1.map keyD)).zip ds)
  | w {kvs : List (Str × V)} {es : Array DictEntry} {n : Nat} {ds : List PyData} : KDict K w a es n → kvs ≠ [] → (∀ x : Str, ∃ r : Option Value, PySem.W.nsIn K a x = some r ∧ RelO (kvs.lookup x) r) → RpA K w G (kvs.map (·.2)) ds →
      DicV K w G H a ((kvs.map fun p => PyData.str p.1).zip ds)
theorem Rb.dict {v : V} {kvs : List (PyData × PyData)} (r : Rb K w G H v (.dict kvs)) (g : GOk G H) : ∃ a, v = .ref a ∧ DicV K w G H a kvs := by
  cases r with
  | rp r => cases r with
    | @dic a es ds h l r =>
      refine ⟨_, rfl, ?_⟩
      cases h with
      | k kvs e => exact (by simpa [Function.comp_def] using DicV.k (g.fz _ _ e) (by simpa using l) (by simpa [Function.comp_def] using r))
      | t kvs e => exact (by simpa [Function.comp_def] using DicV.t (g.fz _ _ e) (by simpa using l) (by simpa [Function.comp_def] using r))
  | @ow a _ hg o => cases o with
    | dK h l r => exact ⟨a, rfl, .k h l r⟩
    | dT h l r => exact ⟨a, rfl, .t h l r⟩
  | kd k => cases k with
    | mk a b c e => exact ⟨_, rfl, .w a b c (e G)⟩
/-- what a key is -/
theorem okK_key {k : PyData} {y : V} (r : Rb K w G H y k) (g : GOk G H) (ok : okK k = true) :
    (∃ κ : Key, k = keyD κ ∧ y = kV κ) ∨ (∃ (κs : List Key) (b : Addr), k = .tuple (κs.map keyD) ∧ y = .ref b ∧ SqT K H b (κs.map kV)) := by
  cases k with
  | int i => cases r.int; exact .inl ⟨.inl i, rfl, rfl⟩
  | str z => obtain ⟨rfl, _⟩ := r.str; exact .inl ⟨.inr z, rfl, rfl⟩
  | tuple ks =>
    obtain ⟨b, xs, rfl, hb, _, q⟩ := r.tup g
    have all : ∀ (ks : List PyData) (xs : List V), (ks.all fun k => match k with | .int _ => true | .str _ => true | _ => false) = true → RpA K w G xs ks → ∃ κs : List Key, ks = κs.map keyD ∧ xs = κs.map kV := by
      intro ks
      induction ks with
      | nil => intro xs _ q; cases q; exact ⟨[], rfl, rfl⟩
      | cons k ks ih =>
        intro xs h q
        cases q with
        | cons h1 t =>
          rw [List.all_cons, Bool.and_eq_true] at h
          obtain ⟨κs, e1, e2⟩ := ih _ h.2 t
          cases k with
          | int i => cases h1; exact ⟨.inl i :: κs, by rw [e1]; rfl, by rw [e2]; rfl⟩
          | str z => cases h1; exact ⟨.inr z :: κs, by rw [e1]; rfl, by rw [e2]; rfl⟩
          | _ => simp at h
    obtain ⟨κs, e1, e2⟩ := all ks xs ok q
    exact .inr ⟨κs, b, by rw [e1], rfl, by rw [← e2]; exact hb⟩
  | _ => cases ok
theorem key_sq {pins : List (Addr × Obj)} {s : Shared} {σ : L2.St} {a : Addr} {ks : List Key} (I : L2.Inv X pins σ H s) (e : SqT X.K H a (ks.map kV)) : (tupleKind (mixKind X.prog X.w)).is s.heap ks a := by
  obtain ⟨its, r, ⟨o, h1, h2, n, h3⟩, _⟩ := I.tuple e
  exact ⟨o, its.toArray, n, h1, h2, h3, by simpa using items_are r⟩
/-- what the dict at a holds at the key y -/
def DgV (K : PySem.W.Frag) (w : World) (H : Hp) (a : Addr) (y : V) (r : Option V) : Prop :=
  ((∃ kvs k, Rd H a (.dK kvs) ∧ y = kV k ∧ r = valV kvs k) ∨ (∃ kvs k b, Rd H a (.dT kvs) ∧ y = .ref b ∧ SqT K H b (k.map kV) ∧ r = valV kvs k)) ∨
    (∃ (kvs : List (Str × V)) (es : Array DictEntry) (n : Nat) (x : Str) (u : Option Value), KDict K w a es n ∧ y = .str x ∧ PySem.W.nsIn K a x = some u ∧ RelO (kvs.lookup x) u ∧ r = kvs.lookup x) ∨
    r = none ∧ ((∃ k : Key, Rd H a (.dT []) ∧ y = kV k) ∨ ∃ (k : List Key) (b : Addr), Rd H a (.dK []) ∧ y = .ref b ∧ SqT K H b (k.map kV))
theorem empty_k {P : Program} {w : World} {h : Heap} {a : Addr} (e : h.DictOfH (tupleKind (mixKind P w)) a []) : h.DictOf (mixKind P w) a [] := by
  obtain ⟨o, es, ep, h1, h2, h3, h4, h5, h6⟩ := e
  have : es = #[] := by
    have q : es.toList = [] := h4
    exact Array.toList_eq_nil_iff.mp q
  subst this
  exact ⟨o, #[], ep, h1, h2, h3, by intro e he; simp at he, .nil, .nil⟩
theorem empty_t {P : Program} {w : World} {h : Heap} {a : Addr} (e : h.DictOf (mixKind P w) a []) : h.DictOfH (tupleKind (mixKind P w)) a [] := by
  obtain ⟨o, es, ep, h1, h2, h3, h4, h5, h6⟩ := e
  have q : es.toList = [] := by
    cases q : es.toList with
    | nil => rfl
    | cons x r => rw [q] at h5; cases h5
  exact ⟨o, es, ep, h1, h2, h3, q, by simp, .nil⟩
def isTup : PyData → Bool
  | .tuple _ => true
  | _ => false
end
section
variable {K : PySem.W.Frag} {w : World} {G G' : Gh} {H H' : Hp} {X : Cx}
variable {pins : List (Addr × Obj)} {σ : L2.St} {s : Shared} {a : Addr} {y v : V} {u r : Value} {o : Option V} {E : Value → Shared → Prop}
theorem dg_type (I : L2.Inv X pins σ H s) (g : DgV X.K X.w H a y o) : s.TypeIs (.ref a) "dict" := by
  rcases g with (⟨kvs, k, e, _, _⟩ | ⟨kvs, k, b, e, _, _, _⟩) | ⟨kvs, es, n, x, u, D, _⟩ | ⟨_, ⟨k, e, _⟩ | ⟨k, b, e, _⟩⟩
  · obtain ⟨_, _, vs, _, dd⟩ := dk_rd I.hok e
    exact dd.typeIs
  · obtain ⟨_, _, xs, _, dd⟩ := dt_rd I.hok e
    exact dd.typeIs
  · exact kd_type D I
  · obtain ⟨_, _, xs, _, dd⟩ := dt_rd I.hok e
    exact dd.typeIs
  · obtain ⟨_, _, vs, _, dd⟩ := dk_rd I.hok e
    exact dd.typeIs
theorem dg_getItem {Q : Value → Shared → Prop} (hu : X.A.units + 1 < cLine) (I : L2.Inv X pins σ H s) (g : DgV X.K X.w H a y (some v)) (ry : RelV y u) (h : ∀ w' s', L2.Inv X pins σ H s' → RelV v w' → Q w' s') :
    wpAny (model X.prog X.w) X.A (getItem (.ref a) u) Q E s := by
  rcases g with (⟨kvs, k, e, ey, l⟩ | ⟨kvs, k, b, e, ey, eb, l⟩) | ⟨kvs, es, n, x, u0, D, ey, e, q, l⟩ | ⟨l, ⟨k, e, ey⟩ | ⟨k, b, e, ey, eb⟩⟩
  · subst ey
    obtain ⟨z, hd, vs, rel, dd⟩ := dk_rd I.hok e
    obtain ⟨w', hw, rw'⟩ := RelO.some_of (v := v) (o := valueAt vs k) (by rw [l]; exact rel.val k)
    exact wpAny_getItem_of (kV_is ry) dd.mapOf hw (h w' _ (I.tok _) rw')
  · subst ey
    cases (show u = Value.ref b from ry)
    obtain ⟨z, hd, xs, rel, dd⟩ := dt_rd I.hok e
    obtain ⟨w', hw, rw'⟩ := RelO.some_of (v := v) (o := (atKey xs k).map (·.2)) (by rw [l]; exact rel.val k)
    obtain ⟨p, hp, hp2⟩ := Option.map_eq_some_iff.mp hw
    refine wpAny_getItem_heap (tupleKind_room_in1 hu) (key_sq I eb) dd hp ?_
    rw [hp2]
    exact h w' _ (I.tok _) rw'
  · subst ey
    obtain ⟨t, rfl⟩ := ry
    rw [← l] at q
    obtain ⟨u1, e1, r1⟩ := RelO.some_of q
    subst e1
    exact wpAny_getItem_of (PySem.strKind_is X.prog X.w x t) (PySem.W.mapOf_K (prog := X.prog) I.kIn D.at_ D.lit) (PySem.W.find_K D.at_ e) (h _ _ (I.tok _) r1)
  · cases l
  · cases l
theorem dg_in {Q : Value → Shared → Prop} (hu : X.A.units + 1 < cLine) (I : L2.Inv X pins σ H s) (g : DgV X.K X.w H a y o) (ry : RelV y u) (h : ∀ s', L2.Inv X pins σ H s' → Q (.bool o.isSome) s') :
    wpAny (model X.prog X.w) X.A (compareOp .In u (.ref a)) Q E s := by
  rcases g with (⟨kvs, k, e, ey, l⟩ | ⟨kvs, k, b, e, ey, eb, l⟩) | ⟨kvs, es, n, x, u0, D, ey, e, q, l⟩ | ⟨l, ⟨k, e, ey⟩ | ⟨k, b, e, ey, eb⟩⟩
  · subst ey
    obtain ⟨z, hd, vs, rel, dd⟩ := dk_rd I.hok e
    refine wpAny_in_of (kV_is ry) hd dd.mapOf ?_
    rw [← (rel.val k).isSome_eq, ← l]
    exact h _ (I.tok _)
  · subst ey
    cases (show u = Value.ref b from ry)
    obtain ⟨z, hd, xs, rel, dd⟩ := dt_rd I.hok e
    refine wpAny_in_heap (tupleKind_room_in1 hu) (key_sq I eb) hd dd ?_
    have q := (rel.val k).isSome_eq
    rw [Option.isSome_map] at q
    rw [← q, ← l]
    exact h _ (I.tok _)
  · subst ey
    obtain ⟨t, rfl⟩ := ry
    refine wpAny_in_of (PySem.strKind_is X.prog X.w x t) D.low (PySem.W.mapOf_K (prog := X.prog) I.kIn D.at_ D.lit) ?_
    rw [PySem.W.find_K D.at_ e, ← q.isSome_eq, ← l]
    exact h _ (I.tok _)
  · subst ey l
    obtain ⟨z, hd, xs, rel, dd⟩ := dt_rd I.hok e
    cases rel
    exact wpAny_in_of (kV_is ry) hd (empty_k dd).mapOf (h _ (I.tok _))
  · subst ey l
    cases (show u = Value.ref b from ry)
    obtain ⟨z, hd, vs, rel, dd⟩ := dk_rd I.hok e
    cases rel
    exact wpAny_in_heap (tupleKind_room_in1 hu) (key_sq I eb) hd (empty_t dd) (h _ (I.tok _))
theorem dg_notIn {Q : Value → Shared → Prop} (hu : X.A.units + 1 < cLine) (I : L2.Inv X pins σ H s) (g : DgV X.K X.w H a y o) (ry : RelV y u) (h : ∀ s', L2.Inv X pins σ H s' → Q (.bool (!o.isSome)) s') :
    wpAny (model X.prog X.w) X.A (compareOp .NotIn u (.ref a)) Q E s := by
  rcases g with (⟨kvs, k, e, ey, l⟩ | ⟨kvs, k, b, e, ey, eb, l⟩) | ⟨kvs, es, n, x, u0, D, ey, e, q, l⟩ | ⟨l, ⟨k, e, ey⟩ | ⟨k, b, e, ey, eb⟩⟩
  · subst ey
    obtain ⟨z, hd, vs, rel, dd⟩ := dk_rd I.hok e
    refine wpAny_notIn_of (kV_is ry) hd dd.mapOf ?_
    rw [← (rel.val k).isSome_eq, ← l]
    exact h _ (I.tok _)
  · subst ey
    cases (show u = Value.ref b from ry)
    obtain ⟨z, hd, xs, rel, dd⟩ := dt_rd I.hok e
    refine wpAny_notIn_heap (tupleKind_room_in1 hu) (key_sq I eb) hd dd ?_
    have q := (rel.val k).isSome_eq
    rw [Option.isSome_map] at q
    rw [← q, ← l]
    exact h _ (I.tok _)
  · subst ey
    obtain ⟨t, rfl⟩ := ry
    refine wpAny_notIn_of (PySem.strKind_is X.prog X.w x t) D.low (PySem.W.mapOf_K (prog := X.prog) I.kIn D.at_ D.lit) ?_
    rw [PySem.W.find_K D.at_ e, ← q.isSome_eq, ← l]
    exact h _ (I.tok _)
  · subst ey l
    obtain ⟨z, hd, xs, rel, dd⟩ := dt_rd I.hok e
    cases rel
    exact wpAny_notIn_of (kV_is ry) hd (empty_k dd).mapOf (h _ (I.tok _))
  · subst ey l
    cases (show u = Value.ref b from ry)
    obtain ⟨z, hd, vs, rel, dd⟩ := dk_rd I.hok e
    cases rel
    exact wpAny_notIn_heap (tupleKind_room_in1 hu) (key_sq I eb) hd (empty_t dd) (h _ (I.tok _))
/-- a dict by data, at a key by data -/
theorem dg_of {k : PyData} {kvs : List (PyData × PyData)} {x : V} (rd : Rb K w G H x (.dict kvs)) (rk : Rb K w G H y k) (g : GOk G H) (ok : kyO kvs k = true) : ∃ a o, x = .ref a ∧ DgV K w H a y o ∧ RpO K w G o (dvl kvs k) := by
  obtain ⟨a, rfl, D⟩ := rd.dict g
  refine ⟨a, ?_⟩
  unfold kyO at ok
  rw [Bool.and_eq_true] at ok
  obtain ⟨ok, all⟩ := ok
  cases D with
  | @k kvs ds h l r =>
    rcases okK_key rk g ok with ⟨κ, rfl, rfl⟩ | ⟨κs, b, rfl, rfl, hb⟩
    · exact ⟨_, rfl, .inl (.inl ⟨kvs, κ, .inl h, rfl, rfl⟩), dvl_val keyD eqv_keyD κ kvs ds r⟩
    · cases kvs with
      | cons p r2 =>
        cases r with
        | cons h1 t =>
          obtain ⟨κ0, v0⟩ := p
          cases κ0 <;> simp [keyD, sameK] at all
      | nil =>
        cases r
        exact ⟨none, rfl, .inr (.inr ⟨rfl, .inr ⟨κs, b, .inl h, rfl, hb⟩⟩), .no⟩
  | @t kvs ds h l r =>
    rcases okK_key rk g ok with ⟨κ, rfl, rfl⟩ | ⟨κs, b, rfl, rfl, hb⟩
    · cases kvs with
      | cons p r2 =>
        cases r with
        | cons h1 t => cases κ <;> simp [keyD, sameK] at all
      | nil =>
        cases r
        exact ⟨none, rfl, .inr (.inr ⟨rfl, .inl ⟨κ, .inl h, rfl⟩⟩), .no⟩
    · exact ⟨_, rfl, .inl (.inr ⟨kvs, κs, b, .inl h, rfl, hb, rfl⟩), dvl_val (fun ks => PyData.tuple (ks.map keyD)) eqv_keyT κs kvs ds r⟩
  | @w kvs es n ds D ne hn r =>
    cases kvs with
    | nil => exact absurd rfl ne
    | cons p r2 =>
      cases r with
      | cons h1 t =>
        cases k with
        | str z =>
          obtain ⟨rfl, _⟩ := rk.str
          obtain ⟨u, e1, e2⟩ := hn z
          exact ⟨_, rfl, .inr (.inl ⟨p :: r2, es, n, z, u, D, rfl, e1, e2, rfl⟩), dvl_lk z (p :: r2) _ (.cons h1 t)⟩
        | _ => simp [sameK] at all
end
end VL
/-! VE: in, subscripts, slices, isinstance, built-ins -/
namespace VL
open PySem PySem.Spec PyProof.Rows L2 HT
/-! ### t[::-1] -/
section
variable {prog : Program} {w : World} {A : Around} {E : Value → Shared → Prop} {s : Shared}
theorem sliceApplied_rev {sl : Addr} {vs : Value} {n : Nat} {Q : Int × Int × Nat → Shared → Prop} (hs : s.heap.IsSliceOf sl .none .none vs) (ps : IsPart vs (some (-1)))
    (h : Q ((n : Int) - 1, -1, n) s) : wpAny (model prog w) A (Builtin.Slice.sliceApplied (.ref sl) (pure (n : Int))) Q E s := by
  obtain ⟨os, hos, hcs, hds⟩ := id hs
  unfold Builtin.Slice.sliceApplied Builtin.Slice.sliceFields
  refine wpAny_bind (wpAny_bind (wpAny_field hos hds (x := .none) rfl (wpAny_bind (wpAny_field hos hds (x := .none) rfl (wpAny_bind (wpAny_field hos hds (x := vs) rfl (wpAny_pure ?_)))))))
  refine wpAny_bind (slicePart_ ps ?_)
  show wpAny _ _ (if ((-1 : Int) == 0) = true then _ else _) _ _ s
  rw [if_neg (by decide)]
  refine wpAny_bind (slicePart_none (wpAny_bind (slicePart_none (wpAny_bind (wpAny_pure ?_)))))
  have e1 : Builtin.Slice.sliceAdjust none none (-1) (n : Int) = ((n : Int) - 1, -1) := by
    unfold Builtin.Slice.sliceAdjust
    simp
  have e2 : Builtin.Slice.slicePlaces ((n : Int) - 1) (-1) (-1) = n := by
    unfold Builtin.Slice.slicePlaces
    simp
    split <;> omega
  show wpAny _ _ (match Builtin.Slice.sliceAdjust none none (-1) (n : Int) with | (lo, hi) => pure (lo, (-1 : Int), Builtin.Slice.slicePlaces lo hi (-1))) _ _ s
  rw [e1]
  show wpAny _ _ (pure ((n : Int) - 1, (-1 : Int), Builtin.Slice.slicePlaces ((n : Int) - 1) (-1) (-1))) _ _ s
  rw [e2]
  exact wpAny_pure h
theorem fm_congr {α β : Type} {f g : α → Option β} : ∀ {l : List α}, (∀ a ∈ l, f a = g a) → l.filterMap f = l.filterMap g
  | [], _ => rfl
  | a :: r, h => by
    rw [List.filterMap_cons, List.filterMap_cons, h a List.mem_cons_self, fm_congr (l := r) fun b hb => h b (List.mem_cons_of_mem _ hb)]
theorem pick_rev (xs : Array Value) : ((List.range xs.size).filterMap fun (m : Nat) => xs[((xs.size : Int) - 1 + (m : Int) * (-1)).toNat]?).toArray = xs.toList.reverse.toArray := by
  have e : ∀ m ∈ List.range xs.size, xs[((xs.size : Int) - 1 + (m : Int) * (-1)).toNat]? = xs[xs.size - 1 - m]? := by
    intro m hm
    have hm : m < xs.size := List.mem_range.mp hm
    congr 1
    omega
  have e2 : (List.range xs.size).filterMap (fun (m : Nat) => xs[((xs.size : Int) - 1 + (m : Int) * (-1)).toNat]?) = (List.range xs.size).filterMap (fun m => xs[xs.size - 1 - m]?) := fm_congr e
  rw [e2]
  have e3 : (List.range xs.size).filterMap (fun m => xs[xs.size - 1 - m]?) = ((List.range xs.size).map fun k => xs.size - 1 - k).filterMap (xs[·]?) := by
    rw [List.filterMap_map]; rfl
  rw [e3, PySem.W.krv_range, List.filterMap_reverse, PySem.W.krv_all]
theorem getItem_tuple_rev {t sl : Addr} {items : Array Value} {vs : Value} {Q : Value → Shared → Prop} (ht : IsTup s.heap t items) (hs : s.heap.IsSliceOf sl .none .none vs) (ps : IsPart vs (some (-1)))
    (h : Q (.ref s.heap.objs.size) { s with heap := s.heap.push { cls := .type "tuple", data := .seq items.toList.reverse.toArray } })
    (hsz : items.size ≤ sizeLine) : wpAny (model prog w) A (getItem (.ref t) (.ref sl)) Q E s := by
  have htake : sizeOk (.seq items.toList.reverse.toArray) := by
    show items.toList.reverse.toArray.size ≤ sizeLine
    rw [List.size_toArray, List.length_reverse, Array.length_toList]
    exact hsz
  obtain ⟨os, hos, hcs, hds⟩ := id hs
  have hTs : s.TypeIs (.ref sl) "slice" := ⟨os, hos, hcs⟩
  unfold getItem
  try with_reducible refine wpAny_holding ?_
  first | refine wpAny_bind (wpAny_pure ?_) | skip
  refine wpAny_bind (wpAny_sequenceKey ht.typeIs (by decide) ?_)
  refine wpAny_bind (wpAny_callSpecial?_slot (name := Str.ofString "__getitem__") ht.typeIs PyProof.Rows.slot_tuple_getitem
    (wpAny_call_entry PyProof.Rows.slot_tuple_getitem ht.typeIs entry_tuple_getitem ?_ (args_tuple_getitem _ _)))
  show wpAny _ _ (Builtin.Tuple.tupleItemsOf (.ref t) >>= _) _ _ s
  refine wpAny_bind (tupleItemsOf_ ht ?_)
  refine wpAny_bind (wpAny_typeOf hTs ?_)
  rw [if_pos (by decide)]
  refine wpAny_bind (sliceApplied_rev hs ps ?_)
  have hno : ¬ ((((items.size : Int) - 1) == 0 && (-1 : Int) == 1 && items.size == items.size) = true) := by
    intro q
    rw [Bool.and_eq_true, Bool.and_eq_true] at q
    exact absurd q.1.2 (by decide)
  show wpAny _ _ (if (((items.size : Int) - 1) == 0 && (-1 : Int) == 1 && items.size == items.size) = true then _ else _) _ _ s
  rw [if_neg hno, pick_rev]
  first
    | exact wpAny_bind (m := Builtin.Tuple.tupleExact _) (wpAny_newObj_type (wpAny_pure ⟨_, rfl, wpAny_pure h⟩) htake)
    | exact wpAny_bind (m := Builtin.Tuple.tupleExact _) (wpAny_newObj_type (wpAny_bind (wpAny_pure (wpAny_pure ⟨_, rfl, wpAny_pure h⟩))) htake)
    | exact wpAny_bind (wpAny_bind (m := Builtin.Tuple.tupleExact _) (wpAny_newObj_type (wpAny_pure (wpAny_pure ⟨_, rfl, wpAny_pure h⟩)) htake))
    | exact wpAny_bind (wpAny_bind (m := Builtin.Tuple.tupleExact _) (wpAny_newObj_type (wpAny_pure ⟨_, rfl, wpAny_pure h⟩) htake))
end
section
variable {K : PySem.W.Frag} {w : World} {G G' : Gh} {H H' : Hp} {X : Cx}
def tRev (K : PySem.W.Frag) (te : TE) : TE := fun σ H Q => te σ H fun x H1 => ∃ a xs, x = .ref a ∧ ((SqL K H1 a xs ∧ ∀ p, H1 p = none → Q (.ref p) (upd H1 p (.lst xs.reverse))) ∨ (SqT K H1 a xs ∧ ∀ p, H1 p = none → Q (.ref p) (upd H1 p (.tup xs.reverse))))
theorem pe_rev {e : Expr} {te : TE} {k : Nat} {p1 p2 p3 pos : Pos} (he : PE X e te) : PE X (.Subscript e (.Slice none none (some (.UnaryOp .USub (.Constant (.int 1) k p1) p2)) p3) pos) (tRev X.K te) := by
  refine ⟨fun pins s σ H Q I h => ?_⟩
  refine Subscript_ (thn (he.run pins s σ H _ I h) fun v s1 ⟨x, H1, I1, r1, q1⟩ => ?_)
  obtain ⟨a, xs, ex, hx⟩ := q1
  subst ex
  cases r1
  have hst : PO X (some (.UnaryOp .USub (.Constant (.int 1) k p1) p2)) (tPart (tUn (rU fun i => .int (-i)) (tC (.int 1)))) := po_some (pe_un un_neg pe_int)
  refine wpAny_Slice (thn (po_none.run pins s1 σ H1 (fun o H2 => o = none ∧ H2 = H1) I1 ⟨rfl, rfl⟩) fun vl s2 ⟨l, H2, I2, pl, el, e2⟩ => ?_)
  subst el e2
  refine thn (po_none.run pins s2 σ H2 (fun o H3 => o = none ∧ H3 = H2) I2 ⟨rfl, rfl⟩) fun vu s3 ⟨u, H3, I3, pu, eu, e3⟩ => ?_
  subst eu e3
  refine thn (hst.run pins s3 σ H3 (fun o H4 => o = some (-1) ∧ H4 = H3) I3 ⟨1, rfl, -1, rfl, rfl, rfl⟩) fun vs s4 ⟨o, H4, I4, ps, eo, e4⟩ => ?_
  subst eo e4
  have I5 : Inv X pins σ H4 { s4 with heap := s4.heap.push { cls := .type "slice", data := .fields #[vl, vu, vs] } } := I4.kept (t' := s4.toks) fun b ob q => Heap.get?_push_of_some _ q
  show wpAny (model X.prog X.w) X.A (subscriptTail e (.Slice none none (some (.UnaryOp .USub (.Constant (.int 1) k p1) p2)) p3) (.ref a) (.ref s4.heap.objs.size)) (EP X pins σ Q) X.xe { s4 with heap := s4.heap.push { cls := .type "slice", data := .fields #[vl, vu, vs] } }
  rcases hx with ⟨hx, q⟩ | ⟨hx, q⟩
  · obtain ⟨its, r, ht, hz⟩ := I5.list hx
    have hlen := r.length
    refine tail_any (ops := [.ref a, .ref s4.heap.objs.size]) ht.isList.typeIs (PySem.slot_list_getitem.lookup) ?_ (by with_unfolding_all rfl)
    refine wpAny_getItem_list_slice ht.isList (Heap.IsSliceOf.new _ vl vu vs) pl pu ps (by decide) ?_ (by rw [List.size_toArray]; omega)
    rw [PySem.W.krv_pick]
    refine ⟨.ref _, _, I5.laid (t' := s4.toks) (o := .lst xs.reverse) (fun b ob q => Heap.get?_push_of_some _ q) (Nat.le_refl _) ?_, rfl, q _ (I5.hok.fresh (Nat.le_refl _))⟩
    exact ⟨by rw [List.length_reverse]; exact hz, _, 0, r.reverse, Heap.get?_push_size _ rfl⟩
  · obtain ⟨its, r, ht, hz⟩ := I5.tuple hx
    have hlen := r.length
    refine tail_any (ops := [.ref a, .ref s4.heap.objs.size]) ht.typeIs (PyProof.Rows.slot_tuple_getitem.lookup) ?_ (by with_unfolding_all rfl)
    cases pl
    cases pu
    refine getItem_tuple_rev ht (Heap.IsSliceOf.new _ .none .none vs) ps ?_ (by rw [List.size_toArray]; omega)
    refine ⟨.ref _, _, I5.laid (t' := s4.toks) (o := .tup xs.reverse) (fun b ob q => Heap.get?_push_of_some _ q) (Nat.le_refl _) ?_, rfl, q _ (I5.hok.fresh (Nat.le_refl _))⟩
    exact ⟨by rw [List.length_reverse]; exact hz, _, r.reverse, IsTup.new _ _⟩
/-! ### by data -/
theorem RpO.some_eq {o : Option V} {r : Option PyData} (h : RpO K w G o r) : o.isSome = r.isSome := by cases h <;> rfl
theorem rb_pair {x : V} {d : PyData} (r : Rb K w G H x d) : Rb K w G H x d := r
theorem RpA.anyD (g : GOk G H) : True := trivial
theorem in_ok (hu : X.A.units + 65 < cLine) : OpR X (compareOp .In) (r2 X.K X.w inD PyData.bool) := by
  intro pins s σ H x y v u Q I rx ry h
  obtain ⟨G, da, db, d, g, ra, rb, e, k⟩ := h
  cases db with
  | list ds =>
    have e : (if okD da = true ∧ okD (.list ds) = true then some (ds.any fun z => PyData.eqv z da) else none) = some d := e
    split at e
    · rename_i hs
      cases e
      exact op_inD hu pins s σ H x y v u Q I rx ry ⟨da, ds, ra.dp g hs.1, rb.dp g hs.2, hs.1, hs.2, k.bl g⟩
    · cases e
  | tuple ds =>
    have e : (if okD da = true ∧ okD (.tuple ds) = true then some (ds.any fun z => PyData.eqv z da) else none) = some d := e
    split at e
    · rename_i hs
      cases e
      obtain ⟨as, r1⟩ := Dp.reads I da x v (ra.dp g hs.1) rx
      obtain ⟨bs, r2⟩ := Dp.reads I (.tuple ds) y u (rb.dp g hs.2) ry
      exact SeqAt.in_tuple_reads r2 r1 (SeqAt.canLay_of_shaped hs.2) (SeqAt.canLay_of_shaped hs.1) (PyProof.Rows.room_in_shaped hs.1 hu) ⟨.bl _, H, I, rfl, k.bl g⟩
    · cases e
  | dict kvs =>
    have e : (if kyO kvs da = true then some (dvl kvs da).isSome else none) = some d := e
    split at e
    · rename_i hs
      cases e
      obtain ⟨a, o, rfl, dg, ro⟩ := dg_of rb ra g hs
      cases ry
      refine dg_in (by omega) I dg rx fun s' I' => ⟨.bl _, H, I', rfl, ?_⟩
      have : o.isSome = (dvl kvs da).isSome := ro.some_eq
      rw [this]
      exact k.bl g
    · cases e
  | str z => cases da with
    | str y =>
      obtain ⟨rfl, _⟩ := ra.str
      obtain ⟨rfl, _⟩ := rb.str
      simp only [inD] at e
      split at e
      · rename_i c hc
        cases e
        have ey : y = ⟨#[c]⟩ := by
          cases y with
          | mk a => 
            have : a.toList = [c] := hc
            congr 1
            exact Array.toList_inj.mp (by simpa using this)
        subst ey
        exact op_in_sign pins s σ H _ _ v u Q I rx ry ⟨c, z, rfl, rfl, k.bl g⟩
      · cases e
    | _ => cases e
  | _ => cases e
theorem nin_ok (hu : X.A.units + 65 < cLine) : OpR X (compareOp .NotIn) (r2 X.K X.w (fun a b => (inD a b).map (!·)) PyData.bool) := by
  intro pins s σ H x y v u Q I rx ry h
  obtain ⟨G, da, db, d, g, ra, rb, e, k⟩ := h
  cases db with
  | list ds =>
    have e : (if okD da = true ∧ okD (.list ds) = true then some (ds.any fun z => PyData.eqv z da) else none).map (!·) = some d := e
    split at e
    · rename_i hs
      cases e
      exact op_notInD hu pins s σ H x y v u Q I rx ry ⟨da, ds, ra.dp g hs.1, rb.dp g hs.2, hs.1, hs.2, k.bl g⟩
    · cases e
  | tuple ds =>
    have e : (if okD da = true ∧ okD (.tuple ds) = true then some (ds.any fun z => PyData.eqv z da) else none).map (!·) = some d := e
    split at e
    · rename_i hs
      cases e
      obtain ⟨as, r1⟩ := Dp.reads I da x v (ra.dp g hs.1) rx
      obtain ⟨bs, r2⟩ := Dp.reads I (.tuple ds) y u (rb.dp g hs.2) ry
      exact SeqAt.notIn_tuple_reads r2 r1 (SeqAt.canLay_of_shaped hs.2) (SeqAt.canLay_of_shaped hs.1) (PyProof.Rows.room_in_shaped hs.1 hu) ⟨.bl _, H, I, rfl, k.bl g⟩
    · cases e
  | dict kvs =>
    have e : (if kyO kvs da = true then some (dvl kvs da).isSome else none).map (!·) = some d := e
    split at e
    · rename_i hs
      cases e
      obtain ⟨a, o, rfl, dg, ro⟩ := dg_of rb ra g hs
      cases ry
      refine dg_notIn (by omega) I dg rx fun s' I' => ⟨.bl _, H, I', rfl, ?_⟩
      have : o.isSome = (dvl kvs da).isSome := ro.some_eq
      rw [this]
      exact k.bl g
    · cases e
  | str z => cases da with
    | str y =>
      obtain ⟨rfl, _⟩ := ra.str
      obtain ⟨rfl, _⟩ := rb.str
      simp only [inD] at e
      split at e
      · rename_i c hc
        cases e
        have ey : y = ⟨#[c]⟩ := by
          cases y with
          | mk a => 
            have : a.toList = [c] := hc
            congr 1
            exact Array.toList_inj.mp (by simpa using this)
        subst ey
        exact op_notIn_sign pins s σ H _ _ v u Q I rx ry ⟨c, z, rfl, rfl, k.bl g⟩
      · cases e
    | _ => cases e
  | _ => cases e
def COp.op : COp → CmpOp
  | .eq => .Eq | .ne => .NotEq | .lt => .Lt | .le => .LtE | .gt => .Gt | .ge => .GtE | .inn => .In | .nin => .NotIn
theorem cop_ok (hu : X.A.units + 65 < cLine) (o : COp) : OpR X (compareOp o.op) (r2 X.K X.w o.f PyData.bool) := by
  cases o
  · exact eq_ok hu
  · exact neS_ok hu
  · exact lt_ok hu
  · exact le_ok
  · exact gt_ok
  · exact ge_ok
  · exact in_ok hu
  · exact nin_ok hu
/-! ### a[i] -/
theorem RpA.atI {xs : List V} {ds : List PyData} {i : Int} {d : PyData} (r : RpA K w G xs ds) (e : L2.atI ds i = some d) : ∃ v, L2.atI xs i = some v ∧ Rp K w G v d := by
  unfold L2.atI at e ⊢
  rw [r.length]
  cases q : ixN ds.length i with
  | none => rw [q] at e; cases e
  | some j =>
    rw [q] at e
    exact r.get e
theorem ix_ok (hu : X.A.units + 65 < cLine) : IxR X (r2 X.K X.w ixD id) := by
  intro value slice pins s σ H x y v u Q I rx ry h hs
  obtain ⟨G, da, db, d, g, ra, rb, e, k⟩ := h
  cases da with
  | list ds => cases db with
    | int i =>
      obtain ⟨a, xs, rfl, ha, la, qa⟩ := ra.list g
      cases rb.int
      obtain ⟨z, ez, rz⟩ := qa.atI e
      exact ix_list value slice pins s σ H _ _ v u Q I rx ry ⟨_, _, _, _, rfl, rfl, SqL.of ha, ez, k.same g rz⟩ hs
    | _ => cases e
  | tuple ds => cases db with
    | int i =>
      obtain ⟨a, xs, rfl, ha, la, qa⟩ := ra.tup g
      cases rb.int
      obtain ⟨z, ez, rz⟩ := qa.atI e
      exact ix_tup value slice pins s σ H _ _ v u Q I rx ry ⟨_, _, _, _, rfl, rfl, ha, ez, k.same g rz⟩ hs
    | _ => cases e
  | str z => cases db with
    | int i =>
      obtain ⟨rfl, lz⟩ := ra.str
      cases rb.int
      obtain ⟨c, ec, ed⟩ := Option.map_eq_some_iff.mp (show (L2.atI z.cps.toList i).map (fun c => PyData.str ⟨#[c]⟩) = some d from e)
      subst ed
      exact ix_str value slice pins s σ H _ _ v u Q I rx ry ⟨_, _, _, rfl, rfl, lim_line lz, ec, k.same g (.str _ (by show 1 ≤ lim; decide))⟩ hs
    | _ => cases e
  | dict kvs =>
    have e : (if kyO kvs db = true then dvl kvs db else none) = some d := by
      cases db <;> exact e
    split at e
    · rename_i hk
      obtain ⟨a, o, rfl, dg, ro⟩ := dg_of ra rb g hk
      rw [e] at ro
      cases ro with
      | so rz =>
        cases rx
        refine tail_any (ops := [.ref a, u]) (dg_type I dg) PySem.F.slot_dict_getitem.lookup ?_ hs
        exact dg_getItem (by omega) I dg ry fun w' s' I' rw' => ⟨_, H, I', rw', k.same g rz⟩
    · cases e
  | _ => cases db <;> cases e
/-! ### a[l:h] -/
theorem sl_ok : SlR X (fun x lo hi H Q => ∃ G da l h d, GOk G H ∧ Rb X.K X.w G H x da ∧ slI l = some lo ∧ slI h = some hi ∧ slD da l h = some d ∧ Kon X.K X.w G H d Q) := by
  intro pins s σ H x v vl vu lo hi sl Q I rx hs pl pu h
  obtain ⟨G, da, l, h, d, g, ra, el, eh, e, k⟩ := h
  unfold slD at e
  rw [el, eh] at e
  cases da with
  | list ds =>
    cases e
    obtain ⟨a, xs, rfl, ha, la, qa⟩ := ra.list g
    refine sl_list pins s σ H _ v vl vu lo hi sl Q I rx hs pl pu ⟨a, xs, rfl, SqL.of ha, fun p hp => k.lst g ?_ (Nat.le_trans (cutV_length _ _ _) la) hp⟩
    unfold cutV
    rw [qa.length]
    exact (qa.drop _).take _
  | tuple ds =>
    cases e
    obtain ⟨a, xs, rfl, ha, la, qa⟩ := ra.tup g
    refine sl_tupA pins s σ H _ v vl vu lo hi sl Q I rx hs pl pu ⟨a, xs, rfl, ha, fun z => ?_, fun _ p hp => k.tup g ?_ (Nat.le_trans (cutV_length _ _ _) la) hp⟩
    · rw [qa.length] at z
      refine k.same g ?_
      rw [z.1, z.2]
      simpa using ra.tupR
    · unfold cutV
      rw [qa.length]
      exact (qa.drop _).take _
  | str z =>
    cases e
    obtain ⟨rfl, lz⟩ := ra.str
    refine sl_str pins s σ H _ v vl vu lo hi sl Q I rx hs pl pu ⟨z, rfl, lim_line lz, k.same g (.str _ ?_)⟩
    show (cutS z lo hi).cps.size ≤ lim
    unfold cutS
    rw [List.size_toArray]
    refine Nat.le_trans ?_ lz
    rw [List.length_take, List.length_drop]
    have : z.cps.toList.length = z.length := by rw [Array.length_toList]; rfl
    omega
  | _ => cases e
end
end VL
/-! VF: isinstance, built-in functions and methods, by data -/
namespace VL
open PySem PySem.Spec PyProof.Rows L2
section
variable {K : PySem.W.Frag} {w : World} {G G' : Gh} {H H' : Hp} {X : Cx}
variable {pins : List (Addr × Obj)} {σ : L2.St} {s : Shared}
/-! ### types -/
theorem Rb.ty {v : V} {d : PyData} (r : Rb K w G H v d) (g : GOk G H) : TyX K H v (.type (tyD d)) := by
  cases d with
  | none => cases r.non; exact .base .non
  | bool b => cases r.bl; exact .base (.bl b)
  | int i => cases r.int; exact .base (.int i)
  | str z => obtain ⟨rfl, _⟩ := r.str; exact .base (.str z)
  | list ds => obtain ⟨a, xs, rfl, h, _⟩ := r.list g; exact .base (.lst h)
  | tuple ds =>
    cases r.tupR with
    | tup h l r => 
      rcases h with h | ⟨o, its, n, h1, h2, _⟩
      · exact .base (.tup (g.fz _ _ h))
      · exact .kTuple h1 h2
  | dict kvs =>
    obtain ⟨a, rfl, D⟩ := r.dict g
    cases D with
    | k h _ _ => exact .base (.dK h)
    | t h _ _ => exact .base (.dT h)
    | w D _ _ _ => exact .kDict D.at_ rfl
theorem kit_ok (K : PySem.W.Frag) (t : Ty) (d : PyData) : PySem.W.kitOne K (.type (tyD d)) (.type t.nm) = some (t.is d) := by
  refine kit_ty ?_
  cases t <;> cases d <;> simp only [tyD, Ty.nm, Ty.is] <;> decide +kernel
theorem kits_ok (K : PySem.W.Frag) (d : PyData) : ∀ ts : List Ty, PySem.W.kitAny K (.type (tyD d)) (ts.map fun t => Value.type t.nm) = some (isD ts d)
  | [] => kitAny_nil
  | t :: ts => by
    refine kitAny_cons (b := t.is d) (kit_ok K t d) (fun h => ?_) (fun h => ?_)
    · rw [kits_ok K d ts]
      show some (isD ts d) = some (t.is d || ts.any fun t => t.is d)
      rw [h]
      rfl
    · show (t.is d || ts.any fun t => t.is d) = true
      rw [h]
      rfl
/-! ### what reads as data -/
theorem pairs_keys {P : Program} {h : Heap} : ∀ {es : List DictEntry} {kvs : List (Key × V)} {vs : List (Key × Value)}, KV kvs vs → Pairs (mixKind P w) es vs →
    ReadsAll h (es.map (·.key)) (kvs.map fun p => keyD p.1) [] ∧ Vals (kvs.map (·.2)) (es.map (·.val))
  | _, _, _, .nil, .nil => ⟨.nil, .nil⟩
  | _, _, _, .cons (a := p) hp t, .cons (e := e) hk hv pr => by
    obtain ⟨h1, h2⟩ := pairs_keys (h := h) t pr
    obtain ⟨e1, rv⟩ := hp
    refine ⟨?_, .cons (by show RelV p.2 e.val; rw [hv]; exact rv) h2⟩
    have hk : keyIs p.1 e.key = true := by rw [e1]; exact hk
    have q : Reads h e.key (keyD p.1) [] := by
      rcases keyIs_shape hk with ⟨i, t, q1, q2⟩ | ⟨x, t, q1, q2⟩
      · rw [q1, q2]; exact .int i t
      · rw [q1, q2]; exact .str x t
    exact .cons q h1
theorem key_reads {P : Program} {h : Heap} : ∀ {ks : List Key} {us : List Value}, PySem.ItemsAre (mixKind P w) ks us → ReadsAll h us (ks.map keyD) []
  | _, _, .nil => .nil
  | _, _, .cons (k := k) (v := v) hk t => by
    have q : Reads h v (keyD k) [] := by
      rcases keyIs_shape (show keyIs k v = true from hk) with ⟨i, t, q1, q2⟩ | ⟨x, t, q1, q2⟩
      · rw [q1, q2]; exact .int i t
      · rw [q1, q2]; exact .str x t
    exact .cons q (key_reads t)
theorem keyT_reads {P : Program} {h : Heap} {ks : List Key} {a : Addr} (hk : (tupleKind (mixKind P w)).is h ks a) : Reads h (.ref a) (.tuple (ks.map keyD)) [] := by
  obtain ⟨o, items, n, h1, h2, h3, h4⟩ := (show IsTupleKey (mixKind P w) h ks a from hk)
  exact .tuple h1 h2 h3 (key_reads h4)
theorem tups_keys {P : Program} {h : Heap} : ∀ {kvs : List (List Key × V)} {xs : List (List Key × Addr × Value)}, KT H kvs xs → (∀ x ∈ xs, (tupleKind (mixKind P w)).is h x.1 x.2.1) →
    ReadsAll h ((xs.map (entryOfKey (tupleKind (mixKind P w)))).map (·.key)) (kvs.map fun p => PyData.tuple (p.1.map keyD)) [] ∧ Vals (kvs.map (·.2)) ((xs.map (entryOfKey (tupleKind (mixKind P w)))).map (·.val))
  | _, _, .nil, _ => ⟨.nil, .nil⟩
  | _, _, .cons (a := p) (b := x) hp t, hx => by
    obtain ⟨h1, h2⟩ := tups_keys (h := h) t fun y hy => hx y (List.mem_cons_of_mem _ hy)
    obtain ⟨e1, _, rv⟩ := hp
    have q := keyT_reads (hx x List.mem_cons_self)
    rw [← e1] at q
    exact ⟨.cons q h1, .cons rv h2⟩
theorem Rp.dictI {v : V} {kvs : List (PyData × PyData)} (r : Rp K w G v (.dict kvs)) : ∃ a es, v = .ref a ∧ GD G a es ∧ kvs.map (·.1) = es.map (·.1) ∧ RpA K w G (es.map (·.2)) (kvs.map (·.2)) := by
  cases r with
  | @dic a es ds h l r =>
    have el : es.length = ds.length := by have := r.length; simpa using this
    refine ⟨a, es, rfl, h, ?_, ?_⟩
    · exact List.map_fst_zip (by simp [el])
    · rw [List.map_snd_zip (by simp [el])]; exact r
mutual
theorem Rp.reads (I : L2.Inv X pins σ H s) (g : GOk G H) : ∀ (d : PyData) (v : V) (u : Value), Rp X.K X.w G v d → RelV v u → ∃ as, Reads s.heap u d as ∧ (noLs d = true → sysModules ∉ as)
  | .none, _, _, h, r => by cases h; cases r; exact ⟨_, .none, by simp⟩
  | .bool b, _, _, h, r => by cases h; cases r; exact ⟨_, .bool b, by simp⟩
  | .int i, _, _, h, r => by cases h; obtain ⟨t, rfl⟩ := r; exact ⟨_, .int i t, by simp⟩
  | .str x, _, _, h, r => by cases h; obtain ⟨t, rfl⟩ := r; exact ⟨_, .str x t, by simp⟩
  | .list ds, _, _, h, r => by
    cases h with
    | lst hs _ ha =>
      cases r
      obtain ⟨its, rv, ⟨o, n, ho, hc, _, hd⟩, _⟩ := I.list (SqL.of (K := X.K) (g.fz _ _ hs))
      obtain ⟨as, hr, _⟩ := RpA.reads I g ds _ its ha rv
      exact ⟨_, .list ho hc hd hr, by simp [noLs]⟩
  | .tuple ds, _, _, h, r => by
    cases h with
    | tup hs _ ha =>
      cases r
      obtain ⟨its, rv, ⟨o, ho, hc, n, hd⟩, _⟩ := I.tuple (hs.sq g)
      obtain ⟨as, hr, hn⟩ := RpA.reads I g ds _ its ha rv
      exact ⟨_, .tuple ho hc hd hr, fun z => hn (by simpa [noLs] using z)⟩
  | .dict kvs, _, _, h, r => by
    obtain ⟨a, es, rfl, D, e1, ra⟩ := h.dictI
    cases r
    cases D with
    | k ks hk =>
      obtain ⟨z, hsm, vs, rel, o, ee, ep, h1, h2, h3, h4, h5, h6⟩ := dk_rd I.hok (.inl (g.fz _ _ hk))
      obtain ⟨q1, q2⟩ := pairs_keys (h := s.heap) rel h5
      obtain ⟨as, hr, hn⟩ := RpK.reads I g kvs _ _ ra (by simpa [Function.comp_def] using q2)
      refine ⟨_, .dict h1 h2.1 h3 (as := []) (by rw [e1]; simpa [Function.comp_def] using q1) hr, fun z hm => ?_⟩
      simp only [List.append_nil, List.cons_append, List.mem_cons] at hm
      rcases hm with e | hm
      · rw [← e] at hsm; simp at hsm
      · exact hn (by simpa [noLs] using z) hm
    | t ks hk =>
      obtain ⟨z, hsm, xs, rel, o, ee, ep, h1, h2, h3, h4, h5, h6⟩ := dt_rd I.hok (.inl (g.fz _ _ hk))
      obtain ⟨q1, q2⟩ := tups_keys (h := s.heap) rel h5
      rw [← h4] at q1 q2
      obtain ⟨as, hr, hn⟩ := RpK.reads I g kvs _ _ ra (by simpa [Function.comp_def] using q2)
      refine ⟨_, .dict h1 h2.1 h3 (as := []) (by rw [e1]; simpa [Function.comp_def] using q1) hr, fun z hm => ?_⟩
      simp only [List.append_nil, List.cons_append, List.mem_cons] at hm
      rcases hm with e | hm
      · rw [← e] at hsm; simp at hsm
      · exact hn (by simpa [noLs] using z) hm
theorem RpA.reads (I : L2.Inv X pins σ H s) (g : GOk G H) : ∀ (ds : List PyData) (vs : List V) (us : List Value), RpA X.K X.w G vs ds → Vals vs us → ∃ as, ReadsAll s.heap us ds as ∧ (noLsA ds = true → sysModules ∉ as)
  | [], _, _, h, r => by cases h; cases r; exact ⟨_, .nil, by simp⟩
  | d :: ds, _, _, h, r => by
    cases h with
    | cons h1 h2 =>
      cases r with
      | cons r1 r2 =>
        obtain ⟨as, q1, n1⟩ := Rp.reads I g d _ _ h1 r1
        obtain ⟨bs, q2, n2⟩ := RpA.reads I g ds _ _ h2 r2
        refine ⟨_, .cons q1 q2, fun z hm => ?_⟩
        have z' : noLs d = true ∧ noLsA ds = true := by simpa [noLsA] using z
        rcases List.mem_append.mp hm with hm | hm
        · exact n1 z'.1 hm
        · exact n2 z'.2 hm
theorem RpK.reads (I : L2.Inv X pins σ H s) (g : GOk G H) : ∀ (kvs : List (PyData × PyData)) (vs : List V) (us : List Value), RpA X.K X.w G vs (kvs.map (·.2)) → Vals vs us → ∃ as, ReadsAll s.heap us (kvs.map (·.2)) as ∧ (noLsK kvs = true → sysModules ∉ as)
  | [], _, _, h, r => by cases h; cases r; exact ⟨_, .nil, by simp⟩
  | (k, d) :: ds, _, _, h, r => by
    cases h with
    | cons h1 h2 =>
      cases r with
      | cons r1 r2 =>
        obtain ⟨as, q1, n1⟩ := Rp.reads I g d _ _ h1 r1
        obtain ⟨bs, q2, n2⟩ := RpK.reads I g ds _ _ h2 r2
        refine ⟨_, .cons q1 q2, fun z hm => ?_⟩
        have z' : noLs d = true ∧ noLsK ds = true := by simpa [noLsK] using z
        rcases List.mem_append.mp hm with hm | hm
        · exact n1 z'.1 hm
        · exact n2 z'.2 hm
end
end
end VL
/-! VG: built-in functions and methods, by data -/
namespace VL
open PySem PySem.Spec PyProof.Rows L2
section
variable {K : PySem.W.Frag} {w : World} {G G' : Gh} {H H' : Hp} {X : Cx}
variable {pins : List (Addr × Obj)} {σ : L2.St} {s : Shared}
theorem Own.keep {a : Addr} {d : PyData} (hg : G a = none) (o : Own K w G H a d) (x : Ext G H G' H') : G' a = none ∧ Own K w G' H' a d := by
  refine ⟨?_, o.mono x.g fun u q => x.h a u q (by rw [hg]; exact fun z => nomatch z)⟩
  cases q : G' a with
  | none => rfl
  | some u => rw [x.n a u q o.there] at hg; cases hg
/-- looked at, no written dict -/
inductive Rv (K : PySem.W.Frag) (w : World) (G : Gh) (H : Hp) : V → PyData → Prop
  | rp {v : V} {d : PyData} : Rp K w G v d → Rv K w G H v d
  | ow {a : Addr} {d : PyData} : G a = none → Own K w G H a d → Rv K w G H (.ref a) d
theorem Rv.rb {v : V} {d : PyData} (r : Rv K w G H v d) : Rb K w G H v d := by
  cases r with
  | rp r => exact .rp r
  | ow g o => exact .ow g o
theorem Rv.ext {v : V} {d : PyData} (r : Rv K w G H v d) (x : Ext G H G' H') : Rv K w G' H' v d := by
  cases r with
  | rp r => exact .rp (r.mono x.g)
  | ow g o => exact .ow (o.keep g x).1 (o.keep g x).2
inductive RvA (K : PySem.W.Frag) (w : World) (G : Gh) (H : Hp) : List V → List PyData → Prop
  | nil : RvA K w G H [] []
  | cons {v : V} {vs : List V} {d : PyData} {ds : List PyData} : Rv K w G H v d → RvA K w G H vs ds → RvA K w G H (v :: vs) (d :: ds)
theorem RvA.ext : ∀ {vs : List V} {ds : List PyData}, RvA K w G H vs ds → Ext G H G' H' → RvA K w G' H' vs ds
  | _, _, .nil, _ => .nil
  | _, _, .cons h t, x => .cons (h.ext x) (RvA.ext t x)
def rC (K : PySem.W.Frag) (w : World) (f : List PyData → Option PyData) : List V → Hp → VK → Prop := fun vs H Q => ∃ G ds d, GOk G H ∧ RvA K w G H vs ds ∧ f ds = some d ∧ Kon K w G H d Q
theorem RvA.one {vs : List V} {d : PyData} (r : RvA K w G H vs [d]) : ∃ v, vs = [v] ∧ Rv K w G H v d := by
  cases r with
  | cons h t => cases t; exact ⟨_, rfl, h⟩
theorem RvA.two {vs : List V} {d e : PyData} (r : RvA K w G H vs [d, e]) : ∃ v u, vs = [v, u] ∧ Rv K w G H v d ∧ Rv K w G H u e := by
  cases r with
  | cons h t => cases t with
    | cons h2 t => cases t; exact ⟨_, _, rfl, h, h2⟩
/-! ### data of a kind -/
theorem intsD_eq : ∀ {ds : List PyData} {ns : List Int}, intsD ds = some ns → ds = ns.map PyData.int
  | [], ns, h => by cases h; rfl
  | d :: ds, ns, h => by
    cases d with
    | int i =>
      obtain ⟨ms, e1, e2⟩ := Option.map_eq_some_iff.mp (show (intsD ds).map (i :: ·) = some ns from h)
      rw [← e2, intsD_eq e1]; rfl
    | _ => cases h
theorem blsD_eq : ∀ {ds : List PyData} {ns : List Bool}, blsD ds = some ns → ds = ns.map PyData.bool
  | [], ns, h => by cases h; rfl
  | d :: ds, ns, h => by
    cases d with
    | bool i =>
      obtain ⟨ms, e1, e2⟩ := Option.map_eq_some_iff.mp (show (blsD ds).map (i :: ·) = some ns from h)
      rw [← e2, blsD_eq e1]; rfl
    | _ => cases h
theorem foldl_min_mem : ∀ (ns : List Int) (n : Int), ns.foldl min n ∈ n :: ns
  | [], n => by simp
  | m :: ns, n => by
    have := foldl_min_mem ns (min n m)
    rw [List.foldl_cons]
    rcases List.mem_cons.mp this with e | h
    · rw [e]
      rcases Int.le_total n m with q | q
      · rw [Int.min_eq_left q]; simp
      · rw [Int.min_eq_right q]; simp
    · simp [h]
theorem foldl_min_le : ∀ (ns : List Int) (n : Int), ns.foldl min n ≤ n ∧ ∀ m ∈ ns, ns.foldl min n ≤ m
  | [], n => ⟨Int.le_refl _, by simp⟩
  | m :: ns, n => by
    obtain ⟨h1, h2⟩ := foldl_min_le ns (min n m)
    rw [List.foldl_cons]
    refine ⟨Int.le_trans h1 (Int.min_le_left _ _), fun k hk => ?_⟩
    rcases List.mem_cons.mp hk with e | hk
    · subst e; exact Int.le_trans h1 (Int.min_le_right _ _)
    · exact h2 k hk
/-! ### sorted -/
theorem each_of {ds : List PyData} : ∀ {vs : List V} {us : List Value}, RpA K w G vs ds → Vals vs us → PySem.W.EachIs (fun u d => ∃ v, RelV v u ∧ Rp K w G v d) us ds := by
  induction ds with
  | nil => intro vs us r q; cases r; cases q; exact .nil
  | cons d ds ih =>
    intro vs us r q
    cases r with
    | cons h t => cases q with
      | cons h2 t2 => exact .cons ⟨_, h2, h⟩ (ih t t2)
theorem each_back : ∀ {us : List Value} {ds : List PyData}, PySem.W.EachIs (fun u d => ∃ v, RelV v u ∧ Rp K w G v d) us ds → ∃ vs, Vals vs us ∧ RpA K w G vs ds
  | _, _, .nil => ⟨[], .nil, .nil⟩
  | _, _, .cons ⟨v, h1, h2⟩ t => by
    obtain ⟨vs, q1, q2⟩ := each_back t
    exact ⟨v :: vs, .cons h1 q1, .cons h2 q2⟩
theorem sorted_ok (hu : X.A.units + 100 < cLine) : CallR X (.builtin "sorted") (rC X.K X.w sortedF) := by
  intro pins s σ H vs us Q I r h
  obtain ⟨G, ds, d, g, ra, e, k⟩ := h
  cases ds with
  | nil => cases e
  | cons d0 r0 => cases r0 with
    | cons d1 r1 => cases d0 <;> cases e
    | nil => cases d0 with
      | list ds =>
        have e : srtD ds = some d := e
        unfold srtD at e
        split at e
        · rename_i ok
          cases e
          obtain ⟨v, rfl, rv⟩ := ra.one
          obtain ⟨a, xs, rfl, ha, la, qa⟩ := rv.rb.list g
          obtain ⟨u, rfl, ru⟩ := vals1 r
          cases ru
          obtain ⟨its, r1, pl, hz⟩ := I.list (SqL.of (K := X.K) ha)
          have er := each_of qa r1
          have err : PySem.W.EachIs (fun u d => ∃ as, Reads s.heap u d as) its ds := er.mono fun u d ⟨v, h1, h2⟩ => let ⟨as, q, _⟩ := h2.reads I g d _ _ h1; ⟨as, q⟩
          have e1 : ds.map (fun d => d) = ds := List.map_id' ds
          refine PySem.W.sorted_data (bs := ds) (enc := fun d => d) pl.isList er err (by rw [e1]; exact ok.1) (by rw [e1]; exact ok.2.1) (by rw [← qa.length]; exact lim_line la)
            (fun b hb => by have := ok.2.2 b hb; omega) fun out hl ho => ?_
          obtain ⟨ys, q1, q2⟩ := each_back ho
          have hk : ∀ b u, s.heap.get? b = some u → (PyProof.Rows.sortedAll s.heap its out.toArray).get? b = some u := fun b u q => PyProof.Rows.sortedAll_old q
          obtain ⟨e0, he⟩ := PyProof.Rows.sortedAll_at s.heap its out.toArray
          have ly : ys.length ≤ lim := by rw [q1.length, hl, ← qa.length]; exact la
          have hn : H (s.heap.objs.size + 1) = none := I.hok.fresh (Nat.le_succ _)
          exact ⟨.ref (s.heap.objs.size + 1), _, I.laid (t' := s.toks) (o := .lst ys) hk (Nat.le_succ _) ⟨lim_line ly, out, e0, q1, he⟩, rfl, k.lst g q2 ly hn⟩
        · cases e
      | _ => cases e
theorem len_ok : CallR X (.builtin "len") (rC X.K X.w lenF) := by
  intro pins s σ H vs us Q I r h
  obtain ⟨G, ds, d, g, ra, e, k⟩ := h
  unfold lenF at e
  split at e
  · cases e
    obtain ⟨v, rfl, rv⟩ := ra.one
    obtain ⟨a, xs, rfl, ha, la, qa⟩ := rv.rb.list g
    exact call_len_seq pins s σ H _ us Q I r ⟨a, xs, rfl, .inl (SqL.of ha), by rw [qa.length]; exact k.same g (.int _)⟩
  · cases e
    obtain ⟨v, rfl, rv⟩ := ra.one
    obtain ⟨a, xs, rfl, ha, la, qa⟩ := rv.rb.tup g
    exact call_len_seq pins s σ H _ us Q I r ⟨a, xs, rfl, .inr ha, by rw [qa.length]; exact k.same g (.int _)⟩
  · cases e
    obtain ⟨v, rfl, rv⟩ := ra.one
    obtain ⟨rfl, lz⟩ := rv.rb.str
    exact call_len_str pins s σ H _ us Q I r ⟨_, rfl, lim_line lz, k.same g (.int _)⟩
  · cases e
theorem max2_ok (hc : X.calm = true) : CallR X (.builtin "max") (rC X.K X.w max2F) := by
  intro pins s σ H vs us Q I r h
  obtain ⟨G, ds, d, g, ra, e, k⟩ := h
  unfold max2F at e
  split at e
  · cases e
    obtain ⟨v, u, rfl, r1, r2⟩ := ra.two
    cases r1.rb.int; cases r2.rb.int
    exact call_max2 hc pins s σ H _ us Q I r ⟨_, _, rfl, k.same g (.int _)⟩
  · cases e
theorem min2_ok (hc : X.calm = true) : CallR X (.builtin "min") (rC X.K X.w min2F) := by
  intro pins s σ H vs us Q I r h
  obtain ⟨G, ds, d, g, ra, e, k⟩ := h
  unfold min2F at e
  split at e
  · cases e
    obtain ⟨v, u, rfl, r1, r2⟩ := ra.two
    cases r1.rb.int; cases r2.rb.int
    exact call_min2 hc pins s σ H _ us Q I r ⟨_, _, rfl, k.same g (.int _)⟩
  · cases e
theorem abs_ok : CallR X (.builtin "abs") (rC X.K X.w absF) := by
  intro pins s σ H vs us Q I r h
  obtain ⟨G, ds, d, g, ra, e, k⟩ := h
  unfold absF at e
  split at e
  · cases e
    obtain ⟨v, rfl, rv⟩ := ra.one
    cases rv.rb.int
    exact call_abs pins s σ H _ us Q I r ⟨_, rfl, k.same g (.int _)⟩
  · cases e
theorem int_ok : CallR X (.type "int") (rC X.K X.w intF) := by
  intro pins s σ H vs us Q I r h
  obtain ⟨G, ds, d, g, ra, e, k⟩ := h
  unfold intF at e
  split at e
  · cases e
    obtain ⟨v, rfl, rv⟩ := ra.one
    cases rv.rb.int
    exact call_int1 pins s σ H _ us Q I r (.inl ⟨_, rfl, k.same g (.int _)⟩)
  · cases e
    obtain ⟨v, rfl, rv⟩ := ra.one
    cases rv.rb.bl
    exact call_int1 pins s σ H _ us Q I r (.inr ⟨_, rfl, k.same g (.int _)⟩)
  · cases e
theorem sum_ok (hc : X.calm = true) : CallR X (.builtin "sum") (rC X.K X.w sumF) := by
  intro pins s σ H vs us Q I r h
  obtain ⟨G, ds, d, g, ra, e, k⟩ := h
  unfold sumF at e
  split at e
  · obtain ⟨ns, e1, e2⟩ := Option.map_eq_some_iff.mp e
    subst e2
    obtain ⟨v, rfl, rv⟩ := ra.one
    obtain ⟨a, xs, rfl, ha, la, qa⟩ := rv.rb.list g
    rw [intsD_eq e1] at qa
    exact cr_sum hc pins s σ H _ us Q I r ⟨a, ns, rfl, SqL.of (by rw [← qa.ints]; exact ha), k.same g (.int _)⟩
  · cases e
theorem all_ok (hc : X.calm = true) : CallR X (.builtin "all") (rC X.K X.w allF) := by
  intro pins s σ H vs us Q I r h
  obtain ⟨G, ds, d, g, ra, e, k⟩ := h
  unfold allF at e
  split at e
  · obtain ⟨ns, e1, e2⟩ := Option.map_eq_some_iff.mp e
    subst e2
    obtain ⟨v, rfl, rv⟩ := ra.one
    obtain ⟨a, xs, rfl, ha, la, qa⟩ := rv.rb.list g
    rw [blsD_eq e1] at qa
    exact cr_all hc pins s σ H _ us Q I r ⟨a, ns, rfl, SqL.of (by rw [← qa.bls]; exact ha), k.same g (.bl _)⟩
  · cases e
theorem minl_ok (hc : X.calm = true) : CallR X (.builtin "min") (rC X.K X.w minlF) := by
  intro pins s σ H vs us Q I r h
  obtain ⟨G, ds, d, g, ra, e, k⟩ := h
  unfold minlF at e
  split at e
  · rename_i ds
    unfold minD at e
    split at e
    · rename_i n ns e1
      cases e
      obtain ⟨v, rfl, rv⟩ := ra.one
      obtain ⟨a, xs, rfl, ha, la, qa⟩ := rv.rb.list g
      rw [intsD_eq e1] at qa
      refine cr_min hc pins s σ H _ us Q I r ⟨a, n :: ns, rfl, SqL.of (by rw [← qa.ints]; exact ha), Nat.succ_pos _, fun m hm hl => ?_⟩
      obtain ⟨h1, h2⟩ := foldl_min_le ns n
      have e2 : m = ns.foldl min n := by
        refine Int.le_antisymm (hl _ (foldl_min_mem ns n)) ?_
        rcases List.mem_cons.mp hm with q | q
        · rw [q]; exact h1
        · exact h2 m q
      rw [e2]
      exact k.same g (.int _)
    · cases e
  · cases e
theorem str_ok : CallR X (.type "str") (rC X.K X.w strF) := by
  intro pins s σ H vs us Q I r h
  obtain ⟨G, ds, d, g, ra, e, k⟩ := h
  unfold strF at e
  split at e
  · split at e
    · rename_i hs
      cases e
      obtain ⟨v, rfl, rv⟩ := ra.one
      cases rv.rb.int
      exact call_str_int pins s σ H _ us Q I r ⟨_, rfl, hs.1, k.same g (.str _ hs.2)⟩
    · cases e
  · cases e
theorem list_ok : CallR X (.type "list") (rC X.K X.w listF) := by
  intro pins s σ H vs us Q I r h
  obtain ⟨G, ds, d, g, ra, e, k⟩ := h
  unfold listF at e
  split at e
  · cases e
    obtain ⟨v, rfl, rv⟩ := ra.one
    obtain ⟨a, xs, rfl, ha, la, qa⟩ := rv.rb.list g
    exact call_list_of pins s σ H _ us Q I r ⟨a, xs, rfl, .inl (SqL.of ha), fun p hp => k.lst g qa la hp⟩
  · cases e
    obtain ⟨v, rfl, rv⟩ := ra.one
    obtain ⟨a, xs, rfl, ha, la, qa⟩ := rv.rb.tup g
    exact call_list_of pins s σ H _ us Q I r ⟨a, xs, rfl, .inr ha, fun p hp => k.lst g qa la hp⟩
  · cases e
theorem tuple_ok : CallR X (.type "tuple") (rC X.K X.w tupleF) := by
  intro pins s σ H vs us Q I r h
  obtain ⟨G, ds, d, g, ra, e, k⟩ := h
  unfold tupleF at e
  split at e
  · cases e
    obtain ⟨v, rfl, rv⟩ := ra.one
    obtain ⟨a, xs, rfl, ha, la, qa⟩ := rv.rb.list g
    exact call_tuple_of pins s σ H _ us Q I r ⟨a, xs, rfl, .inl ⟨SqL.of ha, fun p hp => k.tup g qa la hp⟩⟩
  · cases e
    obtain ⟨v, rfl, rv⟩ := ra.one
    have q := rv.rb.tupR
    obtain ⟨a, xs, rfl, ha, la, qa⟩ := rv.rb.tup g
    exact call_tuple_of pins s σ H _ us Q I r ⟨a, xs, rfl, .inr ⟨ha, k.same g q⟩⟩
  · cases e
theorem noLs_zip : ∀ (ks ds : List PyData), ks.length = ds.length → noLsK (ks.zip ds) = noLsA ds
  | [], [], _ => rfl
  | k :: ks, d :: ds, h => by
    show (noLs d && noLsK (ks.zip ds)) = (noLs d && noLsA ds)
    rw [noLs_zip ks ds (by simpa using h)]
  | [], _ :: _, h => by simp at h
  | _ :: _, [], h => by simp at h
theorem Rv.reads {v : V} {u : Value} {d : PyData} (I : L2.Inv X pins σ H s) (g : GOk G H) (r : Rv X.K X.w G H v d) (ru : RelV v u) : ∃ as, Reads s.heap u d as ∧ (noLs d = true → sysModules ∉ as) := by
  cases r with
  | rp r => exact r.reads I g _ _ u ru
  | @ow a d hg o =>
    cases ru
    cases o with
    | lst h l ra =>
      obtain ⟨its, rv, ⟨o, n, ho, hc, _, hd⟩, _⟩ := I.list (SqL.of (K := X.K) h)
      obtain ⟨as, hr, _⟩ := RpA.reads I g _ _ its ra rv
      exact ⟨_, .list ho hc hd hr, by simp [noLs]⟩
    | @dK kvs ds h l ra =>
      obtain ⟨z, hsm, vs, rel, o, ee, ep, h1, h2, h3, h4, h5, h6⟩ := dk_rd I.hok (.inl h)
      obtain ⟨q1, q2⟩ := pairs_keys (h := s.heap) rel h5
      obtain ⟨as, hr, hn⟩ := RpA.reads I g ds _ _ ra q2
      have el : (kvs.map fun p => keyD p.1).length = ds.length := by have := ra.length; simpa using this
      refine ⟨_, .dict h1 h2.1 h3 (as := []) (bs := as) (by rw [List.map_fst_zip (by simp [el])]; simpa [Function.comp_def] using q1) (by rw [List.map_snd_zip (by simp [el])]; simpa [Function.comp_def] using hr), fun z hm => ?_⟩
      simp only [List.append_nil, List.cons_append, List.mem_cons] at hm
      rcases hm with e | hm
      · rw [← e] at hsm; simp at hsm
      · refine hn ?_ hm
        rw [← noLs_zip _ _ el]
        simpa [noLs] using z
    | @dT kvs ds h l ra =>
      obtain ⟨z, hsm, xs, rel, o, ee, ep, h1, h2, h3, h4, h5, h6⟩ := dt_rd I.hok (.inl h)
      obtain ⟨q1, q2⟩ := tups_keys (h := s.heap) rel h5
      rw [← h4] at q1 q2
      obtain ⟨as, hr, hn⟩ := RpA.reads I g ds _ _ ra q2
      have el : (kvs.map fun p => PyData.tuple (p.1.map keyD)).length = ds.length := by have := ra.length; simpa using this
      refine ⟨_, .dict h1 h2.1 h3 (as := []) (bs := as) (by rw [List.map_fst_zip (by simp [el])]; simpa [Function.comp_def] using q1) (by rw [List.map_snd_zip (by simp [el])]; simpa [Function.comp_def] using hr), fun z hm => ?_⟩
      simp only [List.append_nil, List.cons_append, List.mem_cons] at hm
      rcases hm with e | hm
      · rw [← e] at hsm; simp at hsm
      · refine hn ?_ hm
        rw [← noLs_zip _ _ el]
        simpa [noLs] using z
theorem Rv.ref {v : V} {d : PyData} (r : Rv K w G H v d) (g : GOk G H) (h : d.depth ≠ 0) : ∃ a, v = .ref a := by
  cases d with
  | list ds => obtain ⟨a, _, e, _⟩ := r.rb.list g; exact ⟨a, e⟩
  | tuple ds => obtain ⟨a, _, e, _⟩ := r.rb.tup g; exact ⟨a, e⟩
  | dict kvs => obtain ⟨a, e, _⟩ := r.rb.dict g; exact ⟨a, e⟩
  | _ => exact absurd (by simp [PyData.depth]) h
theorem repr_deep {u : Value} {v : V} {Q : VK} {d : PyData} (hu : X.A.units + 100 < cLine) (hg : X.A.guards = some []) (I : L2.Inv X pins σ H s) (g : GOk G H) (rv : Rv X.K X.w G H v d) (ru : RelV v u) (hd : d.depth ≠ 0)
    (h1 : d.showable = true) (h2 : d.depth ≤ 64) (h3 : d.shown.length ≤ lim) (h4 : d.hasDict = false ∨ noLs d = true)
    (k : Kon X.K X.w G H (.str d.shown) Q) : wpAny (model X.prog X.w) X.A (call (.builtin "repr") [u]) (EP X pins σ Q) X.xe s := by
  obtain ⟨a, rfl⟩ := rv.ref g hd
  obtain ⟨as, q, n⟩ := rv.reads I g ru
  cases ru
  refine repr_of_reads' q h1 (fun z => ?_) hg (by omega) (fun _ _ e => e) (fun h' u tk hk => ?_) (lim_line h3)
  · rcases h4 with h4 | h4
    · rw [h4] at z; cases z
    · exact n h4
  · exact ⟨.str d.shown, H, I.kept (t' := tk) hk, ⟨u, rfl⟩, k.same g (.str _ h3)⟩
theorem repr_ok (hu : X.A.units + 100 < cLine) (hg : X.A.guards = some []) : CallR X (.builtin "repr") (rC X.K X.w reprF) := by
  intro pins s σ H vs us Q I r h
  obtain ⟨G, ds, d, g, ra, e, k⟩ := h
  unfold reprF at e
  split at e
  · rename_i d0
    split at e
    · rename_i hs
      cases e
      unfold okR at hs
      simp only [Bool.and_eq_true, decide_eq_true_eq, Bool.or_eq_true, Bool.not_eq_true'] at hs
      obtain ⟨⟨⟨h1, h2⟩, h3⟩, h4⟩ := hs
      obtain ⟨v, rfl, rv⟩ := ra.one
      obtain ⟨u, rfl, ru⟩ := vals1 r
      have hl : d0.shown.length ≤ lim := by omega
      have fin : ∀ (h' : Heap) (t : Tok) (tk : Nat), (∀ b o, s.heap.get? b = some o → h'.get? b = some o) → EP X pins σ Q (.str d0.shown t) { s with heap := h', toks := tk } := fun h' t tk hk =>
        ⟨.str d0.shown, H, I.kept (t' := tk) hk, ⟨t, rfl⟩, k.same g (.str _ hl)⟩
      cases d0 with
      | none =>
        cases rv.rb.non; cases ru
        exact PySem.P.repr_of_none (fin s.heap _ _ fun _ _ q => q)
      | bool b =>
        cases rv.rb.bl; cases ru
        exact PySem.P.repr_of_bool (fin s.heap _ _ fun _ _ q => q)
      | int i =>
        cases rv.rb.int
        obtain ⟨t, rfl⟩ := ru
        have h1 : i.natAbs.log2 < 1920 := by simpa [PyData.showable] using h1
        exact PySem.P.repr_of_int h1 (fin s.heap _ _ fun _ _ q => q)
      | str z =>
        obtain ⟨rfl, _⟩ := rv.rb.str
        obtain ⟨t, rfl⟩ := ru
        exact PySem.P.repr_of_str (fin s.heap _ _ fun _ _ q => q) (lim_line hl)
      | list ds => exact repr_deep hu hg I g rv ru (by simp [PyData.depth]) h1 h2 hl h4 k
      | tuple ds => exact repr_deep hu hg I g rv ru (by simp [PyData.depth]) h1 h2 hl h4 k
      | dict ds => exact repr_deep hu hg I g rv ru (by simp [PyData.depth]) h1 h2 hl h4 k
    · cases e
  · cases e
/-! ### all of them -/
def Blt.fn : Blt → Value
  | .len => .builtin "len" | .max2 => .builtin "max" | .min2 => .builtin "min" | .abs => .builtin "abs" | .int => .type "int" | .sum => .builtin "sum" | .all => .builtin "all" | .sorted => .builtin "sorted"
  | .minl => .builtin "min" | .str => .type "str" | .list => .type "list" | .tuple => .type "tuple" | .repr => .builtin "repr"
theorem blt_ok (hc : X.calm = true) (hu : X.A.units + 100 < cLine) (hg : X.A.guards = some []) (b : Blt) : CallR X b.fn (rC X.K X.w b.f) := by
  cases b
  · exact len_ok
  · exact max2_ok hc
  · exact min2_ok hc
  · exact abs_ok
  · exact int_ok
  · exact sum_ok hc
  · exact all_ok hc
  · exact sorted_ok hu
  · exact minl_ok hc
  · exact str_ok
  · exact list_ok
  · exact tuple_ok
  · exact repr_ok hu hg
/-! ### methods -/
theorem ixOf_spec {ds : List PyData} {d : PyData} {j : Nat} (h : ixOf ds d = some j) : ∃ z, ds[j]? = some z ∧ PyData.eqv z d = true ∧ ∀ (m : Nat) (z' : PyData), m < j → ds[m]? = some z' → PyData.eqv z' d = false := by
  unfold ixOf at h
  obtain ⟨h1, h2, h3⟩ := List.findIdx?_eq_some_iff_getElem.mp h
  refine ⟨ds[j], List.getElem?_eq_getElem h1, h2, fun m z' hm hz => ?_⟩
  have := h3 m hm
  rw [List.getElem?_eq_getElem (by omega)] at hz
  cases hz
  simpa using this
theorem index_ok (hu : X.A.units + 65 < cLine) : MtR X "list.index" (fun x xs H Q => ∃ G da ds d, GOk G H ∧ Rv X.K X.w G H x da ∧ RvA X.K X.w G H xs ds ∧ indexF da ds = some d ∧ Kon X.K X.w G H d Q) := by
  intro pins s σ H x xs v us Q I rx rxs h
  obtain ⟨G, da, ds, d, g, r1, ra, e, k⟩ := h
  unfold indexF at e
  split at e
  · split at e
    · rename_i hs
      obtain ⟨j, e1, e2⟩ := Option.map_eq_some_iff.mp e
      subst e2
      obtain ⟨y, rfl, r2⟩ := ra.one
      obtain ⟨z, h1, h2, h3⟩ := ixOf_spec e1
      obtain ⟨a, _, ex, _⟩ := r1.rb.list g
      subst ex
      exact mt_indexD hu pins s σ H _ _ v us Q I rx rxs ⟨a, y, _, _, j, z, rfl, rfl, r1.rb.dp g hs.2, r2.rb.dp g hs.1, hs.2, hs.1, h1, h2, h3, k.same g (.int _)⟩
    · cases e
  · cases e
end
end VL
/-! VH: expressions: the small language is kept by the program's text -/
namespace VL
open PySem PySem.Spec PyProof.Rows L2
/-- the module -/
structure Md where
  P : Program
  w : World
  K : PySem.W.Frag
  mg : Str → Option Value
  base : Heap
/-- where a body stands: its names; which are seen, stored (as locals, as cells); the globals it names; the scope -/
structure VC where
  M : Md
  k : Nat
  N : List Str
  vis : List Nat
  loc : List Nat
  cel : List Nat
  gl : List Str
  sc : Scope
/-- an exception of a class of the module -/
def EXof (M : Md) (Gi : Gh) (Hi : Hp) (x : Str → Prop) : XK := fun cls d H => ∃ nm C G, cls = .ref C ∧ d = none ∧ M.mg nm = some (.ref C) ∧ x nm ∧ GOk G H ∧ Ext Gi Hi G H
def plainNm (x : Str) : Bool := !(x == ("__debug__" : Str)) && !(x == ("__classdict__" : Str))
def seen (sc : Scope) (x : Str) : Bool := sc.names.lookup x == some .local || sc.names.lookup x == some .cell || sc.names.lookup x == some .free
/-- the tables are right -/
def VC.ok (c : VC) : Bool := (c.sc.kind == .function) && (
  (c.vis.all fun i => match c.N[i]? with | some x => seen c.sc x && plainNm x | none => true) && (c.loc.all fun i => match c.N[i]? with | some x => c.sc.names.lookup x == some .local | none => true) &&
  (c.cel.all fun i => match c.N[i]? with | some x => c.sc.names.lookup x == some .cell | none => true) && c.gl.all fun x => c.sc.names.lookup x == some .globalImplicit && plainNm x)
structure CtxV (c : VC) (X : Cx) (Gi : Gh) (Hi : Hp) (x : Str → Prop) : Prop where
  m : c.M = ⟨X.prog, X.w, X.K, X.mg, X.base⟩
  N : X.N = c.N
  nd : c.N.Nodup
  ok : c.ok = true
  sc : X.env.scope = c.sc
  calm : X.calm = true
  room : Room c.k X.A
  guards : X.A.guards = some []
  fn : ∀ i ∈ c.cel, ∀ y, c.N[i]? = some y → X.fn y = true
  pass : Passes (L2.CX X.prog X.w) X (EXof c.M Gi Hi x)
  own : PassesOwn (model X.prog X.w) X.A X.env X.xe
  tk : Takes X (fun cls d _ H => EXof c.M Gi Hi x cls d H)
section
variable {c : VC} {X : Cx} {Gi : Gh} {Hi : Hp} {x : Str → Prop}
theorem CtxV.vis (C : CtxV c X Gi Hi x) {i : Nat} {y : Str} (h : c.vis.contains i = true) (e : c.N[i]? = some y) : Vis X.env.scope y ∧ (y == ("__debug__" : Str)) = false ∧ (y == ("__classdict__" : Str)) = false := by
  have k := C.ok
  unfold VC.ok at k
  simp only [Bool.and_eq_true, List.all_eq_true] at k
  have z := k.2.1.1.1 i (by simpa using h)
  rw [e] at z
  simp only [seen, plainNm, Bool.and_eq_true, Bool.or_eq_true, Bool.not_eq_true', beq_iff_eq] at z
  rw [C.sc]
  refine ⟨?_, by simpa using z.2.1, by simpa using z.2.2⟩
  rcases z.1 with (q | q) | q
  · exact .inl q
  · exact .inr (.inl q)
  · exact .inr (.inr q)
theorem CtxV.loc (C : CtxV c X Gi Hi x) {i : Nat} {y : Str} (h : c.loc.contains i = true) (e : c.N[i]? = some y) : X.env.scope.names.lookup y = some .local := by
  have k := C.ok
  unfold VC.ok at k
  simp only [Bool.and_eq_true, List.all_eq_true] at k
  have z := k.2.1.1.2 i (by simpa using h)
  rw [e] at z
  rw [C.sc]
  simpa using z
theorem CtxV.cel (C : CtxV c X Gi Hi x) {i : Nat} {y : Str} (h : c.cel.contains i = true) (e : c.N[i]? = some y) : X.env.scope.names.lookup y = some .cell ∧ X.fn y = true := by
  have k := C.ok
  unfold VC.ok at k
  simp only [Bool.and_eq_true, List.all_eq_true] at k
  have z := k.2.1.2 i (by simpa using h)
  rw [e] at z
  rw [C.sc]
  exact ⟨by simpa using z, C.fn i (by simpa using h) y e⟩
theorem CtxV.gl (C : CtxV c X Gi Hi x) {i : Nat} {y : Str} (e : c.gl[i]? = some y) : Gl X y ∧ (y == ("__debug__" : Str)) = false := by
  have k := C.ok
  unfold VC.ok at k
  simp only [Bool.and_eq_true, List.all_eq_true] at k
  have z := k.2.2 y (List.mem_of_getElem? e)
  simp only [plainNm, Bool.and_eq_true, Bool.not_eq_true', beq_iff_eq] at z
  refine ⟨?_, by simpa using z.2.1⟩
  show X.env.scope.names.lookup y = _
  rw [C.sc]; exact z.1
theorem CtxV.kind (C : CtxV c X Gi Hi x) : X.env.scope.kind = .function := by
  have k := C.ok
  unfold VC.ok at k
  simp only [Bool.and_eq_true, beq_iff_eq] at k
  rw [C.sc]; exact k.1
theorem CtxV.ni (C : CtxV c X Gi Hi x) {i : Nat} {y : Str} (e : c.N[i]? = some y) : X.N[i]? = some y := by rw [C.N]; exact e
theorem CtxV.nod (C : CtxV c X Gi Hi x) : X.N.Nodup := by rw [C.N]; exact C.nd
theorem CtxV.un (C : CtxV c X Gi Hi x) : X.A.units + 100 < cLine := by have := C.room.un; omega
theorem CtxV.mg (C : CtxV c X Gi Hi x) : X.mg = c.M.mg := by rw [C.m]
end
theorem PE.imp {X : Cx} {e : Expr} {t t' : TE} (h : PE X e t) (k : ∀ σ H Q, t' σ H Q → t σ H Q) : PE X e t' := ⟨fun pins s σ H Q I q => h.run pins s σ H Q I (k σ H Q q)⟩
theorem PT.imp {X : Cx} {e : Expr} {t t' : TT} (h : PT X e t) (k : ∀ σ H Q, t' σ H Q → t σ H Q) : PT X e t' := ⟨fun pins s σ H Q I q => h.run pins s σ H Q I (k σ H Q q)⟩
theorem PA.imp {X : Cx} {e : List Expr} {t t' : TA} (h : PA X e t) (k : ∀ σ H Q, t' σ H Q → t σ H Q) : PA X e t' := ⟨fun p pins s σ H Q I q => h.run p pins s σ H Q I (k σ H Q q)⟩
theorem PI.imp {X : Cx} {tg e : Expr} {t t' : TI} (h : PI X tg e t) (k : ∀ σ H Q, t' σ H Q → t σ H Q) : PI X tg e t' := ⟨fun pins s σ H Q I q => h.run pins s σ H Q I (k σ H Q q)⟩
theorem PS.imp {X : Cx} {e : Stmt} {t t' : TS} (h : PS X e t) (k : ∀ D σ H, t' D σ H → t D σ H) : PS X e t' := ⟨fun pins s σ H D I q => h.run pins s σ H D I (k D σ H q)⟩
theorem PSs.imp {X : Cx} {e : List Stmt} {t t' : TS} (h : PSs X e t) (k : ∀ D σ H, t' D σ H → t D σ H) : PSs X e t' := ⟨fun pins s σ H D I q => h.run pins s σ H D I (k D σ H q)⟩
theorem PG.imp {X : Cx} {e : Expr} {t t' : TG} (h : PG X e t) (k : ∀ v σ H Q, t' v σ H Q → t v σ H Q) : PG X e t' := ⟨fun pins s σ H v u Q I r q => h.run pins s σ H v u Q I r (k v σ H Q q)⟩

/-! ### readings -/
/-- an argument -/
inductive ArgR (K : PySem.W.Frag) (w : World) (G : Gh) : V → Av → Prop
  | da {v : V} {d : PyData} : Rp K w G v d → ArgR K w G v (.da d)
  | rg {a : Addr} : G a = some .rg → ArgR K w G (.ref a) .rg
  | sc {a : Addr} {ns : List Int} : GS K G a (ns.map V.int) → ArgR K w G (.ref a) (.sc ns)
theorem ArgR.ext {K : PySem.W.Frag} {w : World} {G G' : Gh} {H H' : Hp} {v : V} {a : Av} (r : ArgR K w G v a) (x : Ext G H G' H') : ArgR K w G' v a := by
  cases r with
  | da r => exact .da (r.mono x.g)
  | rg r => exact .rg (x.g _ _ r)
  | sc r => exact .sc (r.mono x.g)
inductive ArgsR (K : PySem.W.Frag) (w : World) (G : Gh) : List V → List Av → Prop
  | nil : ArgsR K w G [] []
  | cons {v : V} {vs : List V} {a : Av} {as : List Av} : ArgR K w G v a → ArgsR K w G vs as → ArgsR K w G (v :: vs) (a :: as)
section
variable (K : PySem.W.Frag) (w : World) (Gi : Gh) (Hi : Hp)
abbrev WE' := En → (PyData → Prop) → Prop
def tV (W : WE') : TE := fun σ H Q => ∃ G ρ P, StR K w Gi Hi G H σ ρ ∧ W ρ P ∧ ∀ v G' H' d, StR K w Gi Hi G' H' σ ρ → Ext G H G' H' → Rp K w G' v d → P d → Q v H'
def tVb (W : WE') : TE := fun σ H Q => ∃ G ρ P, StR K w Gi Hi G H σ ρ ∧ W ρ P ∧ ∀ v G' H' d, StR K w Gi Hi G' H' σ ρ → Ext G H G' H' → Rb K w G' H' v d → P d → Q v H'
def tVv (W : WE') : TE := fun σ H Q => ∃ G ρ P, StR K w Gi Hi G H σ ρ ∧ W ρ P ∧ ∀ v G' H' d, StR K w Gi Hi G' H' σ ρ → Ext G H G' H' → Rv K w G' H' v d → P d → Q v H'
def tVa (W : En → (Av → Prop) → Prop) : TE := fun σ H Q => ∃ G ρ P, StR K w Gi Hi G H σ ρ ∧ W ρ P ∧ ∀ v G' H' d, StR K w Gi Hi G' H' σ ρ → Ext G H G' H' → ArgR K w G' v d → P d → Q v H'
def tT (W : WE') : TT := fun σ H Q => ∃ G ρ P, StR K w Gi Hi G H σ ρ ∧ W ρ (fun d => asB d P) ∧ ∀ b G' H', StR K w Gi Hi G' H' σ ρ → Ext G H G' H' → P b → Q b H'
def tVs (n : Nat) (W : En → (List PyData → Prop) → Prop) : TA := fun σ H Q => ∃ G ρ P, StR K w Gi Hi G H σ ρ ∧ W ρ P ∧ ∀ vs G' H' ds, StR K w Gi Hi G' H' σ ρ → Ext G H G' H' → vs.length = n → RpA K w G' vs ds → P ds → Q vs H'
def tVbs (W : En → (List PyData → Prop) → Prop) : TA := fun σ H Q => ∃ G ρ P, StR K w Gi Hi G H σ ρ ∧ W ρ P ∧ ∀ vs G' H' ds, StR K w Gi Hi G' H' σ ρ → Ext G H G' H' → RvA K w G' H' vs ds → P ds → Q vs H'
def tVas (W : En → (List Av → Prop) → Prop) : TA := fun σ H Q => ∃ G ρ P, StR K w Gi Hi G H σ ρ ∧ W ρ P ∧ ∀ vs G' H' ds, StR K w Gi Hi G' H' σ ρ → Ext G H G' H' → ArgsR K w G' vs ds → P ds → Q vs H'
end
def VE (c : VC) (e : Expr) (ir : Ex) : Prop := ∀ X Gi Hi x, CtxV c X Gi Hi x → PE X e (tV X.K X.w Gi Hi (wpE ir x))
/-- looked at -/
def VB (c : VC) (e : Expr) (ir : Ex) : Prop := ∀ X Gi Hi x, CtxV c X Gi Hi x → PE X e (tVb X.K X.w Gi Hi fun ρ => brw ρ ir (wpE ir x ρ))
def VV' (c : VC) (e : Expr) (ir : Ex) : Prop := ∀ X Gi Hi x, CtxV c X Gi Hi x → PE X e (tVv X.K X.w Gi Hi fun ρ => brv ρ ir (wpE ir x ρ))
def VA' (c : VC) (e : Expr) (ir : Ex) : Prop := ∀ X Gi Hi x, CtxV c X Gi Hi x → PE X e (tVa X.K X.w Gi Hi fun ρ => arg ρ ir (wpE ir x ρ))
def VT (c : VC) (e : Expr) (ir : Ex) : Prop := ∀ X Gi Hi x, CtxV c X Gi Hi x → PT X e (tT X.K X.w Gi Hi (wpE ir x))
def VEs (c : VC) (n : Nat) (e : List Expr) (ir : Exs) : Prop := ∀ X Gi Hi x, CtxV c X Gi Hi x → PA X e (tVs X.K X.w Gi Hi n (wpEs ir x))
def VBs (c : VC) (e : List Expr) (ir : Exs) : Prop := ∀ X Gi Hi x, CtxV c X Gi Hi x → PA X e (tVbs X.K X.w Gi Hi (wpBs ir x))
def VAs (c : VC) (e : List Expr) (ir : Exs) : Prop := ∀ X Gi Hi x, CtxV c X Gi Hi x → PA X e (tVas X.K X.w Gi Hi (wpAs ir x))

section
variable {c : VC} {e a b d : Expr} {es : List Expr} {ir ia ib id' : Ex} {irs : Exs} {pos p p1 p2 p3 p4 : Pos} {n m : Nat}
/-- not a name, not a written dict -/
def nv : Ex → Bool
  | .var _ => false
  | .gld _ _ => false
  | _ => true
theorem brw_nv {ρ : En} {t : (PyData → Prop) → Prop} {P : PyData → Prop} (h : nv ir = true) : brw ρ ir t P = t P := by
  cases ir <;> first | rfl | cases h
theorem brv_nv {ρ : En} {t : (PyData → Prop) → Prop} {P : PyData → Prop} (h : nv ir = true) : brv ρ ir t P = t P := by
  cases ir <;> first | rfl | cases h
theorem arg_nv {ρ : En} {t : (PyData → Prop) → Prop} {P : Av → Prop} (h : nv ir = true) : arg ρ ir t P = t fun d => P (.da d) := by
  cases ir <;> first | rfl | cases h
theorem b_of (h : VE c e ir) (hn : nv ir = true := by rfl) : VB c e ir := fun X Gi Hi x C => PE.imp (h X Gi Hi x C) fun σ H Q ⟨G, ρ, P, S, hw, k⟩ =>
  ⟨G, ρ, P, S, Eq.mp (brw_nv hn) hw, fun v G' H' d S' x' r p => k v G' H' d S' x' (.rp r) p⟩
theorem v_of (h : VE c e ir) (hn : nv ir = true := by rfl) : VV' c e ir := fun X Gi Hi x C => PE.imp (h X Gi Hi x C) fun σ H Q ⟨G, ρ, P, S, hw, k⟩ =>
  ⟨G, ρ, P, S, Eq.mp (brv_nv hn) hw, fun v G' H' d S' x' r p => k v G' H' d S' x' (.rp r) p⟩
theorem a_of (h : VE c e ir) (hn : nv ir = true := by rfl) : VA' c e ir := fun X Gi Hi x C => PE.imp (h X Gi Hi x C) fun σ H Q ⟨G, ρ, P, S, hw, k⟩ =>
  ⟨G, ρ, _, S, Eq.mp (arg_nv hn) hw, fun v G' H' d S' x' r p => k v G' H' (.da d) S' x' (.da r) p⟩
theorem StR.va {K : PySem.W.Frag} {w : World} {Gi G : Gh} {Hi H : Hp} {σ : L2.St} {ρ : En} {i : Nat} {d : PyData} (S : StR K w Gi Hi G H σ ρ) (h : ρ[i]? = some (.va d)) : ∃ v, σ[i]? = some (some v) ∧ Rp K w G v d := S.sl i _ h
theorem StR.ow {K : PySem.W.Frag} {w : World} {Gi G : Gh} {Hi H : Hp} {σ : L2.St} {ρ : En} {i : Nat} {d : PyData} (S : StR K w Gi Hi G H σ ρ) (h : ρ[i]? = some (.ow d)) : ∃ a, σ[i]? = some (some (.ref a)) ∧ Hi a = none ∧ G a = none ∧ Own K w G H a d := S.sl i _ h
theorem StR.rgA {K : PySem.W.Frag} {w : World} {Gi G : Gh} {Hi H : Hp} {σ : L2.St} {ρ : En} {i : Nat} (S : StR K w Gi Hi G H σ ρ) (h : ρ[i]? = some .rg) : ∃ a, σ[i]? = some (some (.ref a)) ∧ G a = some .rg := S.sl i _ h
theorem StR.scA {K : PySem.W.Frag} {w : World} {Gi G : Gh} {Hi H : Hp} {σ : L2.St} {ρ : En} {i : Nat} {ns : List Int} (S : StR K w Gi Hi G H σ ρ) (h : ρ[i]? = some (.sc ns)) : ∃ a, σ[i]? = some (some (.ref a)) ∧ GS K G a (ns.map V.int) := S.sl i _ h
theorem e_var {i : Nat} {y : Str} (hi : c.N[i]? = some y) (hv : c.vis.contains i = true) : VE c (.Name y pos) (.var i) := fun X Gi Hi x C => by
  obtain ⟨h1, h2, h3⟩ := C.vis hv hi
  refine PE.imp (pe_var (C.ni hi) h1 h2 h3) fun σ H Q ⟨G, ρ, P, S, hw, k⟩ => ?_
  have hw' : rdV ρ i P := hw
  unfold rdV at hw'
  split at hw'
  · rename_i d q
    obtain ⟨v, e1, r⟩ := S.va q
    exact ⟨v, e1, k v G H d S (Ext.refl G H) r hw'⟩
  · exact hw'.elim
theorem b_var {i : Nat} {y : Str} (hi : c.N[i]? = some y) (hv : c.vis.contains i = true) : VB c (.Name y pos) (.var i) := fun X Gi Hi x C => by
  obtain ⟨h1, h2, h3⟩ := C.vis hv hi
  refine PE.imp (pe_var (C.ni hi) h1 h2 h3) fun σ H Q ⟨G, ρ, P, S, hw, k⟩ => ?_
  have hw' : rdB ρ i P := hw
  unfold rdB at hw'
  split at hw'
  · rename_i d q
    obtain ⟨v, e1, r⟩ := S.va q
    exact ⟨v, e1, k v G H d S (Ext.refl G H) (.rp r) hw'⟩
  · rename_i d q
    obtain ⟨a, e1, h4, h5, o⟩ := S.ow q
    exact ⟨_, e1, k _ G H d S (Ext.refl G H) (.ow h5 o) hw'⟩
  · exact hw'.elim
theorem v_var {i : Nat} {y : Str} (hi : c.N[i]? = some y) (hv : c.vis.contains i = true) : VV' c (.Name y pos) (.var i) := fun X Gi Hi x C => by
  obtain ⟨h1, h2, h3⟩ := C.vis hv hi
  refine PE.imp (pe_var (C.ni hi) h1 h2 h3) fun σ H Q ⟨G, ρ, P, S, hw, k⟩ => ?_
  have hw' : rdB ρ i P := hw
  unfold rdB at hw'
  split at hw'
  · rename_i d q
    obtain ⟨v, e1, r⟩ := S.va q
    exact ⟨v, e1, k v G H d S (Ext.refl G H) (.rp r) hw'⟩
  · rename_i d q
    obtain ⟨a, e1, h4, h5, o⟩ := S.ow q
    exact ⟨_, e1, k _ G H d S (Ext.refl G H) (.ow h5 o) hw'⟩
  · exact hw'.elim
theorem a_var {i : Nat} {y : Str} (hi : c.N[i]? = some y) (hv : c.vis.contains i = true) : VA' c (.Name y pos) (.var i) := fun X Gi Hi x C => by
  obtain ⟨h1, h2, h3⟩ := C.vis hv hi
  refine PE.imp (pe_var (C.ni hi) h1 h2 h3) fun σ H Q ⟨G, ρ, P, S, hw, k⟩ => ?_
  have hw' : rdA ρ i P := hw
  unfold rdA at hw'
  split at hw'
  · rename_i d q
    obtain ⟨v, e1, r⟩ := S.va q
    exact ⟨v, e1, k v G H (.da d) S (Ext.refl G H) (.da r) hw'⟩
  · rename_i q
    obtain ⟨a, e1, h5⟩ := S.rgA q
    exact ⟨_, e1, k _ G H .rg S (Ext.refl G H) (.rg h5) hw'⟩
  · rename_i ns q
    obtain ⟨a, e1, h5⟩ := S.scA q
    exact ⟨_, e1, k _ G H (.sc ns) S (Ext.refl G H) (.sc h5) hw'⟩
  · exact hw'.elim
theorem tC_ok {K : PySem.W.Frag} {w : World} {Gi : Gh} {Hi : Hp} {W : WE'} {v : V} {d : PyData} (r : ∀ G, Rp K w G v d) (hW : ∀ ρ P, W ρ P → P d) : ∀ σ H Q, tV K w Gi Hi W σ H Q → tC v σ H Q := fun σ H Q ⟨G, ρ, P, S, hw, k⟩ => k v G H d S (Ext.refl G H) (r G) (hW ρ P hw)
theorem e_int {i : Int} {j : Nat} : VE c (.Constant (.int i) j pos) (.cst (.int i)) := fun X Gi Hi x C => PE.imp pe_int (tC_ok (fun _ => .int i) fun _ _ h => h)
theorem e_bl {i : Bool} {j : Nat} : VE c (.Constant (.bool i) j pos) (.cst (.bool i)) := fun X Gi Hi x C => PE.imp pe_bl (tC_ok (fun _ => .bl i) fun _ _ h => h)
theorem e_non {j : Nat} : VE c (.Constant .none j pos) (.cst .none) := fun X Gi Hi x C => PE.imp pe_non (tC_ok (fun _ => .non) fun _ _ h => h)
theorem e_str {z : Str} {j : Nat} (h : Nat.ble z.length lim = true) : VE c (.Constant (.str z) j pos) (.cst (.str z)) := fun X Gi Hi x C => PE.imp pe_str (tC_ok (fun _ => .str z (Nat.le_of_ble_eq_true h)) fun _ _ h => h)
/-- a constant of the module -/
def Glob (M : Md) (y : Str) (d : PyData) : Prop := ∃ v u, M.mg y = some u ∧ RelV v u ∧ ∀ G, Rp M.K M.w G v d
def Gldb (M : Md) (y : Str) (d : PyData) : Prop := ∃ v u, M.mg y = some u ∧ RelV v u ∧ Kdv M.K M.w v d
theorem e_glb {y : Str} {dt : PyData} {j : Nat} (hj : c.gl[j]? = some y) (g : Glob c.M y dt) : VE c (.Name y pos) (.glb y dt) := fun X Gi Hi x C => by
  obtain ⟨v, u, e1, r1, h1⟩ := g
  obtain ⟨g1, g2⟩ := C.gl hj
  refine PE.imp (pe_glob g1 (by rw [C.mg]; exact e1) r1 g2) (tC_ok (fun G => ?_) fun _ _ h => h)
  have := h1 G
  rw [C.m] at this
  exact this
theorem b_gld {y : Str} {dt : PyData} {j : Nat} (hj : c.gl[j]? = some y) (g : Gldb c.M y dt) : VB c (.Name y pos) (.gld y dt) := fun X Gi Hi x C => by
  obtain ⟨v, u, e1, r1, h1⟩ := g
  obtain ⟨g1, g2⟩ := C.gl hj
  refine PE.imp (pe_glob g1 (by rw [C.mg]; exact e1) r1 g2) fun σ H Q ⟨G, ρ, P, S, hw, k⟩ => ?_
  rw [C.m] at h1
  exact k v G H dt S (Ext.refl G H) (.kd h1) hw

/-! ### lists of expressions -/
theorem es_nil : VEs c 0 [] .nil := fun X Gi Hi x C => PA.imp pa_nil fun σ H Q ⟨G, ρ, P, S, hw, k⟩ => k [] G H [] S (Ext.refl G H) rfl .nil hw
theorem es_cons (h : VE c e ir) (t : VEs c n es irs) (hs : ∀ env : Env, starEach (e :: es) env = (false, eval e env) :: starEach es env := by intro _; rfl) : VEs c (n + 1) (e :: es) (.cons ir irs) := fun X Gi Hi x C =>
  PA.imp (pa_cons (h X Gi Hi x C) (t X Gi Hi x C) (hs _)) fun σ H Q ⟨G, ρ, P, S, hw, k⟩ => ⟨G, ρ, _, S, hw, fun v G1 H1 d S1 x1 r1 hw1 => ⟨G1, ρ, _, S1, hw1, fun vs G2 H2 ds S2 x2 hl r2 p2 =>
    k (v :: vs) G2 H2 (d :: ds) S2 (x1.trans x2) (by rw [List.length_cons, hl]) (.cons (r1.mono x2.g) r2) p2⟩⟩
theorem bs_nil : VBs c [] .nil := fun X Gi Hi x C => PA.imp pa_nil fun σ H Q ⟨G, ρ, P, S, hw, k⟩ => k [] G H [] S (Ext.refl G H) .nil hw
theorem bs_cons (h : VV' c e ir) (t : VBs c es irs) (hs : ∀ env : Env, starEach (e :: es) env = (false, eval e env) :: starEach es env := by intro _; rfl) : VBs c (e :: es) (.cons ir irs) := fun X Gi Hi x C =>
  PA.imp (pa_cons (h X Gi Hi x C) (t X Gi Hi x C) (hs _)) fun σ H Q ⟨G, ρ, P, S, hw, k⟩ => ⟨G, ρ, _, S, hw, fun v G1 H1 d S1 x1 r1 hw1 => ⟨G1, ρ, _, S1, hw1, fun vs G2 H2 ds S2 x2 r2 p2 =>
    k (v :: vs) G2 H2 (d :: ds) S2 (x1.trans x2) (.cons (r1.ext x2) r2) p2⟩⟩
theorem as_nil : VAs c [] .nil := fun X Gi Hi x C => PA.imp pa_nil fun σ H Q ⟨G, ρ, P, S, hw, k⟩ => k [] G H [] S (Ext.refl G H) .nil hw
theorem as_cons (h : VA' c e ir) (t : VAs c es irs) (hs : ∀ env : Env, starEach (e :: es) env = (false, eval e env) :: starEach es env := by intro _; rfl) : VAs c (e :: es) (.cons ir irs) := fun X Gi Hi x C =>
  PA.imp (pa_cons (h X Gi Hi x C) (t X Gi Hi x C) (hs _)) fun σ H Q ⟨G, ρ, P, S, hw, k⟩ => ⟨G, ρ, _, S, hw, fun v G1 H1 d S1 x1 r1 hw1 => ⟨G1, ρ, _, S1, hw1, fun vs G2 H2 ds S2 x2 r2 p2 =>
    k (v :: vs) G2 H2 (d :: ds) S2 (x1.trans x2) (.cons (r1.ext x2) r2) p2⟩⟩

/-! ### operators -/
theorem oP_some {α : Type} {o : Option α} {P : α → Prop} (h : oP o P) : ∃ d, o = some d ∧ P d := by
  cases o with
  | none => exact h.elim
  | some d => exact ⟨d, rfl, h⟩
theorem kon_of {K : PySem.W.Frag} {w : World} {Gi G0 G : Gh} {Hi H0 H : Hp} {σ : L2.St} {ρ : En} {P : PyData → Prop} {Q : VK} {d : PyData}
    (k : ∀ v G' H' d, StR K w Gi Hi G' H' σ ρ → Ext G0 H0 G' H' → Rp K w G' v d → P d → Q v H') (S : StR K w Gi Hi G H σ ρ) (x : Ext G0 H0 G H) (p : P d) : Kon K w G H d Q :=
  fun v G' H' g x' r => k v G' H' d (S.step x' g) (x.trans x') r p
theorem e_bin (o : BOp) (ha : VB c a ia) (hb : VB c b ib) : VE c (.BinOp a o.op b pos) (.bin o ia ib) := fun X Gi Hi x C =>
  PE.imp (pe_op (bop_ok o) (ha X Gi Hi x C) (hb X Gi Hi x C)) fun σ H Q ⟨G, ρ, P, S, hw, k⟩ => ⟨G, ρ, _, S, hw, fun v G1 H1 da S1 x1 r1 hw1 => ⟨G1, ρ, _, S1, hw1, fun u G2 H2 db S2 x2 r2 p2 => by
    obtain ⟨d, e, p⟩ := oP_some p2
    exact ⟨G2, da, db, d, S2.gok, r1.ext x2, r2, e, kon_of k S2 (x1.trans x2) p⟩⟩⟩
theorem asI_int {d : PyData} {P : Int → Prop} (h : asI d P) : ∃ i, d = .int i ∧ P i := by
  cases d <;> first | exact ⟨_, rfl, h⟩ | exact h.elim
theorem e_neg (ha : VE c a ia) : VE c (.UnaryOp .USub a pos) (.neg ia) := fun X Gi Hi x C =>
  PE.imp (pe_un neg_ok (ha X Gi Hi x C)) fun σ H Q ⟨G, ρ, P, S, hw, k⟩ => ⟨G, ρ, _, S, hw, fun v G1 H1 da S1 x1 r1 hw1 => by
    obtain ⟨i, rfl, p⟩ := asI_int hw1
    cases r1
    exact ⟨G1, i, S1.gok, rfl, kon_of k S1 x1 p⟩⟩
theorem mark_of {o : COp} (b : Expr) (h : o ≠ .inn ∧ o ≠ .nin) : behindInMarks o.op b = false := by
  cases o <;> first | exact nomark b | exact absurd rfl h.1 | exact absurd rfl h.2
theorem e_cmp (o : COp) (ha : VB c a ia) (hb : VB c b ib) (hm : behindInMarks o.op b = false) : VE c (.Compare a [o.op] [b] pos) (.cmp o ia ib) := fun X Gi Hi x C =>
  PE.imp (pe_cmpR (cop_ok (by have := C.un; omega) o) (ha X Gi Hi x C) (hb X Gi Hi x C) hm) fun σ H Q ⟨G, ρ, P, S, hw, k⟩ => ⟨G, ρ, _, S, hw, fun v G1 H1 da S1 x1 r1 hw1 => ⟨G1, ρ, _, S1, hw1, fun u G2 H2 db S2 x2 r2 p2 => by
    obtain ⟨d, e, p⟩ := oP_some p2
    exact ⟨G2, da, db, d, S2.gok, r1.ext x2, r2, e, kon_of k S2 (x1.trans x2) p⟩⟩⟩
theorem t_cmp (o : COp) (ha : VB c a ia) (hb : VB c b ib) (hm : behindInMarks o.op b = false) : VT c (.Compare a [o.op] [b] pos) (.cmp o ia ib) := fun X Gi Hi x C =>
  PT.imp (pt_cmpR (cop_ok (by have := C.un; omega) o) (ha X Gi Hi x C) (hb X Gi Hi x C) hm) fun σ H Q ⟨G, ρ, P, S, hw, k⟩ => ⟨G, ρ, _, S, hw, fun v G1 H1 da S1 x1 r1 hw1 => ⟨G1, ρ, _, S1, hw1, fun u G2 H2 db S2 x2 r2 p2 => by
    obtain ⟨d, e, p⟩ := oP_some p2
    exact ⟨G2, da, db, d, S2.gok, r1.ext x2, r2, e, fun z G' H' g x' r => by cases r; exact ⟨d, rfl, k d G' H' (S2.step x' g) ((x1.trans x2).trans x') p⟩⟩⟩⟩
theorem e_chn (o q : COp) (ha : VE c a ia) (hb : VE c b ib) (hd : VE c d id') (hm : lastMarks [o.op, q.op] [b, d] = false) : VE c (.Compare a [o.op, q.op] [b, d] pos) (.chn o q ia ib id') := fun X Gi Hi x C =>
  PE.imp (pe_chain (cop_ok (by have := C.un; omega) o) (cop_ok (by have := C.un; omega) q) (ha X Gi Hi x C) (hb X Gi Hi x C) (hd X Gi Hi x C) hm) fun σ H Q ⟨G, ρ, P, S, hw, k⟩ => ⟨G, ρ, _, S, hw, fun v G1 H1 da S1 x1 r1 hw1 =>
    ⟨G1, ρ, _, S1, hw1, fun u G2 H2 db S2 x2 r2 p2 => by
      obtain ⟨d1, e, p⟩ := oP_some p2
      refine ⟨G2, da, db, d1, S2.gok, .rp (r1.mono x2.g), .rp r2, e, fun z G3 H3 g x3 r => ?_⟩
      cases r
      refine ⟨d1, rfl, ?_⟩
      cases d1 with
      | false => exact k _ G3 H3 (.bool false) (S2.step x3 g) ((x1.trans x2).trans x3) (.bl false) p
      | true =>
        refine ⟨G3, ρ, _, S2.step x3 g, p, fun y G4 H4 dc S4 x4 r4 p4 => ?_⟩
        obtain ⟨d2, e2, p⟩ := oP_some p4
        exact ⟨G4, db, dc, d2, S4.gok, .rp (r2.mono (x3.trans x4).g), .rp r4, e2, kon_of k S4 (((x1.trans x2).trans x3).trans x4) p⟩⟩⟩
theorem t_chn (o q : COp) (ha : VE c a ia) (hb : VE c b ib) (hd : VE c d id') (hm : lastMarks [o.op, q.op] [b, d] = false) : VT c (.Compare a [o.op, q.op] [b, d] pos) (.chn o q ia ib id') := fun X Gi Hi x C =>
  PT.imp (pt_chain (cop_ok (by have := C.un; omega) o) (cop_ok (by have := C.un; omega) q) (ha X Gi Hi x C) (hb X Gi Hi x C) (hd X Gi Hi x C) hm) fun σ H Q ⟨G, ρ, P, S, hw, k⟩ => ⟨G, ρ, _, S, hw, fun v G1 H1 da S1 x1 r1 hw1 =>
    ⟨G1, ρ, _, S1, hw1, fun u G2 H2 db S2 x2 r2 p2 => by
      obtain ⟨d1, e, p⟩ := oP_some p2
      refine ⟨G2, da, db, d1, S2.gok, .rp (r1.mono x2.g), .rp r2, e, fun z G3 H3 g x3 r => ?_⟩
      cases r
      refine ⟨d1, rfl, ?_⟩
      cases d1 with
      | false => exact ⟨false, rfl, k false G3 H3 (S2.step x3 g) ((x1.trans x2).trans x3) p⟩
      | true =>
        refine ⟨G3, ρ, _, S2.step x3 g, p, fun y G4 H4 dc S4 x4 r4 p4 => ?_⟩
        obtain ⟨d2, e2, p⟩ := oP_some p4
        refine ⟨G4, db, dc, d2, S4.gok, .rp (r2.mono (x3.trans x4).g), .rp r4, e2, fun z G5 H5 g5 x5 r5 => ?_⟩
        cases r5
        exact ⟨d2, rfl, k d2 G5 H5 (S4.step x5 g5) ((((x1.trans x2).trans x3).trans x4).trans x5) p⟩⟩⟩
def isNo : PyData → Bool
  | .none => true
  | _ => false
theorem isN_val {K : PySem.W.Frag} {w : World} {G : Gh} {H : Hp} {v : V} {d : PyData} (r : Rb K w G H v d) : decide (v = .non) = isNo d := by
  cases r with
  | rp r => cases r <;> simp [isNo]
  | ow _ o => cases o <;> simp [isNo]
  | kd k => cases k; simp [isNo]
theorem e_isN {j : Nat} (ha : VB c a ia) : VE c (.Compare a [.Is] [.Constant .none j p] pos) (.isN ia) := fun X Gi Hi x C =>
  PE.imp (pe_cmp (pc_isN (ha X Gi Hi x C))) fun σ H Q ⟨G, ρ, P, S, hw, k⟩ => ⟨G, ρ, _, S, hw, fun v G1 H1 da S1 x1 r1 hw1 => by
    exact Eq.mpr (congrArg (fun b => Q (.bl b) H1) (isN_val r1)) (k _ G1 H1 (.bool _) S1 x1 (.bl _) (by cases da <;> exact hw1))⟩
theorem e_ntN {j : Nat} (ha : VB c a ia) : VE c (.Compare a [.IsNot] [.Constant .none j p] pos) (.ntN ia) := fun X Gi Hi x C =>
  PE.imp (pe_cmp (pc_notN (ha X Gi Hi x C))) fun σ H Q ⟨G, ρ, P, S, hw, k⟩ => ⟨G, ρ, _, S, hw, fun v G1 H1 da S1 x1 r1 hw1 => by
    refine Eq.mpr (congrArg (fun b => Q (.bl !b) H1) (isN_val r1)) (k _ G1 H1 (.bool _) S1 x1 (.bl _) ?_)
    cases da <;> exact hw1⟩
theorem t_isN {j : Nat} (ha : VB c a ia) : VT c (.Compare a [.Is] [.Constant .none j p] pos) (.isN ia) := fun X Gi Hi x C =>
  PT.imp (pt_cmp (pc_isN (ha X Gi Hi x C))) fun σ H Q ⟨G, ρ, P, S, hw, k⟩ => ⟨G, ρ, _, S, hw, fun v G1 H1 da S1 x1 r1 hw1 => by
    exact ⟨_, congrArg V.bl (isN_val r1), k _ G1 H1 S1 x1 (by cases da <;> exact hw1)⟩⟩
theorem t_ntN {j : Nat} (ha : VB c a ia) : VT c (.Compare a [.IsNot] [.Constant .none j p] pos) (.ntN ia) := fun X Gi Hi x C =>
  PT.imp (pt_cmp (pc_notN (ha X Gi Hi x C))) fun σ H Q ⟨G, ρ, P, S, hw, k⟩ => ⟨G, ρ, _, S, hw, fun v G1 H1 da S1 x1 r1 hw1 => by
    refine ⟨_, congrArg (fun b => V.bl !b) (isN_val r1), k _ G1 H1 S1 x1 ?_⟩
    cases da <;> exact hw1⟩
theorem asB_bool {d : PyData} {P : Bool → Prop} (h : asB d P) : ∃ i, d = .bool i ∧ P i := by
  cases d <;> first | exact ⟨_, rfl, h⟩ | exact h.elim
theorem e_not (ha : VE c a ia) : VE c (.UnaryOp .Not a pos) (.not ia) := fun X Gi Hi x C =>
  PE.imp (pe_not (ha X Gi Hi x C)) fun σ H Q ⟨G, ρ, P, S, hw, k⟩ => ⟨G, ρ, _, S, hw, fun v G1 H1 da S1 x1 r1 hw1 => by
    obtain ⟨i, rfl, p⟩ := asB_bool hw1
    cases r1
    exact ⟨i, rfl, k _ G1 H1 _ S1 x1 (.bl _) p⟩⟩
theorem t_not (ha : VT c a ia) : VT c (.UnaryOp .Not a pos) (.not ia) := fun X Gi Hi x C =>
  PT.imp (pt_not (ha X Gi Hi x C)) fun σ H Q ⟨G, ρ, P, S, hw, k⟩ => ⟨G, ρ, _, S, hw, fun i G1 H1 S1 x1 p => k _ G1 H1 S1 x1 p⟩
/-- a value as a test -/
theorem t_val (ha : VE c a ia) (he : ∀ (env : Env) (whole : Sem Value), isTrue a env whole = (do let v ← whole; standAt a.pos; holding [v] (truthy v)) := by intro _ _; rfl) : VT c a ia := fun X Gi Hi x C =>
  PT.imp (pt_val (ha X Gi Hi x C) (he _)) fun σ H Q ⟨G, ρ, P, S, hw, k⟩ => ⟨G, ρ, _, S, hw, fun v G1 H1 da S1 x1 r1 p => by
    obtain ⟨i, rfl, p⟩ := asB_bool p
    cases r1
    exact ⟨i, rfl, k i G1 H1 S1 x1 p⟩⟩
/-- a chain of and, or: as a value, as a test whatever its whole is -/
def VW (c : VC) (e : Expr) (ir : Ex) : Prop := ∀ X Gi Hi x, CtxV c X Gi Hi x → PW X e (tT X.K X.w Gi Hi (wpE ir x))
theorem PW.imp {X : Cx} {e : Expr} {t t' : TT} (h : PW X e t) (k : ∀ σ H Q, t' σ H Q → t σ H Q) : PW X e t' := ⟨fun wh pins s σ H Q I q => h.run wh pins s σ H Q I (k σ H Q q)⟩
theorem e_one {op : PySem.BoolOp} (ha : VE c a ia) : VE c (.BoolOp op [a] pos) ia := fun X Gi Hi x C => pe_one (ha X Gi Hi x C)
theorem e_and (ha : VE c a ia) (hb : VE c (.BoolOp .And (b :: es) pos) ib) : VE c (.BoolOp .And (a :: b :: es) pos) (.and ia ib) := fun X Gi Hi x C =>
  PE.imp (pe_and (ha X Gi Hi x C) (hb X Gi Hi x C)) fun σ H Q ⟨G, ρ, P, S, hw, k⟩ => ⟨G, ρ, _, S, hw, fun v G1 H1 da S1 x1 r1 hw1 => by
    obtain ⟨i, rfl, p⟩ := asB_bool hw1
    cases r1
    refine ⟨i, rfl, ?_⟩
    cases i with
    | true => exact ⟨G1, ρ, _, S1, p, fun v G2 H2 d S2 x2 r p => k v G2 H2 d S2 (x1.trans x2) r p⟩
    | false => exact k _ G1 H1 _ S1 x1 (.bl false) p⟩
theorem e_or (ha : VE c a ia) (hb : VE c (.BoolOp .Or (b :: es) pos) ib) : VE c (.BoolOp .Or (a :: b :: es) pos) (.or ia ib) := fun X Gi Hi x C =>
  PE.imp (pe_or (ha X Gi Hi x C) (hb X Gi Hi x C)) fun σ H Q ⟨G, ρ, P, S, hw, k⟩ => ⟨G, ρ, _, S, hw, fun v G1 H1 da S1 x1 r1 hw1 => by
    obtain ⟨i, rfl, p⟩ := asB_bool hw1
    cases r1
    refine ⟨i, rfl, ?_⟩
    cases i with
    | false => exact ⟨G1, ρ, _, S1, p, fun v G2 H2 d S2 x2 r p => k v G2 H2 d S2 (x1.trans x2) r p⟩
    | true => exact k _ G1 H1 _ S1 x1 (.bl true) p⟩
theorem w_and1 (ha : VT c a ia) : VW c (.BoolOp .And [a] pos) ia := fun X Gi Hi x C => pw_and1 (ha X Gi Hi x C)
theorem w_or1 (ha : VT c a ia) : VW c (.BoolOp .Or [a] pos) ia := fun X Gi Hi x C => pw_or1 (ha X Gi Hi x C)
theorem w_and (ha : VT c a ia) (hb : VW c (.BoolOp .And (b :: es) pos) ib) : VW c (.BoolOp .And (a :: b :: es) pos) (.and ia ib) := fun X Gi Hi x C =>
  PW.imp (pw_and (ha X Gi Hi x C) (hb X Gi Hi x C)) fun σ H Q ⟨G, ρ, P, S, hw, k⟩ => ⟨G, ρ, _, S, hw, fun i G1 H1 S1 x1 p => by
    cases i with
    | true => exact ⟨G1, ρ, _, S1, p, fun b G2 H2 S2 x2 p => k b G2 H2 S2 (x1.trans x2) p⟩
    | false => exact k false G1 H1 S1 x1 p⟩
theorem w_or (ha : VT c a ia) (hb : VW c (.BoolOp .Or (b :: es) pos) ib) : VW c (.BoolOp .Or (a :: b :: es) pos) (.or ia ib) := fun X Gi Hi x C =>
  PW.imp (pw_or (ha X Gi Hi x C) (hb X Gi Hi x C)) fun σ H Q ⟨G, ρ, P, S, hw, k⟩ => ⟨G, ρ, _, S, hw, fun i G1 H1 S1 x1 p => by
    cases i with
    | false => exact ⟨G1, ρ, _, S1, p, fun b G2 H2 S2 x2 p => k b G2 H2 S2 (x1.trans x2) p⟩
    | true => exact k true G1 H1 S1 x1 p⟩
theorem t_w (h : VW c a ia) : VT c a ia := fun X Gi Hi x C => (h X Gi Hi x C).pt
theorem e_ite (ht : VT c d id') (ha : VE c a ia) (hb : VE c b ib) : VE c (.IfExp d a b pos) (.ite id' ia ib) := fun X Gi Hi x C =>
  PE.imp (pe_ifExp (ht X Gi Hi x C) (ha X Gi Hi x C) (hb X Gi Hi x C)) fun σ H Q ⟨G, ρ, P, S, hw, k⟩ => ⟨G, ρ, _, S, hw, fun i G1 H1 S1 x1 p => by
    cases i with
    | true => exact ⟨G1, ρ, _, S1, p, fun v G2 H2 d S2 x2 r p => k v G2 H2 d S2 (x1.trans x2) r p⟩
    | false => exact ⟨G1, ρ, _, S1, p, fun v G2 H2 d S2 x2 r p => k v G2 H2 d S2 (x1.trans x2) r p⟩⟩

/-! ### displays -/
theorem e_tup {j : Nat} (h : VEs c n es irs) (hn : Nat.ble n 1000 = true := by rfl) : VE c (.Tuple es j pos) (.tup irs) := fun X Gi Hi x C =>
  PE.imp (pe_tup (h X Gi Hi x C)) fun σ H Q ⟨G, ρ, P, S, hw, k⟩ => ⟨G, ρ, _, S, hw, fun vs G1 H1 ds S1 x1 hl r1 p => by
    have hb : vs.length ≤ lim := by rw [hl]; exact Nat.le_trans (Nat.le_of_ble_eq_true hn) (by decide)
    exact ⟨lim_line hb, fun q hq => (kon_of k S1 x1 p).tup S1.gok r1 hb hq⟩⟩
theorem e_lst (h : VEs c n es irs) (hn : Nat.ble n 1000 = true := by rfl) : VE c (.List es pos) (.lst irs) := fun X Gi Hi x C =>
  PE.imp (pe_lst (h X Gi Hi x C)) fun σ H Q ⟨G, ρ, P, S, hw, k⟩ => ⟨G, ρ, _, S, hw, fun vs G1 H1 ds S1 x1 hl r1 p => by
    have hb : vs.length ≤ lim := by rw [hl]; exact Nat.le_trans (Nat.le_of_ble_eq_true hn) (by decide)
    exact ⟨lim_line hb, fun q hq => (kon_of k S1 x1 p).lst S1.gok r1 hb hq⟩⟩
theorem e_dis0 : VE c (.Dict [] [] pos) (.dis .nil .nil) := fun X Gi Hi x C =>
  PE.imp pe_dnewK fun σ H Q ⟨G, ρ, P, S, hw, k⟩ => fun q hq => by
    have x1 := Ext.new S.gok (o := .dK []) hq
    exact k _ _ _ (.dict []) (S.step x1 (S.gok.new hq)) x1 (Rp.dic (ds := []) (.k [] updG_same) (Nat.zero_le _) .nil) hw
theorem e_rev {j : Nat} (ha : VB c a ia) : VE c (.Subscript a (.Slice none none (some (.UnaryOp .USub (.Constant (.int 1) j p1) p2)) p3) pos) (.rev ia) := fun X Gi Hi x C =>
  PE.imp (pe_rev (ha X Gi Hi x C)) fun σ H Q ⟨G, ρ, P, S, hw, k⟩ => ⟨G, ρ, _, S, hw, fun v G1 H1 da S1 x1 r1 p => by
    obtain ⟨d, e, p⟩ := oP_some p
    cases da with
    | list ds =>
      cases e
      obtain ⟨a, xs, rfl, ha, la, qa⟩ := r1.list S1.gok
      exact ⟨a, xs, rfl, .inl ⟨.inl (.inl ha), fun q hq => (kon_of k S1 x1 p).lst S1.gok qa.rev (by rw [List.length_reverse]; exact la) hq⟩⟩
    | tuple ds =>
      cases e
      obtain ⟨a, xs, rfl, ha, la, qa⟩ := r1.tup S1.gok
      exact ⟨a, xs, rfl, .inr ⟨ha, fun q hq => (kon_of k S1 x1 p).tup S1.gok qa.rev (by rw [List.length_reverse]; exact la) hq⟩⟩
    | _ => cases e⟩
theorem e_sub (ha : VB c a ia) (hb : VE c b ib) (hs : PlainIx b) : VE c (.Subscript a b pos) (.sub ia ib) := fun X Gi Hi x C =>
  PE.imp (pe_ix (ix_ok (by have := C.un; omega)) (ha X Gi Hi x C) (hb X Gi Hi x C) hs) fun σ H Q ⟨G, ρ, P, S, hw, k⟩ => ⟨G, ρ, _, S, hw, fun v G1 H1 da S1 x1 r1 hw1 => ⟨G1, ρ, _, S1, hw1, fun u G2 H2 db S2 x2 r2 p2 => by
    obtain ⟨d, e, p⟩ := oP_some p2
    exact ⟨G2, da, db, d, S2.gok, r1.ext x2, .rp r2, e, kon_of k S2 (x1.trans x2) p⟩⟩⟩
end
end VL
/-! VI: what is fresh; slices, calls of built-ins, isinstance, methods; targets -/
namespace VL
open PySem PySem.Spec PyProof.Rows L2
section
variable {K : PySem.W.Frag} {w : World} {Gi G G' : Gh} {Hi H H' : Hp} {σ : L2.St} {ρ : En} {i : Nat} {a : Addr} {d : PyData} {v : V}
/-! ### states -/
theorem SlotR.mono_set {s : Slot} {o : Option (Option V)} (h : SlotR K w Hi G H o s) : SlotR K w Hi G H o s := h
theorem StR.set (S : StR K w Gi Hi G H σ ρ) (r : Rp K w G v d) : StR K w Gi Hi G H (σ.set i (some v)) (ρ.set i (.va d)) where
  gok := S.gok
  ext := S.ext
  len := by rw [List.length_set, List.length_set, S.len]
  sl := fun j s e => by
    by_cases hj : i = j
    · subst hj
      by_cases hl : i < ρ.length
      · rw [List.getElem?_set_self hl] at e
        cases e
        rw [List.getElem?_set_self (by rw [← S.len]; exact hl)]
        exact ⟨v, rfl, r⟩
      · rw [List.getElem?_eq_none (by rw [List.length_set]; omega)] at e; cases e
    · rw [List.getElem?_set_ne hj] at e ⊢
      exact S.sl j s e
  dis := fun j k a b d e hjk h1 h2 h3 h4 => by
    have n1 : i ≠ j := fun q => by
      subst q
      by_cases hl : i < ρ.length
      · rw [List.getElem?_set_self hl] at h1; cases h1
      · rw [List.getElem?_eq_none (by rw [List.length_set]; omega)] at h1; cases h1
    have n2 : i ≠ k := fun q => by
      subst q
      by_cases hl : i < ρ.length
      · rw [List.getElem?_set_self hl] at h3; cases h3
      · rw [List.getElem?_eq_none (by rw [List.length_set]; omega)] at h3; cases h3
    rw [List.getElem?_set_ne n1] at h1 h2
    rw [List.getElem?_set_ne n2] at h3 h4
    exact S.dis j k a b d e hjk h1 h2 h3 h4
theorem StR.un (S : StR K w Gi Hi G H σ ρ) (o : Option V) : StR K w Gi Hi G H (σ.set i o) (ρ.set i .un) where
  gok := S.gok
  ext := S.ext
  len := by rw [List.length_set, List.length_set, S.len]
  sl := fun j s e => by
    by_cases hj : i = j
    · subst hj
      by_cases hl : i < ρ.length
      · rw [List.getElem?_set_self hl] at e
        cases e
        exact True.intro
      · rw [List.getElem?_eq_none (by rw [List.length_set]; omega)] at e; cases e
    · rw [List.getElem?_set_ne hj] at e ⊢
      exact S.sl j s e
  dis := fun j k a b d e hjk h1 h2 h3 h4 => by
    have n1 : i ≠ j := fun q => by
      subst q
      by_cases hl : i < ρ.length
      · rw [List.getElem?_set_self hl] at h1; cases h1
      · rw [List.getElem?_eq_none (by rw [List.length_set]; omega)] at h1; cases h1
    have n2 : i ≠ k := fun q => by
      subst q
      by_cases hl : i < ρ.length
      · rw [List.getElem?_set_self hl] at h3; cases h3
      · rw [List.getElem?_eq_none (by rw [List.length_set]; omega)] at h3; cases h3
    rw [List.getElem?_set_ne n1] at h1 h2
    rw [List.getElem?_set_ne n2] at h3 h4
    exact S.dis j k a b d e hjk h1 h2 h3 h4
theorem StR.wipe (S : StR K w Gi Hi G H σ ρ) : ∀ vs : List Nat, StR K w Gi Hi G H (L2.wipe σ vs) (wipeE ρ vs)
  | [] => S
  | v :: vs => (StR.wipe S vs).un none
/-- an address that no slot holds as one's own -/
def NoAl (σ : L2.St) (ρ : En) (a : Addr) : Prop := ∀ (i : Nat) (d : PyData) (b : Addr), ρ[i]? = some (.ow d) → σ[i]? = some (some (.ref b)) → b ≠ a
theorem StR.noAl (S : StR K w Gi Hi G H σ ρ) (h : H a = none) : NoAl σ ρ a := fun i d b h1 h2 z => by
  obtain ⟨b', e, _, _, o⟩ := S.ow h1
  rw [h2] at e
  cases e
  exact o.there (z ▸ h)
/-- what is one's own is made to stand still -/
theorem StR.freeze (S : StR K w Gi Hi G H σ ρ) {o : HO} (h : H a = some o) (hi : Hi a = none) (hg : G a = none) (n : NoAl σ ρ a) : StR K w Gi Hi (updG G a (.fz o)) H σ ρ where
  gok := S.gok.frozen h hg
  ext := ⟨fun b u e => by
      have : b ≠ a := fun q => by rw [q] at e; have := S.ext.g a u e; rw [hg] at this; cases this
      rw [updG_ne this]; exact S.ext.g b u e,
    fun b u e q => by
      have : b ≠ a := fun z => q (z ▸ hi)
      rw [updG_ne this] at e; exact S.ext.n b u e q, S.ext.h, S.ext.t⟩
  len := S.len
  sl := fun i s e => by
    have q := S.sl i s e
    cases s with
    | un => trivial
    | va d =>
      obtain ⟨v, e, p⟩ := q
      refine ⟨v, e, p.mono fun b u z => ?_⟩
      have : b ≠ a := fun y => by rw [y, hg] at z; cases z
      rw [updG_ne this]; exact z
    | ow d =>
      obtain ⟨b, e2, h1, h2, p⟩ := q
      have : b ≠ a := n i d b e e2
      refine ⟨b, e2, h1, by rw [updG_ne this]; exact h2, p.mono (fun c u z => ?_) fun _ z => z⟩
      have : c ≠ a := fun y => by rw [y, hg] at z; cases z
      rw [updG_ne this]; exact z
    | rg =>
      obtain ⟨b, e2, h1⟩ := q
      refine ⟨b, e2, ?_⟩
      have : b ≠ a := fun y => by rw [y, hg] at h1; cases h1
      rw [updG_ne this]; exact h1
    | sc ns =>
      obtain ⟨b, e2, h1⟩ := q
      refine ⟨b, e2, h1.mono fun c u z => ?_⟩
      have : c ≠ a := fun y => by rw [y, hg] at z; cases z
      rw [updG_ne this]; exact z
  dis := S.dis
/-- an object that no slot holds and that is not known is changed -/
theorem StR.put (S : StR K w Gi Hi G H σ ρ) {o : HO} (hh : H a ≠ none) (hi : Hi a = none) (hg : G a = none) (n : NoAl σ ρ a) : StR K w Gi Hi G (upd H a o) σ ρ where
  gok := ⟨fun b u e => by
      have : b ≠ a := fun y => by rw [y, hg] at e; cases e
      rw [upd_ne this]; exact S.gok.fz b u e,
    fun b e => by
      have : b ≠ a := fun y => by rw [y, hg] at e; cases e
      obtain ⟨i, j, q, r⟩ := S.gok.rg b e
      exact ⟨i, j, by rw [upd_ne this]; exact q, r⟩⟩
  ext := ⟨S.ext.g, S.ext.n, fun b u e k => by
      have : b ≠ a := fun y => by rw [y, hi] at e; cases e
      rw [upd_ne this]; exact S.ext.h b u e k, fun b e => by
      unfold upd
      split
      · exact fun q => nomatch q
      · exact S.ext.t b e⟩
  len := S.len
  sl := fun i s e => by
    have q := S.sl i s e
    cases s with
    | un => trivial
    | va d => exact q
    | ow d =>
      obtain ⟨b, e2, h1, h2, p⟩ := q
      have hb : b ≠ a := n i d b e e2
      exact ⟨b, e2, h1, h2, p.mono (fun _ _ z => z) fun u z => by rw [upd_ne hb]; exact z⟩
    | rg => exact q
    | sc ns => exact q
  dis := S.dis
/-- a slot takes what is its own -/
theorem StR.setO (S : StR K w Gi Hi G H σ ρ) (hi : Hi a = none) (hg : G a = none) (o : Own K w G H a d) (n : NoAl (σ.set i none) (ρ.set i .un) a) : StR K w Gi Hi G H (σ.set i (some (.ref a))) (ρ.set i (.ow d)) where
  gok := S.gok
  ext := S.ext
  len := by rw [List.length_set, List.length_set, S.len]
  sl := fun j s e => by
    by_cases hj : i = j
    · subst hj
      by_cases hl : i < ρ.length
      · rw [List.getElem?_set_self hl] at e
        cases e
        rw [List.getElem?_set_self (by rw [← S.len]; exact hl)]
        exact ⟨a, rfl, hi, hg, o⟩
      · rw [List.getElem?_eq_none (by rw [List.length_set]; omega)] at e; cases e
    · rw [List.getElem?_set_ne hj] at e ⊢
      exact S.sl j s e
  dis := fun j k b b' d' e hjk h1 h2 h3 h4 => by
    have off : ∀ {j : Nat} {b : Addr} {d' : PyData}, i ≠ j → (ρ.set i (.ow d))[j]? = some (.ow d') → (σ.set i (some (.ref a)))[j]? = some (some (.ref b)) → ρ[j]? = some (.ow d') ∧ σ[j]? = some (some (.ref b)) ∧ b ≠ a := fun {j b d'} hj e1 e2 => by
      rw [List.getElem?_set_ne hj] at e1 e2
      exact ⟨e1, e2, n j d' b (by rw [List.getElem?_set_ne hj]; exact e1) (by rw [List.getElem?_set_ne hj]; exact e2)⟩
    have at' : ∀ {b : Addr}, (σ.set i (some (.ref a)))[i]? = some (some (.ref b)) → b = a := fun {b} e => by
      by_cases hl : i < σ.length
      · rw [List.getElem?_set_self hl] at e; cases e; rfl
      · rw [List.getElem?_eq_none (by rw [List.length_set]; omega)] at e; cases e
    by_cases hj : i = j
    · by_cases hk : i = k
      · exact absurd (hj.symm.trans hk) hjk
      · subst hj
        rw [at' h2]
        exact fun z => (off hk h3 h4).2.2 z.symm
    · by_cases hk : i = k
      · subst hk
        rw [at' h4]
        exact (off hj h1 h2).2.2
      · obtain ⟨q1, q2, _⟩ := off hj h1 h2
        obtain ⟨q3, q4, _⟩ := off hk h3 h4
        exact S.dis j k b b' d' e hjk q1 q2 q3 q4
theorem NoAl.set {o : Option V} {s : Slot} (n : NoAl σ ρ a) (hs : ∀ d, s ≠ .ow d) : NoAl (σ.set i o) (ρ.set i s) a := fun j d b h1 h2 => by
  have hj : i ≠ j := fun q => by
    subst q
    by_cases hl : i < ρ.length
    · rw [List.getElem?_set_self hl] at h1; cases h1; exact hs d rfl
    · rw [List.getElem?_eq_none (by rw [List.length_set]; omega)] at h1; cases h1
  rw [List.getElem?_set_ne hj] at h1 h2
  exact n j d b h1 h2
theorem NoAl.wipe (n : NoAl σ ρ a) : ∀ vs : List Nat, NoAl (L2.wipe σ vs) (wipeE ρ vs) a
  | [] => n
  | v :: vs => (NoAl.wipe n vs).set fun _ q => nomatch q
/-- the slot's own value is looked away from -/
theorem StR.noAlO (S : StR K w Gi Hi G H σ ρ) (h1 : ρ[i]? = some (.ow d)) (h2 : σ[i]? = some (some (.ref a))) : NoAl (σ.set i none) (ρ.set i .un) a := fun j d' b e1 e2 => by
  have hj : i ≠ j := fun q => by
    subst q
    by_cases hl : i < ρ.length
    · rw [List.getElem?_set_self hl] at e1; cases e1
    · rw [List.getElem?_eq_none (by rw [List.length_set]; omega)] at e1; cases e1
  rw [List.getElem?_set_ne hj] at e1 e2
  exact S.dis j i b a d' d (Ne.symm hj) e1 e2 h1 h2
/-- what one owns, as it stands still -/
theorem Own.fz (o : Own K w G H a d) (hg : G a = none) : ∃ u, H a = some u ∧ Rp K w (updG G a (.fz u)) (.ref a) d := by
  have m : ∀ u b z, G b = some z → updG G a (.fz u) b = some z := fun u b z e => by
    have : b ≠ a := fun y => by rw [y, hg] at e; cases e
    rw [updG_ne this]; exact e
  cases o with
  | lst h l r => exact ⟨_, h, .lst updG_same l (r.mono (m _))⟩
  | @dK kvs ds h l r =>
    refine ⟨_, h, ?_⟩
    have := Rp.dic (K := K) (w := w) (G := updG G a (.fz (.dK kvs))) (a := a) (es := kvs.map fun p => (keyD p.1, p.2)) (ds := ds) (.k kvs updG_same) (by rw [List.length_map]; exact l) (by rw [List.map_map]; exact r.mono (m _))
    rw [List.map_map] at this
    exact this
  | @dT kvs ds h l r =>
    refine ⟨_, h, ?_⟩
    have := Rp.dic (K := K) (w := w) (G := updG G a (.fz (.dT kvs))) (a := a) (es := kvs.map fun p => (PyData.tuple (p.1.map keyD), p.2)) (ds := ds) (.t kvs updG_same) (by rw [List.length_map]; exact l) (by rw [List.map_map]; exact r.mono (m _))
    rw [List.map_map] at this
    exact this
end
/-! ### what is fresh -/
def tVf (K : PySem.W.Frag) (w : World) (Gi : Gh) (Hi : Hp) (W : WE') : TE := fun σ H Q => ∃ G ρ P, StR K w Gi Hi G H σ ρ ∧ W ρ P ∧
  ∀ a G' H' d, StR K w Gi Hi G' H' σ ρ → Ext G H G' H' → H a = none → G' a = none → Own K w G' H' a d → P d → Q (.ref a) H'
def VF (c : VC) (e : Expr) (ir : Ex) : Prop := ∀ X Gi Hi x, CtxV c X Gi Hi x → PE X e (tVf X.K X.w Gi Hi (wpE ir x))
theorem Ext.frozen {G G1 : Gh} {H H1 : Hp} {a : Addr} {o : GO} (x : Ext G H G1 H1) (h : H a = none) (hg : G1 a = none) : Ext G H (updG G1 a o) H1 where
  g := fun b u e => by
    have e1 := x.g b u e
    have : b ≠ a := fun y => by rw [y, hg] at e1; cases e1
    rw [updG_ne this]; exact e1
  n := fun b u e q => by
    have : b ≠ a := fun y => q (y ▸ h)
    rw [updG_ne this] at e; exact x.n b u e q
  h := x.h
  t := x.t
theorem Ext.none {G G1 : Gh} {H H1 : Hp} {a : Addr} (x : Ext G H G1 H1) (h : H1 a = none) : H a = none := by
  cases q : H a with
  | none => rfl
  | some u => exact absurd h (x.t a (by rw [q]; exact fun z => nomatch z))
section
variable {c : VC} {e a b d : Expr} {es : List Expr} {ir ia ib id' : Ex} {irs lo hi : Exs} {pos p p1 p2 p3 p4 : Pos} {n m : Nat}
theorem e_f (h : VF c e ir) : VE c e ir := fun X Gi Hi x C => PE.imp (h X Gi Hi x C) fun σ H Q ⟨G, ρ, P, S, hw, k⟩ => ⟨G, ρ, P, S, hw, fun a G' H' d S' x' h0 hg o p => by
  obtain ⟨u, hu, r⟩ := o.fz hg
  have n : NoAl σ ρ a := S.noAl h0
  exact k (.ref a) _ H' d (S'.freeze hu (S.ext.none h0) hg n) (x'.frozen h0 hg) r p⟩
theorem f_lst (h : VEs c n es irs) (hn : Nat.ble n 1000 = true := by rfl) : VF c (.List es pos) (.lst irs) := fun X Gi Hi x C =>
  PE.imp (pe_lst (h X Gi Hi x C)) fun σ H Q ⟨G, ρ, P, S, hw, k⟩ => ⟨G, ρ, _, S, hw, fun vs G1 H1 ds S1 x1 hl r1 p => by
    have hb : vs.length ≤ lim := by rw [hl]; exact Nat.le_trans (Nat.le_of_ble_eq_true hn) (by decide)
    refine ⟨lim_line hb, fun q hq => ?_⟩
    have x2 : Ext G1 H1 G1 (upd H1 q (.lst vs)) := Ext.laid hq
    exact k q G1 _ (.list ds) (S1.step x2 (S1.gok.laid hq)) (x1.trans x2) (x1.none hq) (S1.gok.nil hq) (.lst upd_same hb r1) p⟩
theorem f_dis0 : VF c (.Dict [] [] pos) (.dis .nil .nil) := fun X Gi Hi x C =>
  PE.imp pe_dnewK fun σ H Q ⟨G, ρ, P, S, hw, k⟩ => fun q hq => by
    have x2 : Ext G H G (upd H q (.dK [])) := Ext.laid hq
    exact k q G _ (.dict []) (S.step x2 (S.gok.laid hq)) x2 hq (S.gok.nil hq) (.dK (kvs := []) (ds := []) upd_same (Nat.zero_le _) .nil) hw

/-! ### slices -/
def VO (c : VC) (o : Option Expr) (irs : Exs) : Prop := ∀ X Gi Hi x, CtxV c X Gi Hi x → PO X o fun σ H Q => ∃ (G : Gh) (ρ : En) (P : List PyData → Prop), StR X.K X.w Gi Hi G H σ ρ ∧ (wpEs irs x ρ fun l => oP (slI l) fun _ => P l) ∧
  ∀ l o G' H', StR X.K X.w Gi Hi G' H' σ ρ → Ext G H G' H' → slI l = some o → P l → Q o H'
theorem PO.imp {X : Cx} {e : Option Expr} {t t' : TO} (h : PO X e t) (k : ∀ σ H Q, t' σ H Q → t σ H Q) : PO X e t' := ⟨fun pins s σ H Q I q => h.run pins s σ H Q I (k σ H Q q)⟩
theorem o_no : VO c none .nil := fun X Gi Hi x C => PO.imp po_none fun σ H Q ⟨G, ρ, P, S, hw, k⟩ => k [] none G H S (Ext.refl G H) rfl hw
theorem slI_one {d : PyData} {P : Option Int → Prop} (h : oP (slI [d]) P) : ∃ i, d = .int i ∧ P (some i) := by
  cases d <;> first | exact ⟨_, rfl, h⟩ | exact h.elim
theorem o_so (h : VE c e ir) : VO c (some e) (.cons ir .nil) := fun X Gi Hi x C => PO.imp (po_some (h X Gi Hi x C)) fun σ H Q ⟨G, ρ, P, S, hw, k⟩ => ⟨G, ρ, _, S, hw, fun v G1 H1 d S1 x1 r1 p => by
  obtain ⟨i, rfl, p⟩ := slI_one p
  cases r1
  exact ⟨i, rfl, k _ _ G1 H1 S1 x1 rfl p⟩⟩
theorem e_slc {l u : Option Expr} (ha : VB c a ia) (hl : VO c l lo) (hu : VO c u hi) : VE c (.Subscript a (.Slice l u none p2) pos) (.slc ia lo hi) := fun X Gi Hi x C =>
  PE.imp (pe_slice sl_ok (ha X Gi Hi x C) (hl X Gi Hi x C) (hu X Gi Hi x C)) fun σ H Q ⟨G, ρ, P, S, hw, k⟩ => ⟨G, ρ, _, S, hw, fun v G1 H1 da S1 x1 r1 p1 => ⟨G1, ρ, _, S1, p1, fun l o G2 H2 S2 x2 e2 p2 => ⟨G2, ρ, _, S2, p2, fun l' o' G3 H3 S3 x3 e3 p3 => by
    obtain ⟨d, e, p⟩ := oP_some p3
    exact ⟨G3, da, l, l', d, S3.gok, (r1.ext x2).ext x3, e2, e3, e, kon_of k S3 ((x1.trans x2).trans x3) p⟩⟩⟩⟩

/-! ### calls of built-ins -/
theorem blt_boot (b : Blt) : bootBuiltins b.nm = some b.fn := by
  cases b <;> decide +kernel
theorem blt_plain (b : Blt) : b.nm ≠ "__name__" := by cases b <;> decide
/-- a name of the built-ins that the module leaves alone -/
def Fre (c : VC) (y : Str) : Prop := ∃ j : Nat, c.gl[j]? = some y ∧ c.M.mg y = none
theorem e_blt (bt : Blt) (hf : Fre c bt.nm) (hs : VBs c (e :: es) irs) (he : ∀ env : Env, starEach (e :: es) env = (false, eval e env) :: starEach es env := by intro _; rfl) (hpl : ∀ env : Env, (backTo pos (starEach es env)).any (·.1) = false := by intro _; rfl) :
    VE c (.Call (.Name bt.nm p) (e :: es) [] pos) (.blt bt irs) := fun X Gi Hi x C => by
  obtain ⟨j, hj, hm⟩ := hf
  obtain ⟨g1, g2⟩ := C.gl hj
  have hm' : X.mg bt.nm = none := by rw [C.mg]; exact hm
  have ok := blt_ok C.calm C.un C.guards bt
  have bb := blt_boot bt
  have key : PE X (.Call (.Name bt.nm p) (e :: es) [] pos) (tCB (rC X.K X.w bt.f) (tVbs X.K X.w Gi Hi (wpBs irs x))) := by
    cases hfn : bt.fn with
    | builtin id => rw [hfn] at ok bb; exact pe_callB ok g1 hm' bb (hs X Gi Hi x C) (blt_plain bt) g2 (he _) (hpl _)
    | type T => rw [hfn] at ok bb; exact pe_callTy ok g1 hm' bb (hs X Gi Hi x C) (blt_plain bt) g2 (he _) (hpl _)
    | _ => cases bt <;> cases hfn
  refine PE.imp key fun σ H Q ⟨G, ρ, P, S, hw, k⟩ => ⟨G, ρ, _, S, hw, fun vs G1 H1 ds S1 x1 r1 p => ?_⟩
  obtain ⟨d, e, p⟩ := oP_some p
  exact ⟨G1, ds, d, S1.gok, r1, e, kon_of k S1 x1 p⟩
/-! isinstance -/
theorem ty_boot (t : Ty) : bootBuiltins (Str.ofString t.nm) = some (.type t.nm) := by
  cases t <;> decide +kernel
theorem ty_plain (t : Ty) : (Str.ofString t.nm) ≠ "__name__" := by cases t <;> decide
theorem pe_ty {X : Cx} {Gi : Gh} {Hi : Hp} {x : Str → Prop} (C : CtxV c X Gi Hi x) (t : Ty) (hf : Fre c (Str.ofString t.nm)) : PE X (.Name (Str.ofString t.nm) p) (tC (.ty t.nm)) := by
  obtain ⟨j, hj, hm⟩ := hf
  obtain ⟨g1, g2⟩ := C.gl hj
  exact pe_bltn g1 (by rw [C.mg]; exact hm) (ty_boot t) rfl (ty_plain t) g2
theorem e_isi (t : Ty) (hf : Fre c "isinstance") (ht : Fre c (Str.ofString t.nm)) (ha : VB c a ia) (he : ∀ env : Env, starEach [a, .Name (Str.ofString t.nm) p1] env = (false, eval a env) :: starEach [.Name (Str.ofString t.nm) p1] env := by intro _; rfl) :
    VE c (.Call (.Name "isinstance" p) [a, .Name (Str.ofString t.nm) p1] [] pos) (.isi [t] ia) := fun X Gi Hi x C => by
  obtain ⟨j, hj, hm⟩ := hf
  obtain ⟨g1, g2⟩ := C.gl hj
  refine PE.imp (pe_callB call_isi g1 (by rw [C.mg]; exact hm) boot_isinstance (pa_cons (ha X Gi Hi x C) (pa_cons (pe_ty C t ht) pa_nil) (he _)) (by decide) g2 (he _)) fun σ H Q ⟨G, ρ, P, S, hw, k⟩ => ⟨G, ρ, _, S, hw, fun v G1 H1 da S1 x1 r1 p => ?_⟩
  have e1 := kits_ok X.K da [t]
  exact ⟨v, .ty t.nm, _, .type t.nm, t.is da, rfl, .ty _, r1.ty S1.gok, kit_ok X.K t da, k _ G1 H1 (.bool _) S1 x1 (.bl _) (by simpa [isD] using p)⟩
end
end VL
/-! VJ: calls of defs, what is walked, comprehensions -/
namespace VL
open PySem PySem.Spec PyProof.Rows L2
/-! ### a def's promise -/
/-- as FnOk, where no guard stands -/
structure FnG (M : Md) (k : Nat) (f : Addr) (fd : FuncData) (ps : List Str) (sp : Sp) : Prop where
  len : ∀ vs H Q E, sp vs H Q E → vs.length = ps.length
  run : ∀ (A : Around) (outer : List Env) (s : Shared) (H : Hp) (args : Args) (us : List Value) (vs : List V) (Q : VK) (E : XK), Room k A → A.guards = some [] → Env0 M.P M.w M.K M.mg M.base A outer s H →
    BindsTo s fd args (ps.zip us) → Vals vs us → sp vs H Q E → codeAny (model M.P M.w) A (.call (.ref f) args) (CR (L2.CX M.P M.w) outer M.P M.w H s Q E) s
/-- an answer -/
inductive ResR (K : PySem.W.Frag) (w : World) (H0 : Hp) (G : Gh) (H : Hp) : V → Av → Prop
  | da {v : V} {d : PyData} : Rp K w G v d → ResR K w H0 G H v (.da d)
  | ow {a : Addr} {d : PyData} : H0 a = none → G a = none → Own K w G H a d → ResR K w H0 G H (.ref a) (.ow d)
  | rg {a : Addr} : G a = some .rg → ResR K w H0 G H (.ref a) .rg
def spOf (M : Md) (sp : Spec) : Sp := fun vs H Q E => ∃ G as, GOk G H ∧ ArgsR M.K M.w G vs as ∧
  sp as (fun r => ∀ v G' H', GOk G' H' → Ext G H G' H' → ResR M.K M.w H G' H' v r → Q v H') fun nm => ∀ C G' H', M.mg nm = some (.ref C) → GOk G' H' → Ext G H G' H' → E (.ref C) none H'
def Callable (M : Md) (k : Nat) (f : Str) (sp : Spec) : Prop :=
  ∃ a fd ps, M.mg f = some (.ref a) ∧ PySem.W.keepIn M.K (.ref a) = true ∧ Binds M.K fd ps [] ∧ FnG M k a fd ps (spOf M sp)
theorem FnG.mono {M : Md} {j k : Nat} {f : Addr} {fd : FuncData} {ps : List Str} {sp : Sp} (F : FnG M j f fd ps sp) (h : j ≤ k) : FnG M k f fd ps sp :=
  ⟨F.len, fun A outer s H args us vs Q E hr => F.run A outer s H args us vs Q E (hr.mono h)⟩
theorem Callable.mono {M : Md} {j k : Nat} {f : Str} {sp : Spec} (F : Callable M j f sp) (h : Nat.ble j k = true) : Callable M k f sp := by
  obtain ⟨a, fd, ps, h1, h2, h3, h4⟩ := F
  exact ⟨a, fd, ps, h1, h2, h3, h4.mono (Nat.le_of_ble_eq_true h)⟩
theorem run_fnG {X : Cx} {k : Nat} {f : Addr} {fd : FuncData} {ps : List Str} {sp : Sp} {E : XK} {pins : List (Addr × Obj)} {σ : L2.St} {H : Hp} {s : Shared} {Q : VK} {us : List Value} {vs : List V}
    (F : FnG ⟨X.prog, X.w, X.K, X.mg, X.base⟩ k f fd ps sp) (hr : Room k X.A) (hg : X.A.guards = some []) (hb : Binds X.K fd ps []) (hx : Passes (L2.CX X.prog X.w) X E) (I : L2.Inv X pins σ H s) (r : Vals vs us) (h : sp vs H Q E) :
    wpAny (model X.prog X.w) X.A (call (.ref f) us) (EP X pins σ Q) X.xe s := by
  have hl : us.length = ps.length := by rw [← r.length]; exact F.len _ _ _ _ h
  have b := hb s us I.kIn (by rw [List.append_nil]; exact hl)
  rw [List.append_nil] at b
  refine wpAny_call (codeAny_mono (F.run X.A X.stack s H ⟨us, []⟩ us vs Q E hr hg I.env0 b r h) fun res s' hq => ?_)
  match res, hq with
  | .error e, hq => exact hx pins σ H s e s' I hq
  | .ok (.ret u), hq => exact I.after hq
section
variable {c : VC} {e a b d tg : Expr} {es : List Expr} {ir ia ib id' : Ex} {irs lo hi : Exs} {pos p p1 p2 p3 p4 : Pos} {n m : Nat}
/-- f(..): the answer as it comes -/
def tCal (M : Md) (Gi : Gh) (Hi : Hp) (x : Str → Prop) (sp : Spec) (W : En → (List Av → Prop) → Prop) : TE := fun σ H Q => ∃ G ρ P, StR M.K M.w Gi Hi G H σ ρ ∧ W ρ (fun vs => sp vs P x) ∧
  ∀ v G0 H0 G' H' r, Ext G H G0 H0 → StR M.K M.w Gi Hi G0 H0 σ ρ → StR M.K M.w Gi Hi G' H' σ ρ → Ext G0 H0 G' H' → ResR M.K M.w H0 G' H' v r → P r → Q v H'
/-- what a spec is: weaker ends do -/
def Mono (sp : Spec) : Prop := ∀ as R R' x x', sp as R x → (∀ r, R r → R' r) → (∀ n, x n → x' n) → sp as R' x'
theorem pe_cal {X : Cx} {Gi : Gh} {Hi : Hp} {x : Str → Prop} {f : Str} {sp : Spec} {j : Nat} (C : CtxV c X Gi Hi x) (mo : Mono sp) (F : Callable c.M c.k f sp) (hj : c.gl[j]? = some f) (ha : VAs c (e :: es) irs) (he : ∀ env : Env, starEach (e :: es) env = (false, eval e env) :: starEach es env)
    (hpl : ∀ env : Env, (backTo pos (starEach es env)).any (·.1) = false) : PE X (.Call (.Name f p) (e :: es) [] pos) (tCal c.M Gi Hi x sp (wpAs irs x)) := by
  obtain ⟨M, k, N, vis, loc, cel, gl, sc⟩ := c
  obtain rfl : M = ⟨X.prog, X.w, X.K, X.mg, X.base⟩ := C.m
  obtain ⟨a, fd, ps, h1, h2, h3, h4⟩ := F
  obtain ⟨g1, g2⟩ := C.gl hj
  refine ⟨fun pins s σ H Q I h => ?_⟩
  obtain ⟨G, ρ, P, S, hw, kk⟩ := h
  refine wpAny_Call_Name_kw (ld_glob I g1 h1 ?_ g2)
  refine PySem.W.callWith_K (h₀ := X.base) I.ok.mod.kin h2 (thn ((ha X Gi Hi x C).run pos pins s σ H (fun vs H1 => ∃ G1 as, StR X.K X.w Gi Hi G1 H1 σ ρ ∧ Ext G H G1 H1 ∧ ArgsR X.K X.w G1 vs as ∧ sp as P x) I
    ⟨G, ρ, _, S, hw, fun vs G1 H1 as S1 x1 r p => ⟨G1, as, S1, x1, r, p⟩⟩) fun us s1 ⟨vs, H1, I1, rv, q1⟩ => ⟨I1.kIn, ?_⟩) (he _) (hpl _)
  obtain ⟨G1, as, S1, x1, ra, hsp⟩ := q1
  refine run_fnG h4 C.room C.guards h3 C.pass I1 rv ⟨G1, as, S1.gok, ra, mo _ _ _ _ _ hsp (fun r pr v G' H' g' x' rr => ?_) fun nm xn C' G' H' hm g' x' => ?_⟩
  · exact kk v G1 H1 G' H' r x1 S1 (S1.step x' g') x' rr pr
  · exact ⟨nm, C', G', rfl, rfl, hm, xn, g', S1.ext.trans x'⟩
/-- .. without arguments -/
theorem pe_cal0 {X : Cx} {Gi : Gh} {Hi : Hp} {x : Str → Prop} {f : Str} {sp : Spec} {j : Nat} (C : CtxV c X Gi Hi x) (mo : Mono sp) (F : Callable c.M c.k f sp) (hj : c.gl[j]? = some f) : PE X (.Call (.Name f p) [] [] pos) (tCal c.M Gi Hi x sp (wpAs .nil x)) := by
  obtain ⟨M, k, N, vis, loc, cel, gl, sc⟩ := c
  obtain rfl : M = ⟨X.prog, X.w, X.K, X.mg, X.base⟩ := C.m
  obtain ⟨a, fd, ps, h1, h2, h3, h4⟩ := F
  obtain ⟨g1, g2⟩ := C.gl hj
  refine ⟨fun pins s σ H Q I h => ?_⟩
  obtain ⟨G, ρ, P, S, hw, kk⟩ := h
  refine wpAny_Call_Name_kw (ld_glob I g1 h1 ?_ g2)
  refine PySem.W.callWith_K0 I.kIn h2 ?_
  refine run_fnG (us := []) h4 C.room C.guards h3 C.pass I .nil ⟨G, [], S.gok, .nil, mo _ _ _ _ _ hw (fun r pr v G' H' g' x' rr => ?_) fun nm xn C' G' H' hm g' x' => ?_⟩
  · exact kk v G H G' H' r (Ext.refl G H) S (S.step x' g') x' rr pr
  · exact ⟨nm, C', G', rfl, rfl, hm, xn, g', S.ext.trans x'⟩
theorem e_cal {f : Str} {sp : Spec} (j : Nat) (mo : Mono sp) (F : Callable c.M c.k f sp) (hj : c.gl[j]? = some f) (ha : VAs c (e :: es) irs) (he : ∀ env : Env, starEach (e :: es) env = (false, eval e env) :: starEach es env := by intro _; rfl)
    (hpl : ∀ env : Env, (backTo pos (starEach es env)).any (·.1) = false := by intro _; rfl) : VE c (.Call (.Name f p) (e :: es) [] pos) (.cal f sp irs) := fun X Gi Hi x C => by
  refine PE.imp (pe_cal C mo F hj ha he hpl) fun σ H Q ⟨G, ρ, P, S, hw, k⟩ => ?_
  have em : c.M = ⟨X.prog, X.w, X.K, X.mg, X.base⟩ := C.m
  rw [em]
  refine ⟨G, ρ, _, S, hw, fun v G0 H0 G' H' r x0 S0 S' x' rr pr => ?_⟩
  cases rr with
  | da rr => exact k v G' H' _ S' (x0.trans x') rr pr
  | @ow a d h0 hg o =>
    obtain ⟨u, hu, r⟩ := o.fz hg
    exact k (.ref a) _ H' d (S'.freeze hu (S0.ext.none h0) hg (S0.noAl h0)) (x0.trans (x'.frozen h0 hg)) r pr
  | rg _ => exact pr.elim

/-! ### what is walked -/
/-- what is on top: b: all that stood stands; else what is known to stand still -/
def GX (G G' : Gh) : Prop := ∀ a o, G a = some o → G' a = some o
def XB (b : Bool) (G : Gh) (H : Hp) (G' : Gh) (H' : Hp) : Prop := match b with
  | true => Ext G H G' H'
  | false => GX G G'
theorem XB.g {b : Bool} {G G' : Gh} {H H' : Hp} (x : XB b G H G' H') : GX G G' := by
  cases b with
  | true => exact Ext.g x
  | false => exact x
/-- an iterator that yields the items, whatever comes on top -/
structure ItOk (K : PySem.W.Frag) (w : World) (b : Bool) (J : It) (G : Gh) (H : Hp) (items : List PyData) : Prop where
  len : items.length ≤ lim
  go : ∀ (i : Nat) (d : PyData) Gk Hk, items[i]? = some d → GOk Gk Hk → XB b G H Gk Hk → J.go i Hk ∧ ∀ v H', J.yld i Hk v H' → ∃ G', GOk G' H' ∧ Ext Gk Hk G' H' ∧ Rp K w G' v d ∧ ∀ a, Hk a ≠ none → H' a = Hk a ∧ G' a = Gk a
  stop : ∀ (i : Nat) Gk Hk, i = items.length → GOk Gk Hk → XB b G H Gk Hk → J.stop i Hk
def tI (K : PySem.W.Frag) (w : World) (Gi : Gh) (Hi : Hp) (b : Bool) (W : En → (List PyData → Prop) → Prop) : TI := fun σ H R => ∃ G ρ P, StR K w Gi Hi G H σ ρ ∧ W ρ P ∧
  ∀ J G' H' items, StR K w Gi Hi G' H' σ ρ → Ext G H G' H' → ItOk K w b J G' H' items → P items → R J H'
def VI' (c : VC) (tg e : Expr) (ir : VL.Itr) (b : Bool) : Prop := ∀ X Gi Hi x, CtxV c X Gi Hi x → PI X tg e (tI X.K X.w Gi Hi b (wpI ir b x))
theorem itl_ok {K : PySem.W.Frag} {w : World} {bb : Bool} {G : Gh} {H : Hp} {a : Addr} {xs : List V} {ds : List PyData} (hk : ∀ Gk Hk, GOk Gk Hk → XB bb G H Gk Hk → SqL K Hk a xs) (l : xs.length ≤ lim) (r : RpA K w G xs ds) : ItOk K w bb (Itl K a) G H ds where
  len := by rw [← r.length]; exact l
  go := fun i d Gk Hk e g x => by
    obtain ⟨v, h1, h2⟩ := r.get e
    refine ⟨⟨xs, v, hk Gk Hk g x, h1⟩, fun u H' y => ?_⟩
    obtain ⟨rfl, y⟩ := y
    have q := y xs (hk Gk _ g x)
    rw [h1] at q
    cases q
    exact ⟨Gk, g, Ext.refl _ _, h2.mono x.g, fun _ _ => ⟨rfl, rfl⟩⟩
  stop := fun i Gk Hk e g x => ⟨xs, hk Gk Hk g x, by rw [r.length]; exact Nat.le_of_eq e.symm⟩
theorem itt_ok {K : PySem.W.Frag} {w : World} {bb : Bool} {G : Gh} {H : Hp} {a : Addr} {xs : List V} {ds : List PyData} (hk : ∀ Gk Hk, GOk Gk Hk → XB bb G H Gk Hk → SqT K Hk a xs) (l : xs.length ≤ lim) (r : RpA K w G xs ds) : ItOk K w bb (Itt K a) G H ds where
  len := by rw [← r.length]; exact l
  go := fun i d Gk Hk e g x => by
    obtain ⟨v, h1, h2⟩ := r.get e
    refine ⟨⟨xs, v, hk Gk Hk g x, h1⟩, fun u H' y => ?_⟩
    obtain ⟨rfl, y⟩ := y
    have q := y xs (hk Gk _ g x)
    rw [h1] at q
    cases q
    exact ⟨Gk, g, Ext.refl _ _, h2.mono x.g, fun _ _ => ⟨rfl, rfl⟩⟩
  stop := fun i Gk Hk e g x => ⟨xs, hk Gk Hk g x, by rw [r.length]; exact Nat.le_of_eq e.symm⟩
/-- a list or a tuple, which of both is known when it has come -/
def iSeq (K : PySem.W.Frag) (tl : TE) : TI := fun σ H R => tl σ H fun x H1 => ∃ a, x = .ref a ∧ ((∃ xs, SqL K H1 a xs) ∧ R (Itl K a) H1 ∨ (∃ xs, SqT K H1 a xs) ∧ R (Itt K a) H1)
theorem pi_seq {X : Cx} {l : Expr} {tl : TE} (hl : PE X l tl) : PI X tg l (iSeq X.K tl) := by
  refine ⟨fun pins s σ H R I h => ?_⟩
  refine thn (hl.run pins s σ H _ I h) fun v s1 ⟨x, H1, I1, r1, q1⟩ => ?_
  obtain ⟨a, rfl, q⟩ := q1
  cases r1
  have fp : ∀ b ∈ [s1.heap.objs.size], FpOk X pins H1 b := fun b hb => by
    have e : b = s1.heap.objs.size := by simpa using hb
    subst e
    exact I1.fpOk (Nat.le_refl _) (I1.hok.fresh (Nat.le_refl _))
  rcases q with ⟨⟨xs, hq⟩, q⟩ | ⟨⟨xs, hq⟩, q⟩
  · obtain ⟨its, rv, p, hz⟩ := I1.list hq
    exact wpAny_pyIter_list p.isList ⟨s1.heap.objs.size, [s1.heap.objs.size], _, _, H1, rfl, I1.kept (t' := s1.toks) fun b o e => Heap.get?_push_of_some _ e, turn_list a _, ⟨_, Heap.get?_push_size _ rfl, rfl, rfl⟩, fp, q⟩
  · obtain ⟨its, rv, p, hz⟩ := I1.tuple hq
    exact wpAny_pyIter_tuple (show s1.heap.IsTuple a its.toArray from p) ⟨s1.heap.objs.size, [s1.heap.objs.size], _, _, H1, rfl, I1.kept (t' := s1.toks) fun b o e => Heap.get?_push_of_some _ e, turn_tuple a _, ⟨_, Heap.get?_push_size _ rfl, rfl, rfl⟩, fp, q⟩
theorem asL_is {d : PyData} {P : List PyData → Prop} (h : asL d P) : ∃ ds, (d = .list ds ∨ d = .tuple ds) ∧ P ds := by
  cases d <;> first | exact ⟨_, .inl rfl, h⟩ | exact ⟨_, .inr rfl, h⟩ | exact h.elim
theorem seq_end {K : PySem.W.Frag} {w : World} {bb : Bool} {Gi G G1 : Gh} {Hi H H1 : Hp} {σ : L2.St} {ρ : En} {v : V} {da : PyData} {R : It → Hp → Prop} {P : List PyData → Prop} (S1 : StR K w Gi Hi G1 H1 σ ρ) (x1 : Ext G H G1 H1) (rb : Rb K w G1 H1 v da) (hbb : bb = true ∨ Rp K w G1 v da) (h : asL da P)
    (k : ∀ J G' H' items, StR K w Gi Hi G' H' σ ρ → Ext G H G' H' → ItOk K w bb J G' H' items → P items → R J H') :
    ∃ a, v = .ref a ∧ ((∃ xs, SqL K H1 a xs) ∧ R (Itl K a) H1 ∨ (∃ xs, SqT K H1 a xs) ∧ R (Itt K a) H1) := by
  have fz : Rp K w G1 v da → ∃ a, v = .ref a ∧ ((∃ xs, SqL K H1 a xs) ∧ R (Itl K a) H1 ∨ (∃ xs, SqT K H1 a xs) ∧ R (Itt K a) H1) := fun r => by
    obtain ⟨ds, e | e, p⟩ := asL_is h
    · subst e
      cases r with
      | @lst a xs _ h l r => exact ⟨a, rfl, .inl ⟨⟨xs, .inl (.inl (S1.gok.fz _ _ h))⟩, k _ G1 H1 ds S1 x1 (itl_ok (fun Gk Hk g x => .inl (.inl (g.fz _ _ (x.g _ _ h)))) l r) p⟩⟩
    · subst e
      cases r with
      | @tup a xs _ h l r => exact ⟨a, rfl, .inr ⟨⟨xs, h.sq S1.gok⟩, k _ G1 H1 ds S1 x1 (itt_ok (fun Gk Hk g x => (h.mono x.g).sq g) l r) p⟩⟩
  rcases hbb with hbb | r
  · subst hbb
    cases rb with
    | rp r => exact fz r
    | @ow a _ hg o =>
      obtain ⟨ds, e | e, p⟩ := asL_is h
      · subst e
        cases o with
        | @lst xs _ h l r => exact ⟨a, rfl, .inl ⟨⟨xs, .inl (.inl h)⟩, k _ G1 H1 ds S1 x1 (itl_ok (fun Gk Hk g x => .inl (.inl (Ext.h x _ _ h (by rw [hg]; exact fun z => nomatch z)))) l r) p⟩⟩
      · subst e; cases o
    | kd q => cases q; exact h.elim
  · exact fz r
theorem i_seq (h : VE c e ir) : VI' c tg e (.seq ir) false := fun X Gi Hi x C => PI.imp (pi_seq (h X Gi Hi x C)) fun σ H R ⟨G, ρ, P, S, hw, k⟩ => ⟨G, ρ, _, S, hw, fun v G1 H1 da S1 x1 r1 hp => seq_end S1 x1 (.rp r1) (.inr r1) hp k⟩
theorem i_seqB (h : VB c e ir) : VI' c tg e (.seq ir) true := fun X Gi Hi x C => PI.imp (pi_seq (h X Gi Hi x C)) fun σ H R ⟨G, ρ, P, S, hw, k⟩ => ⟨G, ρ, _, S, hw, fun v G1 H1 da S1 x1 r1 hp => seq_end S1 x1 r1 (.inl rfl) hp k⟩
theorem rgL_len (lo : Int) (n : Nat) : (rgL lo n).length = n := by simp [rgL]
theorem itr_ok {K : PySem.W.Frag} {w : World} {bb : Bool} {G : Gh} {H : Hp} {lo : Int} {n : Nat} (l : n ≤ lim) : ItOk K w bb (L2.Itr lo n) G H (rgL lo n) where
  len := by rw [rgL_len]; exact l
  go := fun i d Gk Hk e g x => by
    have hi : i < n := by
      have := (List.getElem?_eq_some_iff.mp e).1
      rw [rgL_len] at this; exact this
    refine ⟨hi, fun u H' y => ?_⟩
    obtain ⟨rfl, rfl⟩ := y
    have e' : d = .int (lo + (i : Nat)) := by
      unfold rgL at e
      rw [List.getElem?_map, List.getElem?_range hi] at e
      exact (Option.some.inj e).symm
    subst e'
    exact ⟨Gk, g, Ext.refl _ _, .int _, fun _ _ => ⟨rfl, rfl⟩⟩
  stop := fun i Gk Hk e g x => by rw [rgL_len] at e; exact Nat.le_of_eq e.symm
theorem rgI_ok {i : Int} (h : rgI i = true) : -(2 ^ 62) ≤ i ∧ i < 2 ^ 62 := by
  unfold rgI at h
  simpa using h
theorem i_rg1 {bb : Bool} (hf : Fre c "range") (h : VE c a ia) (hs : ∀ env : Env, starEach [a] env = [(false, eval a env)] := by intro _; rfl) : VI' c tg (.Call (.Name "range" p) [a] [] pos) (.rg1 ia) bb := fun X Gi Hi x C => by
  obtain ⟨j, hj, hm⟩ := hf
  obtain ⟨g1, g2⟩ := C.gl hj
  refine PI.imp (pi_range1 g1 (by rw [C.mg]; exact hm) (pa_cons (h X Gi Hi x C) pa_nil (hs _)) (hs _)) fun σ H R ⟨G, ρ, P, S, hw, k⟩ => ⟨G, ρ, _, S, hw, fun v G1 H1 da S1 x1 r1 hp => ?_⟩
  obtain ⟨n, rfl, h1, h2, h3⟩ := asI_int (d := da) hp
  cases r1
  obtain ⟨h4, h5⟩ := rgI_ok h1
  exact ⟨n, rfl, h4, h5, k _ G1 H1 _ S1 x1 (itr_ok (lo := 0) (n := n.toNat) (by have := h2; omega)) h3⟩
theorem i_rg2 {bb : Bool} (hf : Fre c "range") (ha : VE c a ia) (hb : VE c b ib) (hs : ∀ env : Env, starEach [a, b] env = [(false, eval a env), (false, eval b env)] := by intro _; rfl) (hs2 : ∀ env : Env, starEach [b] env = [(false, eval b env)] := by intro _; rfl) :
    VI' c tg (.Call (.Name "range" p) [a, b] [] pos) (.rg2 ia ib) bb := fun X Gi Hi x C => by
  obtain ⟨j, hj, hm⟩ := hf
  obtain ⟨g1, g2⟩ := C.gl hj
  refine PI.imp (pi_range2 g1 (by rw [C.mg]; exact hm) (pa_cons (ha X Gi Hi x C) (pa_cons (hb X Gi Hi x C) pa_nil (hs2 _)) (by rw [hs, hs2])) (hs _) (hs2 _)) fun σ H R ⟨G, ρ, P, S, hw, k⟩ => ⟨G, ρ, _, S, hw, fun v G1 H1 da S1 x1 r1 hp =>
    ⟨G1, ρ, _, S1, hp, fun u G2 H2 db S2 x2 r2 hp => ?_⟩⟩
  obtain ⟨i, rfl, hp⟩ := asI_int (d := da) hp
  obtain ⟨n, rfl, h1, h1', h2, h3⟩ := asI_int (d := db) hp
  cases r1
  cases r2
  obtain ⟨h4, h5⟩ := rgI_ok h1
  obtain ⟨h6, h7⟩ := rgI_ok h1'
  exact ⟨i, n, rfl, ⟨h4, h5, h6, h7⟩, k _ G2 H2 _ S2 (x1.trans x2) (itr_ok (lo := i) (n := (n - i).toNat) (by have := h2; omega)) h3⟩
end
end VL
/-! VX: zip of any two of list and tuple, enumerate of either -/
namespace VL
open PySem PySem.Spec PyProof.Rows L2
/-- a tuple (true), a list (false) -/
def SqB (t : Bool) (K : PySem.W.Frag) (H : Hp) (a : Addr) (xs : List V) : Prop := match t with
  | true => SqT K H a xs
  | false => SqL K H a xs
def itO (t : Bool) (a : Addr) : Obj := match t with
  | true => { cls := .type "tuple_iterator", data := .fields #[.ref a, .int 0 0] }
  | false => { cls := .type "list_iterator", data := .fields #[.ref a, .int 0 0] }
def ItAt (t : Bool) (h : Heap) (it a : Addr) (i : Nat) : Prop := match t with
  | true => h.IsTupleIter it a i
  | false => h.IsListIter it a i
def SeqH (t : Bool) (h : Heap) (a : Addr) (its : Array Value) : Prop := match t with
  | true => h.IsTuple a its
  | false => h.IsList a its
theorem drawsB {P : Program} {w : World} {A : Around} (hh : A.handled = none) (t : Bool) (it l : Addr) (hne : l ≠ it) (its : Array Value) :
    Draws P w A it [it, l] its.size (fun i v => its[i]? = some v) (fun i h => ItAt t h it l i ∧ SeqH t h l its) := by
  cases t with
  | true => exact Draws.tuple hh it l hne its
  | false => exact Draws.list hh it l hne its
theorem beginsB (t : Bool) (l : Addr) (its : Array Value) : Begins (.ref l) (itO t l) fun h => SeqH t h l its := by
  cases t with
  | true => exact begins_tuple l its
  | false => exact begins_list l its
theorem ItAt.start {t : Bool} {h : Heap} {it a : Addr} (e : h.get? it = some (itO t a)) : ItAt t h it a 0 := by
  cases t with
  | true => exact ⟨_, e, rfl, rfl⟩
  | false => exact ⟨_, e, rfl, rfl⟩
theorem ItAt.obj {t : Bool} {h : Heap} {it a : Addr} {i : Nat} (q : ItAt t h it a i) : ∃ o, h.get? it = some o ∧ ∀ v, o.data ≠ .cell v := by
  cases t with
  | true =>
    obtain ⟨o, e, _, d⟩ := q
    exact ⟨o, e, fun v z => by rw [d] at z; cases z⟩
  | false =>
    obtain ⟨o, e, _, d⟩ := q
    exact ⟨o, e, fun v z => by rw [d] at z; cases z⟩
theorem ItAt.at' {t : Bool} {h h' : Heap} {it a : Addr} {i : Nat} (q : ItAt t h it a i) (k : ∀ o, h.get? it = some o → h'.get? it = some o) : ItAt t h' it a i := by
  cases t with
  | true => exact Heap.IsTupleIter.at q k
  | false => exact Heap.IsListIter.at q k
section
variable {X : Cx} {pins : List (Addr × Obj)} {σ : L2.St} {H : Hp} {s : Shared}
theorem seqB (I : L2.Inv X pins σ H s) {t : Bool} {a : Addr} {xs : List V} (h : SqB t X.K H a xs) : ∃ its : List Value, Vals xs its ∧ SeqH t s.heap a its.toArray := by
  cases t with
  | true =>
    obtain ⟨its, r, p, _⟩ := I.tuple h
    exact ⟨its, r, p⟩
  | false =>
    obtain ⟨its, r, p, _⟩ := I.list h
    exact ⟨its, r, p.isList⟩
theorem seqB_inj (I : L2.Inv X pins σ H s) {t : Bool} {a : Addr} {xs ys : List V} (h : SqB t X.K H a xs) (h' : SqB t X.K H a ys) : xs = ys := by
  cases t with
  | true => exact I.tuple_inj h h'
  | false => exact I.list_inj h h'
theorem SeqH.lt {t : Bool} {h : Heap} {a : Addr} {its : Array Value} (q : SeqH t h a its) : a < h.objs.size := by
  cases t with
  | true => obtain ⟨_, e, _⟩ := q; exact Heap.lt_size e
  | false => obtain ⟨_, e, _⟩ := q; exact Heap.lt_size e
end
/-! ### zip -/
def ItzB (t u : Bool) (K : PySem.W.Frag) (a b : Addr) : It where
  go := fun i H => ∃ (xs ys : List V) (x y : V), SqB t K H a xs ∧ SqB u K H b ys ∧ xs[i]? = some x ∧ ys[i]? = some y
  yld := fun i H v H' => ∃ T x y, v = .ref T ∧ H T = none ∧ H' = upd H T (.tup [x, y]) ∧ (∀ xs, SqB t K H a xs → xs[i]? = some x) ∧ ∀ ys, SqB u K H b ys → ys[i]? = some y
  stop := fun i H => ∃ xs ys : List V, SqB t K H a xs ∧ SqB u K H b ys ∧ i = min xs.length ys.length
def ZSt (t u : Bool) (z TI TO i1 i2 a b : Addr) (i : Nat) (h : Heap) : Prop := IsZip h z TI TO .none ∧ IsTupOf2 h TI (.ref i1) (.ref i2) ∧ (∃ x y, IsTupOf2 h TO x y) ∧ ItAt t h i1 a i ∧ ItAt u h i2 b i
theorem or5 {c z TI TO i1 i2 : Addr} (h : c ∈ [z, TI, TO, i1, i2]) : c = z ∨ c = TI ∨ c = TO ∨ c = i1 ∨ c = i2 := by simpa using h
theorem turn_zipB {P : Program} {w : World} {K : PySem.W.Frag} {t u : Bool} {elts : List Expr} {kk : Nat} {tpos : Pos} {a b z TI TO i1 i2 : Addr} (S : ZipSep2 z TI TO i1 i2 [i1, a] [i2, b]) (na : a ≠ i1) (nb : b ≠ i2) :
    Turn P w K (.Tuple elts kk tpos) (ItzB t u K a b) [z, TI, TO, i1, i2] z (ZSt t u z TI TO i1 i2 a b) where
  mem := List.mem_cons_self
  obj := fun i h q c hc => by
    obtain ⟨hz, hI, ⟨x, y, hO⟩, h1, h2⟩ := q
    rcases or5 hc with e | e | e | e | e
    · rw [e]; exact ⟨_, hz, fun _ => nofun⟩
    · rw [e]; exact ⟨_, hI, fun _ => nofun⟩
    · rw [e]; exact ⟨_, hO, fun _ => nofun⟩
    · rw [e]; exact h1.obj
    · rw [e]; exact h2.obj
  keep := fun i h h' q k => by
    obtain ⟨hz, hI, ⟨x, y, hO⟩, h1, h2⟩ := q
    exact ⟨k z (by simp) _ hz, k TI (by simp) _ hI, ⟨x, y, k TO (by simp) _ hO⟩, h1.at' (k i1 (by simp)), h2.at' (k i2 (by simp))⟩
  item := by
    rintro X rfl rfl rfl hc i pins s σ H E I hf ⟨hz, hI, ⟨p, q, hO⟩, h1, h2⟩ ⟨xs, ys, x, y, sa, sb, ex, ey⟩
    obtain ⟨its, r1, g1⟩ := seqB I sa
    obtain ⟨jts, r2, g2⟩ := seqB I sb
    obtain ⟨v1, e1, ru⟩ := r1.get ex
    obtain ⟨v2, e2, rv⟩ := r2.get ey
    have l1 : i < its.toArray.size := by rw [List.size_toArray]; exact (List.getElem?_eq_some_iff.mp e1).1
    have l2 : i < jts.toArray.size := by rw [List.size_toArray]; exact (List.getElem?_eq_some_iff.mp e2).1
    have zl : z < s.heap.objs.size := Heap.lt_size hz
    have D1 := drawsB (P := X.prog) (w := X.w) (A := X.A.in1) (I.ok.hd hc) t i1 a na its.toArray
    have D2 := drawsB (P := X.prog) (w := X.w) (A := X.A.in1) (I.ok.hd hc) u i2 b nb jts.toArray
    refine wpAny_pyNext_zipD2_item S D1 D2 hz hI hO ⟨h1, g1⟩ ⟨h2, g2⟩ l1 l2 fun x1 x2 g tk p1 p2 z1 o1 n1 n2 hT hs hk => ?_
    obtain rfl : v1 = x1 := by simpa [e1] using p1
    obtain rfl : v2 = x2 := by simpa [e2] using p2
    refine ⟨_, rfl, wpAny_letOwnedTupleGo_zip (s := { s with heap := g, toks := tk }) z1 fun g' z2 sm => ?_⟩
    have hT' : g'.get? s.heap.objs.size = some { cls := .type "tuple", data := .seq #[v1, v2] } := (sm.2 _ (Nat.ne_of_gt zl)).trans hT
    have lt : ∀ c ∈ [z, TI, TO, i1, i2], c < s.heap.objs.size := fun c hcm => by
      rcases or5 hcm with e | e | e | e | e
      · rw [e]; exact zl
      · rw [e]; exact Heap.lt_size hI
      · rw [e]; exact Heap.lt_size hO
      · obtain ⟨o, eo, _⟩ := h1.obj
        rw [e]; exact Heap.lt_size eo
      · obtain ⟨o, eo, _⟩ := h2.obj
        rw [e]; exact Heap.lt_size eo
    have new : ObjOk X.prog X.w (upd H s.heap.objs.size (.tup [x, y])) g' s.heap.objs.size (.tup [x, y]) := by
      refine ⟨?_, [v1, v2], .cons ru (.cons rv .nil), ⟨_, hT', rfl, _, rfl⟩⟩
      show 2 ≤ sizeLine
      decide
    have off : ∀ c o, c ∉ [z, TI, TO, i1, i2] → s.heap.get? c = some o → g'.get? c = some o := fun c o hn eo => by
      have nz : c ≠ z := fun k => hn (by simp [k])
      exact (sm.2 c nz).trans (hk c o nz (fun k => hn (by simp [k])) (fun k => hn (by simp [k])) (fun k => hn (by simp [k])) eo)
    have J : L2.Inv X pins σ (upd H s.heap.objs.size (.tup [x, y])) { s with heap := g', toks := tk } := I.turnedNew (t' := tk) off hf (Nat.le_refl _) new
    have hn : H s.heap.objs.size = none := I.hok.fresh (Nat.le_refl _)
    refine ⟨.ref s.heap.objs.size, _, J, rfl, ⟨_, x, y, rfl, hn, rfl, fun l q => ?_, fun l q => ?_⟩, ⟨z2, ?_, ⟨v1, v2, ?_⟩, ?_, ?_⟩, fun c hcm => ?_⟩
    · rw [seqB_inj I q sa]; exact ex
    · rw [seqB_inj I q sb]; exact ey
    · exact (sm.2 _ S.TIz).trans (hk _ _ S.TIz S.TITO S.TIi1 S.TIi2 hI)
    · exact (sm.2 _ S.TOz).trans o1
    · exact n1.1.at' fun o eo => (sm.2 _ S.zi1.symm).trans eo
    · exact n2.1.at' fun o eo => (sm.2 _ S.zi2.symm).trans eo
    · rw [upd_ne (Nat.ne_of_lt (lt c hcm))]
      exact (hf c hcm).1
  done := by
    rintro X rfl rfl rfl hc i pins s σ H E I hf ⟨hz, hI, ⟨p, q, hO⟩, h1, h2⟩ ⟨xs, ys, sa, sb, he⟩
    obtain ⟨its, r1, g1⟩ := seqB I sa
    obtain ⟨jts, r2, g2⟩ := seqB I sb
    have k1 := r1.length
    have k2 := r2.length
    have D1 := drawsB (P := X.prog) (w := X.w) (A := X.A.in1) (I.ok.hd hc) t i1 a na its.toArray
    have D2 := drawsB (P := X.prog) (w := X.w) (A := X.A.in1) (I.ok.hd hc) u i2 b nb jts.toArray
    refine wpAny_pyNext_zipD2_end S D1 D2 hz hI hO ⟨h1, g1⟩ ⟨h2, g2⟩ (by rw [List.size_toArray]; omega) (by rw [List.size_toArray]; omega) (by rw [List.size_toArray, List.size_toArray]; omega) fun g tk hk => ⟨rfl, I.turnedL (t' := tk) (ch := [z, TI, TO, i1, i2]) (fun c o hn eo => ?_) hf⟩
    exact hk c o (fun k => hn (by simp [k])) (fun k => hn (by simp [k])) (fun k => hn (by simp [k])) (fun k => hn (by simp [k])) eo
  self := fun A i s Q E q h => wpAny_pyIter_zip q.1 h
def SqE (K : PySem.W.Frag) (H : Hp) (a : Addr) (t : Bool) : Prop := ∃ xs, SqB t K H a xs
def iZipB (K : PySem.W.Frag) (ta : TA) : TI := fun σ H R => ta σ H fun vs H1 => ∃ a b t u, vs = [.ref a, .ref b] ∧ SqE K H1 a t ∧ SqE K H1 b u ∧ R (ItzB t u K a b) H1
theorem pi_zipB {X : Cx} {e e2 : Expr} {ta : TA} {p pos tpos : Pos} {elts : List Expr} {kk : Nat} (hg : Gl X "zip") (hm : X.mg "zip" = none) (ha : PA X [e, e2] ta)
    (hs : starEach [e, e2] X.env = (false, eval e X.env) :: starEach [e2] X.env) (hpl : (backTo pos (starEach [e2] X.env)).any (·.1) = false) : PI X (.Tuple elts kk tpos) (.Call (.Name "zip" p) [e, e2] [] pos) (iZipB X.K ta) := by
  refine ⟨fun pins s σ H R I h => Call_ (ld_blt I hg hm PyProof.Rows.boot_zip (PyProof.Rows.callWith_type1 (thn (ha.run pos pins s σ H _ I h) ?_) hs hpl))⟩
  rintro us s1 ⟨vs, H1, J, rs, a, b, t, u, rfl, ⟨xs, sa⟩, ⟨ys, sb⟩, hR⟩
  cases rs with
  | cons ra rs => cases rs with
    | cons rb rs =>
      cases rs; cases ra; cases rb
      obtain ⟨its, r1, g1⟩ := seqB J sa
      obtain ⟨jts, r2, g2⟩ := seqB J sb
      have la := g1.lt
      have lb := g2.lt
      refine zip_begins2 (beginsB t a its.toArray) (beginsB u b jts.toArray) g1 g2 fun g hz hI hO e1 e2 hsz hk => wpAny_pyIter_zip hz ?_
      have J2 : L2.Inv X pins σ H1 { s1 with heap := g } := J.kept (t' := s1.toks) hk
      have sep : ZipSep2 (s1.heap.objs.size + 4) (s1.heap.objs.size + 2) (s1.heap.objs.size + 3) s1.heap.objs.size (s1.heap.objs.size + 1) [s1.heap.objs.size, a] [s1.heap.objs.size + 1, b] :=
        zip_sep2 (fun c hc => by rw [List.mem_singleton.mp hc]; exact la) (fun c hc => by rw [List.mem_singleton.mp hc]; exact lb)
      refine ⟨_, _, _, _, H1, rfl, J2, turn_zipB sep (Nat.ne_of_lt la) (Nat.ne_of_lt (Nat.lt_succ_of_lt lb)), ⟨hz, hI, ⟨_, _, hO⟩, .start e1, .start e2⟩, fun c hc => ?_, hR⟩
      have le : s1.heap.objs.size ≤ c := by
        rcases or5 hc with e | e | e | e | e
        · rw [e]; exact Nat.le_add_right _ _
        · rw [e]; exact Nat.le_add_right _ _
        · rw [e]; exact Nat.le_add_right _ _
        · rw [e]; exact Nat.le_refl _
        · rw [e]; exact Nat.le_add_right _ _
      exact J.fpOk le (J.hok.fresh le)
/-! ### enumerate -/
def IteB (t : Bool) (K : PySem.W.Frag) (a : Addr) : It where
  go := fun i H => ∃ (xs : List V) (x : V), SqB t K H a xs ∧ xs[i]? = some x
  yld := fun i H v H' => ∃ T x, v = .ref T ∧ H T = none ∧ H' = upd H T (.tup [.int (i : Nat), x]) ∧ ∀ xs, SqB t K H a xs → xs[i]? = some x
  stop := fun i H => ∃ xs : List V, SqB t K H a xs ∧ i = xs.length
def ESt (t : Bool) (e it a : Addr) (i : Nat) (h : Heap) : Prop := (∃ old, IsEnum h e it ((i : Nat) : Int) old) ∧ ItAt t h it a i
theorem turn_enumB {P : Program} {w : World} {K : PySem.W.Frag} {t : Bool} {elts : List Expr} {kk : Nat} {tpos : Pos} {a e it : Addr} (ne : e ≠ it) (ea : e ≠ a) (na : a ≠ it) :
    Turn P w K (.Tuple elts kk tpos) (IteB t K a) [e, it] e (ESt t e it a) where
  mem := List.mem_cons_self
  obj := fun i h q c hc => by
    obtain ⟨⟨old, he⟩, h1⟩ := q
    rcases (by simpa using hc : c = e ∨ c = it) with k | k
    · rw [k]; exact ⟨_, he, fun _ => nofun⟩
    · rw [k]; exact h1.obj
  keep := fun i h h' q k => by
    obtain ⟨⟨old, he⟩, h1⟩ := q
    exact ⟨⟨old, k e (by simp) _ he⟩, h1.at' (k it (by simp))⟩
  item := by
    rintro X rfl rfl rfl hc i pins s σ H E I hf ⟨⟨old, he⟩, h1⟩ ⟨xs, x, sa, ex⟩
    obtain ⟨its, r1, g1⟩ := seqB I sa
    obtain ⟨v1, e1, ru⟩ := r1.get ex
    have l1 : i < its.toArray.size := by rw [List.size_toArray]; exact (List.getElem?_eq_some_iff.mp e1).1
    have el : e < s.heap.objs.size := Heap.lt_size he
    have il : it < s.heap.objs.size := by
      obtain ⟨o, eo, _⟩ := h1.obj
      exact Heap.lt_size eo
    have D1 := drawsB (P := X.prog) (w := X.w) (A := X.A.in1) (I.ok.hd hc) t it a na its.toArray
    refine wpAny_pyNext_enum_itemC D1 he ⟨h1, g1⟩ l1 ne (by simp [ne, ea]) fun x1 g tk p1 ho n1 hT hs hk => ?_
    obtain rfl : v1 = x1 := by simpa [e1] using p1
    refine ⟨_, rfl, wpAny_letOwnedTupleGo_enum (s := { s with heap := g, toks := tk + 1 }) ho fun g' he' sm => ?_⟩
    have hT' : g'.get? s.heap.objs.size = some { cls := .type "tuple", data := .seq #[.int i tk, v1] } := (sm.2 _ (Nat.ne_of_gt el)).trans hT
    have new : ObjOk X.prog X.w (upd H s.heap.objs.size (.tup [.int (i : Nat), x])) g' s.heap.objs.size (.tup [.int (i : Nat), x]) := by
      refine ⟨?_, [.int i tk, v1], .cons ⟨_, rfl⟩ (.cons ru .nil), ⟨_, hT', rfl, _, rfl⟩⟩
      show 2 ≤ sizeLine
      decide
    have J : L2.Inv X pins σ (upd H s.heap.objs.size (.tup [.int (i : Nat), x])) { s with heap := g', toks := tk + 1 } := I.turnedNew (t' := tk + 1) (ch := [e, it]) (fun c o hn eo => by
      have n1 : c ≠ e := fun k => hn (by simp [k])
      exact (sm.2 c n1).trans (hk c o n1 (fun k => hn (by simp [k])) eo)) hf (Nat.le_refl _) new
    have hn : H s.heap.objs.size = none := I.hok.fresh (Nat.le_refl _)
    refine ⟨.ref s.heap.objs.size, _, J, rfl, ⟨_, x, rfl, hn, rfl, fun l q => ?_⟩, ⟨⟨v1, ?_⟩, n1.1.at' fun o eo => (sm.2 _ ne.symm).trans eo⟩, fun c hcm => ?_⟩
    · rw [seqB_inj I q sa]; exact ex
    · have e2 : ((i + 1 : Nat) : Int) = (i : Int) + 1 := by omega
      rw [e2]; exact he'
    · have hl : c < s.heap.objs.size := by
        rcases (by simpa using hcm : c = e ∨ c = it) with k | k
        · rw [k]; exact el
        · rw [k]; exact il
      rw [upd_ne (Nat.ne_of_lt hl)]
      exact (hf c hcm).1
  done := by
    rintro X rfl rfl rfl hc i pins s σ H E I hf ⟨⟨old, he⟩, h1⟩ ⟨xs, sa, ex⟩
    obtain ⟨its, r1, g1⟩ := seqB I sa
    have k1 := r1.length
    have D1 := drawsB (P := X.prog) (w := X.w) (A := X.A.in1) (I.ok.hd hc) t it a na its.toArray
    have e2 : its.toArray.size = i := by rw [List.size_toArray]; omega
    exact wpAny_pyNext_enum_endD D1 he (by rw [e2]; exact ⟨h1, g1⟩) fun g eb => ⟨rfl, I.turnedL (t' := s.toks) (ch := [e, it]) (fun c o hn eo => eb c o (fun k => hn (by simp [k])) eo) hf⟩
  self := fun A i s Q E q h => let ⟨⟨_, he⟩, _⟩ := q; wpAny_pyIter_enum he h
set_option maxHeartbeats 1000000 in
theorem meets_enum1 {v : Value} {o : Obj} {H : Heap → Prop} (B : Begins v o H) :
    Meets (Builtin.«enumerate.__new__» ⟨[.type "enumerate", v], []⟩) (fun _ R s => H s.heap ∧
      R (.ok (.ret (.ref (s.heap.push o).objs.size))) { s with heap := (s.heap.push o).push { cls := .type "enumerate", data := .fields #[.none, .bool false, .ref s.heap.objs.size, rawInt 0, .none, .none] } }) :=
  Meets.of_wp fun P w A R s hyp => by
    obtain ⟨hp, gs, dr, tk, os⟩ := s
    obtain ⟨g1, fin⟩ := hyp
    have sub := sub_enumerate
    have begin1 : ∀ {A' : Around} {E : Value → Shared → Prop} {Q : Value → Shared → Prop}, Q (.ref hp.objs.size) ⟨hp.push o, gs, dr, tk, os⟩ → wpAny (model P w) A' (pyIter v) Q E ⟨hp, gs, dr, tk, os⟩ :=
      fun q => B.iter P w _ _ ⟨hp, gs, dr, tk, os⟩ _ g1 q
    wp_walk using begin1
    refine wpAny_stack_any fun st => wpAny_pure ?_
    split
    · rename_i c _ _ _ _ _
      cases (c == Value.type "enumerate") <;> (wp_walk using begin1; exact ⟨_, rfl, fin⟩)
    · wp_walk using begin1
      exact ⟨_, rfl, fin⟩
theorem enum_begins1 {P : Program} {w : World} {A : Around} {E : Value → Shared → Prop} {s : Shared} {v : Value} {o : Obj} {H : Heap → Prop} {Q : Value → Shared → Prop} (B : Begins v o H) (h1 : H s.heap)
    (fin : ∀ g, IsEnum g (s.heap.objs.size + 1) s.heap.objs.size 0 .none → g.get? s.heap.objs.size = some o → (∀ c u, s.heap.get? c = some u → g.get? c = some u) → Q (.ref (s.heap.objs.size + 1)) { s with heap := g }) :
    wpAny (model P w) A (call (.type "enumerate") [v]) Q E s := by
  refine callType_new F.called_enumerate (by decide) (F.typeCall_enumerate_1 _) (F.newCall_enumerate_1 _) (fun ob => F.args_object_init_2 ob _) F.entry_enumerate_new (meets_enum1 B) ⟨h1, ?_⟩
  have sz : (s.heap.push o).objs.size = s.heap.objs.size + 1 := Heap.size_push ..
  have at2 : ((s.heap.push o).push { cls := .type "enumerate", data := .fields #[.none, .bool false, .ref s.heap.objs.size, rawInt 0, .none, .none] }).get? (s.heap.push o).objs.size = some _ := Heap.get?_push_size _ rfl
  rw [sz] at at2
  show _ ∧ _
  rw [sz]
  exact ⟨⟨_, at2, rfl⟩, fin _ at2 (Heap.get?_push_of_some _ (Heap.get?_push_size _ B.free)) fun c u eu => Heap.get?_push_of_some _ (Heap.get?_push_of_some _ eu)⟩
def iEnumB (K : PySem.W.Frag) (ta : TA) : TI := fun σ H R => ta σ H fun vs H1 => ∃ a t, vs = [.ref a] ∧ SqE K H1 a t ∧ R (IteB t K a) H1
theorem pi_enumB {X : Cx} {e : Expr} {ta : TA} {p pos tpos : Pos} {elts : List Expr} {kk : Nat} (hg : Gl X "enumerate") (hm : X.mg "enumerate" = none) (ha : PA X [e] ta) (hs : starEach [e] X.env = [(false, eval e X.env)]) :
    PI X (.Tuple elts kk tpos) (.Call (.Name "enumerate" p) [e] [] pos) (iEnumB X.K ta) := by
  refine ⟨fun pins s σ H R I h => Call_ (ld_blt I hg hm boot_enumerate (PyProof.Rows.callWith_type1 (thn (ha.run pos pins s σ H _ I h) ?_) hs rfl))⟩
  rintro us s1 ⟨vs, H1, J, rs, a, t, rfl, ⟨xs, sa⟩, hR⟩
  cases rs with
  | cons ra rs =>
    cases rs; cases ra
    obtain ⟨its, r1, g1⟩ := seqB J sa
    have la := g1.lt
    refine enum_begins1 (beginsB t a its.toArray) g1 fun g he e1 hk => wpAny_pyIter_enum he ?_
    have J2 : L2.Inv X pins σ H1 { s1 with heap := g } := J.kept (t' := s1.toks) hk
    refine ⟨_, _, _, _, H1, rfl, J2, turn_enumB (Nat.succ_ne_self _) (Nat.ne_of_gt (Nat.lt_succ_of_lt la)) (Nat.ne_of_lt la), ⟨⟨.none, he⟩, .start e1⟩, fun c hc => ?_, hR⟩
    have le : s1.heap.objs.size ≤ c := by
      rcases (by simpa using hc : c = s1.heap.objs.size + 1 ∨ c = s1.heap.objs.size) with k | k
      · rw [k]; exact Nat.le_succ _
      · rw [k]; exact Nat.le_refl _
    exact J.fpOk le (J.hok.fresh le)
end VL
/-! VK: zip, enumerate; targets; comprehensions -/
namespace VL
open PySem PySem.Spec PyProof.Rows L2
section
variable {K : PySem.W.Frag} {w : World} {Gi G G1 G' : Gh} {Hi H H1 H' : Hp} {σ : L2.St} {ρ : En} {a : Addr}
/-- a new tuple is yielded -/
theorem new_tup {T : Addr} {vs : List V} {ds : List PyData} (g : GOk G H) (hT : H T = none) (l : vs.length ≤ lim) (r : RpA K w G vs ds) :
    ∃ G', GOk G' (upd H T (.tup vs)) ∧ Ext G H G' (upd H T (.tup vs)) ∧ Rp K w G' (.ref T) (.tuple ds) ∧ ∀ a, H a ≠ none → upd H T (.tup vs) a = H a ∧ G' a = G a :=
  ⟨_, g.new hT, Ext.new g hT, .tup (.inl updG_same) l (r.mono (Ext.new g hT).g), fun a ha => ⟨upd_ne fun q => ha (q ▸ hT), updG_ne fun q => ha (q ▸ hT)⟩⟩
theorem zpL_get : ∀ {xs ys : List PyData} {i : Nat} {d : PyData}, (zpL xs ys)[i]? = some d → ∃ x y, xs[i]? = some x ∧ ys[i]? = some y ∧ d = .tuple [x, y]
  | [], _, i, d, e => by simp [zpL] at e
  | _ :: _, [], i, d, e => by simp [zpL] at e
  | x :: xs, y :: ys, 0, d, e => by simp [zpL] at e; exact ⟨x, y, rfl, rfl, e.symm⟩
  | x :: xs, y :: ys, i + 1, d, e => by
    simp only [zpL, List.getElem?_cons_succ] at e ⊢
    exact zpL_get e
theorem zpL_len : ∀ xs ys : List PyData, (zpL xs ys).length = min xs.length ys.length
  | [], _ => by simp [zpL]
  | _ :: _, [] => by simp [zpL]
  | x :: xs, y :: ys => by simp only [zpL, List.length_cons, zpL_len xs ys]; omega
theorem itzB_ok {bb t u : Bool} {a b : Addr} {xs ys : List V} {ds es : List PyData} (ha : ∀ Gk Hk, GOk Gk Hk → XB bb G H Gk Hk → SqB t K Hk a xs) (hb : ∀ Gk Hk, GOk Gk Hk → XB bb G H Gk Hk → SqB u K Hk b ys) (l : xs.length ≤ lim) (r : RpA K w G xs ds) (r' : RpA K w G ys es) : ItOk K w bb (ItzB t u K a b) G H (zpL ds es) where
  len := by rw [zpL_len, ← r.length]; omega
  go := fun i d Gk Hk e g x => by
    obtain ⟨d1, d2, h1, h2, rfl⟩ := zpL_get e
    obtain ⟨v, e1, r1⟩ := r.get h1
    obtain ⟨u, e2, r2⟩ := r'.get h2
    refine ⟨⟨xs, ys, v, u, ha Gk Hk g x, hb Gk Hk g x, e1, e2⟩, fun z H' y => ?_⟩
    obtain ⟨T, v', u', rfl, hT, rfl, y1, y2⟩ := y
    have q1 := y1 xs (ha Gk Hk g x)
    rw [e1] at q1
    cases q1
    have q2 := y2 ys (hb Gk Hk g x)
    rw [e2] at q2
    cases q2
    exact new_tup g hT (by decide : 2 ≤ lim) (.cons (r1.mono x.g) (.cons (r2.mono x.g) .nil))
  stop := fun i Gk Hk e g x => ⟨xs, ys, ha Gk Hk g x, hb Gk Hk g x, by rw [zpL_len, ← r.length, ← r'.length] at e; exact e⟩
theorem enL_get : ∀ {ds : List PyData} {k i : Nat} {d : PyData}, (enL k ds)[i]? = some d → ∃ x, ds[i]? = some x ∧ d = .tuple [.int ((k + i : Nat) : Int), x]
  | [], k, i, d, e => by simp [enL] at e
  | x :: ds, k, 0, d, e => by simp [enL] at e; exact ⟨x, rfl, by rw [← e]; rfl⟩
  | x :: ds, k, i + 1, d, e => by
    simp only [enL, List.getElem?_cons_succ] at e ⊢
    obtain ⟨y, h1, h2⟩ := enL_get e
    exact ⟨y, h1, by rw [h2]; have : k + 1 + i = k + (i + 1) := by omega
                     rw [this]⟩
theorem enL_len : ∀ (ds : List PyData) (k : Nat), (enL k ds).length = ds.length
  | [], _ => rfl
  | _ :: ds, k => by simp [enL, enL_len ds]
theorem iteB_ok {bb t : Bool} {a : Addr} {xs : List V} {ds : List PyData} (ha : ∀ Gk Hk, GOk Gk Hk → XB bb G H Gk Hk → SqB t K Hk a xs) (l : xs.length ≤ lim) (r : RpA K w G xs ds) : ItOk K w bb (IteB t K a) G H (enL 0 ds) where
  len := by rw [enL_len, ← r.length]; exact l
  go := fun i d Gk Hk e g x => by
    obtain ⟨d1, h1, rfl⟩ := enL_get e
    obtain ⟨v, e1, r1⟩ := r.get h1
    refine ⟨⟨xs, v, ha Gk Hk g x, e1⟩, fun z H' y => ?_⟩
    obtain ⟨T, v', rfl, hT, rfl, y1⟩ := y
    have q1 := y1 xs (ha Gk Hk g x)
    rw [e1] at q1
    cases q1
    rw [Nat.zero_add]
    exact new_tup g hT (by decide : 2 ≤ lim) (.cons (.int _) (.cons (r1.mono x.g) .nil))
  stop := fun i Gk Hk e g x => ⟨xs, ha Gk Hk g x, by rw [enL_len, ← r.length] at e; exact e⟩
/-- data that are walked stand at an address -/
theorem asL_at {v : V} {d : PyData} {P : List PyData → Prop} (g : GOk G H) (r : Rp K w G v d) (h : asL d P) : ∃ a t xs ds, v = .ref a ∧ xs.length ≤ lim ∧ RpA K w G xs ds ∧ P ds ∧ ∀ Gk Hk, GOk Gk Hk → GX G Gk → SqB t K Hk a xs := by
  cases r with
  | @lst a xs ds h1 l q => exact ⟨a, false, xs, ds, rfl, l, q, h, fun Gk Hk g' x => .inl (.inl (g'.fz _ _ (x _ _ h1)))⟩
  | @tup a xs ds h1 l q => exact ⟨a, true, xs, ds, rfl, l, q, h, fun Gk Hk g' x => (h1.mono x).sq g'⟩
  | _ => exact h.elim
end
section
variable {c : VC} {e a b d tg : Expr} {es : List Expr} {ir ia ib id' : Ex} {irs lo hi : Exs} {pos p p1 p2 p3 p4 : Pos} {n m : Nat}
theorem i_zip {bb : Bool} {j2 : Nat} {pt : Pos} (hf : Fre c "zip") (ha : VE c a ia) (hb : VE c b ib) (hs : ∀ env : Env, starEach [a, b] env = (false, eval a env) :: starEach [b] env := by intro _; rfl) (hs2 : ∀ env : Env, starEach [b] env = (false, eval b env) :: starEach [] env := by intro _; rfl)
    (hpl : ∀ env : Env, (backTo pos (starEach [b] env)).any (·.1) = false := by intro _; rfl) : VI' c (.Tuple es j2 pt) (.Call (.Name "zip" p) [a, b] [] pos) (.zip ia ib) bb := fun X Gi Hi x C => by
  obtain ⟨j, hj, hm⟩ := hf
  obtain ⟨g1, g2⟩ := C.gl hj
  refine PI.imp (pi_zipB g1 (by rw [C.mg]; exact hm) (pa_cons (ha X Gi Hi x C) (pa_cons (hb X Gi Hi x C) pa_nil (hs2 _)) (hs _)) (hs _) (hpl _)) fun σ H R ⟨G, ρ, P, S, hw, k⟩ => ⟨G, ρ, _, S, hw, fun v G1 H1 da S1 x1 r1 hp =>
    ⟨G1, ρ, _, S1, hp, fun u G2 H2 db S2 x2 r2 hp => ?_⟩⟩
  obtain ⟨a, t, xs, ds, rfl, l1, q1, hp, s1⟩ := asL_at S1.gok r1 hp
  obtain ⟨b, t', ys, es, rfl, l2, q2, hp, s2⟩ := asL_at S2.gok r2 hp
  refine ⟨a, b, t, t', rfl, ⟨xs, s1 G2 H2 S2.gok x2.g⟩, ⟨ys, s2 G2 H2 S2.gok fun _ _ z => z⟩, k _ G2 H2 _ S2 (x1.trans x2) (itzB_ok (fun Gk Hk g x => s1 Gk Hk g fun a o z => x.g a o (x2.g a o z)) (fun Gk Hk g x => s2 Gk Hk g x.g) l1 (q1.mono x2.g) q2) hp⟩
theorem i_enm {bb : Bool} {j2 : Nat} {pt : Pos} (hf : Fre c "enumerate") (ha : VE c a ia) (hs : ∀ env : Env, starEach [a] env = [(false, eval a env)] := by intro _; rfl) (hs2 : ∀ env : Env, starEach [a] env = (false, eval a env) :: starEach [] env := by intro _; rfl) :
    VI' c (.Tuple es j2 pt) (.Call (.Name "enumerate" p) [a] [] pos) (.enm ia) bb := fun X Gi Hi x C => by
  obtain ⟨j, hj, hm⟩ := hf
  obtain ⟨g1, g2⟩ := C.gl hj
  refine PI.imp (pi_enumB g1 (by rw [C.mg]; exact hm) (pa_cons (ha X Gi Hi x C) pa_nil (hs2 _)) (hs _)) fun σ H R ⟨G, ρ, P, S, hw, k⟩ => ⟨G, ρ, _, S, hw, fun v G1 H1 da S1 x1 r1 hp => ?_⟩
  obtain ⟨a, t, xs, ds, rfl, l1, q1, hp, s1⟩ := asL_at S1.gok r1 hp
  exact ⟨a, t, rfl, ⟨xs, s1 G1 H1 S1.gok fun _ _ z => z⟩, k _ G1 H1 _ S1 x1 (iteB_ok (fun Gk Hk g x => s1 Gk Hk g x.g) l1 q1) hp⟩

/-! ### targets -/
mutual
def tgN : Tg → List Nat
  | .nm i => [i]
  | .tp ts => tgNs ts
def tgNs : Tgs → List Nat
  | .nil => []
  | .cons t ts => tgN t ++ tgNs ts
end
def tgL : Tgs → Nat
  | .nil => 0
  | .cons _ ts => tgL ts + 1
mutual
theorem bnd_ex : ∀ (t : Tg) (d : PyData) (ρ : En) (P : En → Prop), bnd t d ρ P → ∃ ρ', P ρ'
  | .nm i, d, ρ, P, h => ⟨_, h⟩
  | .tp ts, d, ρ, P, h => by
    cases d <;> first | exact bnds_ex ts _ ρ P h | exact h.elim
theorem bnds_ex : ∀ (t : Tgs) (d : List PyData) (ρ : En) (P : En → Prop), bnds t d ρ P → ∃ ρ', P ρ'
  | .nil, [], ρ, P, h => ⟨_, h⟩
  | .nil, _ :: _, ρ, P, h => h.elim
  | .cons t ts, [], ρ, P, h => h.elim
  | .cons t ts, d :: ds, ρ, P, h => by
    obtain ⟨ρ', h'⟩ := bnd_ex t d ρ _ h
    exact bnds_ex ts ds ρ' P h'
end
theorem bnds_len : ∀ (t : Tgs) (d : List PyData) (ρ : En) (P : En → Prop), bnds t d ρ P → d.length = tgL t
  | .nil, [], ρ, P, h => rfl
  | .nil, _ :: _, ρ, P, h => h.elim
  | .cons t ts, [], ρ, P, h => h.elim
  | .cons t ts, d :: ds, ρ, P, h => by
    obtain ⟨ρ', h'⟩ := bnd_ex t d ρ _ h
    rw [List.length_cons, bnds_len ts ds ρ' P h']; rfl
/-- what a target leaves as it was -/
structure Off (ns : List Nat) (σ : L2.St) (ρ : En) (σ' : L2.St) (ρ' : En) : Prop where
  l : σ'.length = σ.length
  off : ∀ j, j ∉ ns → σ'[j]? = σ[j]?
  al : ∀ a, NoAl σ ρ a → NoAl σ' ρ' a
theorem Off.trans {ns ms : List Nat} {σ σ1 σ2 : L2.St} {ρ ρ1 ρ2 : En} (x : Off ns σ ρ σ1 ρ1) (y : Off ms σ1 ρ1 σ2 ρ2) : Off (ns ++ ms) σ ρ σ2 ρ2 :=
  ⟨y.l.trans x.l, fun j h => (y.off j fun q => h (List.mem_append_right _ q)).trans (x.off j fun q => h (List.mem_append_left _ q)), fun a n => y.al a (x.al a n)⟩
theorem wipe_get {σ : L2.St} {j : Nat} : ∀ {vs : List Nat}, j ∉ vs → (L2.wipe σ vs)[j]? = σ[j]?
  | [], _ => rfl
  | v :: vs, h => by
    show ((L2.wipe σ vs).set v none)[j]? = _
    rw [List.getElem?_set_ne (fun q => h (by rw [q]; exact List.mem_cons_self))]
    exact wipe_get fun q => h (List.mem_cons_of_mem _ q)
theorem wipe_in {σ : L2.St} {j : Nat} (hl : j < σ.length) : ∀ {vs : List Nat}, j ∈ vs → (L2.wipe σ vs)[j]? = some none
  | [], h => nomatch h
  | v :: vs, h => by
    show ((L2.wipe σ vs).set v none)[j]? = _
    by_cases e : v = j
    · subst e
      rw [List.getElem?_set_self (by rw [wipe_length]; exact hl)]
    · rw [List.getElem?_set_ne e]
      exact wipe_in hl ((List.mem_cons.mp h).resolve_left (Ne.symm e))
theorem Off.wipe {ns vs : List Nat} {σ σ' : L2.St} {ρ ρ' : En} (o : Off ns (L2.wipe σ vs) ρ σ' ρ') (h : ∀ j ∈ ns, j ∈ vs) : L2.wipe σ' vs = L2.wipe σ vs := by
  have hl : σ'.length = σ.length := by rw [o.l, wipe_length]
  refine List.ext_getElem? fun j => ?_
  by_cases hj : j ∈ vs
  · by_cases hlt : j < σ.length
    · rw [wipe_in (by rw [hl]; exact hlt) hj, wipe_in hlt hj]
    · rw [List.getElem?_eq_none (by rw [wipe_length]; omega), List.getElem?_eq_none (by rw [wipe_length]; omega)]
  · rw [wipe_get hj, o.off j fun q => hj (h j q)]
def tG (K : PySem.W.Frag) (w : World) (Gi : Gh) (Hi : Hp) (ir : Tg) : TG := fun v σ H Q => ∃ G ρ d P, StR K w Gi Hi G H σ ρ ∧ Rp K w G v d ∧ bnd ir d ρ P ∧ ∀ σ' ρ', StR K w Gi Hi G H σ' ρ' → Off (tgN ir) σ ρ σ' ρ' → P ρ' → Q σ' H
def tGs (K : PySem.W.Frag) (w : World) (Gi : Gh) (Hi : Hp) (ir : Tgs) : TGs := fun vs σ H Q => ∃ G ρ ds P, StR K w Gi Hi G H σ ρ ∧ RpA K w G vs ds ∧ bnds ir ds ρ P ∧ ∀ σ' ρ', StR K w Gi Hi G H σ' ρ' → Off (tgNs ir) σ ρ σ' ρ' → P ρ' → Q σ' H
def VG' (c : VC) (e : Expr) (ir : Tg) : Prop := ∀ X Gi Hi x, CtxV c X Gi Hi x → PG X e (tG X.K X.w Gi Hi ir)
def VGs (c : VC) (es : List Expr) (ir : Tgs) : Prop := ∀ X Gi Hi x, CtxV c X Gi Hi x → PGs X es (tGs X.K X.w Gi Hi ir)
theorem PGs.imp {X : Cx} {e : List Expr} {t t' : TGs} (h : PGs X e t) (k : ∀ v σ H Q, t' v σ H Q → t v σ H Q) : PGs X e t' := ⟨fun pins s σ H v u Q I r q => h.run pins s σ H v u Q I r (k v σ H Q q)⟩
theorem off_set {K : PySem.W.Frag} {w : World} {Gi G : Gh} {Hi H : Hp} {σ : L2.St} {ρ : En} {i : Nat} {v : V} {d : PyData} (S : StR K w Gi Hi G H σ ρ) : Off [i] σ ρ (σ.set i (some v)) (ρ.set i (.va d)) :=
  ⟨by rw [List.length_set], fun j h => by rw [List.getElem?_set_ne (fun q => h (by simp [q]))], fun a n => n.set fun _ q => nomatch q⟩
theorem g_nm {i : Nat} {y : Str} (hi : c.N[i]? = some y) (hl : c.loc.contains i = true) : VG' c (.Name y p) (.nm i) := fun X Gi Hi x C => by
  have h1 := C.loc hl hi
  exact PG.imp (pg_name C.nod (C.ni hi) (.inl h1) (.inr h1)) fun v σ H Q ⟨G, ρ, d, P, S, r, hb, k⟩ => k _ _ (S.set r) (off_set S) hb
/-- .. a name that lambdas see -/
theorem g_cl {i : Nat} {y : Str} (hi : c.N[i]? = some y) (hl : c.cel.contains i = true) : VG' c (.Name y p) (.nm i) := fun X Gi Hi x C => by
  obtain ⟨h1, h2⟩ := C.cel hl hi
  exact PG.imp (pg_name C.nod (C.ni hi) (.inr h1) (.inl h2)) fun v σ H Q ⟨G, ρ, d, P, S, r, hb, k⟩ => k _ _ (S.set r) (off_set S) hb
theorem gs_nil : VGs c [] .nil := fun X Gi Hi x C => PGs.imp pgs_nil fun v σ H Q ⟨G, ρ, ds, P, S, r, hb, k⟩ => by
  cases r with
  | nil => exact ⟨rfl, k σ ρ S ⟨rfl, fun _ _ => rfl, fun _ n => n⟩ hb⟩
  | cons _ _ => exact hb.elim
theorem gs_cons {t : Tg} {ts : Tgs} (h1 : VG' c e t) (h2 : VGs c es ts) (hs : ∀ env : Env, (assignEach (e :: es) env).map (·.2) = assign e env :: (assignEach es env).map (·.2) := by intro _; rfl) : VGs c (e :: es) (.cons t ts) := fun X Gi Hi x C =>
  PGs.imp (pgs_cons (h1 X Gi Hi x C) (h2 X Gi Hi x C) (hs _)) fun v σ H Q ⟨G, ρ, ds, P, S, r, hb, k⟩ => by
    cases r with
    | nil => exact hb.elim
    | @cons v vs d ds r rr => exact ⟨v, vs, rfl, G, ρ, d, _, S, r, hb, fun σ1 ρ1 S1 o1 p1 => ⟨G, ρ1, ds, _, S1, rr, p1, fun σ2 ρ2 S2 o2 p2 => k σ2 ρ2 S2 (o1.trans o2) p2⟩⟩
theorem g_tup {ts : Tgs} {j : Nat} (h : VGs c es ts) (hn : ∀ env : Env, (assignEach es env).length = tgL ts := by intro _; rfl) (hst : ∀ env : Env, (assignEach es env).findIdx? (·.1) = none := by intro _; rfl) : VG' c (.Tuple es j p) (.tp ts) := fun X Gi Hi x C =>
  PG.imp (pg_tup C.calm (h X Gi Hi x C) (hn _) (hst _)) fun v σ H Q ⟨G, ρ, d, P, S, r, hb, k⟩ => by
    cases d with
    | tuple ds =>
      cases r with
      | @tup a xs _ h l q => exact ⟨a, xs, rfl, h.sq S.gok, by rw [q.length]; exact bnds_len ts ds ρ P hb, G, ρ, ds, P, S, q, hb, k⟩
    | _ => exact hb.elim

/-! ### comprehensions -/
def blkV (c : VC) (scope : Scope) (vis loc : List Nat) (gl : List Str) : VC := ⟨c.M, c.k, c.N, vis, loc, [], gl, relS scope c.sc⟩
def blkB (N : List Str) (sc scope : Scope) (own : List (Str × Nat)) : Bool :=
  (scope.kind == .function) && (scope.names.all fun y => scope.names.lookup y.1 == some y.2) && (own.all fun p => N[p.2]? == some p.1) &&
  (scope.names.all fun y => !(y.2 == .free) || (sc.names.lookup y.1 == some .cell || sc.names.lookup y.1 == some .free)) &&
  scope.names.all fun y => !(y.2 == .local || y.2 == .cell) || ((own.map (·.1)).contains y.1 || !(N.contains y.1))
theorem blk_ok {N : List Str} {sc scope : Scope} {own : List (Str × Nat)} (h : blkB N sc scope own = true) : BlkOk N sc scope own := by
  unfold blkB at h
  simp only [Bool.and_eq_true, List.all_eq_true, Bool.or_eq_true, Bool.not_eq_true', beq_iff_eq] at h
  obtain ⟨⟨⟨⟨h1, h2⟩, h3⟩, h4⟩, h5⟩ := h
  refine ⟨h1, h2, h3, fun y hy e => ?_, fun y hy e => ?_⟩
  · rcases h4 y hy with q | q
    · rw [e] at q; simp at q
    · exact q
  · rcases h5 y hy with q | q
    · rcases e with e | e <;> (rw [e] at q; simp at q)
    · rcases q with q | q
      · exact .inl (by simpa using q)
      · exact .inr (by simpa using q)
theorem CtxV.blk {X : Cx} {Gi : Gh} {Hi : Hp} {x : Str → Prop} {scope : Scope} {vis loc : List Nat} {gl : List Str} (C : CtxV c X Gi Hi x) (ok : (blkV c scope vis loc gl).ok = true) (s : Shared) (H : Hp) (Ca : Addr) (cl : List (Str × Addr)) (fp : List Addr) :
    CtxV (blkV c scope vis loc gl) (X.blk s H scope (compEnvC scope cl Ca X.env) fp) Gi Hi noX where
  m := C.m
  N := C.N
  nd := C.nd
  ok := ok
  sc := by show relS scope X.env.scope = relS scope c.sc; rw [C.sc]
  calm := C.calm
  room := C.room
  guards := C.guards
  fn := fun i h => nomatch h
  pass := fun _ _ _ _ _ _ _ h => by
    obtain ⟨_, _, _, _, _, _, _, _, _, _, _, _, _, _, _, _, _, _, z, _⟩ := h
    exact z.elim
  own := PassesOwn.never
  tk := fun _ _ h => by
    obtain ⟨_, _, _, _, _, _, _, _, _, _, _, _, _, _, _, _, z⟩ := h
    obtain ⟨_, _, _, _, _, _, z, _⟩ := z
    exact z.elim
/-- a comprehension's tests -/
def tCn (K : PySem.W.Frag) (w : World) (Gi : Gh) (Hi : Hp) (cn : Exs) : TT := fun σ H Q => ∃ (G : Gh) (ρ : En) (P : Bool → Prop), StR K w Gi Hi G H σ ρ ∧ wpC cn ρ P ∧ ∀ b G' H', StR K w Gi Hi G' H' σ ρ → Ext G H G' H' → P b → Q b H'
def VCs (c : VC) (ifs : List Expr) (cn : Exs) : Prop := ∀ X Gi Hi, CtxV c X Gi Hi noX → PTs X ifs (tCn X.K X.w Gi Hi cn)
theorem PTs.imp {X : Cx} {e : List Expr} {t t' : TT} (h : PTs X e t) (k : ∀ σ H Q, t' σ H Q → t σ H Q) : PTs X e t' := ⟨fun pins s σ H Q I q => h.run pins s σ H Q I (k σ H Q q)⟩
theorem c_no : VCs c [] .nil := fun X Gi Hi C => PTs.imp pts_nil fun σ H Q ⟨G, ρ, P, S, hw, k⟩ => k true G H S (Ext.refl G H) hw
theorem c_so (h : VT c e ir) : VCs c [e] (.cons ir .nil) := fun X Gi Hi C => PTs.imp (pts_one (h X Gi Hi noX C)) fun σ H Q ⟨G, ρ, P, S, hw, k⟩ => ⟨G, ρ, P, S, hw, k⟩
theorem Ext.upd {G G1 : Gh} {H H1 : Hp} {a : Addr} {o : HO} (x : Ext G H G1 H1) (h : H a = Option.none) : Ext G H G1 (upd H1 a o) where
  g := x.g
  n := x.n
  h := fun b u e k => by
    have : b ≠ a := fun y => by rw [y, h] at e; cases e
    rw [upd_ne this]; exact x.h b u e k
  t := fun b e => by
    unfold L2.upd
    split
    · exact fun q => nomatch q
    · exact x.t b e
theorem drop_at {α : Type} {l : List α} {i : Nat} (h : i < l.length) : l.drop i = l[i] :: l.drop (i + 1) := List.drop_eq_getElem_cons h
theorem lcm_core {X : Cx} {Gi : Gh} {Hi : Hp} {x : Str → Prop} {el : Ex} {tI' : Tg} {it : VL.Itr} {cn : Exs} {own : List Nat} (hsub : ((tgN tI').all fun i => own.contains i) = true) (σ : L2.St) (H : Hp) (Q : VK)
    (h : tVf X.K X.w Gi Hi (wpE (.lcm el tI' it cn own) x) σ H Q) : tLc (tI X.K X.w Gi Hi true (wpI it true x)) (tG X.K X.w Gi Hi tI') (tCn X.K X.w Gi Hi cn) (tV X.K X.w Gi Hi (wpE el noX)) own σ H Q := by
  obtain ⟨G, ρ, P, S, hw, k⟩ := h
  refine ⟨G, ρ, _, S, hw, fun J G1 H1 items S1 x1 io hp => fun D hD => ?_⟩
  have hD0 : H D = none := x1.none hD
  have hDi : Hi D = none := S.ext.none hD0
  have al : NoAl σ ρ D := S.noAl hD0
  let f : PyData → (Option PyData → Prop) → Prop := fun d K => bnd tI' d (wipeE ρ own) fun ρ' => wpC cn ρ' fun c => ite' c (wpE el noX ρ' fun r => K (some r)) (K none)
  let Tn : Nat → Hp → Prop := fun i Hk => ∃ Gk acc ds, StR X.K X.w Gi Hi Gk Hk σ ρ ∧ Ext G1 H1 Gk Hk ∧ Hk D = some (.lst acc) ∧ Gk D = none ∧ acc.length ≤ i ∧ RpA X.K X.w Gk acc ds ∧ lcW f (items.drop i) ds fun ds => P (.list ds)
  refine ⟨fun i m Hk => m = items.length - i ∧ i ≤ items.length ∧ Tn i Hk, ⟨items.length, rfl, Nat.zero_le _, G1, [], [], S1.step (Ext.laid hD) (S1.gok.laid hD), Ext.laid hD, upd_same, S1.gok.nil hD, Nat.le_refl _, .nil, hp⟩, ?_⟩
  rintro i m Hk ⟨rfl, hi, Gk, acc, ds, Sk, xk, hDk, hGk, hl, ra, hlc⟩
  by_cases hlt : i < items.length
  · rw [drop_at hlt] at hlc
    have hlc : f items[i] fun o => lcW f (items.drop (i + 1)) (ds ++ o.toList) fun ds => P (.list ds) := hlc
    obtain ⟨hgo, hyl⟩ := io.go i items[i] Gk Hk (List.getElem?_eq_getElem hlt) Sk.gok xk
    refine .inr ⟨hgo, Tn (i + 1), fun H' q => ⟨items.length - (i + 1), by omega, rfl, hlt, q⟩, fun v Hv y => ?_⟩
    obtain ⟨Gv, gv, xv, rv, same⟩ := hyl v Hv y
    have sD := same D (by rw [hDk]; exact fun q => nomatch q)
    have Sv := Sk.step xv gv
    have hDv : Hv D = some (.lst acc) := sD.1.trans hDk
    have hGv : Gv D = none := sD.2.trans hGk
    refine ⟨Gv, _, items[i], _, Sv.wipe _, rv, hlc, fun σ2 ρ2 S2 o2 p2 => ⟨o2.wipe ?_, Gv, ρ2, _, S2, p2, fun b G3 H3 S3 x3 p3 => ?_⟩⟩
    · intro j hj
      have := List.all_eq_true.mp hsub j hj
      simpa using this
    · have keep : ∀ {G4 : Gh} {H4 : Hp}, Ext Gv Hv G4 H4 → H4 D = some (.lst acc) ∧ G4 D = none := fun {G4 H4} x4 => by
        refine ⟨x4.h D _ hDv (by rw [hGv]; exact fun z => nomatch z), ?_⟩
        cases q : G4 D with
        | none => rfl
        | some u => have := x4.n D u q (by rw [hDv]; exact fun z => nomatch z); rw [hGv] at this; cases this
      cases b with
      | false =>
        obtain ⟨h1, h2⟩ := keep x3
        show Tn (i + 1) H3
        exact ⟨G3, acc, ds, Sv.step x3 S3.gok, (xk.trans xv).trans x3, h1, h2, by omega, ra.mono (xv.trans x3).g, by simpa [ite'] using p3⟩
      | true =>
        show tV X.K X.w Gi Hi (wpE el noX) σ2 H3 _
        refine ⟨G3, ρ2, _, S3, p3, fun y G4 H4 d S4 x4 r4 p4 => ?_⟩
        obtain ⟨h1, h2⟩ := keep (x3.trans x4)
        refine ⟨acc, h1, lim_lt ?_, G4, acc ++ [y], ds ++ [d], ?_, ?_, upd_same, h2, by rw [List.length_append, List.length_singleton]; omega, (ra.mono ((xv.trans x3).trans x4).g).append (.one r4), p4⟩
        · have := io.len; omega
        · exact ((Sv.step x3 S3.gok).step x4 S4.gok).put (by rw [h1]; exact fun q => nomatch q) hDi h2 al
        · exact (((xk.trans xv).trans x3).trans x4).upd hD
  · have e : i = items.length := by omega
    subst e
    rw [List.drop_length] at hlc
    exact .inl ⟨io.stop _ Gk Hk rfl Sk.gok xk, k D Gk Hk (.list ds) Sk (x1.trans xk) hD0 hGk (.lst hDk (Nat.le_trans hl io.len) ra) hlc⟩
theorem f_lcm {elt iter : Expr} {ifs : List Expr} {scope : Scope} {el : Ex} {tI' : Tg} {it : VL.Itr} {cn : Exs} (own : List (Str × Nat)) (vis loc : List Nat) (gl : List Str) (hok : (blkV c scope vis loc gl).ok = true) (hb : blkB c.N c.sc scope own = true) (hit : VI' c tg iter it true)
    (htg : VG' (blkV c scope vis loc gl) tg tI') (hcn : VCs (blkV c scope vis loc gl) ifs cn) (hel : VE (blkV c scope vis loc gl) elt el) (hsub : ((tgN tI').all fun i => (own.map (·.2)).contains i) = true := by rfl)
    (hs : ∀ (env : Env) x, foldedSetIterable iter env x = pure x := by intro _ _; rfl) : VF c (.ListComp elt [⟨tg, iter, ifs, 0⟩] scope pos) (.lcm el tI' it cn (own.map (·.2))) := fun X Gi Hi x C =>
  PE.imp (pe_lc C.calm C.nod (hit X Gi Hi x C) (by rw [C.N, C.sc]; exact blk_ok hb) (te := tV X.K X.w Gi Hi (wpE el noX)) (g := tG X.K X.w Gi Hi tI') (tt := tCn X.K X.w Gi Hi cn) (fun s H Ca cl fp => htg _ Gi Hi noX (C.blk hok s H Ca cl fp)) (fun s H Ca cl fp => hcn _ Gi Hi (C.blk hok s H Ca cl fp))
    (fun s H Ca cl fp => hel _ Gi Hi noX (C.blk hok s H Ca cl fp)) (hs _)) (lcm_core hsub)
end
end VL
/-! VM: statements -/
namespace VL
open PySem PySem.Spec PyProof.Rows L2
theorem GX.refl (G : Gh) : GX G G := fun _ _ h => h
theorem GX.trans {G G1 G2 : Gh} (x : GX G G1) (y : GX G1 G2) : GX G G2 := fun a o h => y a o (x a o h)
theorem Ext.gx {G G' : Gh} {H H' : Hp} (x : Ext G H G' H') : GX G G' := x.g
section
variable (K : PySem.W.Frag) (w : World) (Gi : Gh) (Hi : Hp)
def tS (W : (Av → Prop) → En → (En → Prop) → Prop) : TS := fun D σ H => ∃ G ρ R N, StR K w Gi Hi G H σ ρ ∧ W R ρ N ∧
  (∀ σ' G' H' ρ', StR K w Gi Hi G' H' σ' ρ' → GX G G' → N ρ' → D.nx σ' H') ∧ (∀ r v G' H', GOk G' H' → Ext Gi Hi G' H' → ResR K w Hi G' H' v r → R r → D.rt v H')
/-- an answer that is given back -/
def tR (W : En → (Av → Prop) → Prop) : TE := fun σ H Q => ∃ G ρ R, StR K w Gi Hi G H σ ρ ∧ W ρ R ∧ ∀ r v G' H', GOk G' H' → Ext Gi Hi G' H' → ResR K w Hi G' H' v r → R r → Q v H'
end
def VS (c : VC) (st : Stmt) (ir : VL.S) : Prop := ∀ X Gi Hi x, CtxV c X Gi Hi x → PS X st (tS X.K X.w Gi Hi (wpS ir x))
def VSs (c : VC) (st : List Stmt) (ir : Ss) : Prop := ∀ X Gi Hi x, CtxV c X Gi Hi x → PSs X st (tS X.K X.w Gi Hi (wpSs ir x))
def VR (c : VC) (e : Expr) (ir : Ex) : Prop := ∀ X Gi Hi x, CtxV c X Gi Hi x → PE X e (tR X.K X.w Gi Hi fun ρ => retP ρ ir (wpE ir x ρ))
section
variable {c : VC} {e a b d tg : Expr} {es : List Expr} {ir ia ib id' : Ex} {irs lo hi : Exs} {pos p p1 p2 p3 p4 : Pos} {n m : Nat} {st : Stmt} {ss body : List Stmt} {is : VL.S} {iss iss2 : Ss} {y z : Str} {i j : Nat}
theorem ss_nil : VSs c [] .nil := fun X Gi Hi x C => PSs.imp pss_nil fun D σ H ⟨G, ρ, R, N, S, hw, kn, kr⟩ => kn σ G H ρ S (GX.refl G) hw
theorem ss_cons (h : VS c st is) (t : VSs c ss iss) : VSs c (st :: ss) (.cons is iss) := fun X Gi Hi x C => PSs.imp (pss_cons (h X Gi Hi x C) (t X Gi Hi x C)) fun D σ H ⟨G, ρ, R, N, S, hw, kn, kr⟩ =>
  ⟨G, ρ, R, _, S, hw, fun σ' G' H' ρ' S' gx hn => ⟨G', ρ', R, N, S', hn, fun σ2 G2 H2 ρ2 S2 gx2 hn2 => kn σ2 G2 H2 ρ2 S2 (gx.trans gx2) hn2, kr⟩, kr⟩
theorem frzE_ok {K : PySem.W.Frag} {w : World} {Gi G : Gh} {Hi H : Hp} {σ : L2.St} {ρ : En} (S : StR K w Gi Hi G H σ ρ) (i : Nat) : ∃ G', StR K w Gi Hi G' H σ (frzE ρ i) ∧ GX G G' := by
  unfold frzE
  split
  · rename_i d q
    obtain ⟨a, e1, hi, hg, o⟩ := S.ow q
    obtain ⟨u, hu, r⟩ := o.fz hg
    have na : NoAl (σ.set i none) (ρ.set i .un) a := S.noAlO q e1
    have S1 := (S.un (i := i) none).freeze hu hi hg na
    have S2 := S1.set (i := i) r
    rw [List.set_set, List.set_set] at S2
    have e2 : σ.set i (some (.ref a)) = σ := by
      refine List.ext_getElem? fun j => ?_
      by_cases hj : i = j
      · subst hj
        rw [List.getElem?_set_self (List.getElem?_eq_some_iff.mp e1).1, e1]
      · rw [List.getElem?_set_ne hj]
    rw [e2] at S2
    refine ⟨_, S2, fun b o' h' => ?_⟩
    have : b ≠ a := fun y => by rw [y, hg] at h'; cases h'
    rw [updG_ne this]; exact h'
  · exact ⟨G, S, GX.refl G⟩
theorem ss_frz (i : Nat) (h : VSs c ss iss) : VSs c ss (.cons (.frz i) iss) := fun X Gi Hi x C => PSs.imp (h X Gi Hi x C) fun D σ H ⟨G, ρ, R, N, S, hw, kn, kr⟩ => by
  obtain ⟨G', S', gx⟩ := frzE_ok S i
  exact ⟨G', frzE ρ i, R, N, S', hw, fun σ2 G2 H2 ρ2 S2 gx2 hn2 => kn σ2 G2 H2 ρ2 S2 (gx.trans gx2) hn2, kr⟩
theorem StR.fgt {K : PySem.W.Frag} {w : World} {Gi G : Gh} {Hi H : Hp} {σ : L2.St} {ρ : En} (S : StR K w Gi Hi G H σ ρ) (i : Nat) : StR K w Gi Hi G H σ (ρ.set i .un) := by
  by_cases hl : i < σ.length
  · have e : σ.set i σ[i] = σ := List.set_getElem_self hl
    have := S.un (i := i) σ[i]
    rwa [e] at this
  · have e : ρ.set i .un = ρ := List.set_eq_of_length_le (by rw [S.len]; omega)
    rw [e]; exact S
theorem StR.fgts {K : PySem.W.Frag} {w : World} {Gi G : Gh} {Hi H : Hp} {σ : L2.St} {ρ : En} (S : StR K w Gi Hi G H σ ρ) : ∀ is : List Nat, StR K w Gi Hi G H σ (wipeE ρ is)
  | [] => S
  | i :: is => (S.fgts is).fgt i
/-- what is known of slots is let go of -/
theorem ss_fgt (is : List Nat) (h : VSs c ss iss) : VSs c ss (.cons (.fgt is) iss) := fun X Gi Hi x C => PSs.imp (h X Gi Hi x C) fun D σ H ⟨G, ρ, R, N, S, hw, kn, kr⟩ =>
  ⟨G, wipeE ρ is, R, N, S.fgts is, hw, kn, kr⟩
/-- a slot that may be stored -/
theorem CtxV.sto {X : Cx} {Gi : Gh} {Hi : Hp} {x : Str → Prop} (C : CtxV c X Gi Hi x) (h : (c.loc.contains i || c.cel.contains i) = true) (e : c.N[i]? = some y) : Loc X.env.scope y ∧ (X.fn y = true ∨ X.env.scope.names.lookup y = some .local) := by
  cases q : c.loc.contains i with
  | true => exact ⟨.inl (C.loc q e), .inr (C.loc q e)⟩
  | false =>
    rw [q] at h
    obtain ⟨h1, h2⟩ := C.cel h e
    exact ⟨.inr h1, .inl h2⟩
theorem s_set (hi : c.N[i]? = some y) (hl : (c.loc.contains i || c.cel.contains i) = true) (h : VE c e ir) (hs : ∀ env : Env, swapsWith e (some (.Name y p)) pos.line env = pure false := by intro _; rfl) : VS c (.Assign [.Name y p] e pos) (.set i ir) := fun X Gi Hi x C => by
  obtain ⟨h1, h2⟩ := C.sto hl hi
  exact PS.imp (ps_set C.nod (C.ni hi) h1 (h X Gi Hi x C) (hs _) h2) fun D σ H ⟨G, ρ, R, N, S, hw, kn, kr⟩ => ⟨G, ρ, _, S, hw, fun v G1 H1 d S1 x1 r p => kn _ G1 H1 _ (S1.set r) x1.gx p⟩
theorem sow_end {K : PySem.W.Frag} {w : World} {Gi G G1 : Gh} {Hi H H1 : Hp} {σ : L2.St} {ρ : En} {a : Addr} {d : PyData} {i : Nat} (S : StR K w Gi Hi G H σ ρ) (S1 : StR K w Gi Hi G1 H1 σ ρ) (h0 : H a = none) (hg : G1 a = none) (o : Own K w G1 H1 a d) :
    StR K w Gi Hi G1 H1 (σ.set i (some (.ref a))) (ρ.set i (.ow d)) := S1.setO (S.ext.none h0) hg o ((S.noAl h0).set fun _ q => nomatch q)
theorem s_sow (hi : c.N[i]? = some y) (hl : (c.loc.contains i || c.cel.contains i) = true) (h : VF c e ir) (hs : ∀ env : Env, swapsWith e (some (.Name y p)) pos.line env = pure false := by intro _; rfl) : VS c (.Assign [.Name y p] e pos) (.sow i ir) := fun X Gi Hi x C => by
  obtain ⟨h1, h2⟩ := C.sto hl hi
  exact PS.imp (ps_set C.nod (C.ni hi) h1 (h X Gi Hi x C) (hs _) h2) fun D σ H ⟨G, ρ, R, N, S, hw, kn, kr⟩ => ⟨G, ρ, _, S, hw, fun a G1 H1 d S1 x1 h0 hg o p => kn _ G1 H1 _ (sow_end S S1 h0 hg o) x1.gx p⟩
/-- x = [..  for ..]: the names of the block are let go of -/
theorem s_sowLc {elt iter : Expr} {ifs : List Expr} {scope : Scope} {el : Ex} {tI' : Tg} {it : VL.Itr} {cn : Exs} (own : List (Str × Nat)) (vis loc : List Nat) (gl : List Str) (hi : c.N[i]? = some y) (hl : c.loc.contains i = true) (hline : (p.line == p2.line) = true)
    (ha : (scope.names.any fun (n, k) => n == y && (k == .local || k == .cell)) = false) (hok : (blkV c scope vis loc gl).ok = true) (hb : blkB c.N c.sc scope own = true) (hit : VI' c tg iter it true)
    (htg : VG' (blkV c scope vis loc gl) tg tI') (hcn : VCs (blkV c scope vis loc gl) ifs cn) (hel : VE (blkV c scope vis loc gl) elt el) (hsub : ((tgN tI').all fun i => (own.map (·.2)).contains i) = true := by rfl)
    (hs : ∀ (env : Env) x, foldedSetIterable iter env x = pure x := by intro _ _; rfl) : VS c (.Assign [.Name y p] (.ListComp elt [⟨tg, iter, ifs, 0⟩] scope p2) pos) (.sow i (.lcm el tI' it cn (own.map (·.2)))) := fun X Gi Hi x C => by
  have h1 := C.loc hl hi
  refine PS.imp (ps_setLc (own := own) C.calm C.nod (C.ni hi) h1 ?_ (hit X Gi Hi x C) (by rw [C.N, C.sc]; exact blk_ok hb) (te := tV X.K X.w Gi Hi (wpE el noX)) (g := tG X.K X.w Gi Hi tI') (tt := tCn X.K X.w Gi Hi cn) (fun s H Ca cl fp => htg _ Gi Hi noX (C.blk hok s H Ca cl fp)) (fun s H Ca cl fp => hcn _ Gi Hi (C.blk hok s H Ca cl fp))
    (fun s H Ca cl fp => hel _ Gi Hi noX (C.blk hok s H Ca cl fp)) (hs _)) fun D σ H ⟨G, ρ, R, N, S, hw, kn, kr⟩ => ?_
  · exact sw_true C.kind h1 hline ha
  · have hw : wpE (.lcm el tI' it cn (own.map (·.2))) x ρ fun d => N (ρ.set i (.ow d)) := hw
    exact lcm_core hsub σ H _ ⟨G, ρ, _, S, hw, fun a G1 H1 d S1 x1 h0 hg o p => kn _ G1 H1 _ (sow_end S S1 h0 hg o) x1.gx p⟩
theorem VE.wh {X : Cx} : True := trivial
theorem s_unp {t : Tg} (hg : VG' c tg t) (h : VE c e ir) (hs : ∀ env : Env, swapsWithSole [tg] e pos.line env = pure false := by intro _; rfl) (hw : ∀ env : Env, swappedStores [tg] e env = pure none := by intro _; rfl)
    (h1 : ∀ env : Env, (assignEach [tg] env).map (·.2) = [assign tg env] := by intro _; rfl) : VS c (.Assign [tg] e pos) (.unp t ir) := fun X Gi Hi x C =>
  PS.imp (ps_asg (h X Gi Hi x C) (hg X Gi Hi x C) (hs _) (hw _) (h1 _)) fun D σ H ⟨G, ρ, R, N, S, hw, kn, kr⟩ => ⟨G, ρ, _, S, hw, fun v G1 H1 d S1 x1 r p => ⟨G1, ρ, d, _, S1, r, p, fun σ' ρ' S' _ p' => kn σ' G1 H1 ρ' S' x1.gx p'⟩⟩
theorem s_exp (h : VE c e ir) (hs : ∀ env : Env, swapsWith e none pos.line env = pure false := by intro _; rfl) : VS c (.Expr e pos) (.exp ir) := fun X Gi Hi x C =>
  PS.imp (ps_expr (h X Gi Hi x C) (hs _)) fun D σ H ⟨G, ρ, R, N, S, hw, kn, kr⟩ => ⟨G, ρ, _, S, hw, fun v G1 H1 d S1 x1 r p => kn σ G1 H1 ρ S1 x1.gx p⟩
theorem s_ifs (ht : VT c a ia) (h1 : VSs c ss iss) (h2 : VSs c body iss2) : VS c (.If a ss body pos) (.ifs ia iss iss2) := fun X Gi Hi x C =>
  PS.imp (ps_if (ht X Gi Hi x C) (h1 X Gi Hi x C) (h2 X Gi Hi x C)) fun D σ H ⟨G, ρ, R, N, S, hw, kn, kr⟩ => ⟨G, ρ, _, S, hw, fun b G1 H1 S1 x1 p => by
    cases b with
    | true => exact ⟨G1, ρ, R, N, S1, p, fun σ' G' H' ρ' S' gx n => kn σ' G' H' ρ' S' (x1.gx.trans gx) n, kr⟩
    | false => exact ⟨G1, ρ, R, N, S1, p, fun σ' G' H' ρ' S' gx n => kn σ' G' H' ρ' S' (x1.gx.trans gx) n, kr⟩⟩
theorem s_fr {iter : Expr} {t : Tg} {it : VL.Itr} (hg : VG' c tg t) (hi : VI' c tg iter it false) (hb : VSs c body iss) (hs : ∀ (env : Env) x, foldedSetIterable iter env x = pure x := by intro _ _; rfl) : VS c (.For tg iter body [] pos) (.fr t it iss) := fun X Gi Hi x C =>
  PS.imp (ps_for C.own C.calm (hi X Gi Hi x C) (hg X Gi Hi x C) (hb X Gi Hi x C) (hs _)) fun D σ H ⟨G, ρ, R, N, S, hw, kn, kr⟩ => ⟨G, ρ, _, S, hw, fun J G1 H1 items S1 x1 io hp => by
    let f : PyData → En → (En → Prop) → Prop := fun d ρ' K => bnd t d ρ' fun ρ'' => wpSs iss x R ρ'' K
    let Tn : Nat → L2.St → Hp → Prop := fun i σk Hk => ∃ Gk ρk, StR X.K X.w Gi Hi Gk Hk σk ρk ∧ GX G1 Gk ∧ frW f (items.drop i) ρk N
    refine ⟨fun i m σk Hk => m = items.length - i ∧ i ≤ items.length ∧ Tn i σk Hk, ⟨items.length, rfl, Nat.zero_le _, G1, ρ, S1, GX.refl _, hp⟩, ?_⟩
    rintro i m σk Hk ⟨rfl, hi, Gk, ρk, Sk, gk, hf⟩
    by_cases hlt : i < items.length
    · rw [drop_at hlt] at hf
      have hf : f items[i] ρk fun ρ' => frW f (items.drop (i + 1)) ρ' N := hf
      obtain ⟨hgo, hyl⟩ := io.go i items[i] Gk Hk (List.getElem?_eq_getElem hlt) Sk.gok gk
      refine .inr ⟨hgo, Tn (i + 1), fun σ' H' q => ⟨items.length - (i + 1), by omega, rfl, hlt, q⟩, fun v Hv y => ?_⟩
      obtain ⟨Gv, gv, xv, rv, _⟩ := hyl v Hv y
      exact ⟨Gv, ρk, items[i], _, Sk.step xv gv, rv, hf, fun σ2 ρ2 S2 _ p2 => ⟨Gv, ρ2, R, _, S2, p2, fun σ3 G3 H3 ρ3 S3 gx3 n3 => ⟨G3, ρ3, S3, (gk.trans xv.gx).trans gx3, n3⟩, kr⟩⟩
    · have e : i = items.length := by omega
      subst e
      rw [List.drop_length] at hf
      exact .inl ⟨io.stop _ Gk Hk rfl Sk.gok gk, kn σk Gk Hk ρk Sk (x1.gx.trans gk) hf⟩⟩
theorem s_whl (ht : VT c a ia) (hb : VSs c body iss) : VS c (.While a body [] pos) (.whl ia iss) := fun X Gi Hi x C =>
  PS.imp (ps_while C.own (ht X Gi Hi x C) (hb X Gi Hi x C)) fun D σ H ⟨G, ρ, R, N, S, hw, kn, kr⟩ => by
    obtain ⟨I, μ, h0, step⟩ := hw
    refine ⟨fun m σk Hk => ∃ Gk ρk, StR X.K X.w Gi Hi Gk Hk σk ρk ∧ GX G Gk ∧ I ρk ∧ m = μ ρk, ⟨_, G, ρ, S, GX.refl _, h0, rfl⟩, ?_⟩
    rintro m σk Hk ⟨Gk, ρk, Sk, gk, ik, rfl⟩
    refine ⟨Gk, ρk, _, Sk, step ρk ik, fun b G1 H1 S1 x1 p => ?_⟩
    cases b with
    | true =>
      exact ⟨fun σ' H' => ∃ G' ρ', StR X.K X.w Gi Hi G' H' σ' ρ' ∧ GX G G' ∧ I ρ' ∧ μ ρ' < μ ρk, fun σ' H' ⟨G', ρ', S', g', i', l'⟩ => ⟨_, l', G', ρ', S', g', i', rfl⟩, G1, ρk, R, _, S1, p,
        fun σ' G' H' ρ' S' gx n => ⟨G', ρ', S', (gk.trans x1.gx).trans gx, n.1, n.2⟩, kr⟩
    | false => exact kn σk G1 H1 ρk S1 (gk.trans x1.gx) p
theorem r_of (h : VE c e ir) (hn : nv ir = true := by rfl) : VR c e ir := fun X Gi Hi x C => PE.imp (h X Gi Hi x C) fun σ H Q ⟨G, ρ, R, S, hw, k⟩ => by
  have hw : wpE ir x ρ fun d => R (.da d) := by
    cases ir <;> first | exact hw | cases hn
  exact ⟨G, ρ, _, S, hw, fun v G' H' d S' x' r p => k (.da d) v G' H' S'.gok S'.ext (.da r) p⟩
theorem r_f (h : VF c e ir) (hn : nv ir = true := by rfl) : VR c e ir := r_of (e_f h) hn
theorem r_var (hi : c.N[i]? = some y) (hv : c.vis.contains i = true) : VR c (.Name y pos) (.var i) := fun X Gi Hi x C => by
  obtain ⟨h1, h2, h3⟩ := C.vis hv hi
  refine PE.imp (pe_var (C.ni hi) h1 h2 h3) fun σ H Q ⟨G, ρ, P, S, hw, k⟩ => ?_
  have hw' : retP ρ (.var i) (wpE (.var i) x ρ) P := hw
  simp only [retP] at hw'
  split at hw'
  · rename_i d q
    obtain ⟨v, e1, r⟩ := S.va q
    exact ⟨v, e1, k (.da d) v G H S.gok S.ext (.da r) hw'⟩
  · rename_i d q
    obtain ⟨a, e1, h4, h5, o⟩ := S.ow q
    exact ⟨_, e1, k (.ow d) _ G H S.gok S.ext (.ow h4 h5 o) hw'⟩
  · rename_i q
    obtain ⟨a, e1, h5⟩ := S.rgA q
    exact ⟨_, e1, k .rg _ G H S.gok S.ext (.rg h5) hw'⟩
  · exact hw'.elim
theorem s_ret (h : VR c e ir) : VS c (.Return (some e) pos) (.ret ir) := fun X Gi Hi x C =>
  PS.imp (ps_ret (h X Gi Hi x C)) fun D σ H ⟨G, ρ, R, N, S, hw, kn, kr⟩ => ⟨G, ρ, R, S, hw, kr⟩
/-- x = f(..): what comes may be one's own -/
def slotOf : Av → Slot
  | .da d => .va d
  | .ow d => .ow d
  | .rg => .rg
  | .sc ns => .sc ns
theorem StR.setRg {K : PySem.W.Frag} {w : World} {Gi G : Gh} {Hi H : Hp} {σ : L2.St} {ρ : En} {i : Nat} {a : Addr} (S : StR K w Gi Hi G H σ ρ) (hg : G a = some .rg) : StR K w Gi Hi G H (σ.set i (some (.ref a))) (ρ.set i .rg) where
  gok := S.gok
  ext := S.ext
  len := by rw [List.length_set, List.length_set, S.len]
  sl := fun j s e => by
    by_cases hj : i = j
    · subst hj
      by_cases hl : i < ρ.length
      · rw [List.getElem?_set_self hl] at e
        cases e
        rw [List.getElem?_set_self (by rw [← S.len]; exact hl)]
        exact ⟨a, rfl, hg⟩
      · rw [List.getElem?_eq_none (by rw [List.length_set]; omega)] at e; cases e
    · rw [List.getElem?_set_ne hj] at e ⊢
      exact S.sl j s e
  dis := fun j k a b d e hjk h1 h2 h3 h4 => by
    have n1 : i ≠ j := fun q => by
      subst q
      by_cases hl : i < ρ.length
      · rw [List.getElem?_set_self hl] at h1; cases h1
      · rw [List.getElem?_eq_none (by rw [List.length_set]; omega)] at h1; cases h1
    have n2 : i ≠ k := fun q => by
      subst q
      by_cases hl : i < ρ.length
      · rw [List.getElem?_set_self hl] at h3; cases h3
      · rw [List.getElem?_eq_none (by rw [List.length_set]; omega)] at h3; cases h3
    rw [List.getElem?_set_ne n1] at h1 h2
    rw [List.getElem?_set_ne n2] at h3 h4
    exact S.dis j k a b d e hjk h1 h2 h3 h4
theorem s_sca {f : Str} {sp : Spec} (j : Nat) (mo : Mono sp) (F : Callable c.M c.k f sp) (hj : c.gl[j]? = some f) (hi : c.N[i]? = some y) (hl : (c.loc.contains i || c.cel.contains i) = true) (ha : VAs c (e :: es) irs)
    (he : ∀ env : Env, starEach (e :: es) env = (false, eval e env) :: starEach es env := by intro _; rfl) (hpl : ∀ env : Env, (backTo p3 (starEach es env)).any (·.1) = false := by intro _; rfl)
    (hs : ∀ env : Env, swapsWith (.Call (.Name f p2) (e :: es) [] p3) (some (.Name y p)) pos.line env = pure false := by intro _; rfl) : VS c (.Assign [.Name y p] (.Call (.Name f p2) (e :: es) [] p3) pos) (.sca i f sp irs) := fun X Gi Hi x C => by
  obtain ⟨h1, h2⟩ := C.sto hl hi
  refine PS.imp (ps_set C.nod (C.ni hi) h1 (pe_cal C mo F hj ha he hpl) (hs _) h2) fun D σ H ⟨G, ρ, R, N, S, hw, kn, kr⟩ => ?_
  have em : c.M = ⟨X.prog, X.w, X.K, X.mg, X.base⟩ := C.m
  rw [em]
  have hw : wpAs irs x ρ fun vs => sp vs (fun r => N (ρ.set i (slotOf r))) x := hw
  refine ⟨G, ρ, _, S, hw, fun v G0 H0 G' H' r x0 S0 S' x' rr pr => ?_⟩
  cases rr with
  | da rr => exact kn _ G' H' _ (S'.set rr) (x0.trans x').gx pr
  | @ow a d h0 hg o => exact kn _ G' H' _ (sow_end S0 S' h0 hg o) (x0.trans x').gx pr
  | rg hg => exact kn _ G' H' _ (S'.setRg hg) (x0.trans x').gx pr

/-! ### changing one's own list -/
theorem s_app (hi : c.N[i]? = some y) (hv : c.vis.contains i = true) (h : VE c e ir) (hbase : ∀ env : Env, attributeBase (.Name y p) "append" env (eval (.Name y p) env) = eval (.Name y p) env := by intro _; rfl)
    (hfew : ∀ env : Env, ((backTo p3 (starEach [e] env)).all (fun x => !x.1) && (backToKw p3 (keywordEach [] env)).all (fun x => x.1.isSome) && decide (([e] : List Expr).length + ([] : List Keyword).length + (if ([] : List Keyword).isEmpty then 0 else 1) < 30)) = true := by intro _; rfl)
    (hline : (p2.endLine == p3.line) = true := by rfl) (hst : ∀ env : Env, starEach [e] env = (false, eval e env) :: starEach [] env := by intro _; rfl)
    (hs : ∀ env : Env, swapsWith (.Call (.Attribute (.Name y p) "append" p2) [e] [] p3) none pos.line env = pure false := by intro _; rfl) : VS c (.Expr (.Call (.Attribute (.Name y p) "append" p2) [e] [] p3) pos) (.app i ir) := fun X Gi Hi x C => by
  obtain ⟨h1, h2, h3⟩ := C.vis hv hi
  refine PS.imp (ps_expr (pe_bm PySem.F.plainAttrs_list PySem.F.slot_list_append PySem.F.type_list_append mt_append (pe_var (C.ni hi) h1 h2 h3) (pa_cons (h X Gi Hi x C) pa_nil (hst _)) (hbase _) (hfew _) hline (hst _) rfl) (hs _)) fun D σ H ⟨G, ρ, R, N, S, hw, kn, kr⟩ => ?_
  simp only [wpS] at hw
  split at hw
  · rename_i ds q
    obtain ⟨a, e1, hi', hg, o⟩ := S.ow q
    cases o with
    | @lst xs _ hx l r =>
      refine ⟨_, e1, .inl ⟨rfl, xs, .inl (.inl hx)⟩, G, ρ, _, S, hw, fun v G1 H1 d S1 x1 rv p => ?_⟩
      obtain ⟨hlt, p⟩ := p
      have hx1 : H1 a = some (.lst xs) := x1.h _ _ hx (by rw [hg]; exact fun z => nomatch z)
      have hg1 : G1 a = none := by
        cases z : G1 a with
        | none => rfl
        | some u => have := x1.n a u z (by rw [hx]; exact fun z => nomatch z); rw [hg] at this; cases this
      have hle : xs.length < lim := by rw [r.length]; exact hlt
      refine ⟨a, xs, v, rfl, rfl, hx1, lim_lt hle, ?_⟩
      have na : NoAl (σ.set i none) (ρ.set i .un) a := S1.noAlO q e1
      have S2 := (S1.un (i := i) none).put (o := .lst (xs ++ [v])) (by rw [hx1]; exact fun z => nomatch z) hi' hg1 na
      have S3 := S2.setO (i := i) (d := .list (ds ++ [d])) hi' hg1 (.lst upd_same (by rw [List.length_append, List.length_singleton]; omega) ((r.mono x1.g).append (.one rv))) (by rw [List.set_set, List.set_set]; exact na)
      rw [List.set_set, List.set_set] at S3
      have e2 : σ.set i (some (.ref a)) = σ := by
        refine List.ext_getElem? fun j => ?_
        by_cases hj : i = j
        · subst hj
          rw [List.getElem?_set_self (List.getElem?_eq_some_iff.mp e1).1, e1]
        · rw [List.getElem?_set_ne hj]
      rw [e2] at S3
      exact kn σ G1 _ _ S3 x1.gx p
  · exact hw.elim
end
end VL
/-! VN: raise, several names at once, stores; a def keeps its promise -/
namespace VL
open PySem PySem.Spec PyProof.Rows L2
/-- a class of the module's own whose instances are raised -/
def ExcC (M : Md) (nm : Str) : Prop := ∃ C, M.mg nm = some (.ref C) ∧ PySem.W.excIn M.K C He.veBase "ValueError.__new__" = true ∧ PySem.W.keepIn M.K (.ref C) = true ∧ PySem.W.subIn M.K (.ref C) (.type "BaseException") = some true ∧ PySem.W.typeIn M.K (.ref C) = some (.type "type")
/-! ### the stores of a pair, of three -/
section
variable {env : Env} {x y z : Str} {px py pz pt pt2 : Pos} {kt k2 : Nat} {a b d : Expr}
def starIn (vs : List Expr) : Bool := vs.any fun | .Starred .. => true | _ => false
theorem swp2 (hk : env.scope.kind = .function) (hx : env.scope.names.lookup x = some .local) (hy : env.scope.names.lookup y = some .local) (hxy : (y == x) = false) (l : (py.line == px.line) = true) (h1 : starIn [a, b] = false)
    (h2 : [a, b].all (foldedForSure 8) = false) (h3 : [a, b].all (constantsAlone 8) = false) : swappedStores [.Tuple [.Name x px, .Name y py] kt pt] (.Tuple [a, b] k2 pt2) env = pure (some [x, y]) := by
  have hb : env.blockKind = .function := by unfold Env.blockKind; rw [hk]; rfl
  have ex : env.kindOf x = some .local := hx
  have ey : env.kindOf y = some .local := hy
  have l' : py.line = px.line := by simpa using l
  simp only [starIn, List.any_cons, List.any_nil, Bool.or_false, Bool.or_eq_false_iff] at h1
  unfold swappedStores
  simp only [hb, h2, h3]
  simp [h1.1, h1.2, ex, ey, l', Expr.pos, List.eraseDups, List.eraseDupsBy, List.eraseDupsBy.loop, hxy]
  intro h
  rcases h with h | h
  · exact absurd (h1.1.symm.trans h) (by decide)
  · exact absurd (h1.2.symm.trans h) (by decide)
theorem swn2 (hk : env.scope.kind = .function) (hx : env.scope.names.lookup x = some .local) (hy : env.scope.names.lookup y = some .local) (hxy : (y == x) = false) (l : (py.line == px.line) = true) (h1 : starIn [a, b] = false)
    (h2 : [a, b].all (foldedForSure 8) = true) : swappedStores [.Tuple [.Name x px, .Name y py] kt pt] (.Tuple [a, b] k2 pt2) env = pure none := by
  have hb : env.blockKind = .function := by unfold Env.blockKind; rw [hk]; rfl
  have ex : env.kindOf x = some .local := hx
  have ey : env.kindOf y = some .local := hy
  have l' : py.line = px.line := by simpa using l
  simp only [starIn, List.any_cons, List.any_nil, Bool.or_false, Bool.or_eq_false_iff] at h1
  unfold swappedStores
  simp only [hb, h2]
  simp [h1.1, h1.2, ex, ey, l', Expr.pos, List.eraseDups, List.eraseDupsBy, List.eraseDupsBy.loop, hxy]
theorem swp3 (hk : env.scope.kind = .function) (hx : env.scope.names.lookup x = some .local) (hy : env.scope.names.lookup y = some .local) (hz : env.scope.names.lookup z = some .local) (hxy : (y == x) = false) (hxz : (z == x) = false) (hyz : (z == y) = false)
    (l : (py.line == px.line) = true) (l2 : (pz.line == px.line) = true) (h1 : starIn [a, b, d] = false)
    (h2 : [a, b, d].all (foldedForSure 8) = false) (h3 : [a, b, d].all (constantsAlone 8) = false) : swappedStores [.Tuple [.Name x px, .Name y py, .Name z pz] kt pt] (.Tuple [a, b, d] k2 pt2) env = pure (some [x, y, z]) := by
  have hb : env.blockKind = .function := by unfold Env.blockKind; rw [hk]; rfl
  have ex : env.kindOf x = some .local := hx
  have ey : env.kindOf y = some .local := hy
  have ez : env.kindOf z = some .local := hz
  have l' : py.line = px.line := by simpa using l
  have l2' : pz.line = px.line := by simpa using l2
  simp only [starIn, List.any_cons, List.any_nil, Bool.or_false, Bool.or_eq_false_iff] at h1
  unfold swappedStores
  simp only [hb, h2, h3]
  simp [h1.1, h1.2.1, h1.2.2, ex, ey, ez, l', l2', Expr.pos, List.eraseDups, List.eraseDupsBy, List.eraseDupsBy.loop, hxy, hxz, hyz]
  intro h
  rcases h with h | h | h
  · exact absurd (h1.1.symm.trans h) (by decide)
  · exact absurd (h1.2.1.symm.trans h) (by decide)
  · exact absurd (h1.2.2.symm.trans h) (by decide)
theorem swn3 (hk : env.scope.kind = .function) (hx : env.scope.names.lookup x = some .local) (hy : env.scope.names.lookup y = some .local) (hz : env.scope.names.lookup z = some .local) (hxy : (y == x) = false) (hxz : (z == x) = false) (hyz : (z == y) = false)
    (l : (py.line == px.line) = true) (l2 : (pz.line == px.line) = true) (h1 : starIn [a, b, d] = false)
    (h2 : [a, b, d].all (foldedForSure 8) = true) : swappedStores [.Tuple [.Name x px, .Name y py, .Name z pz] kt pt] (.Tuple [a, b, d] k2 pt2) env = pure none := by
  have hb : env.blockKind = .function := by unfold Env.blockKind; rw [hk]; rfl
  have ex : env.kindOf x = some .local := hx
  have ey : env.kindOf y = some .local := hy
  have ez : env.kindOf z = some .local := hz
  have l' : py.line = px.line := by simpa using l
  have l2' : pz.line = px.line := by simpa using l2
  simp only [starIn, List.any_cons, List.any_nil, Bool.or_false, Bool.or_eq_false_iff] at h1
  unfold swappedStores
  simp only [hb, h2]
  simp [h1.1, h1.2.1, h1.2.2, ex, ey, ez, l', l2', Expr.pos, List.eraseDups, List.eraseDupsBy, List.eraseDupsBy.loop, hxy, hxz, hyz]
end
/-! ### several values, some one's own -/
inductive ParR (K : PySem.W.Frag) (w : World) (G : Gh) (H : Hp) : List V → List PyData → List Bool → List Addr → Prop
  | nil : ParR K w G H [] [] [] []
  | va {v : V} {d : PyData} {vs : List V} {ds : List PyData} {bs : List Bool} {as : List Addr} : Rp K w G v d → ParR K w G H vs ds bs as → ParR K w G H (v :: vs) (d :: ds) (false :: bs) as
  | ow {a : Addr} {d : PyData} {vs : List V} {ds : List PyData} {bs : List Bool} {as : List Addr} : G a = none → Own K w G H a d → a ∉ as → ParR K w G H vs ds bs as → ParR K w G H (.ref a :: vs) (d :: ds) (true :: bs) (a :: as)
def tPs (K : PySem.W.Frag) (w : World) (Gi : Gh) (Hi : Hp) (n : Nat) (bs : List Bool) (W : En → (List PyData → Prop) → Prop) : TA := fun σ H Q => ∃ G ρ P, StR K w Gi Hi G H σ ρ ∧ W ρ P ∧
  ∀ vs G' H' ds as, StR K w Gi Hi G' H' σ ρ → Ext G H G' H' → vs.length = n → ParR K w G' H' vs ds bs as → (∀ a ∈ as, H a = none) → P ds → Q vs H'
def VPs (c : VC) (n : Nat) (bs : List Bool) (e : List Expr) (ir : Exs) : Prop := ∀ X Gi Hi x, CtxV c X Gi Hi x → PA X e (tPs X.K X.w Gi Hi n bs (wpEs ir x))
section
variable {c : VC} {e a b d tg : Expr} {es : List Expr} {ir ia ib id' : Ex} {irs lo hi : Exs} {pos p p1 p2 p3 p4 : Pos} {n m : Nat} {st : Stmt} {ss body : List Stmt} {is : VL.S} {iss iss2 : Ss} {y z u : Str} {i j k : Nat} {bs : List Bool}
theorem ps_nil' : VPs c 0 [] [] .nil := fun X Gi Hi x C => PA.imp pa_nil fun σ H Q ⟨G, ρ, P, S, hw, k⟩ => k [] G H [] [] S (Ext.refl G H) rfl .nil (fun _ h => nomatch h) hw
theorem ps_va (h : VE c e ir) (t : VPs c n bs es irs) (hs : ∀ env : Env, starEach (e :: es) env = (false, eval e env) :: starEach es env := by intro _; rfl) : VPs c (n + 1) (false :: bs) (e :: es) (.cons ir irs) := fun X Gi Hi x C =>
  PA.imp (pa_cons (h X Gi Hi x C) (t X Gi Hi x C) (hs _)) fun σ H Q ⟨G, ρ, P, S, hw, k⟩ => ⟨G, ρ, _, S, hw, fun v G1 H1 d S1 x1 r1 hw1 => ⟨G1, ρ, _, S1, hw1, fun vs G2 H2 ds as S2 x2 hl r2 ha p2 =>
    k (v :: vs) G2 H2 (d :: ds) as S2 (x1.trans x2) (by rw [List.length_cons, hl]) (.va (r1.mono x2.g) r2) (fun a h => x1.none (ha a h)) p2⟩⟩
theorem ps_ow (h : VF c e ir) (t : VPs c n bs es irs) (hs : ∀ env : Env, starEach (e :: es) env = (false, eval e env) :: starEach es env := by intro _; rfl) : VPs c (n + 1) (true :: bs) (e :: es) (.cons ir irs) := fun X Gi Hi x C =>
  PA.imp (pa_cons (h X Gi Hi x C) (t X Gi Hi x C) (hs _)) fun σ H Q ⟨G, ρ, P, S, hw, k⟩ => ⟨G, ρ, _, S, hw, fun a G1 H1 d S1 x1 h0 hg o hw1 => ⟨G1, ρ, _, S1, hw1, fun vs G2 H2 ds as S2 x2 hl r2 ha p2 =>
    k (.ref a :: vs) G2 H2 (d :: ds) (a :: as) S2 (x1.trans x2) (by rw [List.length_cons, hl]) (.ow (o.keep hg x2).1 (o.keep hg x2).2 (fun q => o.there (ha a q)) r2) (fun b hb => by
      rcases List.mem_cons.mp hb with q | q
      · rw [q]; exact h0
      · exact x1.none (ha b q)) p2⟩⟩
def setsS : List Nat → List V → L2.St → L2.St
  | i :: is, v :: vs, σ => setsS is vs (σ.set i (some v))
  | _, _, σ => σ
theorem par_store {K : PySem.W.Frag} {w : World} {Gi G : Gh} {Hi H : Hp} : ∀ {vs : List V} {ds : List PyData} {bs : List Bool} {as : List Addr} {is : List Nat} {σ : L2.St} {ρ : En}, ParR K w G H vs ds bs as → is.length = vs.length → StR K w Gi Hi G H σ ρ →
    (∀ a ∈ as, Hi a = none ∧ NoAl σ ρ a) → StR K w Gi Hi G H (setsS is vs σ) (setsE is ds bs ρ)
  | _, _, _, _, [], _, _, .nil, _, S, _ => S
  | _, _, _, _, _ :: _, _, _, .nil, hl, _, _ => by cases hl
  | _ :: vs, _ :: ds, _ :: bs, as, i :: is, σ, ρ, .va r t, hl, S, ha => par_store (vs := vs) (ds := ds) (bs := bs) (as := as) (is := is) t (Nat.succ.inj hl) (S.set (i := i) r) fun a h => ⟨(ha a h).1, (ha a h).2.set fun _ q => nomatch q⟩
  | _ :: vs, _ :: ds, _ :: bs, _ :: as, i :: is, σ, ρ, .ow (a := a) (d := d) hg o hn t, hl, S, ha => par_store (vs := vs) (ds := ds) (bs := bs) (as := as) (is := is) t (Nat.succ.inj hl) (S.setO (i := i) (ha a List.mem_cons_self).1 hg o ((ha a List.mem_cons_self).2.set fun _ q => nomatch q)) fun b h => by
      obtain ⟨h1, h2⟩ := ha b (List.mem_cons_of_mem _ h)
      refine ⟨h1, fun j d' b' e1 e2 => ?_⟩
      by_cases hj : i = j
      · subst hj
        by_cases hlt : i < σ.length
        · rw [List.getElem?_set_self hlt] at e2
          cases e2
          exact fun q => hn (q ▸ h)
        · rw [List.getElem?_eq_none (by rw [List.length_set]; omega)] at e2; cases e2
      · rw [List.getElem?_set_ne hj] at e1 e2
        exact h2 j d' b' e1 e2
  | _, _, _, _, [], _, _, .va _ _, hl, _, _ => by cases hl
  | _, _, _, _, [], _, _, .ow _ _ _ _, hl, _, _ => by cases hl
theorem s_par2 {kt k2 : Nat} {pt pt2 : Pos} (hi : c.N[i]? = some y) (hj : c.N[j]? = some z) (hl : c.loc.contains i = true) (hl2 : c.loc.contains j = true) (ne : Nat.beq i j = false) (nm : (z == y) = false) (ha : VPs c 2 bs [a, b] irs) (l : (p1.line == p.line) = true) (h1 : starIn [a, b] = false)
    (h2 : [a, b].all (foldedForSure 8) = false) (h3 : [a, b].all (constantsAlone 8) = false) (hs : ∀ env : Env, swapsWithSole [.Tuple [.Name y p, .Name z p1] kt pt] (.Tuple [a, b] k2 pt2) pos.line env = pure false := by intro _; rfl) :
    VS c (.Assign [.Tuple [.Name y p, .Name z p1] kt pt] (.Tuple [a, b] k2 pt2) pos) (.par [i, j] irs bs) := fun X Gi Hi x C => by
  have e1 := C.loc hl hi
  have e2 := C.loc hl2 hj
  refine PS.imp (L2.ps_par C.calm C.nod (C.ni hi) (C.ni hj) (Nat.ne_of_beq_eq_false ne) e1 e2 (ha X Gi Hi x C) (swp2 C.kind e1 e2 nm l h1 h2 h3) (hs _)) fun D σ H ⟨G, ρ, R, N, S, hw, kn, kr⟩ => ⟨G, ρ, _, S, hw, fun vs G1 H1 ds as S1 x1 hn r hf pp => ?_⟩
  have st := par_store (is := [i, j]) r hn.symm S1 fun a h => ⟨S.ext.none (hf a h), S.noAl (hf a h)⟩
  match vs, hn with
  | [v, w'], _ => exact ⟨v, w', rfl, kn _ G1 H1 _ st x1.gx pp⟩
theorem s_par3 {kt k2 : Nat} {pt pt2 : Pos} (hi : c.N[i]? = some y) (hj : c.N[j]? = some z) (hk : c.N[k]? = some u) (hl : c.loc.contains i = true) (hl2 : c.loc.contains j = true) (hl3 : c.loc.contains k = true) (ne : Nat.beq i j = false) (ne2 : Nat.beq i k = false) (ne3 : Nat.beq j k = false)
    (nm : (z == y) = false) (nm2 : (u == y) = false) (nm3 : (u == z) = false) (ha : VPs c 3 bs [a, b, d] irs) (l : (p1.line == p.line) = true) (l2 : (p2.line == p.line) = true) (h1 : starIn [a, b, d] = false)
    (h2 : [a, b, d].all (foldedForSure 8) = false) (h3 : [a, b, d].all (constantsAlone 8) = false) (hs : ∀ env : Env, swapsWithSole [.Tuple [.Name y p, .Name z p1, .Name u p2] kt pt] (.Tuple [a, b, d] k2 pt2) pos.line env = pure false := by intro _; rfl) :
    VS c (.Assign [.Tuple [.Name y p, .Name z p1, .Name u p2] kt pt] (.Tuple [a, b, d] k2 pt2) pos) (.par [i, j, k] irs bs) := fun X Gi Hi x C => by
  have e1 := C.loc hl hi
  have e2 := C.loc hl2 hj
  have e3 := C.loc hl3 hk
  refine PS.imp (L2.ps_par3 C.calm C.nod (C.ni hi) (C.ni hj) (C.ni hk) (Nat.ne_of_beq_eq_false ne) (Nat.ne_of_beq_eq_false ne2) (Nat.ne_of_beq_eq_false ne3) e1 e2 e3 (ha X Gi Hi x C) (swp3 C.kind e1 e2 e3 nm nm2 nm3 l l2 h1 h2 h3) (hs _)) fun D σ H ⟨G, ρ, R, N, S, hw, kn, kr⟩ => ⟨G, ρ, _, S, hw, fun vs G1 H1 ds as S1 x1 hn r hf pp => ?_⟩
  have st := par_store (is := [i, j, k]) r hn.symm S1 fun a h => ⟨S.ext.none (hf a h), S.noAl (hf a h)⟩
  match vs, hn with
  | [v, w', z'], _ => exact ⟨v, w', z', rfl, kn _ G1 H1 _ st x1.gx pp⟩
/-- a, b = constants: stored from the left -/
theorem s_unp2 {kt k2 : Nat} {pt pt2 : Pos} {t : Tg} (hi : c.N[i]? = some y) (hj : c.N[j]? = some z) (hl : c.loc.contains i = true) (hl2 : c.loc.contains j = true) (nm : (z == y) = false) (hg : VG' c (.Tuple [.Name y p, .Name z p1] kt pt) t) (h : VE c (.Tuple [a, b] k2 pt2) ir) (l : (p1.line == p.line) = true) (h1 : starIn [a, b] = false)
    (h2 : [a, b].all (foldedForSure 8) = true) (hs : ∀ env : Env, swapsWithSole [.Tuple [.Name y p, .Name z p1] kt pt] (.Tuple [a, b] k2 pt2) pos.line env = pure false := by intro _; rfl)
    (hd : ∀ env : Env, (assignEach [.Tuple [.Name y p, .Name z p1] kt pt] env).map (·.2) = [assign (.Tuple [.Name y p, .Name z p1] kt pt) env] := by intro _; rfl) :
    VS c (.Assign [.Tuple [.Name y p, .Name z p1] kt pt] (.Tuple [a, b] k2 pt2) pos) (.unp t ir) := fun X Gi Hi x C =>
  PS.imp (ps_asg (h X Gi Hi x C) (hg X Gi Hi x C) (hs _) (swn2 C.kind (C.loc hl hi) (C.loc hl2 hj) nm l h1 h2) (hd _)) fun D σ H ⟨G, ρ, R, N, S, hw, kn, kr⟩ => ⟨G, ρ, _, S, hw, fun v G1 H1 d S1 x1 r p => ⟨G1, ρ, d, _, S1, r, p, fun σ' ρ' S' _ p' => kn σ' G1 H1 ρ' S' x1.gx p'⟩⟩
theorem s_unp3 {kt k2 : Nat} {pt pt2 : Pos} {t : Tg} (hi : c.N[i]? = some y) (hj : c.N[j]? = some z) (hk : c.N[k]? = some u) (hl : c.loc.contains i = true) (hl2 : c.loc.contains j = true) (hl3 : c.loc.contains k = true) (nm : (z == y) = false) (nm2 : (u == y) = false) (nm3 : (u == z) = false)
    (hg : VG' c (.Tuple [.Name y p, .Name z p1, .Name u p2] kt pt) t) (h : VE c (.Tuple [a, b, d] k2 pt2) ir) (l : (p1.line == p.line) = true) (l2 : (p2.line == p.line) = true) (h1 : starIn [a, b, d] = false)
    (h2 : [a, b, d].all (foldedForSure 8) = true) (hs : ∀ env : Env, swapsWithSole [.Tuple [.Name y p, .Name z p1, .Name u p2] kt pt] (.Tuple [a, b, d] k2 pt2) pos.line env = pure false := by intro _; rfl)
    (hd : ∀ env : Env, (assignEach [.Tuple [.Name y p, .Name z p1, .Name u p2] kt pt] env).map (·.2) = [assign (.Tuple [.Name y p, .Name z p1, .Name u p2] kt pt) env] := by intro _; rfl) :
    VS c (.Assign [.Tuple [.Name y p, .Name z p1, .Name u p2] kt pt] (.Tuple [a, b, d] k2 pt2) pos) (.unp t ir) := fun X Gi Hi x C =>
  PS.imp (ps_asg (h X Gi Hi x C) (hg X Gi Hi x C) (hs _) (swn3 C.kind (C.loc hl hi) (C.loc hl2 hj) (C.loc hl3 hk) nm nm2 nm3 l l2 h1 h2) (hd _)) fun D σ H ⟨G, ρ, R, N, S, hw, kn, kr⟩ => ⟨G, ρ, _, S, hw, fun v G1 H1 d S1 x1 r p => ⟨G1, ρ, d, _, S1, r, p, fun σ' ρ' S' _ p' => kn σ' G1 H1 ρ' S' x1.gx p'⟩⟩
theorem s_rse {m : Str} {k : Nat} (j : Nat) (hj : c.gl[j]? = some y) (hx : ExcC c.M y) : VS c (.Raise (some (.Call (.Name y p) [.Constant (.str m) k p2] [] p3)) none pos) (.rse y) := fun X Gi Hi x C => by
  obtain ⟨g1, g2⟩ := C.gl hj
  have em : c.M = ⟨X.prog, X.w, X.K, X.mg, X.base⟩ := C.m
  rw [em] at hx
  obtain ⟨Ca, h1, h2, h3, h4, h5⟩ := hx
  refine PS.imp (ps_raise C.calm C.tk (pmk_own PySem.F.excBase_ValueError h2 h1 h3 (raises_own h4 h5) g1 g2)) fun D σ H ⟨G, ρ, R, N, S, hw, kn, kr⟩ => ?_
  refine ⟨y, Ca, G, rfl, rfl, ?_, hw, S.gok, S.ext⟩
  rw [em]; exact h1
/-! ### a def keeps its promise -/
def slots0 (n : Nat) (as : List Av) : En := as.map slotOf ++ List.replicate (n - as.length) .un
theorem ArgsR.length {K : PySem.W.Frag} {w : World} {G : Gh} : ∀ {vs : List V} {as : List Av}, ArgsR K w G vs as → vs.length = as.length
  | _, _, .nil => rfl
  | _, _, .cons _ t => congrArg (· + 1) (ArgsR.length t)
theorem start_ok {K : PySem.W.Frag} {w : World} {G : Gh} {H : Hp} {N : List Str} {vs : List V} {as : List Av} (g : GOk G H) (r : ArgsR K w G vs as) : StR K w G H G H (L2.start N vs) (slots0 N.length as) where
  gok := g
  ext := Ext.refl G H
  len := by unfold L2.start slots0; rw [List.length_append, List.length_append, List.length_map, List.length_map, r.length, List.length_replicate, List.length_replicate]
  sl := fun i s e => by
    have key : ∀ {vs : List V} {as : List Av} {m m' : Nat} {i : Nat} {s : Slot}, ArgsR K w G vs as → (as.map slotOf ++ List.replicate m .un)[i]? = some s → SlotR K w H G H (vs.map some ++ List.replicate m' none)[i]? s := by
      intro vs as m m' i s r
      induction r generalizing i with
      | nil =>
        intro e
        simp only [List.map_nil, List.nil_append] at e
        have := List.eq_of_mem_replicate (List.mem_of_getElem? e)
        subst this
        trivial
      | @cons v vs a as h t ih =>
        intro e
        cases i with
        | zero =>
          have e : some (slotOf a) = some s := e
          cases e
          cases h with
          | da r => exact ⟨v, rfl, r⟩
          | rg r => exact ⟨_, rfl, r⟩
          | sc r => exact ⟨_, rfl, r⟩
        | succ i => exact ih e
    exact key r e
  dis := fun i j a b d e hij h1 _ _ _ => by
    exfalso
    have key : ∀ {vs : List V} {as : List Av} {m : Nat} {i : Nat} {d : PyData}, ArgsR K w G vs as → (as.map slotOf ++ List.replicate m .un)[i]? ≠ some (.ow d) := by
      intro vs as m i d r
      induction r generalizing i with
      | nil =>
        intro e
        simp only [List.map_nil, List.nil_append] at e
        have := List.eq_of_mem_replicate (List.mem_of_getElem? e)
        cases this
      | @cons v vs a as h t ih =>
        intro e
        cases i with
        | zero =>
          have e : some (slotOf a) = some (Slot.ow d) := e
          cases h <;> cases e
        | succ i => exact ih e
    exact key r h1
/-- the context of a def's body -/
theorem ctx_of {M : Md} {k : Nat} {N ps : List Str} {vis loc cel : List Nat} {gl : List Str} {scope : Scope} {qual : Str} {f : Addr} {cd : Value} {A : Around} {outer : List Env} {s : Shared} {H : Hp} {E : XK} {G : Gh} {x : Str → Prop}
    (S : FnScope N ps scope) (ok : (VC.ok ⟨M, k, N, vis, loc, cel, gl, scope⟩) = true) (hr : Room k (A.deeper (envOfC qual scope s.heap.objs.size f cd))) (hg : A.guards = some [])
    (hE : ∀ cls d H', EXof M G H x cls d H' → E cls d H') : CtxV ⟨M, k, N, vis, loc, cel, gl, scope⟩ (cxOf (L2.CX M.P M.w) M.P M.w M.K M.mg M.base N qual scope f cd A outer s H E) G H x where
  m := rfl
  N := rfl
  nd := S.nd
  ok := ok
  sc := rfl
  calm := rfl
  room := hr
  guards := hg
  fn := fun _ _ _ _ => rfl
  pass := passes_call (W := fun cls d _ H => E cls d H) (takes_of rfl rfl rfl rfl) fun cls d _ H' h => hE cls d H' h
  own := passes_of rfl
  tk := (takes_of (E := E) rfl rfl rfl rfl).imp fun cls d _ H' h => hE cls d H' h
theorem fnG_of {M : Md} {k : Nat} {y qual : Str} {params : Arguments} {scope : Scope} {f : Addr} {fd : FuncData} {N ps : List Str} {vis loc cel : List Nat} {gl : List Str} {sp : Spec} {ir : Ss} (F : FunD M.K y qual params body scope [] [] f fd) (S : FnScope N ps scope)
    (ok : (VC.ok ⟨M, k, N, vis, loc, cel, gl, scope⟩) = true) (hb : VSs ⟨M, k, N, vis, loc, cel, gl, scope⟩ body ir) (hlen : ∀ as R x, sp as R x → as.length = ps.length)
    (hw : ∀ as R x, sp as R x → wpSs ir x R (slots0 N.length as) fun _ => R (.da .none)) : FnG M (k + 1) f fd ps (spOf M sp) := by
  have hl : ∀ vs H Q E, spOf M sp vs H Q E → vs.length = ps.length := fun vs H Q E ⟨G, as, g, r, h⟩ => by rw [r.length]; exact hlen _ _ _ h
  refine ⟨hl, fun A outer s H args us vs Q E hr hg e0 hbd r hsp => ?_⟩
  obtain ⟨oc, od, dV, kV, doc, pm, an, cdv, ct, osl, rfl, lk, hcd, _, _⟩ := F.ex
  obtain ⟨G, as, g, ra, hsp⟩ := hsp
  have KX : M.K.In s.heap := e0.mod.kin.keeps fun b o e => (e0.bs b o e).1
  refine codeAny_call_function hr.depth (KX _ _ lk) rfl S.co S.gen rfl (PySem.W.codeRec_of KX hcd) (hbd _ _ _ _ (wpAny_newFunctionEnv_cells S.kind (fun z hz => ?_) fun env he s1 en => ?_))
  · rcases S.par z.1 (List.of_mem_zip hz).1 with q | q
    · exact .inl q
    · exact .inr ⟨q, PySem.W.cellsFrom_some _ _ _ (.inl q)⟩
  subst he
  refine ⟨(e0.mod.nolimit.keeps fun b o e => (e0.bs b o e).1).keeps en.toInCall.keep, codeAny_func ?_⟩
  have C := ctx_of (M := M) (k := k) (vis := vis) (loc := loc) (cel := cel) (gl := gl) (qual := qual) (f := f) (cd := cdv) (A := A) (outer := outer) (s := s) (H := H) (E := E) (G := G)
    (x := fun nm => ∀ C G' H', M.mg nm = some (.ref C) → GOk G' H' → Ext G H G' H' → E (.ref C) none H') S ok (hr.deeper _) hg fun cls d H' h => by
      obtain ⟨nm, Ca, G', rfl, rfl, h1, h2, h3, h4⟩ := h
      exact h2 Ca G' H' h1 h3 h4
  have I := inv_start (CX := L2.CX M.P M.w) (E := E) S hr.hd e0 (by rw [ra.length]; exact hlen _ _ _ hsp) r en
  refine wpAny_mono ((hb _ G H _ C).run [] s1 (L2.start N vs) H { nx := fun _ H' => Q .non H', rt := Q } I ⟨G, _, _, _, start_ok g ra, hw _ _ _ hsp, fun σ' G' H' ρ' S' _ q => ?_, fun r' v G' H' g' x' rr q => ?_⟩) (fun fl s' hs => ?_) fun _ _ z => z
  · exact q .non G' H' S'.gok S'.ext (.da .non)
  · exact q v G' H' g' x' rr
  · have fin : ∀ {σ' : L2.St} {H' : Hp} {v : V} {u : Value}, L2.Inv (cxOf (L2.CX M.P M.w) M.P M.w M.K M.mg M.base N qual scope f cdv A outer s H E) [] σ' H' s' → RelV v u → Q v H' → CE outer M.P M.w H s Q u s' :=
      fun {σ' H' v u} J rv q => ⟨v, H', J.os, J.bare, J.base, J.hok, rv, q⟩
    match fl, hs with
    | .ret u, ⟨v, σ', H', J, rv, q⟩ => exact fin J rv q
    | .next, ⟨σ', H', J, q⟩ => exact fin (v := V.non) (u := Value.none) J rfl q
    | .brk, ⟨_, _, _, q⟩ => exact False.elim q
    | .cont, ⟨_, _, _, q⟩ => exact False.elim q
theorem call_of {M : Md} {k : Nat} {y qual : Str} {params : Arguments} {scope : Scope} {f : Addr} {fd : FuncData} {N ps : List Str} {vis loc cel : List Nat} {gl : List Str} {sp : Spec} {ir : Ss} (F : FunD M.K y qual params body scope [] [] f fd) (hm : M.mg y = some (.ref f)) (hbn : Binds M.K fd ps [])
    (S : FnScope N ps scope) (ok : (VC.ok ⟨M, k, N, vis, loc, cel, gl, scope⟩) = true) (hb : VSs ⟨M, k, N, vis, loc, cel, gl, scope⟩ body ir) (hlen : ∀ as R x, sp as R x → as.length = ps.length)
    (hw : ∀ as R x, sp as R x → wpSs ir x R (slots0 N.length as) fun _ => R (.da .none)) : Callable M (k + 1) y sp := ⟨f, fd, ps, hm, F.kp, hbn, fnG_of F S ok hb hlen hw⟩
end
end VL
/-! VO: stores at places; the script's length; types; methods; displays of dicts -/
namespace VL
open PySem PySem.Spec PyProof.Rows L2
section
variable {K : PySem.W.Frag} {w : World} {G : Gh} {H : Hp} {κ : Type} [DecidableEq κ]
theorem put_map (f : κ → PyData) (hf : ∀ a b, PyData.eqv (f a) (f b) = decide (a = b)) {v : V} {d : PyData} (r : Rp K w G v d) (k : κ) : ∀ {kvs : List (κ × V)} {ds : List PyData}, RpA K w G (kvs.map (·.2)) ds →
    ∃ ds', RpA K w G ((kvs.map fun kv => if kv.1 = k then (kv.1, v) else kv).map (·.2)) ds' ∧ (((kvs.map fun p => f p.1).zip ds).map fun p => if PyData.eqv p.1 (f k) = true then (p.1, d) else p) = ((kvs.map fun kv => if kv.1 = k then (kv.1, v) else kv).map fun p => f p.1).zip ds'
  | [], _, .nil => ⟨[], .nil, rfl⟩
  | p :: kvs, _, .cons (d := d0) h t => by
    obtain ⟨ds', h1, h2⟩ := put_map f hf r k t
    by_cases e : p.1 = k
    · refine ⟨d :: ds', ?_, ?_⟩
      · simp only [List.map_cons, if_pos e]; exact .cons r h1
      · simp only [List.map_cons, List.zip_cons_cons, if_pos e, h2, hf, e, decide_true, if_true]
    · refine ⟨d0 :: ds', ?_, ?_⟩
      · simp only [List.map_cons, if_neg e]; exact .cons h h1
      · simp only [List.map_cons, List.zip_cons_cons, if_neg e, h2, hf, decide_eq_false e, Bool.false_eq_true, if_false]
theorem any_zip (f : κ → PyData) (hf : ∀ a b, PyData.eqv (f a) (f b) = decide (a = b)) (k : κ) : ∀ {kvs : List (κ × V)} {ds : List PyData}, kvs.length = ds.length →
    (((kvs.map fun p => f p.1).zip ds).any fun p => PyData.eqv p.1 (f k)) = kvs.any fun kv => decide (kv.1 = k)
  | [], _, _ => rfl
  | p :: kvs, [], h => by cases h
  | p :: kvs, d :: ds, h => by
    simp only [List.map_cons, List.zip_cons_cons, List.any_cons, hf]
    rw [any_zip f hf k (Nat.succ.inj h)]
theorem put_zip (f : κ → PyData) (hf : ∀ a b, PyData.eqv (f a) (f b) = decide (a = b)) {v : V} {d : PyData} (r : Rp K w G v d) (k : κ) {kvs : List (κ × V)} {ds : List PyData} (h : RpA K w G (kvs.map (·.2)) ds) :
    ∃ ds', RpA K w G ((putK kvs k v).map (·.2)) ds' ∧ putD ((kvs.map fun p => f p.1).zip ds) (f k) d = ((putK kvs k v).map fun p => f p.1).zip ds' := by
  have hl : kvs.length = ds.length := by have := h.length; simpa using this
  unfold putD putK
  rw [any_zip f hf k hl]
  by_cases e : (kvs.any fun kv => decide (kv.1 = k)) = true
  · rw [if_pos e, if_pos e]
    exact put_map f hf r k h
  · rw [if_neg e, if_neg e]
    refine ⟨ds ++ [d], ?_, ?_⟩
    · rw [List.map_append]; exact h.append (.one r)
    · rw [List.map_append, List.zip_append (by simpa using hl)]; rfl
end
/-- o[i] = v on a list, a dict -/
def rPut : TSet := fun o i v H Q => ∃ a, o = .ref a ∧ ((∃ xs k j, i = .int k ∧ H a = some (.lst xs) ∧ ixN xs.length k = some j ∧ Q (upd H a (.lst (xs.set j v)))) ∨ (∃ H', DPut H a i v H' ∧ Q H') ∨
  (∃ ks b, H a = some (.dK []) ∧ i = .ref b ∧ H b = some (.tup (ks.map kV)) ∧ Q (upd H a (.dT [(ks, v)]))) ∨ (∃ k, H a = some (.dT []) ∧ i = kV k ∧ Q (upd H a (.dK [(k, v)]))))
section
variable {X : Cx} {pins : List (Addr × Obj)} {σ : L2.St} {H : Hp} {s : Shared} {a : Addr}
theorem view_t (I : L2.Inv X pins σ H s) (h : H a = some (.dK [])) : L2.Inv X pins σ (upd H a (.dT [])) s := by
  obtain ⟨z, hd, vs, rel, dd⟩ := dk_of I.hok h
  cases rel
  have dd' := empty_t dd
  obtain ⟨ob, es, ep, h1, _⟩ := id dd
  have new : ObjOk X.prog X.w (upd H a (.dT [])) s.heap a (.dT []) := by
    obtain ⟨ob, es, ep, q1, q2, q3, q4, q5, q6⟩ := dd'
    exact ⟨Nat.zero_le _, hd, [], .nil, ob, es, ep, q1, q2, q3, q4, List.nodup_nil⟩
  exact I.write (x := a) (e := a) (h' := s.heap) (t' := s.toks) (by rw [h]; trivial) (.inl rfl) (fun _ _ _ q => q) ⟨ob, h1⟩ new
theorem view_k (I : L2.Inv X pins σ H s) (h : H a = some (.dT [])) : L2.Inv X pins σ (upd H a (.dK [])) s := by
  obtain ⟨z, hd, vs, rel, dd⟩ := dt_of I.hok h
  cases rel
  have dd' := empty_k dd
  obtain ⟨ob, es, ep, h1, _⟩ := id dd
  have new : ObjOk X.prog X.w (upd H a (.dK [])) s.heap a (.dK []) := ⟨Nat.zero_le _, hd, [], .nil, dd'⟩
  exact I.write (x := a) (e := a) (h' := s.heap) (t' := s.toks) (by rw [h]; trivial) (.inl rfl) (fun _ _ _ q => q) ⟨ob, h1⟩ new
theorem set_put (hu : X.A.units + 1 < cLine) : PSet X rPut := by
  intro pins s σ H o i v ov iv u Q I ro ri rv h
  obtain ⟨a, rfl, h | ⟨H', g, q⟩ | ⟨ks, b, e, rfl, eb, q⟩ | ⟨k, e, rfl, q⟩⟩ := h
  · obtain ⟨xs, k, j, rfl, hp, hj, q⟩ := h
    exact set_list pins s σ H _ _ v ov iv u Q I ro ri rv ⟨a, xs, k, j, rfl, rfl, hp, hj, q⟩
  · obtain rfl : ov = Value.ref a := ro
    exact d_setItem hu I g ri rv fun s4 I4 => ⟨H', I4, q⟩
  · obtain rfl : ov = Value.ref a := ro
    have hb : b ≠ a := fun z => by rw [z, e] at eb; cases eb
    refine d_setItem hu (view_t I e) (DPut.t upd_same (by rw [upd_ne hb]; exact eb) (by rw [sizeLine_eq]; decide)) ri rv fun s4 I4 => ⟨_, I4, ?_⟩
    rw [upd_upd]
    exact q
  · obtain rfl : ov = Value.ref a := ro
    refine d_setItem hu (view_k I e) (DPut.k upd_same (by rw [sizeLine_eq]; decide)) ri rv fun s4 I4 => ⟨_, I4, ?_⟩
    rw [upd_upd]
    exact q
end
/-- a key: a number, a text, or a tuple that was made here -/
def KyR (K : PySem.W.Frag) (w : World) (G : Gh) (v : V) (d : PyData) : Prop := Rp K w G v d ∧ ∀ ds, d = .tuple ds → ∃ a xs, v = .ref a ∧ G a = some (.fz (.tup xs)) ∧ RpA K w G xs ds
theorem keys_of {K : PySem.W.Frag} {w : World} {G : Gh} : ∀ {xs : List V} {ks : List PyData}, RpA K w G xs ks → (ks.all fun k => match k with | .int _ => true | .str _ => true | _ => false) = true → ∃ κs : List Key, ks = κs.map keyD ∧ xs = κs.map kV
  | _, _, .nil, _ => ⟨[], rfl, rfl⟩
  | _, _, .cons (d := d) h t, e => by
    simp only [List.all_cons, Bool.and_eq_true] at e
    obtain ⟨κs, e1, e2⟩ := keys_of t e.2
    cases h with
    | int i => exact ⟨.inl i :: κs, by rw [e1]; rfl, by rw [e2]; rfl⟩
    | str z _ => exact ⟨.inr z :: κs, by rw [e1]; rfl, by rw [e2]; rfl⟩
    | _ => simp at e
section
variable {K : PySem.W.Frag} {w : World} {Gi G : Gh} {Hi H : Hp} {σ : L2.St} {ρ : En} {i : Nat} {a : Addr} {d dk : PyData} {v y : V}
/-- the slot's own object is changed -/
theorem StR.own (S : StR K w Gi Hi G H σ ρ) {d d' : PyData} {o : HO} (e : ρ[i]? = some (.ow d)) (e1 : σ[i]? = some (some (.ref a))) (o' : Own K w G (upd H a o) a d') : StR K w Gi Hi G (upd H a o) σ (ρ.set i (.ow d')) := by
  obtain ⟨a', e2, hi, hg, ow⟩ := S.ow e
  rw [e1] at e2
  cases e2
  have na : NoAl (σ.set i none) (ρ.set i .un) a := S.noAlO e e1
  have S2 := (S.un (i := i) none).put (o := o) ow.there hi hg na
  have S3 := S2.setO (i := i) (d := d') hi hg o' (by rw [List.set_set, List.set_set]; exact na)
  rw [List.set_set, List.set_set] at S3
  have e3 : σ.set i (some (.ref a)) = σ := by
    refine List.ext_getElem? fun j => ?_
    by_cases hj : i = j
    · subst hj
      rw [List.getElem?_set_self (List.getElem?_eq_some_iff.mp e1).1, e1]
    · rw [List.getElem?_set_ne hj]
  rw [e3] at S3
  exact S3
theorem sameK_l {κ : Type} {f : κ → PyData} {kvs : List (κ × V)} {ds : List PyData} {k : PyData} (hl : kvs.length = ds.length) (h : (((kvs.map fun p => f p.1).zip ds).all fun p => sameK p.1 k) = true) : ∀ p ∈ kvs, sameK (f p.1) k = true := by
  intro p hp
  obtain ⟨n, hn, e⟩ := List.getElem_of_mem hp
  have := List.all_eq_true.mp h ((f p.1), ds[n]'(by omega)) (by
    rw [List.mem_iff_getElem]
    exact ⟨n, by simp; omega, by simp [e]⟩)
  exact this
theorem put_end {N : En → Prop} {Q : Hp → Prop} {bb : Bool} (S : StR K w Gi Hi G H σ ρ) (e1 : σ[i]? = some (some (.ref a))) (rv : Rp K w G v d) (rk : Rp K w G y dk) (ky : bb = true → KyR K w G y dk)
    (h : putB bb i d ρ N dk) (kn : ∀ H' ρ', StR K w Gi Hi G H' σ ρ' → N ρ' → Q H') : rPut (.ref a) y v H Q := by
  unfold putB at h
  split at h
  · rename_i ds q
    obtain ⟨a', e2, hi, hg, o⟩ := S.ow q
    rw [e1] at e2
    cases e2
    cases o with
    | @lst xs _ hx l r =>
      obtain ⟨z, rfl, h⟩ := asI_int h
      obtain ⟨j, hj, h⟩ := oP_some h
      cases rk
      exact ⟨a, rfl, .inl ⟨xs, z, j, rfl, hx, by rw [r.length]; exact hj, kn _ _ (S.own q e1 (.lst upd_same (by rw [List.length_set]; exact l) (r.set rv j))) h⟩⟩
  · rename_i kvs q
    obtain ⟨a', e2, hi, hg, o⟩ := S.ow q
    rw [e1] at e2
    cases e2
    obtain ⟨hbb, hk, hlen, h⟩ := h
    unfold kyO at hk
    rw [Bool.and_eq_true] at hk
    obtain ⟨hk1, hk2⟩ := hk
    cases o with
    | @dK kvs' ds hx l r =>
      have hl : kvs'.length = ds.length := by have := r.length; simpa using this
      have hl2 : kvs'.length < lim := by rw [List.length_zip, List.length_map, ← hl, Nat.min_self] at hlen; exact hlen
      have same := sameK_l (f := keyD) hl hk2
      have flat : ∀ k : Key, dk = keyD k → y = kV k → rPut (.ref a) y v H Q := fun k ek ey => by
        subst ek ey
        obtain ⟨ds', r1, e3⟩ := put_zip keyD eqv_keyD rv k r
        rw [e3] at h
        exact ⟨a, rfl, .inr (.inl ⟨_, DPut.k hx (lim_lt hl2), kn _ _ (S.own q e1 (.dK upd_same (by have := length_putK kvs' k v; omega) r1)) h⟩)⟩
      cases dk with
      | int z => cases rk; exact flat (.inl z) rfl rfl
      | str z => cases rk; exact flat (.inr z) rfl rfl
      | tuple ks =>
        obtain ⟨b, xs, rfl, hb, rx⟩ := (ky (by simpa [noTup] using hbb)).2 ks rfl
        obtain ⟨κs, e4, e5⟩ := keys_of rx hk1
        subst e4 e5
        have : kvs' = [] := by
          cases kvs' with
          | nil => rfl
          | cons p _ =>
            have := same p List.mem_cons_self
            obtain ⟨k0, _⟩ := p
            cases k0 <;> simp [keyD, sameK] at this
        subst this
        cases r
        exact ⟨a, rfl, .inr (.inr (.inl ⟨κs, b, hx, rfl, S.gok.fz _ _ hb, kn _ _ (S.own q e1 (.dT (kvs := [(κs, v)]) (ds := [d]) upd_same (show 1 ≤ lim by decide) (.one rv))) h⟩))⟩
      | _ => simp [okK] at hk1
    | @dT kvs' ds hx l r =>
      have hl : kvs'.length = ds.length := by have := r.length; simpa using this
      have hl2 : kvs'.length < lim := by rw [List.length_zip, List.length_map, ← hl, Nat.min_self] at hlen; exact hlen
      have same := sameK_l (f := fun k => PyData.tuple (k.map keyD)) hl hk2
      have flat : ∀ k : Key, dk = keyD k → y = kV k → rPut (.ref a) y v H Q := fun k ek ey => by
        subst ek ey
        have : kvs' = [] := by
          cases kvs' with
          | nil => rfl
          | cons p _ =>
            have := same p List.mem_cons_self
            cases k <;> simp [keyD, sameK] at this
        subst this
        cases r
        exact ⟨a, rfl, .inr (.inr (.inr ⟨k, hx, rfl, kn _ _ (S.own q e1 (.dK (kvs := [(k, v)]) (ds := [d]) upd_same (show 1 ≤ lim by decide) (.one rv))) h⟩))⟩
      cases dk with
      | int z => cases rk; exact flat (.inl z) rfl rfl
      | str z => cases rk; exact flat (.inr z) rfl rfl
      | tuple ks =>
        obtain ⟨b, xs, rfl, hb, rx⟩ := (ky (by simpa [noTup] using hbb)).2 ks rfl
        obtain ⟨κs, e4, e5⟩ := keys_of rx hk1
        subst e4 e5
        obtain ⟨ds', r1, e3⟩ := put_zip (fun k : List Key => PyData.tuple (k.map keyD)) eqv_keyT rv κs r
        rw [e3] at h
        exact ⟨a, rfl, .inr (.inl ⟨_, DPut.t hx (S.gok.fz _ _ hb) (lim_lt hl2), kn _ _ (S.own q e1 (.dT upd_same (by have := length_putK kvs' κs v; omega) r1)) h⟩)⟩
      | _ => simp [okK] at hk1
  · exact h.elim
end
end VL
/-! VP: rules for stores at places, the script, types, methods, displays of dicts, lists made anew -/
namespace VL
open PySem PySem.Spec PyProof.Rows L2
section
variable {c : VC} {e a b d tg kx : Expr} {es : List Expr} {ir ia ib id' ik : Ex} {irs lo hi : Exs} {pos p p1 p2 p3 p4 : Pos} {n m : Nat} {st : Stmt} {ss body : List Stmt} {is : VL.S} {iss iss2 : Ss} {y z u : Str} {i j k : Nat} {bb : Bool}
def tVk (K : PySem.W.Frag) (w : World) (Gi : Gh) (Hi : Hp) (bb : Bool) (W : WE') : TE := fun σ H Q => ∃ G ρ P, StR K w Gi Hi G H σ ρ ∧ W ρ P ∧
  ∀ v G' H' d, StR K w Gi Hi G' H' σ ρ → Ext G H G' H' → Rp K w G' v d → (bb = true → KyR K w G' v d) → P d → Q v H'
def VK' (c : VC) (bb : Bool) (e : Expr) (ir : Ex) : Prop := ∀ X Gi Hi x, CtxV c X Gi Hi x → PE X e (tVk X.K X.w Gi Hi bb (wpE ir x))
theorem k_of (h : VE c e ir) : VK' c false e ir := fun X Gi Hi x C => PE.imp (h X Gi Hi x C) fun σ H Q ⟨G, ρ, P, S, hw, k⟩ => ⟨G, ρ, P, S, hw, fun v G' H' d S' x' r p => k v G' H' d S' x' r (fun q => by cases q) p⟩
theorem k_tup {j : Nat} (h : VEs c n es irs) (hn : Nat.ble n 1000 = true := by rfl) : VK' c true (.Tuple es j pos) (.tup irs) := fun X Gi Hi x C =>
  PE.imp (pe_tup (h X Gi Hi x C)) fun σ H Q ⟨G, ρ, P, S, hw, k⟩ => ⟨G, ρ, _, S, hw, fun vs G1 H1 ds S1 x1 hl r1 p => by
    have hb : vs.length ≤ lim := by rw [hl]; exact Nat.le_trans (Nat.le_of_ble_eq_true hn) (by decide)
    refine ⟨lim_line hb, fun q hq => ?_⟩
    have x2 := Ext.new S1.gok (o := .tup vs) hq
    have g2 := S1.gok.new (o := .tup vs) hq
    have rr : Rp X.K X.w (updG G1 q (.fz (.tup vs))) (.ref q) (.tuple ds) := .tup (.inl updG_same) hb (r1.mono x2.g)
    exact k (.ref q) _ _ (.tuple ds) (S1.step x2 g2) (x1.trans x2) rr (fun _ => ⟨rr, fun ds' e => by cases e; exact ⟨q, vs, rfl, updG_same, r1.mono x2.g⟩⟩) p⟩
def PlainSet (o i : Expr) (p : Pos) : Prop := ∀ (env : Env) v, assign (.Subscript o i p) env v = (do
  let ov ← holding [v] (eval o env)
  let iv ← holding [v, ov] (eval i env)
  standAt p
  holding [v, ov, iv] (setItem ov iv v)
  release [v, ov, iv] [])
theorem pg_put {X : Cx} {Gi : Gh} {Hi : Hp} {x : Str → Prop} (C : CtxV c X Gi Hi x) (hi : c.N[i]? = some y) (hv : c.vis.contains i = true) (hk : VK' c bb kx ik) (ha : PlainSet (.Name y p) kx p2) :
    PG X (.Subscript (.Name y p) kx p2) (fun v σ H Q => ∃ G ρ d N, StR X.K X.w Gi Hi G H σ ρ ∧ Rp X.K X.w G v d ∧ putP bb i (wpE ik x ρ) d ρ N ∧ ∀ G' H' ρ', StR X.K X.w Gi Hi G' H' σ ρ' → GX G G' → N ρ' → Q σ H') := by
  obtain ⟨h1, h2, h3⟩ := C.vis hv hi
  refine PG.imp (pg_sub (pe_var (C.ni hi) h1 h2 h3) (hk X Gi Hi x C) (set_put (by have := C.un; omega)) (ha _)) fun v σ H Q ⟨G, ρ, d, N, S, rv, ⟨ho, hp⟩, kn⟩ => ?_
  unfold isOw at ho
  split at ho
  · rename_i d0 q
    obtain ⟨a, e1, _, _, _⟩ := S.ow q
    exact ⟨_, e1, G, ρ, _, S, hp, fun kv G1 H1 dk S1 x1 rk ky hb => put_end S1 e1 (rv.mono x1.g) rk ky hb fun H' ρ' S' n => kn G1 H' ρ' S' x1.gx n⟩
  · exact ho.elim
theorem s_put (hi : c.N[i]? = some y) (hv : c.vis.contains i = true) (hk : VK' c bb kx ik) (h : VE c e ir) (ha : PlainSet (.Name y p) kx p2 := by intro _ _; rfl) (hs : ∀ env : Env, swapsWithSole [.Subscript (.Name y p) kx p2] e pos.line env = pure false := by intro _; rfl)
    (hw : ∀ env : Env, swappedStores [.Subscript (.Name y p) kx p2] e env = pure none := by intro _; rfl) (h1 : ∀ env : Env, (assignEach [.Subscript (.Name y p) kx p2] env).map (·.2) = [assign (.Subscript (.Name y p) kx p2) env] := by intro _; rfl) :
    VS c (.Assign [.Subscript (.Name y p) kx p2] e pos) (.put i bb ik ir) := fun X Gi Hi x C =>
  PS.imp (ps_asg (h X Gi Hi x C) (pg_put C hi hv hk ha) (hs _) (hw _) (h1 _)) fun D σ H ⟨G, ρ, R, N, S, hw, kn, kr⟩ => ⟨G, ρ, _, S, hw, fun v G1 H1 d S1 x1 r pp => ⟨G1, ρ, d, N, S1, r, pp, fun G' H' ρ' S' gx n => kn σ G' H' ρ' S' (x1.gx.trans gx) n⟩⟩
/-- several places -/
def VPt (c : VC) (es : List Expr) (ts : Pts) (m : Nat) : Prop := ∀ X Gi Hi x, CtxV c X Gi Hi x → PGs X es fun vs σ H Q => ∃ G ρ ds N, StR X.K X.w Gi Hi G H σ ρ ∧ RpA X.K X.w G vs ds ∧ vs.length = m ∧ wpPts ts x ds ρ N ∧ ∀ G' H' ρ', StR X.K X.w Gi Hi G' H' σ ρ' → GX G G' → N ρ' → Q σ H'
theorem pt_nil : VPt c [] .nil 0 := fun X Gi Hi x C => PGs.imp pgs_nil fun vs σ H Q ⟨G, ρ, ds, N, S, r, hl, hw, kn⟩ => by
  cases r with
  | nil => exact ⟨rfl, kn G H ρ S (GX.refl _) hw⟩
  | cons _ _ => cases hl
theorem pt_cons {ts : Pts} (hi : c.N[i]? = some y) (hv : c.vis.contains i = true) (hk : VK' c false kx ik) (ht : VPt c es ts m) (ha : PlainSet (.Name y p) kx p2 := by intro _ _; rfl)
    (hs : ∀ env : Env, (assignEach (.Subscript (.Name y p) kx p2 :: es) env).map (·.2) = assign (.Subscript (.Name y p) kx p2) env :: (assignEach es env).map (·.2) := by intro _; rfl) : VPt c (.Subscript (.Name y p) kx p2 :: es) (.cons i ik ts) (m + 1) := fun X Gi Hi x C =>
  PGs.imp (pgs_cons (pg_put C hi hv hk ha) (ht X Gi Hi x C) (hs _)) fun vs σ H Q ⟨G, ρ, ds, N, S, r, hl, hw, kn⟩ => by
    cases r with
    | nil => cases hl
    | @cons v vs d ds r rr => exact ⟨v, vs, rfl, G, ρ, d, _, S, r, hw, fun G1 H1 ρ1 S1 g1 n1 => ⟨G1, ρ1, ds, N, S1, rr.mono g1, Nat.succ.inj hl, n1, fun G' H' ρ' S' gx n => kn G' H' ρ' S' (g1.trans gx) n⟩⟩
/-- x[i], y[j] = a, b -/
theorem s_pts {ts : Pts} {vs : List Expr} {j1 j2 : Nat} (ht : VPt c es ts n) (h : VEs c n vs irs) (hn : Nat.ble n 1000 = true := by rfl) (hlen : ∀ env : Env, (assignEach es env).length = n := by intro _; rfl) (hst : ∀ env : Env, (assignEach es env).findIdx? (·.1) = none := by intro _; rfl)
    (hs : ∀ env : Env, swapsWithSole [.Tuple es j1 p1] (.Tuple vs j2 p2) pos.line env = pure false := by intro _; rfl) (hw : ∀ env : Env, env.scope.kind = .function → swappedStores [.Tuple es j1 p1] (.Tuple vs j2 p2) env = pure none)
    (h1 : ∀ env : Env, (assignEach [.Tuple es j1 p1] env).map (·.2) = [assign (.Tuple es j1 p1) env] := by intro _; rfl) : VS c (.Assign [.Tuple es j1 p1] (.Tuple vs j2 p2) pos) (.pts ts irs) := fun X Gi Hi x C =>
  PS.imp (ps_asg (pe_tup (h X Gi Hi x C)) (pg_tup C.calm (ht X Gi Hi x C) (hlen _) (hst _)) (hs _) (hw _ C.kind) (h1 _)) fun D σ H ⟨G, ρ, R, N, S, hw, kn, kr⟩ => ⟨G, ρ, _, S, hw, fun vs G1 H1 ds S1 x1 hl r1 pp => by
    have hb : vs.length ≤ lim := by rw [hl]; exact Nat.le_trans (Nat.le_of_ble_eq_true hn) (by decide)
    refine ⟨lim_line hb, fun q hq => ?_⟩
    have x2 := Ext.new S1.gok (o := .tup vs) hq
    have S2 := S1.step x2 (S1.gok.new (o := .tup vs) hq)
    exact ⟨q, vs, rfl, .inl (.inl upd_same), hl, _, ρ, ds, N, S2, r1.mono x2.g, hl, pp, fun G' H' ρ' S' gx n => kn σ G' H' ρ' S' ((x1.gx.trans x2.gx).trans gx) n⟩⟩
theorem swns2 {env : Env} {o1 o2 k1 k2 a b : Expr} {q1 q2 p1 p2 : Pos} {j1 j2 : Nat} : swappedStores [.Tuple [.Subscript o1 k1 q1, .Subscript o2 k2 q2] j1 p1] (.Tuple [a, b] j2 p2) env = pure none := by
  unfold swappedStores
  simp
theorem swns3 {env : Env} {o1 o2 o3 k1 k2 k3 a b d : Expr} {q1 q2 q3 p1 p2 : Pos} {j1 j2 : Nat} : swappedStores [.Tuple [.Subscript o1 k1 q1, .Subscript o2 k2 q2, .Subscript o3 k3 q3] j1 p1] (.Tuple [a, b, d] j2 p2) env = pure none := by
  unfold swappedStores
  simp

/-! ### the script's length -/
theorem e_lsc (hf : Fre c "len") (hi : c.N[i]? = some y) (hv : c.vis.contains i = true) (he : ∀ env : Env, starEach [.Name y p1] env = (false, eval (.Name y p1) env) :: starEach [] env := by intro _; rfl) : VE c (.Call (.Name "len" p) [.Name y p1] [] pos) (.lsc i) := fun X Gi Hi x C => by
  obtain ⟨j, hj, hm⟩ := hf
  obtain ⟨g1, g2⟩ := C.gl hj
  obtain ⟨h1, h2, h3⟩ := C.vis hv hi
  refine PE.imp (pe_callB call_len g1 (by rw [C.mg]; exact hm) boot_len (pa_cons (pe_var (C.ni hi) h1 h2 h3) pa_nil (he _)) (by decide) g2 (he _) rfl) fun σ H Q ⟨G, ρ, P, S, hw, k⟩ => ?_
  have hw : rdS ρ i fun ns => P (.int (ns.length : Nat)) := hw
  unfold rdS at hw
  split at hw
  · rename_i ns q
    obtain ⟨a, e1, gs⟩ := S.scA q
    refine ⟨_, e1, _, (ns.map V.int).length, rfl, Or.inl ⟨_, gs.sq S.gok, rfl⟩, k (.int ((ns.map V.int).length : Nat)) G H (.int (ns.length : Nat)) S (Ext.refl G H) ?_ hw⟩
    rw [List.length_map]
    exact .int _
  · exact hw.elim

/-! ### isinstance with several types -/
def VTy (c : VC) (es : List Expr) (ts : List Ty) : Prop := ∀ X Gi Hi x, CtxV c X Gi Hi x → PA X es fun σ H Q => Q (ts.map fun t => V.ty t.nm) H
theorem ty_nil : VTy c [] [] := fun X Gi Hi x C => PA.imp pa_nil fun σ H Q h => h
theorem ty_cons {ts : List Ty} (t : Ty) (ht : Fre c (Str.ofString t.nm)) (h : VTy c es ts) (hs : ∀ env : Env, starEach (.Name (Str.ofString t.nm) p :: es) env = (false, eval (.Name (Str.ofString t.nm) p) env) :: starEach es env := by intro _; rfl) :
    VTy c (.Name (Str.ofString t.nm) p :: es) (t :: ts) := fun X Gi Hi x C => PA.imp (pa_cons (pe_ty C t ht) (h X Gi Hi x C) (hs _)) fun σ H Q h => h
theorem cls_tys : ∀ ts : List Ty, Paired ClsV (ts.map fun t => V.ty t.nm) (ts.map fun t => Value.type t.nm)
  | [] => .nil
  | t :: ts => .cons (.ty _) (cls_tys ts)
theorem e_isiT {ts : List Ty} {j0 : Nat} (hf : Fre c "isinstance") (ht : VTy c es ts) (hn : Nat.ble ts.length 1000 = true := by rfl) (ha : VB c a ia)
    (he : ∀ env : Env, starEach [a, .Tuple es j0 p1] env = (false, eval a env) :: starEach [.Tuple es j0 p1] env := by intro _; rfl) (he2 : ∀ env : Env, starEach [.Tuple es j0 p1] env = (false, eval (.Tuple es j0 p1) env) :: starEach [] env := by intro _; rfl)
    (hpl : ∀ env : Env, (backTo pos (starEach [.Tuple es j0 p1] env)).any (·.1) = false := by intro _; rfl) : VE c (.Call (.Name "isinstance" p) [a, .Tuple es j0 p1] [] pos) (.isi ts ia) := fun X Gi Hi x C => by
  obtain ⟨j, hj, hm⟩ := hf
  obtain ⟨g1, g2⟩ := C.gl hj
  refine PE.imp (pe_callB call_isiT g1 (by rw [C.mg]; exact hm) boot_isinstance (pa_cons (ha X Gi Hi x C) (pa_cons (pe_tup (ht X Gi Hi x C)) pa_nil (he2 _)) (he _)) (by decide) g2 (he _) (hpl _)) fun σ H Q ⟨G, ρ, P, S, hw, k⟩ => ⟨G, ρ, _, S, hw, fun v G1 H1 da S1 x1 r1 pp => ?_⟩
  refine ⟨lim_line (Nat.le_trans (by rw [List.length_map]; exact Nat.le_of_ble_eq_true hn) (by decide)), fun q hq => ?_⟩
  have x2 := Ext.new S1.gok (o := .tup (ts.map fun t => V.ty t.nm)) hq
  have g2 := S1.gok.new (o := .tup (ts.map fun t => V.ty t.nm)) hq
  exact ⟨v, q, _, .type (tyD da), _, isD ts da, rfl, upd_same, cls_tys ts, (r1.ext x2).ty g2, kits_ok X.K da ts, k _ _ _ (.bool _) (S1.step x2 g2) (x1.trans x2) (.bl _) pp⟩
end
end VL
/-! VQ: displays of dicts, lists made anew -/
namespace VL
open PySem PySem.Spec PyProof.Rows L2
section
variable {c : VC} {e a b d tg kx : Expr} {es : List Expr} {ir ia ib id' ik : Ex} {irs lo hi : Exs} {pos p p1 p2 p3 p4 : Pos} {n m : Nat} {st : Stmt} {ss body : List Stmt} {is : VL.S} {iss iss2 : Ss} {y z u : Str} {i j k : Nat} {bb : Bool}
def kcs : List Key → Exs
  | [] => .nil
  | k :: ks => .cons (.cst (keyD k)) (kcs ks)
theorem wp_kcs : ∀ (ks : List Key) (x : Str → Prop) (ρ : En) (P : List PyData → Prop), wpEs (kcs ks) x ρ P → P (ks.map keyD)
  | [], x, ρ, P, h => h
  | k :: ks, x, ρ, P, h => wp_kcs ks x ρ (fun ds => P (keyD k :: ds)) h
def VD (c : VC) (pos : Pos) (ks : List Key) (keys : List (Option Expr)) (vals : List Expr) (irs : Exs) : Prop := ∀ X Gi Hi x, CtxV c X Gi Hi x → ∃ trs, PPs X pos keys vals trs ∧
  ∀ σ H (Q : List (V × V) → Hp → Prop), (∃ G ρ P, StR X.K X.w Gi Hi G H σ ρ ∧ wpEs irs x ρ P ∧ ∀ vs G' H' ds, StR X.K X.w Gi Hi G' H' σ ρ → Ext G H G' H' → vs.length = ks.length → RpA X.K X.w G' vs ds → P ds → Q ((ks.map kV).zip vs) H') → tPairs trs σ H Q
theorem vd_nil : VD c pos [] [] [] .nil := fun X Gi Hi x C => ⟨[], pps_nil, fun σ H Q ⟨G, ρ, P, S, hw, k⟩ => k [] G H [] S (Ext.refl _ _) rfl .nil hw⟩
theorem vd_cons {key : Expr} {keys : List (Option Expr)} {ks : List Key} (k : Key) (hk : ∀ X : Cx, PE X key (tC (kV k))) (h : VE c e ir) (t : VD c pos ks keys es irs) : VD c pos (k :: ks) (some key :: keys) (e :: es) (.cons ir irs) := fun X Gi Hi x C => by
  obtain ⟨trs, hp, ht⟩ := t X Gi Hi x C
  refine ⟨_, pps_cons (hk X) (h X Gi Hi x C) hp, fun σ H Q ⟨G, ρ, P, S, hw, kk⟩ => ?_⟩
  exact ⟨G, ρ, _, S, hw, fun v G1 H1 d S1 x1 r hw1 => ht σ H1 _ ⟨G1, ρ, _, S1, hw1, fun vs G2 H2 ds S2 x2 hl r2 pp => kk (v :: vs) G2 H2 (d :: ds) S2 (x1.trans x2) (by rw [List.length_cons, hl]; rfl) (.cons (r.mono x2.g) r2) pp⟩⟩
theorem kd_str {z : Str} {jj : Nat} : ∀ X : Cx, PE X (.Constant (.str z) jj p) (tC (kV (.inr z))) := fun _ => pe_str
theorem kd_int {z : Int} {jj : Nat} : ∀ X : Cx, PE X (.Constant (.int z) jj p) (tC (kV (.inl z))) := fun _ => pe_int
theorem merge_new : ∀ (more acc : List (Key × V)), (more.map (·.1)).Nodup → (∀ p ∈ acc, ∀ q ∈ more, p.1 ≠ q.1) → mergeK acc more = acc ++ more
  | [], acc, _, _ => by simp [mergeK]
  | q :: r, acc, hn, hd => by
    have hn' : q.1 ∉ r.map (·.1) ∧ (r.map (·.1)).Nodup := by simpa using hn
    have hv : valV acc q.1 = none := by
      cases z : valV acc q.1 with
      | none => rfl
      | some v =>
        unfold valV at z
        obtain ⟨p, h1, h2⟩ := Option.map_eq_some_iff.mp z
        have h3 := List.find?_some h1
        exact absurd (by simpa using h3) (hd p (List.mem_of_find?_eq_some h1) q List.mem_cons_self)
    show mergeK (putK acc q.1 q.2) r = _
    rw [putK_new q.2 hv, merge_new r (acc ++ [(q.1, q.2)]) hn'.2 fun p hp s hs => ?_]
    · simp
    · rcases List.mem_append.mp hp with h | h
      · exact hd p h s (List.mem_cons_of_mem _ hs)
      · have : p = (q.1, q.2) := by simpa using h
        subst this
        exact fun z => hn'.1 (List.mem_map.mpr ⟨s, hs, z.symm⟩)
theorem f_dis {keys : List (Option Expr)} (ks : List Key) (h : VD c pos ks keys es irs) (hall : keys.all (·.isSome) = true := by rfl) (hl : keys.length = es.length := by rfl) (hl2 : keys.length = ks.length := by rfl) (h0 : keys.isEmpty = false := by rfl) (h15 : Nat.ble keys.length 15 = true := by rfl)
    (hnd : ks.Nodup) : VF c (.Dict keys es pos) (.dis (kcs ks) irs) := fun X Gi Hi x C => by
  obtain ⟨trs, hp, ht⟩ := h X Gi Hi x C
  refine PE.imp (pe_disp hp hall hl (fun z => by rw [z] at h0; cases h0) (Nat.le_of_ble_eq_true h15)) fun σ H Q ⟨G, ρ, P, S, hw, k⟩ => fun q hq => ?_
  have hw' := wp_kcs ks x ρ _ hw
  have x0 : Ext G H G (upd H q (.dK [])) := Ext.laid hq
  have S0 := S.step x0 (S.gok.laid hq)
  refine ht σ _ _ ⟨G, ρ, _, S0, hw', fun vs G1 H1 ds S1 x1 hlv r pp => ?_⟩
  have hq1 : H1 q = some (.dK []) := x1.h _ _ upd_same (by rw [S.gok.nil hq]; exact fun z => nomatch z)
  have hg1 : G1 q = none := by
    cases z : G1 q with
    | none => rfl
    | some o => have := x1.n q o z (by rw [upd_same]; exact fun z => nomatch z); rw [S.gok.nil hq] at this; cases this
  have e1 : (ks.map kV).zip vs = (ks.zip vs).map fun kv => (kV kv.1, kv.2) := by
    rw [List.zip_map_left]; rfl
  have hz : (ks.zip vs).length = ks.length := by rw [List.length_zip, hlv, Nat.min_self]
  have h15' : ks.length ≤ 15 := by rw [← hl2]; exact Nat.le_of_ble_eq_true h15
  refine ⟨hq1, ks.zip vs, e1, by rw [hz]; exact h15', ?_⟩
  have em : mergeK [] (ks.zip vs) = ks.zip vs := by
    rw [merge_new _ _ (by rw [List.map_fst_zip (by omega)]; exact hnd) (fun p hp => absurd hp List.not_mem_nil), List.nil_append]
  rw [em]
  have S2 := S1.put (o := .dK (ks.zip vs)) (by rw [hq1]; exact fun z => nomatch z) (S.ext.none hq) hg1 (S.noAl hq)
  refine k q G1 _ _ S2 ((x0.trans x1).upd hq) hq hg1 ?_ pp
  have o := Own.dK (K := X.K) (w := X.w) (G := G1) (H := upd H1 q (.dK (ks.zip vs))) (a := q) (kvs := ks.zip vs) (ds := ds) upd_same (by rw [hz]; exact Nat.le_trans h15' (by decide)) (by rw [List.map_snd_zip (by omega)]; exact r)
  have e2 : ((ks.zip vs).map fun p => keyD p.1) = ks.map keyD := by
    have : ((ks.zip vs).map fun p => keyD p.1) = ((ks.zip vs).map (·.1)).map keyD := by rw [List.map_map]; rfl
    rw [this, List.map_fst_zip (by omega)]
  rw [e2] at o
  exact o
/-- list(x), a list of one's own -/
theorem f_list (hf : Fre c "list") (hs : VBs c [e] irs) (he : ∀ env : Env, starEach [e] env = (false, eval e env) :: starEach [] env := by intro _; rfl) : VF c (.Call (.Name "list" p) [e] [] pos) (.blt .list irs) := fun X Gi Hi x C => by
  obtain ⟨j, hj, hm⟩ := hf
  obtain ⟨g1, g2⟩ := C.gl hj
  have ok : CallR X (.type "list") (fun vs H Q => ∃ G ds d, GOk G H ∧ RvA X.K X.w G H vs ds ∧ listF ds = some d ∧ ∀ p xs ds, H p = none → RpA X.K X.w G xs ds → xs.length ≤ lim → d = .list ds → Q (.ref p) (upd H p (.lst xs))) := by
    intro pins s σ H vs us Q I r h
    obtain ⟨G, ds, d, g, ra, e, k⟩ := h
    unfold listF at e
    split at e
    · cases e
      obtain ⟨v, rfl, rv⟩ := ra.one
      obtain ⟨a, xs, rfl, ha, la, qa⟩ := rv.rb.list g
      exact call_list_of pins s σ H _ us Q I r ⟨a, xs, rfl, .inl (SqL.of ha), fun p hp => k p xs _ hp qa la rfl⟩
    · cases e
      obtain ⟨v, rfl, rv⟩ := ra.one
      obtain ⟨a, xs, rfl, ha, la, qa⟩ := rv.rb.tup g
      exact call_list_of pins s σ H _ us Q I r ⟨a, xs, rfl, .inr ha, fun p hp => k p xs _ hp qa la rfl⟩
    · cases e
  refine PE.imp (pe_callTy ok g1 (by rw [C.mg]; exact hm) (blt_boot .list) (hs X Gi Hi x C) (blt_plain .list) g2 (he _) rfl) fun σ H Q ⟨G, ρ, P, S, hw, k⟩ => ⟨G, ρ, _, S, hw, fun vs G1 H1 ds S1 x1 r1 pp => ?_⟩
  obtain ⟨d, e, pp⟩ := oP_some pp
  refine ⟨G1, ds, d, S1.gok, r1, e, fun p xs es hp rp hl ed => ?_⟩
  subst ed
  have x2 : Ext G1 H1 G1 (upd H1 p (.lst xs)) := Ext.laid hp
  exact k p G1 _ _ (S1.step x2 (S1.gok.laid hp)) (x1.trans x2) (x1.none hp) (S1.gok.nil hp) (.lst upd_same hl rp) pp
end
end VL
/-! VR: the script's cells, the drawn numbers -/
namespace VL
open PySem PySem.Spec PyProof.Rows L2
section
variable {c : VC} {e a b d tg kx : Expr} {es : List Expr} {ir ia ib id' ik : Ex} {irs lo hi : Exs} {pos p p1 p2 p3 p4 : Pos} {n m : Nat} {y z u : Str} {i j : Nat} {bb : Bool}
theorem atI_ints {ns : List Int} {z n : Int} (h : L2.atI ns z = some n) : L2.atI (ns.map V.int) z = some (.int n) := by
  unfold L2.atI at h ⊢
  rw [List.length_map]
  cases q : ixN ns.length z with
  | none => rw [q] at h; cases h
  | some k =>
    rw [q] at h
    have h' : ns[k]? = some n := h
    show (ns.map V.int)[k]? = _
    rw [List.getElem?_map, h']; rfl
theorem e_isc (hi : c.N[i]? = some y) (hv : c.vis.contains i = true) (hk : VE c kx ik) (hs : PlainIx kx) : VE c (.Subscript (.Name y p) kx pos) (.isc i ik) := fun X Gi Hi x C => by
  obtain ⟨h1, h2, h3⟩ := C.vis hv hi
  refine PE.imp (pe_ix ix_list (pe_var (C.ni hi) h1 h2 h3) (hk X Gi Hi x C) hs) fun σ H Q ⟨G, ρ, P, S, hw, k⟩ => ?_
  have hw : rdS ρ i fun ns => wpE ik x ρ fun dk => asI dk fun z => oP (L2.atI ns z) fun n => P (.int n) := hw
  unfold rdS at hw
  split at hw
  · rename_i ns q
    obtain ⟨a, e1, gs⟩ := S.scA q
    refine ⟨_, e1, G, ρ, _, S, hw, fun v G1 H1 dk S1 x1 r pp => ?_⟩
    obtain ⟨z, rfl, pp⟩ := asI_int pp
    obtain ⟨n, hn, pp⟩ := oP_some pp
    cases r
    exact ⟨a, ns.map V.int, z, .int n, rfl, rfl, (gs.mono x1.g).sq S1.gok, atI_ints hn, k (.int n) G1 H1 (.int n) S1 x1 (.int n) pp⟩
  · exact hw.elim
theorem rg_cell {H : Hp} {K : PySem.W.Frag} {a : Addr} (h : RngAt H a) (k : Bool) : ∃ xs z, SqL K H a xs ∧ L2.atI xs (if k = true then 1 else 0) = some (.int z) ∧ 0 ≤ z ∧ (k = true → z < 4294967296) := by
  obtain ⟨i, j, e, h1, h2, h3⟩ := h
  cases k with
  | true => exact ⟨_, j, .inl (.inl e), rfl, h2, fun _ => h3⟩
  | false => exact ⟨_, i, .inl (.inl e), rfl, h1, fun q => by cases q⟩
/-- a drawn state's number: only its bounds are known -/
theorem e_rgx {kk : Int} {jj : Nat} (k : Bool) (hkk : kk = if k = true then 1 else 0) (hi : c.N[i]? = some y) (hv : c.vis.contains i = true) (hs : PlainIx (.Constant (.int kk) jj p1)) : VE c (.Subscript (.Name y p) (.Constant (.int kk) jj p1) pos) (.rgx i k) := fun X Gi Hi x C => by
  obtain ⟨h1, h2, h3⟩ := C.vis hv hi
  refine PE.imp (pe_ix ix_list (pe_var (C.ni hi) h1 h2 h3) pe_int hs) fun σ H Q ⟨G, ρ, P, S, ⟨hr, hw⟩, kq⟩ => ?_
  unfold isRg at hr
  split at hr
  · rename_i q
    obtain ⟨a, e1, hg⟩ := S.rgA q
    obtain ⟨xs, z, sq, hz, h0, hb⟩ := rg_cell (K := X.K) (S.gok.rg a hg) k
    exact ⟨_, e1, a, xs, kk, .int z, rfl, rfl, sq, by rw [hkk]; exact hz, kq (.int z) G H (.int z) S (Ext.refl _ _) (.int z) (hw z h0 hb)⟩
  · exact hr.elim
theorem StR.rgUpd {K : PySem.W.Frag} {w : World} {Gi G : Gh} {Hi H : Hp} {σ : L2.St} {ρ : En} {a : Addr} {i j : Int} (S : StR K w Gi Hi G H σ ρ) (hg : G a = some .rg) (h1 : 0 ≤ i) (h2 : 0 ≤ j) (h3 : j < 4294967296) : StR K w Gi Hi G (upd H a (.lst [.int i, .int j])) σ ρ where
  gok := ⟨fun b u e => by
      have : b ≠ a := fun y => by rw [y, hg] at e; cases e
      rw [upd_ne this]; exact S.gok.fz b u e,
    fun b e => by
      by_cases hb : b = a
      · subst hb; exact ⟨i, j, upd_same, h1, h2, h3⟩
      · obtain ⟨i', j', q, r⟩ := S.gok.rg b e
        exact ⟨i', j', by rw [upd_ne hb]; exact q, r⟩⟩
  ext := ⟨S.ext.g, S.ext.n, fun b u e k => by
      have : b ≠ a := fun y => by
        subst y
        exact k (S.ext.n b _ hg (by rw [e]; exact fun z => nomatch z))
      rw [upd_ne this]; exact S.ext.h b u e k, fun b e => by
      unfold upd
      split
      · exact fun q => nomatch q
      · exact S.ext.t b e⟩
  len := S.len
  sl := fun i s e => by
    have q := S.sl i s e
    cases s with
    | un => trivial
    | va d => exact q
    | ow d =>
      obtain ⟨b, e2, h1, h2, p⟩ := q
      have hb : b ≠ a := fun y => by rw [y, hg] at h2; cases h2
      exact ⟨b, e2, h1, h2, p.mono (fun _ _ z => z) fun u z => by rw [upd_ne hb]; exact z⟩
    | rg => exact q
    | sc ns => exact q
  dis := S.dis
theorem s_rgp {kk : Int} {jj : Nat} (k : Bool) (hkk : kk = if k = true then 1 else 0) (hi : c.N[i]? = some y) (hv : c.vis.contains i = true) (h : VE c e ir) (ha : PlainSet (.Name y p) (.Constant (.int kk) jj p1) p2 := by intro _ _; rfl)
    (hs : ∀ env : Env, swapsWithSole [.Subscript (.Name y p) (.Constant (.int kk) jj p1) p2] e pos.line env = pure false := by intro _; rfl) (hw : ∀ env : Env, swappedStores [.Subscript (.Name y p) (.Constant (.int kk) jj p1) p2] e env = pure none := by intro _; rfl)
    (h1 : ∀ env : Env, (assignEach [.Subscript (.Name y p) (.Constant (.int kk) jj p1) p2] env).map (·.2) = [assign (.Subscript (.Name y p) (.Constant (.int kk) jj p1) p2) env] := by intro _; rfl) :
    VS c (.Assign [.Subscript (.Name y p) (.Constant (.int kk) jj p1) p2] e pos) (.rgp i k ir) := fun X Gi Hi x C => by
  obtain ⟨v1, v2, v3⟩ := C.vis hv hi
  refine PS.imp (ps_asg (h X Gi Hi x C) (pg_sub (pe_var (C.ni hi) v1 v2 v3) pe_int set_list (ha _)) (hs _) (hw _) (h1 _)) fun D σ H ⟨G, ρ, R, N, S, hw, kn, kr⟩ => ⟨G, ρ, _, S, hw, fun v G1 H1 d S1 x1 r pp => ?_⟩
  obtain ⟨z, rfl, hr, hz, hb, pn⟩ := asI_int pp
  cases r
  unfold isRg at hr
  split at hr
  · rename_i q
    obtain ⟨a, e1, hg⟩ := S1.rgA q
    obtain ⟨i', j', e2, q1, q2, q3⟩ := S1.gok.rg a hg
    cases k with
    | true => exact ⟨_, e1, a, _, 1, 1, rfl, by rw [hkk]; rfl, e2, rfl, kn σ G1 _ ρ (S1.rgUpd hg q1 hz (hb rfl)) x1.gx pn⟩
    | false => exact ⟨_, e1, a, _, 0, 0, rfl, by rw [hkk]; rfl, e2, rfl, kn σ G1 _ ρ (S1.rgUpd hg hz q2 q3) x1.gx pn⟩
  · exact hr.elim
/-- a first state is given back -/
theorem s_rtg (h : VF c e ir) : VS c (.Return (some e) pos) (.rtg ir) := fun X Gi Hi x C =>
  PS.imp (ps_ret (h X Gi Hi x C)) fun D σ H ⟨G, ρ, R, N, S, hw, kn, kr⟩ => ⟨G, ρ, _, S, hw, fun a G1 H1 d S1 x1 h0 hg o pp => by
    unfold twoP at pp
    split at pp
    · rename_i i j
      obtain ⟨q1, q2, q3, pp⟩ := pp
      cases o with
      | @lst xs ds hx l r =>
        have e2 : xs = [.int i, .int j] := by
          cases r with
          | cons r1 r => cases r1; cases r with
            | cons r2 r => cases r2; cases r; rfl
        subst e2
        refine kr .rg _ (updG G1 a .rg) H1 ⟨fun b u e => ?_, fun b e => ?_⟩ ?_ (.rg updG_same) pp
        · have : b ≠ a := fun y => by rw [y, updG_same] at e; cases e
          rw [updG_ne this] at e; exact S1.gok.fz b u e
        · by_cases hb : b = a
          · subst hb; exact ⟨i, j, hx, q1, q2, q3⟩
          · rw [updG_ne hb] at e; exact S1.gok.rg b e
        · exact S1.ext.frozen (S.ext.none h0) hg
    · exact pp.elim⟩
end
end VL
/-! VT: the law's own call -/
namespace VL
open PySem PySem.Spec PyProof.Rows L2
def spLaw (n : Nat) : Spec := fun as R _ => ∃ ns : List Int, as = [.sc ns] ∧ ns.length ≤ n ∧ R (.da (.bool true))
section
variable {P : Program} {w : World} {K : PySem.W.Frag} {mg mb : Str → Option Value} {k n : Nat} {fa a : Addr} {fd : FuncData} {x : Str} {s1 : Shared} {vs : List Value} {ns : List Int}
/-- the script alone is known, where it is none of the written objects -/
def scH (K : PySem.W.Frag) (a : Addr) (o : HO) : Hp := fun b => if b = a ∧ (K.lookup a).isNone = true then some o else none
theorem scH_in {o u : HO} {b : Addr} (h : scH K a o b = some u) : b = a ∧ K.lookup a = none ∧ u = o := by
  unfold scH at h
  by_cases q : b = a ∧ (K.lookup a).isNone = true
  · rw [if_pos q] at h; cases h; exact ⟨q.1, by simpa using q.2, rfl⟩
  · rw [if_neg q] at h; cases h
theorem law_callG (KX : K.In s1.heap) (hns : s1.heap.Ns mainGlobals mg) (hb : s1.heap.Ns builtinsNs mb) (hbb : ∀ x : Str, x ≠ "__name__" → mb x = bootBuiltins x) (hlim : s1.heap.NoLimit) (hg : s1.gens = #[])
    (ha : s1.heap.get? a = some { cls := .type "list", data := .seq vs.toArray }) (hi : IntsAre vs ns) (hl : ns.length ≤ n) (hn : n ≤ sizeLine) (hr : Room k callerA)
    (F : ∀ base : Heap, K.In base → base.Ns mainGlobals mg → FnG ⟨P, w, K, mg, base⟩ k fa fd [x] (spOf ⟨P, w, K, mg, base⟩ (spLaw n))) (hbind : ∀ (s : Shared) (u : Value), BindsTo s fd ⟨[u], []⟩ [(x, u)]) :
    codeAny (model P w) callerA (.call (.ref fa) ⟨[.ref a], []⟩) (fun r s' => r = .ok (.ret (.bool true)) ∧ OldK s1.heap s'.heap ∧ s'.os = s1.os ∧ AllBare s'.gens) s1 := by
  have rv := vals_ints hi
  let o : HO := .frz { cls := .type "list", data := .seq vs.toArray } (.lst (ns.map V.int))
  let H := scH K a o
  have free : ∀ {b : Addr} {ob : Obj}, s1.heap.get? b = some ob → (∀ us m, ob.data ≠ .seq us m) → H b = none := fun {b ob} e d => by
    cases q : H b with
    | none => rfl
    | some u =>
      obtain ⟨rfl, _, _⟩ := scH_in q
      rw [ha] at e
      cases e
      exact absurd rfl (d _ _)
  have nsK : ∀ {b : Addr} {m : Str → Option Value}, s1.heap.Ns b m → (hidT s1.heap H).Ns b m := fun {b m} ⟨ob, es, ep, e, d, r⟩ =>
    ⟨ob, es, ep, hidT_get e (free e fun us m z => by rw [d] at z; cases z), d, r⟩
  have kb : K.In (hidT s1.heap H) := fun b ob e => hidT_get (KX b ob e) (by
    cases q : H b with
    | none => rfl
    | some u =>
      obtain ⟨rfl, z, _⟩ := scH_in q
      rw [z] at e; cases e)
  have hok : HOk P w H s1.heap := fun b u q => by
    obtain ⟨rfl, _, rfl⟩ := scH_in q
    exact ⟨ha, by rw [List.length_map]; exact Nat.le_trans hl hn, vs, _, rv, ha⟩
  have e0 : Env0 P w K mg (hidT s1.heap H) callerA [] s1 H := ⟨rfl, ⟨kb, nsK hns, ⟨mb, nsK hb, hbb⟩, let ⟨mc, h1, h2⟩ := hlim; ⟨mc, nsK h1, h2⟩⟩, fun b ob e => of_hidT e, Nat.le_of_eq (hidT_size _ _), trivial,
    (fun b z => nomatch z), hok, .of_eq hg⟩
  let G : Gh := fun b => (H b).map GO.fz
  have gok : GOk G H := ⟨fun b u e => by
      have e : (H b).map GO.fz = some (.fz u) := e
      cases q : H b with
      | none => rw [q] at e; cases e
      | some z => rw [q] at e; cases e; rfl,
    fun b e => by
      have e : (H b).map GO.fz = some .rg := e
      cases q : H b with
      | none => rw [q] at e; cases e
      | some z => rw [q] at e; cases e⟩
  have gs : GS K G a (ns.map V.int) := by
    cases q : K.lookup a with
    | none =>
      refine .inl ⟨{ cls := .type "list", data := .seq vs.toArray }, ?_⟩
      show (scH K a o a).map GO.fz = _
      unfold scH
      rw [if_pos ⟨rfl, by rw [q]; rfl⟩]; rfl
    | some ob =>
      have e := KX a ob q
      rw [ha] at e
      cases e
      exact .inr ⟨_, vs.toArray, _, q, rfl, rfl, rfl, by have := hi.length; rw [List.size_toArray]; omega, by simpa using rv⟩
  refine codeAny_mono ((F _ kb (nsK hns)).run callerA [] s1 H ⟨[.ref a], []⟩ [.ref a] [.ref a] (fun v _ => v = .bl true) (fun _ _ _ => False) hr rfl e0 (hbind s1 (.ref a)) (.cons rfl .nil)
    ⟨G, [.sc ns], gok, .cons (.sc gs) .nil, ns, rfl, hl, fun v G' H' _ _ rr => by cases rr with | da r => cases r; rfl⟩) fun r s' h => ?_
  match r, h with
  | .error e, h =>
    obtain ⟨_, _, _, _, _, _, _, _, _, _, _, _, z⟩ := h
    exact z.elim
  | .ok (.ret u), ⟨v, H', os, bare, un, hok', r', q⟩ =>
    have q' : v = .bl true := q
    subst q'
    obtain rfl : u = Value.bool true := r'
    refine ⟨rfl, OldK.of_keep fun b ob e => ?_, os, bare⟩
    cases q : H b with
    | none => exact un.keep b ob e q (fun z => nomatch z) (fun z => nomatch z)
    | some u =>
      obtain ⟨rfl, _, rfl⟩ := scH_in q
      obtain ⟨e2, _⟩ := hok' b _ (un.frzs b _ _ q)
      rw [ha] at e; cases e
      exact e2
theorem walk_ofG {l : PySem.W.OpenLaw} {q : Program} {loose : List Str} {XP : (Str → Option Value) → Heap → Prop} {YP : World → Heap → Prop} {d : DefRec} (hn : l.most = some n) (hn2 : n ≤ sizeLine) (hdf : d.params.defaults = []) (hr : Room k callerA)
    (F : ∀ (w : World) (mg : Str → Option Value) (fa : Addr) (h : Heap), YP w h → h.Ns mainGlobals mg → mg d.name = some (.ref fa) →
      ∃ (K : PySem.W.Frag) (fd : FuncData), K.In h ∧ (∀ (s : Shared) (u : Value), BindsTo s fd ⟨[u], []⟩ [(x, u)]) ∧
        ∀ base : Heap, K.In base → base.Ns mainGlobals mg → FnG ⟨l.prog, w, K, mg, base⟩ k fa fd [x] (spOf ⟨l.prog, w, K, mg, base⟩ (spLaw n))) :
    PySem.W.WalkO q loose XP YP l.row.toRowW d [] (fun f vs => PySem.call f vs) := by
  refine Att.attach_call hn hdf fun w s0 s1 mg mb fa o pm cd doc a vs ns G Y ho hd hcd hmg hobj hints hlen hg => ?_
  obtain ⟨K, fd, KX, hb, hF⟩ := F w mg fa _ Y G.T.g hmg
  exact law_callG KX G.T.g G.T.b G.T.builtins G.T.nolimit hg hobj hints hlen hn2 hr hF hb
end
end VL
/-! VU: plain lemmas about what is computed -/
namespace VL
open PySem PySem.Spec PyProof.Rows L2
theorem lcW_rel {f : PyData → (Option PyData → Prop) → Prop} {Q : List PyData → Prop} (r : PyData → Option PyData → Prop) : ∀ (items acc : List PyData), (∀ d ∈ items, ∀ K, (∀ o, r d o → K o) → f d K) →
    (∀ os : List (Option PyData), Paired r items os → Q (acc ++ os.filterMap id)) → lcW f items acc Q
  | [], acc, _, h => by simpa [lcW] using h [] .nil
  | d :: items, acc, hf, h => hf d List.mem_cons_self _ fun o ro => lcW_rel r items _ (fun e he => hf e (List.mem_cons_of_mem _ he)) fun os hp => by
      have := h (o :: os) (.cons ro hp)
      cases o <;> simpa [List.append_assoc] using this
/-- each item gives what g tells -/
theorem lcW_fm {f : PyData → (Option PyData → Prop) → Prop} {Q : List PyData → Prop} (g : PyData → Option PyData) : ∀ (items acc : List PyData), (∀ d ∈ items, ∀ K, K (g d) → f d K) → Q (acc ++ items.filterMap g) → lcW f items acc Q
  | [], acc, _, h => by simpa [lcW] using h
  | d :: items, acc, hf, h => hf d List.mem_cons_self _ (lcW_fm g items _ (fun e he => hf e (List.mem_cons_of_mem _ he)) (by
      cases q : g d <;> simpa [List.filterMap_cons, q, List.append_assoc] using h))
theorem lcW_map {f : PyData → (Option PyData → Prop) → Prop} {Q : List PyData → Prop} (g : PyData → PyData) (items : List PyData) (hf : ∀ d ∈ items, ∀ K, K (some (g d)) → f d K) (h : Q (items.map g)) : lcW f items [] Q :=
  lcW_fm (fun d => some (g d)) items [] hf (by simpa using h)
theorem frW_inv {f : PyData → En → (En → Prop) → Prop} {Q : En → Prop} (I : List PyData → En → Prop) : ∀ (items : List PyData) (ρ : En), (∀ d rest ρ K, I (d :: rest) ρ → (∀ ρ', I rest ρ' → K ρ') → f d ρ K) → I items ρ → (∀ ρ, I [] ρ → Q ρ) → frW f items ρ Q
  | [], ρ, _, h, hq => hq ρ h
  | d :: items, ρ, hf, h, hq => hf d items ρ _ h fun ρ' h' => frW_inv I items ρ' hf h' hq
/-! ### promises of plain defs -/
/-- ds in, f ds out (ow: a list or dict of the caller's own) -/
def spF (n : Nat) (ow : Bool) (f : List PyData → Option PyData) : Spec := fun as R _ => ∃ ds r, as = ds.map Av.da ∧ ds.length = n ∧ f ds = some r ∧ R (match ow with | true => .ow r | false => .da r)
theorem mo_spF {n : Nat} {ow : Bool} {f : List PyData → Option PyData} : Mono (spF n ow f) := fun _ _ _ _ _ ⟨ds, r, h1, h2, h3, h4⟩ hr _ => ⟨ds, r, h1, h2, h3, hr _ h4⟩
theorem len_spF {n : Nat} {ow : Bool} {f : List PyData → Option PyData} {as : List Av} {R : Av → Prop} {x : Str → Prop} (h : spF n ow f as R x) : as.length = n := by
  obtain ⟨ds, r, rfl, h2, _, _⟩ := h
  rw [List.length_map]; exact h2
/-- a def that may raise an exception of the module's own -/
def spX (n : Nat) (f : List PyData → Option (Except Str PyData)) : Spec := fun as R x => ∃ ds r, as = ds.map Av.da ∧ ds.length = n ∧ f ds = some r ∧ (match r with | .ok d => R (.da d) | .error nm => x nm)
theorem mo_spX {n : Nat} {f : List PyData → Option (Except Str PyData)} : Mono (spX n f) := fun _ _ _ _ _ ⟨ds, r, h1, h2, h3, h4⟩ hr hx => ⟨ds, r, h1, h2, h3, by
  cases r with
  | ok d => exact hr _ h4
  | error nm => exact hx _ h4⟩
theorem len_spX {n : Nat} {f : List PyData → Option (Except Str PyData)} {as : List Av} {R : Av → Prop} {x : Str → Prop} (h : spX n f as R x) : as.length = n := by
  obtain ⟨ds, r, rfl, h2, _, _⟩ := h
  rw [List.length_map]; exact h2
/-- a def that draws: any answer that rel allows -/
def spG (n : Nat) (ok : List PyData → Prop) (rel : List PyData → PyData → Prop) : Spec := fun as R _ => ∃ ds, as = .rg :: ds.map Av.da ∧ ds.length = n ∧ ok ds ∧ ∀ r, rel ds r → R (.da r)
theorem mo_spG {n : Nat} {ok : List PyData → Prop} {rel : List PyData → PyData → Prop} : Mono (spG n ok rel) := fun _ _ _ _ _ ⟨ds, h1, h2, h3, h4⟩ hr _ => ⟨ds, h1, h2, h3, fun r q => hr _ (h4 r q)⟩
theorem len_spG {n : Nat} {ok : List PyData → Prop} {rel : List PyData → PyData → Prop} {as : List Av} {R : Av → Prop} {x : Str → Prop} (h : spG n ok rel as R x) : as.length = n + 1 := by
  obtain ⟨ds, rfl, h2, _, _⟩ := h
  rw [List.length_cons, List.length_map, h2]
/-! the three defs every law has -/
def sp_law_cell_at : Spec := fun as R _ => ∃ (ns : List Int) (k : Nat), as = [.sc ns, .da (.int (k : Int))] ∧ ∀ z, R (.da (.int z))
theorem mo_law_cell_at : Mono sp_law_cell_at := fun _ _ _ _ _ ⟨ns, k, h1, h2⟩ hr _ => ⟨ns, k, h1, fun z => hr _ (h2 z)⟩
def sp_law_state : Spec := fun as R _ => ∃ (ns : List Int) (k : Nat), as = [.sc ns, .da (.int (k : Int))] ∧ R .rg
theorem mo_law_state : Mono sp_law_state := fun _ _ _ _ _ ⟨ns, k, h1, h2⟩ hr _ => ⟨ns, k, h1, hr _ h2⟩
def sp_law_take : Spec := fun as R _ => ∃ m : Int, as = [.rg, .da (.int m)] ∧ 0 < m ∧ m < 1073741824 ∧ ∀ z : Int, 0 ≤ z → z < m → R (.da (.int z))
theorem mo_law_take : Mono sp_law_take := fun _ _ _ _ _ ⟨m, h1, h2, h3, h4⟩ hr _ => ⟨m, h1, h2, h3, fun z a b => hr _ (h4 z a b)⟩
/-- a draw -/
theorem take_call {m : Int} {R : Av → Prop} {x : Str → Prop} (h1 : 0 < m) (h2 : m < 1073741824) (h : ∀ z : Int, 0 ≤ z → z < m → R (.da (.int z))) : sp_law_take [.rg, .da (.int m)] R x := ⟨m, rfl, h1, h2, h⟩
/-! ### what operations ask, for simp -/
theorem okMul_l {i j : Int} (h1 : -(2 ^ 64) < i) (h2 : i < 2 ^ 64) : okMul i j = true := by
  unfold okMul
  rw [decide_eq_true h1, decide_eq_true h2]; rfl
theorem okMul_r {i j : Int} (h1 : -(2 ^ 64) < j) (h2 : j < 2 ^ 64) : okMul i j = true := by
  unfold okMul
  rw [decide_eq_true h1, decide_eq_true h2, Bool.and_self, Bool.or_true]
theorem ite_cases {c : Bool} {A B : Prop} (h1 : c = true → A) (h2 : c = false → B) : ite' c A B := by
  cases c with
  | true => exact h1 rfl
  | false => exact h2 rfl
theorem oadd (i j : Int) (P : PyData → Prop) : oP (BOp.add.f (.int i) (.int j)) P ↔ P (.int (i + j)) := Iff.rfl
theorem osub (i j : Int) (P : PyData → Prop) : oP (BOp.sub.f (.int i) (.int j)) P ↔ P (.int (i - j)) := Iff.rfl
theorem ofdv (i j : Int) (P : PyData → Prop) : oP (BOp.fdv.f (.int i) (.int j)) P ↔ (0 < j ∧ j < 1073741824) ∧ P (.int (i / j)) := by
  show oP (if 0 < j ∧ j < 1073741824 then some (.int (i / j)) else none) P ↔ _
  by_cases h : 0 < j ∧ j < 1073741824
  · rw [if_pos h]; exact ⟨fun q => ⟨h, q⟩, fun q => q.2⟩
  · rw [if_neg h]; exact ⟨fun q => q.elim, fun q => h q.1⟩
theorem omod (i j : Int) (P : PyData → Prop) : oP (BOp.mod.f (.int i) (.int j)) P ↔ 0 < j ∧ P (.int (i % j)) := by
  show oP (if 0 < j then some (.int (i % j)) else none) P ↔ _
  by_cases h : 0 < j
  · rw [if_pos h]; exact ⟨fun q => ⟨h, q⟩, fun q => q.2⟩
  · rw [if_neg h]; exact ⟨fun q => q.elim, fun q => h q.1⟩
theorem omul (i j : Int) (P : PyData → Prop) : oP (BOp.mul.f (.int i) (.int j)) P ↔ okMul i j = true ∧ P (.int (i * j)) := by
  show oP (if okMul i j = true then some (.int (i * j)) else none) P ↔ _
  by_cases h : okMul i j = true
  · rw [if_pos h]; exact ⟨fun q => ⟨h, q⟩, fun q => q.2⟩
  · rw [if_neg h]; exact ⟨fun q => q.elim, fun q => h q.1⟩
theorem ite_iff (c : Bool) (A B : Prop) : ite' c A B ↔ (c = true → A) ∧ (c = false → B) := by
  cases c with
  | true => exact ⟨fun h => ⟨fun _ => h, (fun q => by cases q)⟩, fun h => h.1 rfl⟩
  | false => exact ⟨fun h => ⟨(fun q => by cases q), fun _ => h⟩, fun h => h.2 rfl⟩
theorem olt (i j : Int) (P : Bool → Prop) : oP (COp.lt.f (.int i) (.int j)) P ↔ P (decide (i < j)) := Iff.rfl
theorem ogt (i j : Int) (P : Bool → Prop) : oP (COp.gt.f (.int i) (.int j)) P ↔ P (decide (j < i)) := Iff.rfl
theorem ole (i j : Int) (P : Bool → Prop) : oP (COp.le.f (.int i) (.int j)) P ↔ P (decide (i ≤ j)) := Iff.rfl
theorem oge (i j : Int) (P : Bool → Prop) : oP (COp.ge.f (.int i) (.int j)) P ↔ P (decide (j ≤ i)) := Iff.rfl
theorem okD_int (i : Int) : okD (.int i) = true := by simp [okD, SeqAt.shaped, PyData.canLay0, PyData.depth]
theorem okD_bool (z : Bool) : okD (.bool z) = true := by simp [okD, SeqAt.shaped, PyData.canLay0, PyData.depth]
theorem okD_none : okD .none = true := by simp [okD, SeqAt.shaped, PyData.canLay0, PyData.depth]
theorem oeqI (i j : Int) (P : Bool → Prop) : oP (COp.eq.f (.int i) (.int j)) P ↔ P (decide (i = j)) := by
  show oP (if okD (.int i) = true ∧ okD (.int j) = true then some (PyData.eqv (.int i) (.int j)) else none) P ↔ _
  rw [if_pos ⟨okD_int i, okD_int j⟩]
  show P (PyData.eqv (.int i) (.int j)) ↔ _
  have : PyData.eqv (.int i) (.int j) = decide (i = j) := by simp [PyData.eqv, Bool.beq_eq_decide_eq]
  rw [this]
theorem oneI (i j : Int) (P : Bool → Prop) : oP (COp.ne.f (.int i) (.int j)) P ↔ P (!decide (i = j)) := by
  show oP ((if okD (.int i) = true ∧ okD (.int j) = true then some (PyData.eqv (.int i) (.int j)) else none).map (!·)) P ↔ _
  rw [if_pos ⟨okD_int i, okD_int j⟩]
  show P (!PyData.eqv (.int i) (.int j)) ↔ _
  have : PyData.eqv (.int i) (.int j) = decide (i = j) := by simp [PyData.eqv, Bool.beq_eq_decide_eq]
  rw [this]
theorem oeqS (i j : Str) (P : Bool → Prop) : oP (COp.eq.f (.str i) (.str j)) P ↔ P (decide (i = j)) := Iff.rfl
theorem oneS (i j : Str) (P : Bool → Prop) : oP (COp.ne.f (.str i) (.str j)) P ↔ P (!decide (i = j)) := Iff.rfl
theorem oneB (i j : Bool) (P : Bool → Prop) : oP (COp.ne.f (.bool i) (.bool j)) P ↔ P (!decide (i = j)) := by
  show oP ((if okD (.bool i) = true ∧ okD (.bool j) = true then some (PyData.eqv (.bool i) (.bool j)) else none).map (!·)) P ↔ _
  rw [if_pos ⟨okD_bool i, okD_bool j⟩]
  show P (!PyData.eqv (.bool i) (.bool j)) ↔ _
  have : PyData.eqv (.bool i) (.bool j) = decide (i = j) := by simp [PyData.eqv, Bool.beq_eq_decide_eq]
  rw [this]
theorem oeqB (i j : Bool) (P : Bool → Prop) : oP (COp.eq.f (.bool i) (.bool j)) P ↔ P (decide (i = j)) := by
  show oP (if okD (.bool i) = true ∧ okD (.bool j) = true then some (PyData.eqv (.bool i) (.bool j)) else none) P ↔ _
  rw [if_pos ⟨okD_bool i, okD_bool j⟩]
  show P (PyData.eqv (.bool i) (.bool j)) ↔ _
  have : PyData.eqv (.bool i) (.bool j) = decide (i = j) := by simp [PyData.eqv, Bool.beq_eq_decide_eq]
  rw [this]
theorem otake (m : Int) (R : Av → Prop) (x : Str → Prop) : sp_law_take [.rg, .da (.int m)] R x ↔ (0 < m ∧ m < 1073741824) ∧ ∀ z : Int, 0 ≤ z → z < m → R (.da (.int z)) := by
  constructor
  · rintro ⟨m', e, h1, h2, h3⟩
    injection e with _ e
    injection e with e _
    injection e with e
    injection e with e
    subst e
    exact ⟨⟨h1, h2⟩, h3⟩
  · rintro ⟨⟨h1, h2⟩, h3⟩
    exact ⟨m, rfl, h1, h2, h3⟩
theorem map_da : ∀ {ds es : List PyData}, ds.map Av.da = es.map Av.da → ds = es
  | [], [], _ => rfl
  | [], _ :: _, h => by cases h
  | _ :: _, [], h => by cases h
  | d :: ds, e :: es, h => by
    injection h with h1 h2
    injection h1 with h1
    rw [h1, map_da h2]
theorem ospF {n : Nat} {ow : Bool} {f : List PyData → Option PyData} (ds : List PyData) (R : Av → Prop) (x : Str → Prop) (hn : ds.length = n) : spF n ow f (ds.map Av.da) R x ↔ oP (f ds) fun r => R (match ow with | true => .ow r | false => .da r) := by
  constructor
  · rintro ⟨es, r, e, h1, h2, h3⟩
    rw [← map_da e] at h2
    rw [h2]; exact h3
  · intro h
    obtain ⟨r, e, h⟩ := oP_some h
    exact ⟨ds, r, rfl, hn, e, h⟩
theorem ospF1 {f : List PyData → Option PyData} (a : PyData) (R : Av → Prop) (x : Str → Prop) : spF 1 false f [.da a] R x ↔ oP (f [a]) fun r => R (.da r) := ospF [a] R x rfl
theorem ospF2 {f : List PyData → Option PyData} (a b : PyData) (R : Av → Prop) (x : Str → Prop) : spF 2 false f [.da a, .da b] R x ↔ oP (f [a, b]) fun r => R (.da r) := ospF [a, b] R x rfl
theorem ospF3 {f : List PyData → Option PyData} (a b c : PyData) (R : Av → Prop) (x : Str → Prop) : spF 3 false f [.da a, .da b, .da c] R x ↔ oP (f [a, b, c]) fun r => R (.da r) := ospF [a, b, c] R x rfl
theorem ospF4 {f : List PyData → Option PyData} (a b c d : PyData) (R : Av → Prop) (x : Str → Prop) : spF 4 false f [.da a, .da b, .da c, .da d] R x ↔ oP (f [a, b, c, d]) fun r => R (.da r) := ospF [a, b, c, d] R x rfl
/-! ### reading, where what is read is known -/
theorem q_v0 (d : PyData) (ρ : En) (P : PyData → Prop) : rdV (.va d :: ρ) 0 P = P d := rfl
theorem q_vs (s : Slot) (ρ : En) (n : Nat) (P : PyData → Prop) : rdV (s :: ρ) (n + 1) P = rdV ρ n P := rfl
theorem q_b0 (d : PyData) (ρ : En) (P : PyData → Prop) : rdB (.va d :: ρ) 0 P = P d := rfl
theorem q_b1 (d : PyData) (ρ : En) (P : PyData → Prop) : rdB (.ow d :: ρ) 0 P = P d := rfl
theorem q_bs (s : Slot) (ρ : En) (n : Nat) (P : PyData → Prop) : rdB (s :: ρ) (n + 1) P = rdB ρ n P := rfl
theorem q_a0 (d : PyData) (ρ : En) (P : Av → Prop) : rdA (.va d :: ρ) 0 P = P (.da d) := rfl
theorem q_a1 (ρ : En) (P : Av → Prop) : rdA (.rg :: ρ) 0 P = P .rg := rfl
theorem q_a2 (ns : List Int) (ρ : En) (P : Av → Prop) : rdA (.sc ns :: ρ) 0 P = P (.sc ns) := rfl
theorem q_as (s : Slot) (ρ : En) (n : Nat) (P : Av → Prop) : rdA (s :: ρ) (n + 1) P = rdA ρ n P := rfl
theorem q_s0 (ns : List Int) (ρ : En) (P : List Int → Prop) : rdS (.sc ns :: ρ) 0 P = P ns := rfl
theorem q_ss (s : Slot) (ρ : En) (n : Nat) (P : List Int → Prop) : rdS (s :: ρ) (n + 1) P = rdS ρ n P := rfl
theorem q_r0 (ρ : En) : isRg (.rg :: ρ) 0 = True := rfl
theorem q_rs (s : Slot) (ρ : En) (n : Nat) : isRg (s :: ρ) (n + 1) = isRg ρ n := rfl
theorem q_asI (i : Int) (P : Int → Prop) : asI (.int i) P = P i := rfl
theorem q_asB (b : Bool) (P : Bool → Prop) : asB (.bool b) P = P b := rfl
theorem q_asL (ds : List PyData) (P : List PyData → Prop) : asL (.list ds) P = P ds := rfl
theorem q_asT (ds : List PyData) (P : List PyData → Prop) : asL (.tuple ds) P = P ds := rfl
theorem q_nm (i : Nat) (d : PyData) (ρ : En) (P : En → Prop) : bnd (.nm i) d ρ P = P (ρ.set i (.va d)) := rfl
theorem q_tp (ts : Tgs) (ds : List PyData) (ρ : En) (P : En → Prop) : bnd (.tp ts) (.tuple ds) ρ P = bnds ts ds ρ P := rfl
theorem q_nil (ρ : En) (P : En → Prop) : bnds .nil [] ρ P = P ρ := rfl
theorem q_cons (t : Tg) (ts : Tgs) (d : PyData) (ds : List PyData) (ρ : En) (P : En → Prop) : bnds (.cons t ts) (d :: ds) ρ P = bnd t d ρ fun ρ' => bnds ts ds ρ' P := rfl
theorem q_rva (d : PyData) (P : PyData → Prop) : rvP (.da d) P = P d := rfl
theorem q_rvo (d : PyData) (P : PyData → Prop) : rvP (.ow d) P = P d := rfl
theorem osome {α : Type} (d : α) (P : α → Prop) : oP (some d) P = P d := rfl
theorem ite_t (A B : Prop) : ite' true A B = A := rfl
theorem ite_f (A B : Prop) : ite' false A B = B := rfl
theorem blsD_map (g : PyData → Bool) : ∀ ds : List PyData, blsD (ds.map fun d => .bool (g d)) = some (ds.map g)
  | [] => rfl
  | d :: ds => by
    show (blsD (ds.map fun d => .bool (g d))).map (g d :: ·) = _
    rw [blsD_map g ds]; rfl
theorem oall (g : PyData → Bool) (ds : List PyData) (P : PyData → Prop) : oP (allF [.list (ds.map fun d => .bool (g d))]) P = P (.bool (ds.all g)) := by
  show oP ((blsD (ds.map fun d => .bool (g d))).map fun bs => .bool (bs.all id)) P = _
  rw [blsD_map]
  show P (.bool ((ds.map g).all id)) = _
  rw [List.all_map]; rfl
theorem sl_nil (P : Option Int → Prop) : oP (slI []) P = P none := rfl
theorem sl_int (i : Int) (P : Option Int → Prop) : oP (slI [.int i]) P = P (some i) := rfl
theorem cut_all {ds : List PyData} (a : Nat) : (ds.drop a).take (ds.length - a) = ds.drop a := List.take_of_length_le (by rw [List.length_drop]; exact Nat.le_refl _)
theorem drop_min (ds : List PyData) (k : Nat) : ds.drop (min k ds.length) = ds.drop k := by
  by_cases h : k ≤ ds.length
  · rw [Nat.min_eq_left h]
  · rw [Nat.min_eq_right (by omega), List.drop_length, List.drop_eq_nil_of_le (by omega)]
/-- ds[k:], 0 ≤ k -/
theorem sl_from (ds : List PyData) (k : Int) (h : 0 ≤ k) : (ds.drop (HT.sIx ds.length 0 (some k))).take (HT.sIx ds.length ds.length none - HT.sIx ds.length 0 (some k)) = ds.drop k.toNat := by
  obtain ⟨n, rfl⟩ := Int.eq_ofNat_of_zero_le h
  have e : HT.sIx ds.length 0 (some (n : Int)) = min n ds.length := HT.sIx_nat ..
  rw [e]
  show (ds.drop (min n ds.length)).take (ds.length - min n ds.length) = ds.drop n
  rw [cut_all, drop_min]
/-- ds[:k], 0 ≤ k -/
theorem sl_upto (ds : List PyData) (k : Int) (h : 0 ≤ k) : (ds.drop (HT.sIx ds.length 0 none)).take (HT.sIx ds.length ds.length (some k) - HT.sIx ds.length 0 none) = ds.take k.toNat := by
  obtain ⟨n, rfl⟩ := Int.eq_ofNat_of_zero_le h
  have e : HT.sIx ds.length ds.length (some (n : Int)) = min n ds.length := HT.sIx_nat ..
  rw [e]
  show (ds.drop 0).take (min n ds.length - 0) = ds.take n
  rw [List.drop_zero, Nat.sub_zero]
  by_cases h : n ≤ ds.length
  · rw [Nat.min_eq_left h]
  · rw [Nat.min_eq_right (by omega), List.take_length, List.take_of_length_le (by omega)]
/-- ds[:-1] -/
theorem sl_last (ds : List PyData) : (ds.drop (HT.sIx ds.length 0 none)).take (HT.sIx ds.length ds.length (some (-1)) - HT.sIx ds.length 0 none) = ds.dropLast := by
  show (ds.drop 0).take ((if (-1 : Int) < 0 then (-1 + (ds.length : Int)).toNat else min (-1 : Int).toNat ds.length) - 0) = _
  rw [if_pos (by decide), List.drop_zero, Nat.sub_zero, List.dropLast_eq_take]
  congr 1
  omega
theorem slT_from (ds : List PyData) (k : Int) (h : 0 ≤ k) : slD (.tuple ds) [.int k] [] = some (.tuple (ds.drop k.toNat)) := congrArg (fun l => some (PyData.tuple l)) (sl_from ds k h)
theorem slL_from (ds : List PyData) (k : Int) (h : 0 ≤ k) : slD (.list ds) [.int k] [] = some (.list (ds.drop k.toNat)) := congrArg (fun l => some (PyData.list l)) (sl_from ds k h)
theorem slT_upto (ds : List PyData) (k : Int) (h : 0 ≤ k) : slD (.tuple ds) [] [.int k] = some (.tuple (ds.take k.toNat)) := congrArg (fun l => some (PyData.tuple l)) (sl_upto ds k h)
theorem slL_upto (ds : List PyData) (k : Int) (h : 0 ≤ k) : slD (.list ds) [] [.int k] = some (.list (ds.take k.toNat)) := congrArg (fun l => some (PyData.list l)) (sl_upto ds k h)
theorem slT_last (ds : List PyData) : slD (.tuple ds) [] [.int (-1)] = some (.tuple ds.dropLast) := congrArg (fun l => some (PyData.tuple l)) (sl_last ds)
theorem slL_last (ds : List PyData) : slD (.list ds) [] [.int (-1)] = some (.list ds.dropLast) := congrArg (fun l => some (PyData.list l)) (sl_last ds)
theorem atN {α : Type} (ds : List α) (n : Nat) : L2.atI ds (n : Int) = ds[n]? := by
  unfold L2.atI ixN
  rw [if_pos (by omega)]
  by_cases h : (n : Int) < (ds.length : Int)
  · rw [if_pos h]; rfl
  · rw [if_neg h, List.getElem?_eq_none (by omega)]; rfl
theorem ixT0 (ds : List PyData) : ixD (.tuple ds) (.int 0) = ds[0]? := atN ds 0
theorem ixL0 (ds : List PyData) : ixD (.list ds) (.int 0) = ds[0]? := atN ds 0
theorem ixT1 (ds : List PyData) : ixD (.tuple ds) (.int 1) = ds[1]? := atN ds 1
theorem ixL1 (ds : List PyData) : ixD (.list ds) (.int 1) = ds[1]? := atN ds 1
theorem ixT2 (ds : List PyData) : ixD (.tuple ds) (.int 2) = ds[2]? := atN ds 2
theorem ixL2 (ds : List PyData) : ixD (.list ds) (.int 2) = ds[2]? := atN ds 2
theorem ixT3 (ds : List PyData) : ixD (.tuple ds) (.int 3) = ds[3]? := atN ds 3
theorem ixL3 (ds : List PyData) : ixD (.list ds) (.int 3) = ds[3]? := atN ds 3
theorem ixT4 (ds : List PyData) : ixD (.tuple ds) (.int 4) = ds[4]? := atN ds 4
theorem ixL4 (ds : List PyData) : ixD (.list ds) (.int 4) = ds[4]? := atN ds 4
theorem ixT5 (ds : List PyData) : ixD (.tuple ds) (.int 5) = ds[5]? := atN ds 5
theorem ixL5 (ds : List PyData) : ixD (.list ds) (.int 5) = ds[5]? := atN ds 5
theorem ixT6 (ds : List PyData) : ixD (.tuple ds) (.int 6) = ds[6]? := atN ds 6
theorem ixL6 (ds : List PyData) : ixD (.list ds) (.int 6) = ds[6]? := atN ds 6
theorem ixT7 (ds : List PyData) : ixD (.tuple ds) (.int 7) = ds[7]? := atN ds 7
theorem ixL7 (ds : List PyData) : ixD (.list ds) (.int 7) = ds[7]? := atN ds 7
theorem ixT8 (ds : List PyData) : ixD (.tuple ds) (.int 8) = ds[8]? := atN ds 8
theorem ixL8 (ds : List PyData) : ixD (.list ds) (.int 8) = ds[8]? := atN ds 8
end VL
/-! VW: what is walked, over typed items; normal forms -/
namespace VL
open PySem PySem.Spec PyProof.Rows L2
section
variable {α β : Type}
/-- a comprehension over typed items -/
def lcT (f : α → (Option PyData → Prop) → Prop) : List α → List PyData → (List PyData → Prop) → Prop
  | [], acc, Q => Q acc
  | x :: xs, acc, Q => f x fun o => lcT f xs (acc ++ o.toList) Q
def frT (f : α → En → (En → Prop) → Prop) : List α → En → (En → Prop) → Prop
  | [], ρ, Q => Q ρ
  | x :: xs, ρ, Q => f x ρ fun ρ' => frT f xs ρ' Q
theorem lcW_eq (f : PyData → (Option PyData → Prop) → Prop) : ∀ (xs : List PyData) (acc : List PyData) (Q : List PyData → Prop), lcW f xs acc Q = lcT f xs acc Q
  | [], _, _ => rfl
  | x :: xs, acc, Q => congrArg (f x) (funext fun o => lcW_eq f xs _ Q)
theorem frW_eq (f : PyData → En → (En → Prop) → Prop) : ∀ (xs : List PyData) (ρ : En) (Q : En → Prop), frW f xs ρ Q = frT f xs ρ Q
  | [], _, _ => rfl
  | x :: xs, ρ, Q => congrArg (f x ρ) (funext fun o => frW_eq f xs _ Q)
theorem lcT_at (f : β → (Option PyData → Prop) → Prop) (e : α → β) : ∀ (xs : List α) (acc : List PyData) (Q : List PyData → Prop), lcT f (xs.map e) acc Q = lcT (fun x K => f (e x) K) xs acc Q
  | [], _, _ => rfl
  | x :: xs, acc, Q => congrArg (f (e x)) (funext fun o => lcT_at f e xs _ Q)
theorem frT_at (f : β → En → (En → Prop) → Prop) (e : α → β) : ∀ (xs : List α) (ρ : En) (Q : En → Prop), frT f (xs.map e) ρ Q = frT (fun x ρ K => f (e x) ρ K) xs ρ Q
  | [], _, _ => rfl
  | x :: xs, ρ, Q => congrArg (f (e x) ρ) (funext fun o => frT_at f e xs _ Q)
theorem lcW_at (f : PyData → (Option PyData → Prop) → Prop) (e : α → PyData) (xs : List α) (acc : List PyData) (Q : List PyData → Prop) : lcW f (xs.map e) acc Q = lcT (fun x K => f (e x) K) xs acc Q := by rw [lcW_eq, lcT_at]
theorem frW_at (f : PyData → En → (En → Prop) → Prop) (e : α → PyData) (xs : List α) (ρ : En) (Q : En → Prop) : frW f (xs.map e) ρ Q = frT (fun x ρ K => f (e x) ρ K) xs ρ Q := by rw [frW_eq, frT_at]
theorem lcT_map (g : α → PyData) : ∀ (xs : List α) (acc : List PyData) (Q : List PyData → Prop), lcT (fun x K => K (some (g x))) xs acc Q = Q (acc ++ xs.map g)
  | [], acc, Q => by simp [lcT]
  | x :: xs, acc, Q => by
    show lcT _ xs (acc ++ [g x]) Q = _
    rw [lcT_map g xs, List.append_assoc]; rfl
theorem lcT_fil (c : α → Bool) (g : α → PyData) : ∀ (xs : List α) (acc : List PyData) (Q : List PyData → Prop), lcT (fun x K => ite' (c x) (K (some (g x))) (K none)) xs acc Q = Q (acc ++ (xs.filter c).map g)
  | [], acc, Q => by simp [lcT]
  | x :: xs, acc, Q => by
    cases q : c x with
    | true =>
      show ite' (c x) (lcT _ xs (acc ++ [g x]) Q) (lcT _ xs (acc ++ []) Q) = _
      rw [q]
      show lcT _ xs (acc ++ [g x]) Q = _
      rw [lcT_fil c g xs, List.append_assoc, List.filter_cons_of_pos q]; rfl
    | false =>
      show ite' (c x) (lcT _ xs (acc ++ [g x]) Q) (lcT _ xs (acc ++ []) Q) = _
      rw [q]
      show lcT _ xs (acc ++ []) Q = _
      rw [lcT_fil c g xs, List.append_nil, List.filter_cons_of_neg (by rw [q]; exact Bool.false_ne_true)]
/-- each item is as g tells -/
theorem lcT_fm {f : α → (Option PyData → Prop) → Prop} (g : α → Option PyData) {Q : List PyData → Prop} : ∀ {xs : List α} {acc : List PyData}, (∀ x ∈ xs, ∀ K, K (g x) → f x K) → Q (acc ++ xs.filterMap g) → lcT f xs acc Q
  | [], acc, _, h => by simpa [lcT] using h
  | x :: xs, acc, hf, h => hf x List.mem_cons_self _ (lcT_fm g (fun e he => hf e (List.mem_cons_of_mem _ he)) (by
      cases q : g x <;> simpa [List.filterMap_cons, q, List.append_assoc] using h))
theorem lcT_mp {f : α → (Option PyData → Prop) → Prop} (g : α → PyData) {Q : List PyData → Prop} {xs : List α} (hf : ∀ x ∈ xs, ∀ K, K (some (g x)) → f x K) (h : Q (xs.map g)) : lcT f xs [] Q :=
  lcT_fm (fun d => some (g d)) hf (by simpa using h)
theorem lcT_fl {f : α → (Option PyData → Prop) → Prop} (c : α → Bool) (g : α → PyData) {Q : List PyData → Prop} {xs : List α} (hf : ∀ x ∈ xs, ∀ K, (c x = true → K (some (g x))) → (c x = false → K none) → f x K) (h : Q ((xs.filter c).map g)) : lcT f xs [] Q :=
  lcT_fm (fun d => if c d = true then some (g d) else none) (fun x hx K hk => hf x hx K (fun q => by rw [if_pos q] at hk; exact hk) (fun q => by rw [if_neg (by rw [q]; exact Bool.false_ne_true)] at hk; exact hk)) (by
    have e : ∀ xs : List α, xs.filterMap (fun d => if c d = true then some (g d) else none) = (xs.filter c).map g := fun xs => by
      induction xs with
      | nil => rfl
      | cons x xs ih =>
        cases q : c x
        · rw [List.filterMap_cons_none (by rw [if_neg (by rw [q]; exact Bool.false_ne_true)]), List.filter_cons_of_neg (by rw [q]; exact Bool.false_ne_true), ih]
        · rw [List.filterMap_cons_some (by rw [if_pos q]), List.filter_cons_of_pos q, ih]; rfl
    rw [List.nil_append, e]; exact h)
theorem lcT_rel {f : α → (Option PyData → Prop) → Prop} {Q : List PyData → Prop} (r : α → Option PyData → Prop) : ∀ (items : List α) (acc : List PyData), (∀ d ∈ items, ∀ K, (∀ o, r d o → K o) → f d K) →
    (∀ os : List (Option PyData), Paired r items os → Q (acc ++ os.filterMap id)) → lcT f items acc Q
  | [], acc, _, h => by simpa [lcT] using h [] .nil
  | d :: items, acc, hf, h => hf d List.mem_cons_self _ fun o ro => lcT_rel r items _ (fun e he => hf e (List.mem_cons_of_mem _ he)) fun os hp => by
      have := h (o :: os) (.cons ro hp)
      cases o <;> simpa [List.append_assoc] using this
/-- each item gives something of which P is known -/
theorem lcT_P {f : α → (Option PyData → Prop) → Prop} (P : PyData → Prop) : ∀ {xs : List α} {acc : List PyData} {Q : List PyData → Prop}, (∀ x ∈ xs, ∀ K, (∀ d, P d → K (some d)) → f x K) → (∀ ds, ds.length = xs.length → (∀ d ∈ ds, P d) → Q (acc ++ ds)) → lcT f xs acc Q
  | [], acc, _, _, h => by simpa [lcT] using h [] rfl (fun d hd => absurd hd List.not_mem_nil)
  | x :: xs, acc, Q, hf, h => hf x List.mem_cons_self _ fun d hd => lcT_P P (fun y hy => hf y (List.mem_cons_of_mem _ hy)) fun ds hl hp => by
      have := h (d :: ds) (by rw [List.length_cons, hl, List.length_cons]) fun e he => by
        rcases List.mem_cons.mp he with q | q
        · rw [q]; exact hd
        · exact hp e q
      simpa [List.append_assoc] using this
theorem frT_inv {f : α → En → (En → Prop) → Prop} {Q : En → Prop} (I : List α → En → Prop) : ∀ (items : List α) (ρ : En), (∀ d rest ρ K, I (d :: rest) ρ → (∀ ρ', I rest ρ' → K ρ') → f d ρ K) → I items ρ → (∀ ρ, I [] ρ → Q ρ) → frT f items ρ Q
  | [], ρ, _, h, hq => hq ρ h
  | d :: items, ρ, hf, h, hq => hf d items ρ _ h fun ρ' h' => frT_inv I items ρ' hf h' hq
/-- a loop that carries s -/
theorem frT_fold {f : α → En → (En → Prop) → Prop} {Q : En → Prop} (en : β → En) (step : β → α → β) : ∀ {xs : List α} {s : β}, (∀ x ∈ xs, ∀ s K, K (en (step s x)) → f x (en s) K) → Q (en (xs.foldl step s)) → frT f xs (en s) Q
  | [], s, _, h => h
  | x :: xs, s, hf, h => hf x List.mem_cons_self s _ (frT_fold en step (fun y hy => hf y (List.mem_cons_of_mem _ hy)) h)
/-- a loop that carries nothing, and may end the def -/
theorem frT_find {f : α → En → (En → Prop) → Prop} {Q : En → Prop} {ρ : En} {E : α → Prop} (c : α → Bool) : ∀ {xs : List α}, (∀ x ∈ xs, ∀ K, (c x = true → E x) → (c x = false → K ρ) → f x ρ K) → (∀ x, xs.find? c = some x → E x) → (xs.find? c = none → Q ρ) → frT f xs ρ Q
  | [], _, _, h => h rfl
  | x :: xs, hf, h1, h2 => hf x List.mem_cons_self _ (fun q => h1 x (by rw [List.find?_cons, q])) fun q =>
      frT_find c (fun y hy => hf y (List.mem_cons_of_mem _ hy)) (fun y e => h1 y (by rw [List.find?_cons, q]; exact e)) fun e => h2 (by rw [List.find?_cons, q]; exact e)
/-- a loop that carries s and may end the def -/
def stepE {γ : Type} (step : β → α → Except γ β) : List α → β → Except γ β
  | [], s => .ok s
  | x :: xs, s => match step s x with
    | .ok s' => stepE step xs s'
    | .error r => .error r
theorem frT_stepE {γ : Type} {f : α → En → (En → Prop) → Prop} {Q : En → Prop} {E : γ → Prop} (en : β → En) (step : β → α → Except γ β) : ∀ {xs : List α} {s : β},
    (∀ x ∈ xs, ∀ s K, (match step s x with | .ok s' => K (en s') | .error r => E r) → f x (en s) K) → (match stepE step xs s with | .ok s' => Q (en s') | .error r => E r) → frT f xs (en s) Q
  | [], s, _, h => h
  | x :: xs, s, hf, h => by
    refine hf x List.mem_cons_self s _ ?_
    unfold stepE at h
    cases q : step s x with
    | ok s' => rw [q] at h; exact frT_stepE en step (fun y hy => hf y (List.mem_cons_of_mem _ hy)) h
    | error r => rw [q] at h; exact h
/-- a loop that carries nothing: any number of turns -/
theorem frT_any {f : α → En → (En → Prop) → Prop} {Q : En → Prop} (I : En → Prop) : ∀ {xs : List α} {ρ : En}, (∀ x ∈ xs, ∀ ρ K, I ρ → (∀ ρ', I ρ' → K ρ') → f x ρ K) → I ρ → (∀ ρ, I ρ → Q ρ) → frT f xs ρ Q
  | [], ρ, _, h, hq => hq ρ h
  | x :: xs, ρ, hf, h, hq => hf x List.mem_cons_self ρ _ h fun ρ' h' => frT_any I (fun y hy => hf y (List.mem_cons_of_mem _ hy)) h' hq
theorem frT_same {f : α → En → (En → Prop) → Prop} {Q : En → Prop} {ρ : En} : ∀ {xs : List α}, (∀ x ∈ xs, ∀ K, K ρ → f x ρ K) → Q ρ → frT f xs ρ Q
  | [], _, h => h
  | x :: xs, hf, h => hf x List.mem_cons_self _ (frT_same (fun y hy => hf y (List.mem_cons_of_mem _ hy)) h)
end
theorem rgL_map (lo : Int) (n : Nat) : rgL lo n = (List.range n).map fun k => .int (lo + (k : Nat)) := rfl
theorem rgL_0 (n : Nat) : rgL 0 n = (List.range n).map fun k => .int (k : Nat) := by
  unfold rgL
  congr 1
  funext k
  rw [Int.zero_add]
theorem zpL_map {α β : Type} (e : α → PyData) (e' : β → PyData) : ∀ (xs : List α) (ys : List β), zpL (xs.map e) (ys.map e') = (xs.zip ys).map fun p => .tuple [e p.1, e' p.2]
  | [], _ => rfl
  | _ :: _, [] => rfl
  | x :: xs, y :: ys => congrArg _ (zpL_map e e' xs ys)
theorem enL_map {α : Type} (e : α → PyData) : ∀ (xs : List α) (k : Nat), enL k (xs.map e) = (xs.zipIdx k).map fun p => .tuple [.int (p.2 : Nat), e p.1]
  | [], _ => rfl
  | x :: xs, k => congrArg _ (enL_map e xs (k + 1))
/-! ### ends that are told by a value -/
theorem iteR (R : Av → Prop) (c : Bool) (a b : PyData) : ite' c (R (.da a)) (R (.da b)) ↔ R (.da (bif c then a else b)) := by cases c <;> rfl
theorem iteB (R : Av → Prop) (c : Bool) (a b : Bool) : ite' c (R (.da (.bool a))) (R (.da (.bool b))) ↔ R (.da (.bool (bif c then a else b))) := by cases c <;> rfl
theorem ite_same (c : Bool) (A : Prop) : ite' c A A ↔ A := by cases c <;> rfl
theorem ite_not (c : Bool) (A B : Prop) : ite' (!c) A B ↔ ite' c B A := by cases c <;> rfl
theorem ite_and (c d : Bool) (A B : Prop) : ite' c (ite' d A B) B ↔ ite' (c && d) A B := by cases c <;> rfl
theorem ite_or (c d : Bool) (A B : Prop) : ite' c A (ite' d A B) ↔ ite' (c || d) A B := by cases c <;> rfl
theorem bif_ff (c : Bool) (a : Bool) : (bif c then a else false) = (c && a) := by cases c <;> rfl
theorem bif_tt (c : Bool) (a : Bool) : (bif c then true else a) = (c || a) := by cases c <;> rfl
theorem bif_ft (c : Bool) (a : Bool) : (bif c then false else a) = (!c && a) := by cases c <;> rfl
theorem bif_t2 (c : Bool) (a : Bool) : (bif c then a else true) = (!c || a) := by cases c <;> rfl
/-! ### a drawn one of a list -/
theorem pickL (ds : List PyData) (m : Int) (P : PyData → Prop) (hm : m = (ds.length : Nat)) : (∀ z : Int, 0 ≤ z → z < m → oP (ixD (.list ds) (.int z)) P) ↔ ∀ d ∈ ds, P d := by
  have at' : ∀ (n : Nat) (h : n < ds.length), oP (ixD (.list ds) (.int (n : Nat))) P ↔ P ds[n] := fun n h => by
    have : ixD (.list ds) (.int (n : Nat)) = some ds[n] := (atN ds n).trans (List.getElem?_eq_getElem h)
    rw [this]; rfl
  constructor
  · intro h d hd
    obtain ⟨n, hn, rfl⟩ := List.getElem_of_mem hd
    exact (at' n hn).mp (h (n : Nat) (by omega) (by omega))
  · intro h z h0 h1
    obtain ⟨n, rfl⟩ := Int.eq_ofNat_of_zero_le h0
    have hn : n < ds.length := by omega
    exact (at' n hn).mpr (h _ (List.getElem_mem hn))
theorem pickT (ds : List PyData) (m : Int) (P : PyData → Prop) (hm : m = (ds.length : Nat)) : (∀ z : Int, 0 ≤ z → z < m → oP (ixD (.tuple ds) (.int z)) P) ↔ ∀ d ∈ ds, P d := pickL ds m P hm
theorem ixL_at (ds : List PyData) (n : Nat) : ixD (.list ds) (.int (n : Nat)) = ds[n]? := atN ds n
theorem ixT_at (ds : List PyData) (n : Nat) : ixD (.tuple ds) (.int (n : Nat)) = ds[n]? := atN ds n
theorem ixL_last (ds : List PyData) (d : PyData) : ixD (.list (ds ++ [d])) (.int (-1)) = some d := by
  show L2.atI (ds ++ [d]) (-1) = _
  unfold L2.atI ixN
  rw [if_neg (by omega), if_pos (by rw [List.length_append, List.length_singleton]; omega)]
  show (ds ++ [d])[((ds ++ [d]).length + (-1 : Int)).toNat]? = _
  have : ((ds ++ [d]).length + (-1 : Int)).toNat = ds.length := by rw [List.length_append, List.length_singleton]; omega
  rw [this, List.getElem?_append_right (Nat.le_refl _), Nat.sub_self]; rfl
theorem ixT_last (ds : List PyData) (d : PyData) : ixD (.tuple (ds ++ [d])) (.int (-1)) = some d := ixL_last ds d
theorem ixL_lastE (ds : List PyData) (h : ds ≠ []) : ixD (.list ds) (.int (-1)) = some (ds.getLast h) := by
  have := ixL_last ds.dropLast (ds.getLast h)
  rwa [List.dropLast_concat_getLast h] at this
theorem ixT_lastE (ds : List PyData) (h : ds ≠ []) : ixD (.tuple ds) (.int (-1)) = some (ds.getLast h) := ixL_lastE ds h
end VL
/-! VY: what repr shows is short -/
namespace VL
open PySem PySem.Spec PyProof.Rows L2
mutual
def wz : PyData → Nat
  | .none => 4
  | .bool _ => 5
  | .int i => if i.natAbs < 10 ^ 4 then 5 else if i.natAbs < 10 ^ 40 then 41 else lim
  | .str x => if (x.cps.toList.all fun c => decide (c < 128)) = true then 10 * x.length + 2 else lim
  | .list xs => wzA xs + 2
  | .tuple xs => wzA xs + 3
  | .dict kvs => wzK kvs + 2
def wzA : List PyData → Nat
  | [] => 0
  | x :: xs => wz x + 2 + wzA xs
def wzK : List (PyData × PyData) → Nat
  | [] => 0
  | (k, v) :: r => wz k + wz v + 4 + wzK r
end
theorem listText_le (ts : List Str) : (listText ts).length ≤ piled ts + 2 := by
  cases ts with
  | nil => rw [listText_nil]; decide +kernel
  | cons t r =>
    have h := textFrom_length_pos r 1 (("[" : Str) ++ (if (0 : Nat) > 0 then ", " else "" : String) ++ t) (Nat.succ_pos 0)
    have e : ((("[" : Str) ++ (if (0 : Nat) > 0 then ", " else "" : String) ++ t)).length = 1 + t.length := by rw [strLen_append, strLen_append]; rfl
    have e2 : (listText (t :: r)).length = (textFrom 1 (("[" : Str) ++ (if (0 : Nat) > 0 then ", " else "" : String) ++ t) r).length + 1 := by
      show (textFrom 0 "[" (t :: r) ++ "]").length = _
      rw [strLen_append]; rfl
    rw [e2, h, e, piled_cons]; omega
theorem join_le (ts : List Str) : (Str.join ", " ts).length ≤ piled ts := by
  by_cases h : ts = []
  · subst h; exact Nat.zero_le _
  · have := join_length_add ts h; omega
theorem tupleText_le (ts : List Str) : (tupleText ts).length ≤ piled ts + 3 := by
  unfold tupleText
  rw [strLen_append, strLen_append]
  have h := join_le ts
  have e1 : ((("(" : String) : Str)).length = 1 := rfl
  have e3 : (((if ts.length == 1 then ",)" else ")" : String) : Str)).length ≤ 2 := by split <;> decide
  omega
theorem dictText_le (ts : List Str) : (dictText ts).length ≤ piled ts + 2 := by
  unfold dictText
  rw [strLen_append, strLen_append]
  have h := join_le ts
  have e1 : ((("{" : String) : Str)).length = 1 := rfl
  have e3 : ((("}" : String) : Str)).length = 1 := rfl
  omega
theorem log_small {n : Nat} (h : n < 10 ^ 40) : n.log2 < 1920 := by
  by_cases h0 : n = 0
  · subst h0; decide
  · exact (Nat.log2_lt h0).mpr (Nat.lt_trans h (by decide +kernel))
mutual
theorem shown_le : ∀ d : PyData, wz d < lim → d.showable = true ∧ d.shown.length ≤ wz d
  | .none, _ => ⟨rfl, by decide +kernel⟩
  | .bool b, _ => ⟨rfl, by cases b <;> decide +kernel⟩
  | .int i, h => by
    unfold wz at h ⊢
    by_cases h1 : i.natAbs < 10 ^ 4
    · refine ⟨by simp only [PyData.showable, decide_eq_true_eq]; exact log_small (Nat.lt_trans h1 (by decide)), ?_⟩
      rw [if_pos h1]
      show (Str.ofString (toString i)).length ≤ 5
      rw [PySem.ofString_length]
      exact int_text_length_le10 (by decide) h1
    · rw [if_neg h1] at h ⊢
      by_cases h2 : i.natAbs < 10 ^ 40
      · refine ⟨by simp only [PyData.showable, decide_eq_true_eq]; exact log_small h2, ?_⟩
        rw [if_pos h2]
        show (Str.ofString (toString i)).length ≤ 41
        rw [PySem.ofString_length]
        exact int_text_length_le10 (by decide) h2
      · rw [if_neg h2] at h; exact absurd h (Nat.lt_irrefl _)
  | .str x, h => by
    unfold wz at h ⊢
    refine ⟨rfl, ?_⟩
    by_cases h1 : (x.cps.toList.all fun c => decide (c < 128)) = true
    · rw [if_pos h1]
      refine StrLaws.reprText_len x fun c hc => ?_
      have := List.all_eq_true.mp h1 c hc
      have h3 : c < 128 := by simpa using this
      exact Nat.lt_trans h3 (by decide)
    · rw [if_neg h1] at h; exact absurd h (Nat.lt_irrefl _)
  | .list xs, h => by
    have h : wzA xs + 2 < lim := h
    obtain ⟨h1, h2⟩ := shownA_le xs (by omega)
    refine ⟨h1, ?_⟩
    show (listText (PyData.shownAll xs)).length ≤ wzA xs + 2
    have := listText_le (PyData.shownAll xs)
    omega
  | .tuple xs, h => by
    have h : wzA xs + 3 < lim := h
    obtain ⟨h1, h2⟩ := shownA_le xs (by omega)
    refine ⟨h1, ?_⟩
    show (tupleText (PyData.shownAll xs)).length ≤ wzA xs + 3
    have := tupleText_le (PyData.shownAll xs)
    omega
  | .dict kvs, h => by
    have h : wzK kvs + 2 < lim := h
    obtain ⟨h1, h2⟩ := shownK_le kvs (by omega)
    refine ⟨h1, ?_⟩
    show (dictText (PyData.shownKv kvs)).length ≤ wzK kvs + 2
    have := dictText_le (PyData.shownKv kvs)
    omega
theorem shownA_le : ∀ xs : List PyData, wzA xs < lim → PyData.showableAll xs = true ∧ piled (PyData.shownAll xs) ≤ wzA xs
  | [], _ => ⟨rfl, Nat.le_refl _⟩
  | x :: xs, h => by
    have h : wz x + 2 + wzA xs < lim := h
    obtain ⟨h1, h2⟩ := shown_le x (by omega)
    obtain ⟨h3, h4⟩ := shownA_le xs (by omega)
    refine ⟨by simp only [PyData.showableAll, h1, h3, Bool.and_self], ?_⟩
    simp only [PyData.shownAll, piled_cons]
    show _ ≤ wz x + 2 + wzA xs
    omega
theorem shownK_le : ∀ xs : List (PyData × PyData), wzK xs < lim → PyData.showableKv xs = true ∧ piled (PyData.shownKv xs) ≤ wzK xs
  | [], _ => ⟨rfl, Nat.le_refl _⟩
  | (k, v) :: xs, h => by
    have h : wz k + wz v + 4 + wzK xs < lim := h
    obtain ⟨h1, h2⟩ := shown_le k (by omega)
    obtain ⟨h5, h6⟩ := shown_le v (by omega)
    obtain ⟨h3, h4⟩ := shownK_le xs (by omega)
    refine ⟨by simp only [PyData.showableKv, h1, h3, h5, Bool.and_self], ?_⟩
    simp only [PyData.shownKv, piled_cons, strLen_append]
    show _ ≤ wz k + wz v + 4 + wzK xs
    have e : (((": " : String) : Str)).length = 2 := rfl
    omega
end
theorem okR_of {d : PyData} (h1 : wz d + 64 ≤ lim) (h2 : d.depth ≤ 64) (h3 : d.hasDict = false ∨ noLs d = true) : okR d = true := by
  obtain ⟨h4, h5⟩ := shown_le d (by omega)
  unfold okR
  rw [h4, decide_eq_true h2, decide_eq_true (by omega)]
  rcases h3 with h3 | h3 <;> rw [h3] <;> simp
theorem orepr (d : PyData) (P : PyData → Prop) (h : okR d = true) : oP (Blt.repr.f [d]) P ↔ P (.str d.shown) := by
  show oP (if okR d = true then some (.str d.shown) else none) P ↔ _
  rw [if_pos h]; rfl
/-! sizes of small things -/
theorem wz_int {i : Int} (h1 : -10000 < i) (h2 : i < 10000) : wz (.int i) = 5 := by
  unfold wz
  rw [if_pos (by omega)]
theorem wz_le_int (i : Int) (h : i.natAbs < 10 ^ 40) : wz (.int i) ≤ 41 := by
  unfold wz
  split
  · omega
  · exact Nat.le_refl _
theorem wzA_append (xs ys : List PyData) : wzA (xs ++ ys) = wzA xs + wzA ys := by
  induction xs with
  | nil => simp [wzA]
  | cons x xs ih => show wz x + 2 + wzA (xs ++ ys) = wz x + 2 + wzA xs + wzA ys; rw [ih]; omega
theorem wzA_le {n : Nat} : ∀ {xs : List PyData}, (∀ d ∈ xs, wz d ≤ n) → wzA xs ≤ xs.length * (n + 2)
  | [], _ => by simp [wzA]
  | x :: xs, h => by
    have h1 := h x List.mem_cons_self
    have h2 := wzA_le (n := n) (xs := xs) fun d hd => h d (List.mem_cons_of_mem _ hd)
    show wz x + 2 + wzA xs ≤ (xs.length + 1) * (n + 2)
    rw [Nat.succ_mul]; omega
theorem wzA_mem {d : PyData} : ∀ {xs : List PyData}, d ∈ xs → wz d ≤ wzA xs
  | x :: xs, h => by
    show _ ≤ wz x + 2 + wzA xs
    rcases List.mem_cons.mp h with e | e
    · subst e; omega
    · have := wzA_mem e; omega
theorem depthAll_le {n : Nat} : ∀ {xs : List PyData}, (∀ d ∈ xs, d.depth ≤ n) → PyData.depthAll xs ≤ n
  | [], _ => Nat.zero_le _
  | x :: xs, h => by
    show max x.depth (PyData.depthAll xs) ≤ n
    exact Nat.max_le.mpr ⟨h x List.mem_cons_self, depthAll_le fun d hd => h d (List.mem_cons_of_mem _ hd)⟩
theorem hasDictAll_ff : ∀ {xs : List PyData}, (∀ d ∈ xs, d.hasDict = false) → PyData.hasDictAll xs = false
  | [], _ => rfl
  | x :: xs, h => by
    show (x.hasDict || PyData.hasDictAll xs) = false
    rw [h x List.mem_cons_self, hasDictAll_ff fun d hd => h d (List.mem_cons_of_mem _ hd)]; rfl
end VL
/-! VZ: what the module's constants stand for; the Hook that tells it -/
namespace VL
open PySem PySem.Spec PyProof.Rows L2
mutual
/-- the value u is the data d -/
def repB (K : PySem.W.Frag) : Value → PyData → Bool
  | u, .none => (match u with | .none => true | _ => false)
  | u, .bool b => (match u with | .bool c => b == c | _ => false)
  | u, .int i => (match u with | .int j _ => decide (i = j) | _ => false)
  | u, .str x => (match u with | .str y _ => decide (x = y) && decide (x.length ≤ 1000) | _ => false)
  | u, .tuple ds => (match u with
    | .ref a => (match K.lookup a with
      | some ⟨.type c, _, .seq its _, _⟩ => decide (c = "tuple") && (decide (its.size ≤ 1000) && repA K its.toList ds)
      | _ => false)
    | _ => false)
  | _, _ => false
def repA (K : PySem.W.Frag) : List Value → List PyData → Bool
  | us, [] => us.isEmpty
  | us, d :: ds => (match us with
    | u :: r => repB K u d && repA K r ds
    | [] => false)
end
mutual
theorem repB_ok {K : PySem.W.Frag} {w : World} : ∀ {d : PyData} {u : Value}, repB K u d = true → ∃ v, RelV v u ∧ ∀ G, Rp K w G v d
  | .none, u, h => by
    unfold repB at h
    cases u <;> first | exact ⟨.non, rfl, fun G => .non⟩ | cases h
  | .bool b, u, h => by
    unfold repB at h
    cases u <;> first | (rename_i c; exact ⟨.bl b, by rw [show b = c from by simpa using h]; rfl, fun G => .bl b⟩) | cases h
  | .int i, u, h => by
    unfold repB at h
    cases u <;> first | (rename_i c t; exact ⟨.int i, by rw [show i = c from by simpa using h]; exact ⟨_, rfl⟩, fun G => .int i⟩) | cases h
  | .str x, u, h => by
    unfold repB at h
    split at h
    rotate_left
    · cases h
    rename_i c t
    have h : (decide (x = c) && decide (x.length ≤ 1000)) = true := h
    rw [Bool.and_eq_true] at h
    have h1 := of_decide_eq_true h.1
    have h2 := of_decide_eq_true h.2
    exact ⟨.str x, by rw [h1]; exact ⟨_, rfl⟩, fun G => .str x (Nat.le_trans h2 (by decide))⟩
  | .tuple ds, u, h => by
    unfold repB at h
    split at h
    · rename_i a
      split at h
      · rename_i c od its n sl q
        simp only [Bool.and_eq_true, decide_eq_true_eq] at h
        obtain ⟨h1, h2, h3⟩ := h
        obtain ⟨vs, r, k⟩ := repA_ok (w := w) h3
        refine ⟨.ref a, rfl, fun G => ?_⟩
        have hl : vs.length = its.size := by rw [r.length, Array.length_toList]
        exact .tup (.inr ⟨_, its, n, q, congrArg Value.type h1, rfl, Nat.le_trans h2 (by decide), r⟩) (by rw [hl]; exact Nat.le_trans h2 (by decide)) (k G)
      · cases h
    · cases h
  | .list _, u, h => by unfold repB at h; cases h
  | .dict _, u, h => by unfold repB at h; cases h
theorem repA_ok {K : PySem.W.Frag} {w : World} : ∀ {ds : List PyData} {us : List Value}, repA K us ds = true → ∃ vs, Vals vs us ∧ ∀ G, RpA K w G vs ds
  | [], us, h => by
    unfold repA at h
    cases us with
    | nil => exact ⟨[], .nil, fun G => .nil⟩
    | cons _ _ => cases h
  | d :: ds, us, h => by
    unfold repA at h
    cases us with
    | nil => cases h
    | cons u r =>
      have h : (repB K u d && repA K r ds) = true := h
      rw [Bool.and_eq_true] at h
      obtain ⟨v, r1, k1⟩ := repB_ok (w := w) h.1
      obtain ⟨vs, r2, k2⟩ := repA_ok (w := w) h.2
      exact ⟨v :: vs, .cons r1 r2, fun G => .cons (k1 G) (k2 G)⟩
end
def conN (K : PySem.W.Frag) (p : Str × PyData) : Bool := match PySem.W.nsIn K mainGlobals p.1 with
  | some (some u) => repB K u p.2
  | _ => false
/-- a written dict: entries and values -/
def entB (K : PySem.W.Frag) : List DictEntry → List (Str × PyData) → Bool
  | [], [] => true
  | e :: es, q :: qs => (match e.key with
    | .str y _ => decide (y = q.1)
    | _ => false) && (repB K e.val q.2 && entB K es qs)
  | _, _ => false
def tabN (K : PySem.W.Frag) (p : Str × List (Str × PyData)) : Bool := match PySem.W.nsIn K mainGlobals p.1 with
  | some (some (.ref a)) => decide (a = He.ga K p.1) && (match K.lookup a with
    | some ⟨_, _, .dict es _, _⟩ => entB K es.toList p.2
    | _ => false)
  | _ => false
theorem entB_ok {K : PySem.W.Frag} {w : World} : ∀ {es : List DictEntry} {qs : List (Str × PyData)}, entB K es qs = true → ∃ kvs : List (Str × V), kvs.map (·.1) = qs.map (·.1) ∧ (∀ G, RpA K w G (kvs.map (·.2)) (qs.map (·.2))) ∧
    (es.any (·.refKey)) = false ∧ ∀ x : Str, RelO (kvs.lookup x) ((es.find? (·.key.isStr x)).map (·.val))
  | [], [], _ => ⟨[], rfl, fun G => .nil, rfl, fun x => trivial⟩
  | [], _ :: _, h => by cases h
  | _ :: _, [], h => by cases h
  | e :: es, q :: qs, h => by
    have h : ((match e.key with
      | .str y _ => decide (y = q.1)
      | _ => false) && (repB K e.val q.2 && entB K es qs)) = true := h
    rw [Bool.and_eq_true, Bool.and_eq_true] at h
    obtain ⟨h1, h2, h3⟩ := h
    obtain ⟨kvs, k1, k2, k3, k4⟩ := entB_ok (w := w) h3
    obtain ⟨v, r1, r2⟩ := repB_ok (w := w) h2
    split at h1
    · rename_i y t ek
      have ey := of_decide_eq_true h1
      subst ey
      refine ⟨(q.1, v) :: kvs, by simp [k1], fun G => .cons (r2 G) (k2 G), ?_, fun x => ?_⟩
      · rw [List.any_cons, k3]
        simp [DictEntry.refKey, ek]
      · rw [List.find?_cons]
        have e1 : e.key.isStr x = (q.1 == x) := by rw [ek]; rfl
        rw [e1]
        cases z : q.1 == x with
        | true =>
          have z' : q.1 = x := by simpa using z
          rw [← z']
          simp [List.lookup]
          exact r1
        | false =>
          have z' : (x == q.1) = false := by
            have : q.1 ≠ x := by simpa using z
            simpa using fun y => this y.symm
          have : ((q.1, v) :: kvs).lookup x = kvs.lookup x := by simp [List.lookup, z']
          rw [this]
          exact k4 x
    · cases h1
abbrev AlN : Type := He.AlT × Bool
def tabsN (ts : List (Str × List (Str × PyData))) : List He.Tab := ts.map fun t => (fun K => He.ga K t.1, t.2.map (·.1))
def obsN (fa : List He.Fa) (fn : List He.DefD) (cs : List (Str × PyData)) (ts : List (Str × List (Str × PyData))) (K : PySem.W.Frag) : AlN := (He.obsT fa fn (tabsN ts) K, cs.all (conN K) && ts.all (tabN K))
def valN (fn : List He.DefD) (ts : List (Str × List (Str × PyData))) (w : World) : AlN := (He.valT fn (tabsN ts) w, true)
def SaysN (fa : List He.Fa) (fn : List He.DefD) (cs : List (Str × PyData)) (ts : List (Str × List (Str × PyData))) (w : World) (K : PySem.W.Frag) : Prop := obsN fa fn cs ts K = valN fn ts w
/-- what the constants are made of, too -/
def asN (g : Addr → Option Obj) (n : Nat) (xs : List Str) : List Addr :=
  let as := He.asD g n
  as ++ He.growG g (He.growG g (He.growG g (xs.map (He.ga (He.frG g as)))))
def obsNG (n : Nat) (fa : List He.Fa) (fn : List He.DefD) (cs : List (Str × PyData)) (ts : List (Str × List (Str × PyData))) (g : Addr → Option Obj) : AlN := obsN fa fn cs ts (He.frG g (asN g n (cs.map (·.1) ++ ts.map (·.1))))
def hookN (n : Nat) (fa : List He.Fa) (fn : List He.DefD) (cs : List (Str × PyData)) (ts : List (Str × List (Str × PyData))) : PySem.W.Hook where
  α := AlN
  obs := fun s => obsNG n fa fn cs ts s.heap.get?
  val := fun w => valN fn ts w
  says := fun w h => ∃ K : PySem.W.Frag, K.In h ∧ SaysN fa fn cs ts w K
  of := fun _ _ e => ⟨_, He.frG_in, e⟩
  keeps := fun _ _ _ ⟨K, hK, c⟩ k => ⟨K, PySem.W.Frag.In.keeps hK k, c⟩
theorem obsNG_eq {n : Nat} {fa : List He.Fa} {fn : List He.DefD} {cs : List (Str × PyData)} {ts : List (Str × List (Str × PyData))} {g : Addr → Option Obj} {s : Shared} (h : ∀ a, g a = s.heap.get? a) : obsNG n fa fn cs ts g = (hookN n fa fn cs ts).obs s := by
  have e : g = s.heap.get? := funext h
  rw [e] <;> rfl
section
variable {fa : List He.Fa} {fn : List He.DefD} {cs : List (Str × PyData)} {ts : List (Str × List (Str × PyData))} {w : World} {K : PySem.W.Frag} {P : Program} {mg : Str → Option Value} {base h : Heap}
theorem SaysN.t (c : SaysN fa fn cs ts w K) : He.SaysT fa fn (tabsN ts) w K := congrArg (fun z : AlN => z.1) c
theorem SaysN.fact (c : SaysN fa fn cs ts w K) (i : Nat) {f : He.Fa} (h : fa[i]? = some f := by rfl) : f.ok K = true := c.t.d.fact i h
theorem SaysN.def_ (c : SaysN fa fn cs ts w K) (i : Nat) {d : He.DefD} (h : fn[i]? = some d := by rfl) : ∃ fd, FunD K d.name d.qual d.params d.body d.scope (d.dvs K) (d.kws K) (He.fAd K d.at_) fd := c.t.d.def_ i h
theorem SaysN.all (c : SaysN fa fn cs ts w K) : (∀ p ∈ cs, conN K p = true) ∧ ∀ p ∈ ts, tabN K p = true := by
  have e : (cs.all (conN K) && ts.all (tabN K)) = true := congrArg (fun z : AlN => z.2) c
  rw [Bool.and_eq_true, List.all_eq_true, List.all_eq_true] at e
  exact e
theorem SaysN.con (c : SaysN fa fn cs ts w K) (X : K.In h) (G : h.Ns mainGlobals mg) (i : Nat) {y : Str} {d : PyData} (e : cs[i]? = some (y, d) := by rfl) : Glob ⟨P, w, K, mg, base⟩ y d := by
  have q := c.all.1 _ (List.mem_of_getElem? e)
  unfold conN at q
  split at q
  · rename_i u z
    obtain ⟨v, r1, r2⟩ := repB_ok (w := w) q
    exact ⟨v, u, PySem.W.mg_of X G z, r1, r2⟩
  · cases q
theorem SaysN.tab (c : SaysN fa fn cs ts w K) (X : K.In h) (G : h.Ns mainGlobals mg) (i : Nat) {y : Str} {kvs : List (Str × PyData)} (e : ts[i]? = some (y, kvs) := by rfl) (hne : kvs ≠ []) : Gldb ⟨P, w, K, mg, base⟩ y (.dict (kvs.map fun p => (.str p.1, p.2))) := by
  have q := c.all.2 _ (List.mem_of_getElem? e)
  have e2 : (tabsN ts)[i]? = some (fun K => He.ga K y, kvs.map (·.1)) := by unfold tabsN; rw [List.getElem?_map, e]; rfl
  obtain ⟨es, n, kd⟩ := c.t.tab i e2
  have kd : KDict K w (He.ga K y) es n := kd
  unfold tabN at q
  split at q
  · rename_i a z
    simp only [Bool.and_eq_true, decide_eq_true_eq] at q
    obtain ⟨ea, q⟩ := q
    subst ea
    rw [kd.at_] at q
    have q : entB K es.toList kvs = true := q
    obtain ⟨us, k1, k2, k3, k4⟩ := entB_ok (w := w) q
    refine ⟨.ref (He.ga K y), .ref (He.ga K y), PySem.W.mg_of X G z, rfl, ?_⟩
    have : (kvs.map fun p => (PyData.str p.1, p.2)) = (us.map fun p => PyData.str p.1).zip (kvs.map (·.2)) := by
      have e3 : (us.map fun p => PyData.str p.1) = kvs.map fun p => PyData.str p.1 := by
        have := congrArg (List.map PyData.str) k1
        simpa [List.map_map, Function.comp_def] using this
      rw [e3, List.zip_map']
    rw [this]
    refine Kdv.mk kd (fun z => hne ?_) (fun x => ?_) k2
    · rw [z] at k1
      exact List.map_eq_nil_iff.mp k1.symm
    · unfold PySem.W.nsIn
      rw [kd.at_]
      have k4 := k4 x
      cases z : es.toList.find? (·.key.isStr x) with
      | none =>
        rw [z] at k4
        refine ⟨none, ?_, k4⟩
        simp only [z, k3, Bool.false_eq_true, if_false]
      | some u =>
        rw [z] at k4
        exact ⟨some u.val, by simp only [z], k4⟩
  · cases q
end
end VL
/-! PP: milepence.pages: what its looks answer -/
namespace VL
open PySem PySem.Spec PyProof.Rows L2
def isWhole : PyData → Bool
  | .int _ => true
  | _ => false
def isBtw (d : PyData) (lo hi : Int) : Bool := match d with
  | .int i => decide (lo ≤ i) && decide (i ≤ hi)
  | _ => false
def f_is_whole : List PyData → Option PyData
  | [d] => some (.bool (isWhole d))
  | _ => none
def sp_is_whole : Spec := spF 1 false f_is_whole
def ir_is_whole : Ss := (.cons (.ret (.and (.isi [.int] (.var 0)) (.not (.isi [.bool] (.var 0))))) .nil)
theorem wp_is_whole {d : PyData} {x : Str → Prop} {R : Av → Prop} {N : En → Prop} (h : R (.da (.bool (isWhole d)))) : wpSs ir_is_whole x R (slots0 1 [.da d]) N := by
  cases d <;> exact h
def f_is_between : List PyData → Option PyData
  | [d, .int lo, .int hi] => some (.bool (isBtw d lo hi))
  | _ => none
def sp_is_between : Spec := spF 3 false f_is_between
def ir_is_between : Ss := (.cons (.ret (.and (.cal "is_whole" sp_is_whole (.cons (.var 0) .nil)) (.chn .le .le (.var 1) (.var 0) (.var 2)))) .nil)
theorem wp_is_between {d : PyData} {lo hi : Int} {x : Str → Prop} {R : Av → Prop} {N : En → Prop} (h : R (.da (.bool (isBtw d lo hi)))) : wpSs ir_is_between x R (slots0 3 [.da d, .da (.int lo), .da (.int hi)]) N := by
  simp only [ir_is_between, sp_is_whole, f_is_whole, slots0, List.map_cons, List.map_nil, slotOf, List.length_cons, List.length_nil, List.replicate_succ, List.replicate_zero, List.cons_append, List.nil_append, List.append_nil, Nat.reduceAdd, Nat.reduceSub, List.getElem?_cons_zero, List.getElem?_cons_succ, List.set_cons_zero, List.set_cons_succ, wpSs, wpS, wpE, wpEs, wpBs, wpAs, wpC, wpI, wipeE, brw, brv, arg, q_v0, q_vs, q_b0, q_b1, q_bs, q_a0, q_a1, q_a2, q_as, q_s0, q_ss, q_r0, q_rs, q_asI, q_asB, q_asL, q_asT, q_nm, q_tp, q_nil, q_cons, q_rva, q_rvo, retP, setsE, frzE, oall, sl_nil, sl_int, slT_last, slL_last, ixT0, ixL0, ixT1, ixL1, ixT2, ixL2, ixT3, ixL3, ixT4, ixL4, ixT5, ixL5, ixT6, ixL6, ixT7, ixL7, ixT8, ixL8, osome, ite_t, ite_f, oadd, osub, ofdv, omod, omul, olt, ogt, ole, oge, oeqI, oneI, oeqS, oneS, oneB, oeqB, otake, ospF1, ospF2, ospF3, ospF4, lcW_at, frW_at, lcT_map, lcT_fil, ite_not, true_and, and_true, forall_const, Bool.false_eq_true, false_implies]
  cases d with
  | int i =>
    simp only [isWhole, isBtw, slots0, List.map_cons, List.map_nil, slotOf, List.length_cons, List.length_nil, List.replicate_succ, List.replicate_zero, List.cons_append, List.nil_append, List.append_nil, Nat.reduceAdd, Nat.reduceSub, List.getElem?_cons_zero, List.getElem?_cons_succ, List.set_cons_zero, List.set_cons_succ, wpSs, wpS, wpE, wpEs, wpBs, wpAs, wpC, wpI, wipeE, brw, brv, arg, q_v0, q_vs, q_b0, q_b1, q_bs, q_a0, q_a1, q_a2, q_as, q_s0, q_ss, q_r0, q_rs, q_asI, q_asB, q_asL, q_asT, q_nm, q_tp, q_nil, q_cons, q_rva, q_rvo, retP, setsE, frzE, oall, sl_nil, sl_int, slT_last, slL_last, ixT0, ixL0, ixT1, ixL1, ixT2, ixL2, ixT3, ixL3, ixT4, ixL4, ixT5, ixL5, ixT6, ixL6, ixT7, ixL7, ixT8, ixL8, osome, ite_t, ite_f, oadd, osub, ofdv, omod, omul, olt, ogt, ole, oge, oeqI, oneI, oeqS, oneS, oneB, oeqB, otake, ospF1, ospF2, ospF3, ospF4, lcW_at, frW_at, lcT_map, lcT_fil, ite_not, true_and, and_true, forall_const, Bool.false_eq_true, false_implies] at h ⊢
    cases q : decide (lo ≤ i) <;> rw [q] at h <;> exact h
  | _ => exact h
def isStep : PyData → Bool
  | .tuple [a, b] => isBtw a 1 99 && isBtw b 1 12
  | _ => false
def f_is_step : List PyData → Option PyData
  | [d] => some (.bool (isStep d))
  | _ => none
def sp_is_step : Spec := spF 1 false f_is_step
def ir_is_step : Ss := (.cons (.ifs (.or (.not (.isi [.tuple] (.var 0))) (.cmp .ne (.blt .len (.cons (.var 0) .nil)) (.cst (.int 2)))) (.cons (.ret (.cst (.bool false))) .nil) .nil) (.cons (.ret (.and (.cal "is_between" sp_is_between (.cons (.sub (.var 0) (.cst (.int 0))) (.cons (.cst (.int 1)) (.cons (.cst (.int 99)) .nil)))) (.cal "is_between" sp_is_between (.cons (.sub (.var 0) (.cst (.int 1))) (.cons (.cst (.int 1)) (.cons (.cst (.int 12)) .nil)))))) .nil))
theorem wp_is_step {d : PyData} {x : Str → Prop} {R : Av → Prop} {N : En → Prop} (h : R (.da (.bool (isStep d)))) : wpSs ir_is_step x R (slots0 1 [.da d]) N := by
  simp only [ir_is_step, sp_is_between, f_is_between, slots0, List.map_cons, List.map_nil, slotOf, List.length_cons, List.length_nil, List.replicate_succ, List.replicate_zero, List.cons_append, List.nil_append, List.append_nil, Nat.reduceAdd, Nat.reduceSub, List.getElem?_cons_zero, List.getElem?_cons_succ, List.set_cons_zero, List.set_cons_succ, wpSs, wpS, wpE, wpEs, wpBs, wpAs, wpC, wpI, wipeE, brw, brv, arg, q_v0, q_vs, q_b0, q_b1, q_bs, q_a0, q_a1, q_a2, q_as, q_s0, q_ss, q_r0, q_rs, q_asI, q_asB, q_asL, q_asT, q_nm, q_tp, q_nil, q_cons, q_rva, q_rvo, retP, setsE, frzE, oall, sl_nil, sl_int, slT_last, slL_last, ixT0, ixL0, ixT1, ixL1, ixT2, ixL2, ixT3, ixL3, ixT4, ixL4, ixT5, ixL5, ixT6, ixL6, ixT7, ixL7, ixT8, ixL8, osome, ite_t, ite_f, oadd, osub, ofdv, omod, omul, olt, ogt, ole, oge, oeqI, oneI, oeqS, oneS, oneB, oeqB, otake, ospF1, ospF2, ospF3, ospF4, lcW_at, frW_at, lcT_map, lcT_fil, ite_not, true_and, and_true, forall_const, Bool.false_eq_true, false_implies]
  cases d with
  | tuple ds =>
    simp only [isD, List.any_cons, List.any_nil, Ty.is, Bool.or_false, Bool.not_true, Blt.f, lenF, slots0, List.map_cons, List.map_nil, slotOf, List.length_cons, List.length_nil, List.replicate_succ, List.replicate_zero, List.cons_append, List.nil_append, List.append_nil, Nat.reduceAdd, Nat.reduceSub, List.getElem?_cons_zero, List.getElem?_cons_succ, List.set_cons_zero, List.set_cons_succ, wpSs, wpS, wpE, wpEs, wpBs, wpAs, wpC, wpI, wipeE, brw, brv, arg, q_v0, q_vs, q_b0, q_b1, q_bs, q_a0, q_a1, q_a2, q_as, q_s0, q_ss, q_r0, q_rs, q_asI, q_asB, q_asL, q_asT, q_nm, q_tp, q_nil, q_cons, q_rva, q_rvo, retP, setsE, frzE, oall, sl_nil, sl_int, slT_last, slL_last, ixT0, ixL0, ixT1, ixL1, ixT2, ixL2, ixT3, ixL3, ixT4, ixL4, ixT5, ixL5, ixT6, ixL6, ixT7, ixL7, ixT8, ixL8, osome, ite_t, ite_f, oadd, osub, ofdv, omod, omul, olt, ogt, ole, oge, oeqI, oneI, oeqS, oneS, oneB, oeqB, otake, ospF1, ospF2, ospF3, ospF4, lcW_at, frW_at, lcT_map, lcT_fil, ite_not, true_and, and_true, forall_const, Bool.false_eq_true, false_implies]
    match ds with
    | [] => exact h
    | [a] => exact h
    | [a, b] =>
      show ite' (isBtw a 1 99) (R (.da (.bool (isBtw b 1 12)))) (R (.da (.bool false)))
      have h : R (.da (.bool (isBtw a 1 99 && isBtw b 1 12))) := h
      cases q : isBtw a 1 99 <;> rw [q] at h <;> exact h
    | a :: b :: c :: r =>
      have : decide (((a :: b :: c :: r).length : Int) = 2) = false := decide_eq_false (by simp only [List.length_cons]; omega)
      rw [this]
      exact h
  | _ => exact h
def rises : List PyData → Bool
  | .tuple [.int a, .int b] :: .tuple [.int c, .int d] :: r => decide (a < c) && decide (b < d) && rises (.tuple [.int c, .int d] :: r)
  | _ => true
def isTable : PyData → Bool
  | .tuple ds => decide (1 ≤ ds.length) && decide (ds.length ≤ 4) && ds.all isStep && rises ds
  | _ => false
def stp (p : Int × Int) : PyData := .tuple [.int p.1, .int p.2]
theorem step_shape {d : PyData} (h : isStep d = true) : ∃ p, d = stp p := by
  unfold isStep at h
  split at h
  · rename_i a b
    rw [Bool.and_eq_true] at h
    cases a <;> first | (simp [isBtw] at h; done) | skip
    cases b <;> first | (simp [isBtw] at h; done) | exact ⟨(_, _), rfl⟩
  · cases h
theorem steps_shape : ∀ {ds : List PyData}, ds.all isStep = true → ∃ ps : List (Int × Int), ds = ps.map stp
  | [], _ => ⟨[], rfl⟩
  | d :: ds, h => by
    rw [List.all_cons, Bool.and_eq_true] at h
    obtain ⟨p, rfl⟩ := step_shape h.1
    obtain ⟨ps, rfl⟩ := steps_shape h.2
    exact ⟨p :: ps, rfl⟩
def upP : PyData → Bool
  | .tuple [.tuple [.int a, .int b], .tuple [.int c, .int d]] => decide (a < c) && decide (b < d)
  | _ => false
theorem rises_zip : ∀ ps : List (Int × Int), (zpL (ps.map stp).dropLast ((ps.map stp).drop 1)).all upP = rises (ps.map stp)
  | [] => rfl
  | [p] => rfl
  | p :: q :: r => by
    have ih := rises_zip (q :: r)
    show ((decide (p.1 < q.1) && decide (p.2 < q.2)) && (zpL ((q :: r).map stp).dropLast ((q :: r).map stp |>.drop 1)).all upP) = _
    rw [ih]; rfl
theorem zip_shape : ∀ (ps : List (Int × Int)) (d : PyData), d ∈ zpL (ps.map stp).dropLast ((ps.map stp).drop 1) → ∃ p q, d = .tuple [stp p, stp q]
  | [], d, h => by cases h
  | [p], d, h => by cases h
  | p :: q :: r, d, h => by
    rcases List.mem_cons.mp (show d ∈ PyData.tuple [stp p, stp q] :: zpL ((q :: r).map stp).dropLast (((q :: r).map stp).drop 1) from h) with e | e
    · exact ⟨p, q, e⟩
    · exact zip_shape (q :: r) d e
def f_is_table : List PyData → Option PyData
  | [d] => some (.bool (isTable d))
  | _ => none
def sp_is_table : Spec := spF 1 false f_is_table
def ir_is_table : Ss := (.cons (.ifs (.or (.not (.isi [.tuple] (.var 0))) (.or (.not (.chn .le .le (.cst (.int 1)) (.blt .len (.cons (.var 0) .nil)) (.cst (.int 4)))) (.not (.blt .all (.cons (.lcm (.cal "is_step" sp_is_step (.cons (.var 1) .nil)) (.nm 1) (.seq (.var 0)) .nil [1]) .nil))))) (.cons (.ret (.cst (.bool false))) .nil) .nil) (.cons (.ret (.blt .all (.cons (.lcm (.and (.cmp .lt (.sub (.var 2) (.cst (.int 0))) (.sub (.var 3) (.cst (.int 0)))) (.cmp .lt (.sub (.var 2) (.cst (.int 1))) (.sub (.var 3) (.cst (.int 1))))) (.tp (.cons (.nm 2) (.cons (.nm 3) .nil))) (.zip (.slc (.var 0) .nil (.cons (.neg (.cst (.int 1))) .nil)) (.slc (.var 0) (.cons (.cst (.int 1)) .nil) .nil)) .nil [2, 3]) .nil))) .nil))
theorem wp_is_table {d : PyData} {x : Str → Prop} {R : Av → Prop} {N : En → Prop} (h : R (.da (.bool (isTable d)))) : wpSs ir_is_table x R (slots0 4 [.da d]) N := by
  simp only [ir_is_table, sp_is_step, f_is_step, slots0, List.map_cons, List.map_nil, slotOf, List.length_cons, List.length_nil, List.replicate_succ, List.replicate_zero, List.cons_append, List.nil_append, List.append_nil, Nat.reduceAdd, Nat.reduceSub, List.getElem?_cons_zero, List.getElem?_cons_succ, List.set_cons_zero, List.set_cons_succ, wpSs, wpS, wpE, wpEs, wpBs, wpAs, wpC, wpI, wipeE, brw, brv, arg, q_v0, q_vs, q_b0, q_b1, q_bs, q_a0, q_a1, q_a2, q_as, q_s0, q_ss, q_r0, q_rs, q_asI, q_asB, q_asL, q_asT, q_nm, q_tp, q_nil, q_cons, q_rva, q_rvo, retP, setsE, frzE, oall, sl_nil, sl_int, slT_last, slL_last, ixT0, ixL0, ixT1, ixL1, ixT2, ixL2, ixT3, ixL3, ixT4, ixL4, ixT5, ixL5, ixT6, ixL6, ixT7, ixL7, ixT8, ixL8, osome, ite_t, ite_f, oadd, osub, ofdv, omod, omul, olt, ogt, ole, oge, oeqI, oneI, oeqS, oneS, oneB, oeqB, otake, ospF1, ospF2, ospF3, ospF4, lcW_at, frW_at, lcT_map, lcT_fil, ite_not, true_and, and_true, forall_const, Bool.false_eq_true, false_implies]
  cases d with
  | tuple ds =>
    simp only [isD, List.any_cons, List.any_nil, Ty.is, Bool.or_false, Bool.not_true, Blt.f, lenF, slots0, List.map_cons, List.map_nil, slotOf, List.length_cons, List.length_nil, List.replicate_succ, List.replicate_zero, List.cons_append, List.nil_append, List.append_nil, Nat.reduceAdd, Nat.reduceSub, List.getElem?_cons_zero, List.getElem?_cons_succ, List.set_cons_zero, List.set_cons_succ, wpSs, wpS, wpE, wpEs, wpBs, wpAs, wpC, wpI, wipeE, brw, brv, arg, q_v0, q_vs, q_b0, q_b1, q_bs, q_a0, q_a1, q_a2, q_as, q_s0, q_ss, q_r0, q_rs, q_asI, q_asB, q_asL, q_asT, q_nm, q_tp, q_nil, q_cons, q_rva, q_rvo, retP, setsE, frzE, oall, sl_nil, sl_int, slT_last, slL_last, ixT0, ixL0, ixT1, ixL1, ixT2, ixL2, ixT3, ixL3, ixT4, ixL4, ixT5, ixL5, ixT6, ixL6, ixT7, ixL7, ixT8, ixL8, osome, ite_t, ite_f, oadd, osub, ofdv, omod, omul, olt, ogt, ole, oge, oeqI, oneI, oeqS, oneS, oneB, oeqB, otake, ospF1, ospF2, ospF3, ospF4, lcW_at, frW_at, lcT_map, lcT_fil, ite_not, true_and, and_true, forall_const, Bool.false_eq_true, false_implies]
    refine ite_cases (fun h1 => ite_cases (fun h2 => ?_) fun h2 => ?_) fun h1 => ?_
    rotate_left
    · have h2' : ¬ ds.length ≤ 4 := fun z => by simp at h2; omega
      have : isTable (.tuple ds) = false := by simp [isTable, h2']
      rw [this] at h; exact h
    rotate_left
    · refine lcW_map (fun d => .bool (isStep d)) ds (fun d _ K h => h) ?_
      simp only [slots0, List.map_cons, List.map_nil, slotOf, List.length_cons, List.length_nil, List.replicate_succ, List.replicate_zero, List.cons_append, List.nil_append, List.append_nil, Nat.reduceAdd, Nat.reduceSub, List.getElem?_cons_zero, List.getElem?_cons_succ, List.set_cons_zero, List.set_cons_succ, wpSs, wpS, wpE, wpEs, wpBs, wpAs, wpC, wpI, wipeE, brw, brv, arg, q_v0, q_vs, q_b0, q_b1, q_bs, q_a0, q_a1, q_a2, q_as, q_s0, q_ss, q_r0, q_rs, q_asI, q_asB, q_asL, q_asT, q_nm, q_tp, q_nil, q_cons, q_rva, q_rvo, retP, setsE, frzE, oall, sl_nil, sl_int, slT_last, slL_last, ixT0, ixL0, ixT1, ixL1, ixT2, ixL2, ixT3, ixL3, ixT4, ixL4, ixT5, ixL5, ixT6, ixL6, ixT7, ixL7, ixT8, ixL8, osome, ite_t, ite_f, oadd, osub, ofdv, omod, omul, olt, ogt, ole, oge, oeqI, oneI, oeqS, oneS, oneB, oeqB, otake, ospF1, ospF2, ospF3, ospF4, lcW_at, frW_at, lcT_map, lcT_fil, ite_not, true_and, and_true, forall_const, Bool.false_eq_true, false_implies]
      rw [slT_from ds 1 (by decide)]
      simp only [slots0, List.map_cons, List.map_nil, slotOf, List.length_cons, List.length_nil, List.replicate_succ, List.replicate_zero, List.cons_append, List.nil_append, List.append_nil, Nat.reduceAdd, Nat.reduceSub, List.getElem?_cons_zero, List.getElem?_cons_succ, List.set_cons_zero, List.set_cons_succ, wpSs, wpS, wpE, wpEs, wpBs, wpAs, wpC, wpI, wipeE, brw, brv, arg, q_v0, q_vs, q_b0, q_b1, q_bs, q_a0, q_a1, q_a2, q_as, q_s0, q_ss, q_r0, q_rs, q_asI, q_asB, q_asL, q_asT, q_nm, q_tp, q_nil, q_cons, q_rva, q_rvo, retP, setsE, frzE, oall, sl_nil, sl_int, slT_last, slL_last, ixT0, ixL0, ixT1, ixL1, ixT2, ixL2, ixT3, ixL3, ixT4, ixL4, ixT5, ixL5, ixT6, ixL6, ixT7, ixL7, ixT8, ixL8, osome, ite_t, ite_f, oadd, osub, ofdv, omod, omul, olt, ogt, ole, oge, oeqI, oneI, oeqS, oneS, oneB, oeqB, otake, ospF1, ospF2, ospF3, ospF4, lcW_at, frW_at, lcT_map, lcT_fil, ite_not, true_and, and_true, forall_const, Bool.false_eq_true, false_implies]
      cases q : ds.all isStep with
      | false =>
        have : isTable (.tuple ds) = false := by simp only [isTable, q, Bool.and_false, Bool.false_and]
        rw [this] at h; exact h
      | true =>
        have h3 : ds.length ≤ 4 := by simp at h2; omega
        have h4 : 1 ≤ ds.length := by simp at h1; omega
        have e : isTable (.tuple ds) = rises ds := by simp only [isTable, q, decide_eq_true h3, decide_eq_true h4, Bool.and_true, Bool.true_and]
        rw [e] at h
        simp only [Bool.not_true, slots0, List.map_cons, List.map_nil, slotOf, List.length_cons, List.length_nil, List.replicate_succ, List.replicate_zero, List.cons_append, List.nil_append, List.append_nil, Nat.reduceAdd, Nat.reduceSub, List.getElem?_cons_zero, List.getElem?_cons_succ, List.set_cons_zero, List.set_cons_succ, wpSs, wpS, wpE, wpEs, wpBs, wpAs, wpC, wpI, wipeE, brw, brv, arg, q_v0, q_vs, q_b0, q_b1, q_bs, q_a0, q_a1, q_a2, q_as, q_s0, q_ss, q_r0, q_rs, q_asI, q_asB, q_asL, q_asT, q_nm, q_tp, q_nil, q_cons, q_rva, q_rvo, retP, setsE, frzE, oall, sl_nil, sl_int, slT_last, slL_last, ixT0, ixL0, ixT1, ixL1, ixT2, ixL2, ixT3, ixL3, ixT4, ixL4, ixT5, ixL5, ixT6, ixL6, ixT7, ixL7, ixT8, ixL8, osome, ite_t, ite_f, oadd, osub, ofdv, omod, omul, olt, ogt, ole, oge, oeqI, oneI, oeqS, oneS, oneB, oeqB, otake, ospF1, ospF2, ospF3, ospF4, lcW_at, frW_at, lcT_map, lcT_fil, ite_not, true_and, and_true, forall_const, Bool.false_eq_true, false_implies]
        obtain ⟨ps, rfl⟩ := steps_shape q
        refine lcW_map (fun d => .bool (upP d)) _ (fun d hd K hk => ?_) ?_
        · obtain ⟨p, q, rfl⟩ := zip_shape ps d hd
          simp only [slots0, List.map_cons, List.map_nil, slotOf, List.length_cons, List.length_nil, List.replicate_succ, List.replicate_zero, List.cons_append, List.nil_append, List.append_nil, Nat.reduceAdd, Nat.reduceSub, List.getElem?_cons_zero, List.getElem?_cons_succ, List.set_cons_zero, List.set_cons_succ, wpSs, wpS, wpE, wpEs, wpBs, wpAs, wpC, wpI, wipeE, brw, brv, arg, q_v0, q_vs, q_b0, q_b1, q_bs, q_a0, q_a1, q_a2, q_as, q_s0, q_ss, q_r0, q_rs, q_asI, q_asB, q_asL, q_asT, q_nm, q_tp, q_nil, q_cons, q_rva, q_rvo, retP, setsE, frzE, oall, sl_nil, sl_int, slT_last, slL_last, ixT0, ixL0, ixT1, ixL1, ixT2, ixL2, ixT3, ixL3, ixT4, ixL4, ixT5, ixL5, ixT6, ixL6, ixT7, ixL7, ixT8, ixL8, osome, ite_t, ite_f, oadd, osub, ofdv, omod, omul, olt, ogt, ole, oge, oeqI, oneI, oeqS, oneS, oneB, oeqB, otake, ospF1, ospF2, ospF3, ospF4, lcW_at, frW_at, lcT_map, lcT_fil, ite_not, true_and, and_true, forall_const, Bool.false_eq_true, false_implies]
          have hk : K (some (.bool (decide (p.1 < q.1) && decide (p.2 < q.2)))) := hk
          show ite' (decide (p.1 < q.1)) (K (some (.bool (decide (p.2 < q.2))))) (K (some (.bool false)))
          cases z : decide (p.1 < q.1) <;> rw [z] at hk <;> exact hk
        · simp only [slots0, List.map_cons, List.map_nil, slotOf, List.length_cons, List.length_nil, List.replicate_succ, List.replicate_zero, List.cons_append, List.nil_append, List.append_nil, Nat.reduceAdd, Nat.reduceSub, List.getElem?_cons_zero, List.getElem?_cons_succ, List.set_cons_zero, List.set_cons_succ, wpSs, wpS, wpE, wpEs, wpBs, wpAs, wpC, wpI, wipeE, brw, brv, arg, q_v0, q_vs, q_b0, q_b1, q_bs, q_a0, q_a1, q_a2, q_as, q_s0, q_ss, q_r0, q_rs, q_asI, q_asB, q_asL, q_asT, q_nm, q_tp, q_nil, q_cons, q_rva, q_rvo, retP, setsE, frzE, oall, sl_nil, sl_int, slT_last, slL_last, ixT0, ixL0, ixT1, ixL1, ixT2, ixL2, ixT3, ixL3, ixT4, ixL4, ixT5, ixL5, ixT6, ixL6, ixT7, ixL7, ixT8, ixL8, osome, ite_t, ite_f, oadd, osub, ofdv, omod, omul, olt, ogt, ole, oge, oeqI, oneI, oeqS, oneS, oneB, oeqB, otake, ospF1, ospF2, ospF3, ospF4, lcW_at, frW_at, lcT_map, lcT_fil, ite_not, true_and, and_true, forall_const, Bool.false_eq_true, false_implies]
          rw [show (Int.toNat 1) = 1 from rfl, rises_zip]; exact h
    · have h1' : ¬ 1 ≤ ds.length := fun z => by simp at h1; omega
      have : isTable (.tuple ds) = false := by simp [isTable, h1']
      rw [this] at h; exact h
  | _ => exact h
end VL
/-! PQ: milepence.pages: whether a thing is a page -/
namespace VL
open PySem PySem.Spec PyProof.Rows L2
def d_BOUNDS : PyData := (.dict [((.str "franks"), (.tuple [(.tuple [(.int 0), (.int 2)]), (.tuple [(.int 0), (.int 3)]), (.tuple [(.int 0), (.int 30)])])), ((.str "on"), (.tuple [(.tuple [(.int 0), (.int 7)]), (.tuple [(.int 0), (.int 30)]), (.tuple [(.int 0), (.int 5)])])), ((.str "refuse"), (.tuple [(.tuple [(.int 0), (.int 7)]), (.tuple [(.int 0), (.int 30)])])), ((.str "take"), (.tuple [(.tuple [(.int 0), (.int 7)]), (.tuple [(.int 0), (.int 30)])])), ((.str "short"), (.tuple [(.tuple [(.int 0), (.int 7)]), (.tuple [(.int 0), (.int 3)]), (.tuple [(.int 1), (.int 99)])])), ((.str "right"), (.tuple [(.tuple [(.int 0), (.int 7)]), (.tuple [(.int 0), (.int 3)])])), ((.str "pay"), (.tuple [(.tuple [(.int 0), (.int 5)]), (.tuple [(.int (-999)), (.int 999)]), (.tuple [(.int 0), (.int 30)])]))])
def d_SIZES : PyData := (.dict [((.str "road"), (.int 4)), ((.str "table"), (.int 3)), ((.str "give"), (.int 7))])
theorem btw_int {d : PyData} {lo hi : Int} (h : isBtw d lo hi = true) : ∃ i, d = .int i := by
  cases d <;> first | exact ⟨_, rfl⟩ | cases h
def ltI : PyData → PyData → Bool
  | .int i, .int j => decide (i < j)
  | _, _ => false
def isRoad (a b m t : PyData) : Bool := isBtw a 0 5 && isBtw b 0 5 && ltI a b && isBtw m 0 99 && isBtw t 0 30
def f_is_road : List PyData → Option PyData
  | [.tuple [_, a, b, m, t]] => some (.bool (isRoad a b m t))
  | _ => none
def sp_is_road : Spec := spF 1 false f_is_road
def ir_is_road : Ss := (.cons (.unp (.tp (.cons (.nm 1) (.cons (.nm 2) (.cons (.nm 3) (.cons (.nm 4) (.cons (.nm 5) .nil)))))) (.var 0)) (.cons (.ifs (.or (.not (.cal "is_between" sp_is_between (.cons (.var 2) (.cons (.cst (.int 0)) (.cons (.glb "POSTS" (.int 5)) .nil))))) (.or (.not (.cal "is_between" sp_is_between (.cons (.var 3) (.cons (.cst (.int 0)) (.cons (.glb "POSTS" (.int 5)) .nil))))) (.cmp .ge (.var 2) (.var 3)))) (.cons (.ret (.cst (.bool false))) .nil) .nil) (.cons (.ret (.and (.cal "is_between" sp_is_between (.cons (.var 4) (.cons (.cst (.int 0)) (.cons (.cst (.int 99)) .nil)))) (.cal "is_between" sp_is_between (.cons (.var 5) (.cons (.cst (.int 0)) (.cons (.glb "LAST" (.int 30)) .nil)))))) .nil)))
theorem wp_is_road {wd a b m t : PyData} {x : Str → Prop} {R : Av → Prop} {N : En → Prop} (h : R (.da (.bool (isRoad a b m t)))) : wpSs ir_is_road x R (slots0 6 [.da (.tuple [wd, a, b, m, t])]) N := by
  simp only [ir_is_road, sp_is_between, f_is_between, slots0, List.map_cons, List.map_nil, slotOf, List.length_cons, List.length_nil, List.replicate_succ, List.replicate_zero, List.cons_append, List.nil_append, List.append_nil, Nat.reduceAdd, Nat.reduceSub, List.getElem?_cons_zero, List.getElem?_cons_succ, List.set_cons_zero, List.set_cons_succ, wpSs, wpS, wpE, wpEs, wpBs, wpAs, wpC, wpI, wipeE, brw, brv, arg, q_v0, q_vs, q_b0, q_b1, q_bs, q_a0, q_a1, q_a2, q_as, q_s0, q_ss, q_r0, q_rs, q_asI, q_asB, q_asL, q_asT, q_nm, q_tp, q_nil, q_cons, q_rva, q_rvo, retP, setsE, frzE, oall, sl_nil, sl_int, slT_last, slL_last, ixT0, ixL0, ixT1, ixL1, ixT2, ixL2, ixT3, ixL3, ixT4, ixL4, ixT5, ixL5, ixT6, ixL6, ixT7, ixL7, ixT8, ixL8, osome, ite_t, ite_f, oadd, osub, ofdv, omod, omul, olt, ogt, ole, oge, oeqI, oneI, oeqS, oneS, oneB, oeqB, otake, ospF1, ospF2, ospF3, ospF4, lcW_at, frW_at, lcT_map, lcT_fil, ite_not, true_and, and_true, forall_const, Bool.false_eq_true, false_implies]
  unfold isRoad at h
  cases q1 : isBtw a 0 5 with
  | false => rw [q1] at h; exact h
  | true =>
    cases q2 : isBtw b 0 5 with
    | false => rw [q1, q2] at h; exact h
    | true =>
      obtain ⟨i, rfl⟩ := btw_int q1
      obtain ⟨j, rfl⟩ := btw_int q2
      rw [q1, q2] at h
      simp only [Bool.not_true, Bool.true_and, ltI, slots0, List.map_cons, List.map_nil, slotOf, List.length_cons, List.length_nil, List.replicate_succ, List.replicate_zero, List.cons_append, List.nil_append, List.append_nil, Nat.reduceAdd, Nat.reduceSub, List.getElem?_cons_zero, List.getElem?_cons_succ, List.set_cons_zero, List.set_cons_succ, wpSs, wpS, wpE, wpEs, wpBs, wpAs, wpC, wpI, wipeE, brw, brv, arg, q_v0, q_vs, q_b0, q_b1, q_bs, q_a0, q_a1, q_a2, q_as, q_s0, q_ss, q_r0, q_rs, q_asI, q_asB, q_asL, q_asT, q_nm, q_tp, q_nil, q_cons, q_rva, q_rvo, retP, setsE, frzE, oall, sl_nil, sl_int, slT_last, slL_last, ixT0, ixL0, ixT1, ixL1, ixT2, ixL2, ixT3, ixL3, ixT4, ixL4, ixT5, ixL5, ixT6, ixL6, ixT7, ixL7, ixT8, ixL8, osome, ite_t, ite_f, oadd, osub, ofdv, omod, omul, olt, ogt, ole, oge, oeqI, oneI, oeqS, oneS, oneB, oeqB, otake, ospF1, ospF2, ospF3, ospF4, lcW_at, frW_at, lcT_map, lcT_fil, ite_not, true_and, and_true, forall_const, Bool.false_eq_true, false_implies] at h ⊢
      cases q3 : decide (i < j) with
      | false =>
        rw [q3] at h
        have : decide (j ≤ i) = true := by simp at q3 ⊢; exact q3
        rw [this]; exact h
      | true =>
        rw [q3] at h
        have : decide (j ≤ i) = false := by simp at q3 ⊢; exact q3
        rw [this]
        cases q4 : isBtw m 0 99 <;> rw [q4] at h <;> exact h
def neI : PyData → PyData → Bool
  | .int i, .int j => !decide (i = j)
  | _, _ => false
def isGift (l t p g n k f : PyData) : Bool := isBtw l 0 7 && isBtw t 0 30 && isBtw p 0 5 && isBtw g 0 5 && neI p g && isBtw n 1 4 && isBtw k 0 1 && (isNo f || isBtw f 0 2)
def f_is_gift : List PyData → Option PyData
  | [.tuple [_, l, t, p, g, n, k, f]] => some (.bool (isGift l t p g n k f))
  | _ => none
def sp_is_gift : Spec := spF 1 false f_is_gift
def ir_is_gift : Ss := (.cons (.unp (.tp (.cons (.nm 1) (.cons (.nm 2) (.cons (.nm 3) (.cons (.nm 4) (.cons (.nm 5) (.cons (.nm 6) (.cons (.nm 7) (.cons (.nm 8) .nil))))))))) (.var 0)) (.cons (.ifs (.or (.not (.cal "is_between" sp_is_between (.cons (.var 2) (.cons (.cst (.int 0)) (.cons (.glb "LETTERS" (.int 7)) .nil))))) (.not (.cal "is_between" sp_is_between (.cons (.var 3) (.cons (.cst (.int 0)) (.cons (.glb "LAST" (.int 30)) .nil)))))) (.cons (.ret (.cst (.bool false))) .nil) .nil) (.cons (.ifs (.or (.not (.cal "is_between" sp_is_between (.cons (.var 4) (.cons (.cst (.int 0)) (.cons (.glb "POSTS" (.int 5)) .nil))))) (.or (.not (.cal "is_between" sp_is_between (.cons (.var 5) (.cons (.cst (.int 0)) (.cons (.glb "POSTS" (.int 5)) .nil))))) (.cmp .eq (.var 4) (.var 5)))) (.cons (.ret (.cst (.bool false))) .nil) .nil) (.cons (.ifs (.or (.not (.cal "is_between" sp_is_between (.cons (.var 6) (.cons (.cst (.int 1)) (.cons (.cst (.int 4)) .nil))))) (.not (.cal "is_between" sp_is_between (.cons (.var 7) (.cons (.cst (.int 0)) (.cons (.cst (.int 1)) .nil)))))) (.cons (.ret (.cst (.bool false))) .nil) .nil) (.cons (.ret (.or (.isN (.var 8)) (.cal "is_between" sp_is_between (.cons (.var 8) (.cons (.cst (.int 0)) (.cons (.glb "FRANKERS" (.int 2)) .nil)))))) .nil)))))
theorem wp_is_gift {wd l t p g n k f : PyData} {x : Str → Prop} {R : Av → Prop} {N : En → Prop} (h : R (.da (.bool (isGift l t p g n k f)))) : wpSs ir_is_gift x R (slots0 9 [.da (.tuple [wd, l, t, p, g, n, k, f])]) N := by
  simp only [ir_is_gift, sp_is_between, f_is_between, slots0, List.map_cons, List.map_nil, slotOf, List.length_cons, List.length_nil, List.replicate_succ, List.replicate_zero, List.cons_append, List.nil_append, List.append_nil, Nat.reduceAdd, Nat.reduceSub, List.getElem?_cons_zero, List.getElem?_cons_succ, List.set_cons_zero, List.set_cons_succ, wpSs, wpS, wpE, wpEs, wpBs, wpAs, wpC, wpI, wipeE, brw, brv, arg, q_v0, q_vs, q_b0, q_b1, q_bs, q_a0, q_a1, q_a2, q_as, q_s0, q_ss, q_r0, q_rs, q_asI, q_asB, q_asL, q_asT, q_nm, q_tp, q_nil, q_cons, q_rva, q_rvo, retP, setsE, frzE, oall, sl_nil, sl_int, slT_last, slL_last, ixT0, ixL0, ixT1, ixL1, ixT2, ixL2, ixT3, ixL3, ixT4, ixL4, ixT5, ixL5, ixT6, ixL6, ixT7, ixL7, ixT8, ixL8, osome, ite_t, ite_f, oadd, osub, ofdv, omod, omul, olt, ogt, ole, oge, oeqI, oneI, oeqS, oneS, oneB, oeqB, otake, ospF1, ospF2, ospF3, ospF4, lcW_at, frW_at, lcT_map, lcT_fil, ite_not, true_and, and_true, forall_const, Bool.false_eq_true, false_implies]
  unfold isGift at h
  cases q1 : isBtw l 0 7 with
  | false => rw [q1] at h; exact h
  | true =>
  cases q2 : isBtw t 0 30 with
  | false => rw [q1, q2] at h; exact h
  | true =>
  cases q3 : isBtw p 0 5 with
  | false => rw [q1, q2, q3] at h; exact h
  | true =>
  cases q4 : isBtw g 0 5 with
  | false => rw [q1, q2, q3, q4] at h; exact h
  | true =>
  obtain ⟨i, rfl⟩ := btw_int q3
  obtain ⟨j, rfl⟩ := btw_int q4
  rw [q1, q2, q3, q4] at h
  simp only [Bool.not_true, Bool.true_and, neI, slots0, List.map_cons, List.map_nil, slotOf, List.length_cons, List.length_nil, List.replicate_succ, List.replicate_zero, List.cons_append, List.nil_append, List.append_nil, Nat.reduceAdd, Nat.reduceSub, List.getElem?_cons_zero, List.getElem?_cons_succ, List.set_cons_zero, List.set_cons_succ, wpSs, wpS, wpE, wpEs, wpBs, wpAs, wpC, wpI, wipeE, brw, brv, arg, q_v0, q_vs, q_b0, q_b1, q_bs, q_a0, q_a1, q_a2, q_as, q_s0, q_ss, q_r0, q_rs, q_asI, q_asB, q_asL, q_asT, q_nm, q_tp, q_nil, q_cons, q_rva, q_rvo, retP, setsE, frzE, oall, sl_nil, sl_int, slT_last, slL_last, ixT0, ixL0, ixT1, ixL1, ixT2, ixL2, ixT3, ixL3, ixT4, ixL4, ixT5, ixL5, ixT6, ixL6, ixT7, ixL7, ixT8, ixL8, osome, ite_t, ite_f, oadd, osub, ofdv, omod, omul, olt, ogt, ole, oge, oeqI, oneI, oeqS, oneS, oneB, oeqB, otake, ospF1, ospF2, ospF3, ospF4, lcW_at, frW_at, lcT_map, lcT_fil, ite_not, true_and, and_true, forall_const, Bool.false_eq_true, false_implies] at h ⊢
  cases q5 : decide (i = j) with
  | true => rw [q5] at h; exact h
  | false =>
  rw [q5] at h
  cases q6 : isBtw n 1 4 with
  | false => rw [q6] at h; exact h
  | true =>
  cases q7 : isBtw k 0 1 with
  | false => rw [q6, q7] at h; exact h
  | true =>
  rw [q6, q7] at h
  cases f <;> exact h
/-- the parts behind the word -/
def isParts (w : Str) (r : List PyData) : Bool :=
  if w = "road" then (match r with | [a, b, m, t] => isRoad a b m t | _ => false)
  else if w = "table" then (match r with | [k, tb, t] => isBtw k 0 2 && isTable tb && isBtw t 0 30 | _ => false)
  else if w = "give" then (match r with | [l, t, p, g, n, k, f] => isGift l t p g n k f | _ => false)
  else if w = "franks" then (match r with | [a, b, c] => isBtw a 0 2 && isBtw b 0 3 && isBtw c 0 30 | _ => false)
  else if w = "on" then (match r with | [a, b, c] => isBtw a 0 7 && isBtw b 0 30 && isBtw c 0 5 | _ => false)
  else if w = "refuse" then (match r with | [a, b] => isBtw a 0 7 && isBtw b 0 30 | _ => false)
  else if w = "take" then (match r with | [a, b] => isBtw a 0 7 && isBtw b 0 30 | _ => false)
  else if w = "short" then (match r with | [a, b, c] => isBtw a 0 7 && isBtw b 0 3 && isBtw c 1 99 | _ => false)
  else if w = "right" then (match r with | [a, b] => isBtw a 0 7 && isBtw b 0 3 | _ => false)
  else if w = "pay" then (match r with | [a, b, c] => isBtw a 0 5 && isBtw b (-999) 999 && isBtw c 0 30 | _ => false)
  else false
def isPage : PyData → Bool
  | .tuple (.str w :: r) => isParts w r
  | _ => false
def f_is_page : List PyData → Option PyData
  | [d] => some (.bool (isPage d))
  | _ => none
def sp_is_page : Spec := spF 1 false f_is_page
def ir_is_page : Ss := (.cons (.ifs (.or (.not (.isi [.tuple] (.var 0))) (.or (.cmp .eq (.var 0) (.tup .nil)) (.not (.isi [.str] (.sub (.var 0) (.cst (.int 0))))))) (.cons (.ret (.cst (.bool false))) .nil) .nil) (.cons (.ifs (.and (.cmp .inn (.sub (.var 0) (.cst (.int 0))) (.gld "SIZES" d_SIZES)) (.cmp .eq (.blt .len (.cons (.var 0) .nil)) (.bin .add (.sub (.gld "SIZES" d_SIZES) (.sub (.var 0) (.cst (.int 0)))) (.cst (.int 1))))) (.cons (.ifs (.cmp .eq (.sub (.var 0) (.cst (.int 0))) (.cst (.str "road"))) (.cons (.ret (.cal "is_road" sp_is_road (.cons (.var 0) .nil))) .nil) .nil) (.cons (.ifs (.cmp .eq (.sub (.var 0) (.cst (.int 0))) (.cst (.str "give"))) (.cons (.ret (.cal "is_gift" sp_is_gift (.cons (.var 0) .nil))) .nil) .nil) (.cons (.ret (.and (.cal "is_between" sp_is_between (.cons (.sub (.var 0) (.cst (.int 1))) (.cons (.cst (.int 0)) (.cons (.cst (.int 2)) .nil)))) (.and (.cal "is_table" sp_is_table (.cons (.sub (.var 0) (.cst (.int 2))) .nil)) (.cal "is_between" sp_is_between (.cons (.sub (.var 0) (.cst (.int 3))) (.cons (.cst (.int 0)) (.cons (.glb "LAST" (.int 30)) .nil))))))) .nil))) .nil) (.cons (.ifs (.or (.cmp .nin (.sub (.var 0) (.cst (.int 0))) (.gld "BOUNDS" d_BOUNDS)) (.cmp .ne (.blt .len (.cons (.var 0) .nil)) (.bin .add (.blt .len (.cons (.sub (.gld "BOUNDS" d_BOUNDS) (.sub (.var 0) (.cst (.int 0)))) .nil)) (.cst (.int 1))))) (.cons (.ret (.cst (.bool false))) .nil) .nil) (.cons (.ret (.blt .all (.cons (.lcm (.cal "is_between" sp_is_between (.cons (.var 1) (.cons (.var 2) (.cons (.var 3) .nil)))) (.tp (.cons (.nm 1) (.cons (.tp (.cons (.nm 2) (.cons (.nm 3) .nil))) .nil))) (.zip (.slc (.var 0) (.cons (.cst (.int 1)) .nil) .nil) (.sub (.gld "BOUNDS" d_BOUNDS) (.sub (.var 0) (.cst (.int 0))))) .nil [1, 2, 3]) .nil))) .nil))))
theorem szI_road : COp.inn.f (.str "road") d_SIZES = some true := by decide +kernel
theorem szX_road : ixD d_SIZES (.str "road") = some (.int 4) := by rfl
theorem bdI_road : COp.nin.f (.str "road") d_BOUNDS = some true := by decide +kernel
theorem szI_table : COp.inn.f (.str "table") d_SIZES = some true := by decide +kernel
theorem szX_table : ixD d_SIZES (.str "table") = some (.int 3) := by rfl
theorem bdI_table : COp.nin.f (.str "table") d_BOUNDS = some true := by decide +kernel
theorem szI_give : COp.inn.f (.str "give") d_SIZES = some true := by decide +kernel
theorem szX_give : ixD d_SIZES (.str "give") = some (.int 7) := by rfl
theorem bdI_give : COp.nin.f (.str "give") d_BOUNDS = some true := by decide +kernel
theorem szI_franks : COp.inn.f (.str "franks") d_SIZES = some false := by decide +kernel
theorem bdI_franks : COp.nin.f (.str "franks") d_BOUNDS = some false := by decide +kernel
theorem bdX_franks : ixD d_BOUNDS (.str "franks") = some (.tuple [.tuple [.int 0, .int 2], .tuple [.int 0, .int 3], .tuple [.int 0, .int 30]]) := by rfl
theorem szI_on : COp.inn.f (.str "on") d_SIZES = some false := by decide +kernel
theorem bdI_on : COp.nin.f (.str "on") d_BOUNDS = some false := by decide +kernel
theorem bdX_on : ixD d_BOUNDS (.str "on") = some (.tuple [.tuple [.int 0, .int 7], .tuple [.int 0, .int 30], .tuple [.int 0, .int 5]]) := by rfl
theorem szI_refuse : COp.inn.f (.str "refuse") d_SIZES = some false := by decide +kernel
theorem bdI_refuse : COp.nin.f (.str "refuse") d_BOUNDS = some false := by decide +kernel
theorem bdX_refuse : ixD d_BOUNDS (.str "refuse") = some (.tuple [.tuple [.int 0, .int 7], .tuple [.int 0, .int 30]]) := by rfl
theorem szI_take : COp.inn.f (.str "take") d_SIZES = some false := by decide +kernel
theorem bdI_take : COp.nin.f (.str "take") d_BOUNDS = some false := by decide +kernel
theorem bdX_take : ixD d_BOUNDS (.str "take") = some (.tuple [.tuple [.int 0, .int 7], .tuple [.int 0, .int 30]]) := by rfl
theorem szI_short : COp.inn.f (.str "short") d_SIZES = some false := by decide +kernel
theorem bdI_short : COp.nin.f (.str "short") d_BOUNDS = some false := by decide +kernel
theorem bdX_short : ixD d_BOUNDS (.str "short") = some (.tuple [.tuple [.int 0, .int 7], .tuple [.int 0, .int 3], .tuple [.int 1, .int 99]]) := by rfl
theorem szI_right : COp.inn.f (.str "right") d_SIZES = some false := by decide +kernel
theorem bdI_right : COp.nin.f (.str "right") d_BOUNDS = some false := by decide +kernel
theorem bdX_right : ixD d_BOUNDS (.str "right") = some (.tuple [.tuple [.int 0, .int 7], .tuple [.int 0, .int 3]]) := by rfl
theorem szI_pay : COp.inn.f (.str "pay") d_SIZES = some false := by decide +kernel
theorem bdI_pay : COp.nin.f (.str "pay") d_BOUNDS = some false := by decide +kernel
theorem bdX_pay : ixD d_BOUNDS (.str "pay") = some (.tuple [.tuple [.int 0, .int 5], .tuple [.int (-999), .int 999], .tuple [.int 0, .int 30]]) := by rfl
/-- a word that is none -/
theorem noW {w : Str} (h : ¬ (w = "road" ∨ w = "table" ∨ w = "give" ∨ w = "franks" ∨ w = "on" ∨ w = "refuse" ∨ w = "take" ∨ w = "short" ∨ w = "right" ∨ w = "pay")) : COp.inn.f (.str w) d_SIZES = some false ∧ COp.nin.f (.str w) d_BOUNDS = some true ∧ ∀ r, isParts w r = false := by
  simp only [not_or] at h
  obtain ⟨h1, h2, h3, h4, h5, h6, h7, h8, h9, h10⟩ := h
  have e : ∀ {a : String}, w ≠ (a : Str) → ((a : Str) == w) = false := fun h => by simpa using fun z => h z.symm
  refine ⟨?_, ?_, fun r => ?_⟩
  · show some (dvl _ (.str w)).isSome = _
    simp only [dvl, List.find?_cons, PyData.eqv, e h1, e h2, e h3, List.find?_nil, Option.map_none, Option.isSome_none]
  · show some (!(dvl _ (.str w)).isSome) = _
    simp only [dvl, List.find?_cons, PyData.eqv, e h4, e h5, e h6, e h7, e h8, e h9, e h10, List.find?_nil, Option.map_none, Option.isSome_none, Bool.not_false]
  · simp only [isParts, h1, h2, h3, h4, h5, h6, h7, h8, h9, h10, if_false]
end VL
/-! PR: is_page -/
namespace VL
open PySem PySem.Spec PyProof.Rows L2
theorem eqE (a : PyData) (r : List PyData) : COp.eq.f (.tuple (a :: r)) (.tuple []) = some false := rfl
theorem isT (ds : List PyData) : isD [.tuple] (.tuple ds) = true := rfl
theorem lenT (ds : List PyData) (P : PyData → Prop) : oP (Blt.len.f [.tuple ds]) P = P (.int (ds.length : Nat)) := rfl
theorem lenL (ds : List PyData) (P : PyData → Prop) : oP (Blt.len.f [.list ds]) P = P (.int (ds.length : Nat)) := rfl
theorem lcW_nil (f : PyData → (Option PyData → Prop) → Prop) (acc : List PyData) (Q : List PyData → Prop) : lcW f [] acc Q = Q acc := rfl
theorem lcW_cons (f : PyData → (Option PyData → Prop) → Prop) (d : PyData) (xs acc : List PyData) (Q : List PyData → Prop) : lcW f (d :: xs) acc Q = f d fun o => lcW f xs (acc ++ o.toList) Q := rfl
theorem zp_nil (ys : List PyData) : zpL [] ys = [] := by cases ys <;> rfl
theorem zp_nil' (xs : List PyData) : zpL xs [] = [] := by cases xs <;> rfl
theorem zp_cons (x y : PyData) (xs ys : List PyData) : zpL (x :: xs) (y :: ys) = .tuple [x, y] :: zpL xs ys := rfl
theorem allB (bs : List Bool) (P : PyData → Prop) : oP (Blt.all.f [.list (bs.map PyData.bool)]) P = P (.bool (bs.all id)) := by
  have : ∀ bs : List Bool, blsD (bs.map PyData.bool) = some bs := fun bs => by
    induction bs with
    | nil => rfl
    | cons b bs ih => show (blsD (bs.map PyData.bool)).map (b :: ·) = _; rw [ih]; rfl
  show oP ((blsD (bs.map PyData.bool)).map fun bs => .bool (bs.all id)) P = _
  rw [this]; rfl
theorem all2 (a b : Bool) (P : PyData → Prop) : oP (Blt.all.f [.list [.bool a, .bool b]]) P = P (.bool (a && b)) := by
  rw [show [PyData.bool a, PyData.bool b] = [a, b].map PyData.bool from rfl, allB]; simp
theorem all3 (a b c : Bool) (P : PyData → Prop) : oP (Blt.all.f [.list [.bool a, .bool b, .bool c]]) P = P (.bool (a && b && c)) := by
  rw [show [PyData.bool a, PyData.bool b, PyData.bool c] = [a, b, c].map PyData.bool from rfl, allB]; simp [Bool.and_assoc]
theorem ne_len {n : Nat} {k : Int} (h : (n : Int) ≠ k) : decide ((n : Int) = k) = false := decide_eq_false h
theorem wp_is_page {d : PyData} {x : Str → Prop} {R : Av → Prop} {N : En → Prop} (h : R (.da (.bool (isPage d)))) : wpSs ir_is_page x R (slots0 4 [.da d]) N := by
  simp only [ir_is_page, sp_is_between, f_is_between, sp_is_road, sp_is_gift, sp_is_table, f_is_table, slots0, List.map_cons, List.map_nil, slotOf, List.length_cons, List.length_nil, List.replicate_succ, List.replicate_zero, List.cons_append, List.nil_append, List.append_nil, Nat.reduceAdd, Nat.reduceSub, List.getElem?_cons_zero, List.getElem?_cons_succ, List.set_cons_zero, List.set_cons_succ, wpSs, wpS, wpE, wpEs, wpBs, wpAs, wpC, wpI, wipeE, brw, brv, arg, q_v0, q_vs, q_b0, q_b1, q_bs, q_a0, q_a1, q_a2, q_as, q_s0, q_ss, q_r0, q_rs, q_asI, q_asB, q_asL, q_asT, q_nm, q_tp, q_nil, q_cons, q_rva, q_rvo, retP, setsE, frzE, oall, sl_nil, sl_int, slT_last, slL_last, ixT0, ixL0, ixT1, ixL1, ixT2, ixL2, ixT3, ixL3, ixT4, ixL4, ixT5, ixL5, ixT6, ixL6, ixT7, ixL7, ixT8, ixL8, osome, ite_t, ite_f, oadd, osub, ofdv, omod, omul, olt, ogt, ole, oge, oeqI, oneI, oeqS, oneS, oneB, oeqB, otake, ospF1, ospF2, ospF3, ospF4, lcW_at, frW_at, lcT_map, lcT_fil, ite_not, true_and, and_true, forall_const, Bool.false_eq_true, false_implies]
  cases d with
  | tuple ds =>
    cases ds with
    | nil => exact h
    | cons a r =>
      simp only [isT, Bool.not_true, eqE, lenT, slots0, List.map_cons, List.map_nil, slotOf, List.length_cons, List.length_nil, List.replicate_succ, List.replicate_zero, List.cons_append, List.nil_append, List.append_nil, Nat.reduceAdd, Nat.reduceSub, List.getElem?_cons_zero, List.getElem?_cons_succ, List.set_cons_zero, List.set_cons_succ, wpSs, wpS, wpE, wpEs, wpBs, wpAs, wpC, wpI, wipeE, brw, brv, arg, q_v0, q_vs, q_b0, q_b1, q_bs, q_a0, q_a1, q_a2, q_as, q_s0, q_ss, q_r0, q_rs, q_asI, q_asB, q_asL, q_asT, q_nm, q_tp, q_nil, q_cons, q_rva, q_rvo, retP, setsE, frzE, oall, sl_nil, sl_int, slT_last, slL_last, ixT0, ixL0, ixT1, ixL1, ixT2, ixL2, ixT3, ixL3, ixT4, ixL4, ixT5, ixL5, ixT6, ixL6, ixT7, ixL7, ixT8, ixL8, osome, ite_t, ite_f, oadd, osub, ofdv, omod, omul, olt, ogt, ole, oge, oeqI, oneI, oeqS, oneS, oneB, oeqB, otake, ospF1, ospF2, ospF3, ospF4, lcW_at, frW_at, lcT_map, lcT_fil, ite_not, true_and, and_true, forall_const, Bool.false_eq_true, false_implies]
      rw [slT_from (a :: r) 1 (by decide)]
      simp only [show (Int.toNat 1) = 1 from rfl, List.drop_succ_cons, List.drop_zero, slots0, List.map_cons, List.map_nil, slotOf, List.length_cons, List.length_nil, List.replicate_succ, List.replicate_zero, List.cons_append, List.nil_append, List.append_nil, Nat.reduceAdd, Nat.reduceSub, List.getElem?_cons_zero, List.getElem?_cons_succ, List.set_cons_zero, List.set_cons_succ, wpSs, wpS, wpE, wpEs, wpBs, wpAs, wpC, wpI, wipeE, brw, brv, arg, q_v0, q_vs, q_b0, q_b1, q_bs, q_a0, q_a1, q_a2, q_as, q_s0, q_ss, q_r0, q_rs, q_asI, q_asB, q_asL, q_asT, q_nm, q_tp, q_nil, q_cons, q_rva, q_rvo, retP, setsE, frzE, oall, sl_nil, sl_int, slT_last, slL_last, ixT0, ixL0, ixT1, ixL1, ixT2, ixL2, ixT3, ixL3, ixT4, ixL4, ixT5, ixL5, ixT6, ixL6, ixT7, ixL7, ixT8, ixL8, osome, ite_t, ite_f, oadd, osub, ofdv, omod, omul, olt, ogt, ole, oge, oeqI, oneI, oeqS, oneS, oneB, oeqB, otake, ospF1, ospF2, ospF3, ospF4, lcW_at, frW_at, lcT_map, lcT_fil, ite_not, true_and, and_true, forall_const, Bool.false_eq_true, false_implies]
      cases a with
      | str w =>
        have h : R (.da (.bool (isParts w r))) := h
        show ite' true _ _
        simp only [slots0, List.map_cons, List.map_nil, slotOf, List.length_cons, List.length_nil, List.replicate_succ, List.replicate_zero, List.cons_append, List.nil_append, List.append_nil, Nat.reduceAdd, Nat.reduceSub, List.getElem?_cons_zero, List.getElem?_cons_succ, List.set_cons_zero, List.set_cons_succ, wpSs, wpS, wpE, wpEs, wpBs, wpAs, wpC, wpI, wipeE, brw, brv, arg, q_v0, q_vs, q_b0, q_b1, q_bs, q_a0, q_a1, q_a2, q_as, q_s0, q_ss, q_r0, q_rs, q_asI, q_asB, q_asL, q_asT, q_nm, q_tp, q_nil, q_cons, q_rva, q_rvo, retP, setsE, frzE, oall, sl_nil, sl_int, slT_last, slL_last, ixT0, ixL0, ixT1, ixL1, ixT2, ixL2, ixT3, ixL3, ixT4, ixL4, ixT5, ixL5, ixT6, ixL6, ixT7, ixL7, ixT8, ixL8, osome, ite_t, ite_f, oadd, osub, ofdv, omod, omul, olt, ogt, ole, oge, oeqI, oneI, oeqS, oneS, oneB, oeqB, otake, ospF1, ospF2, ospF3, ospF4, lcW_at, frW_at, lcT_map, lcT_fil, ite_not, true_and, and_true, forall_const, Bool.false_eq_true, false_implies]
        by_cases hw : w = "road"
        · subst hw
          simp only [szI_road, szX_road, bdI_road, slots0, List.map_cons, List.map_nil, slotOf, List.length_cons, List.length_nil, List.replicate_succ, List.replicate_zero, List.cons_append, List.nil_append, List.append_nil, Nat.reduceAdd, Nat.reduceSub, List.getElem?_cons_zero, List.getElem?_cons_succ, List.set_cons_zero, List.set_cons_succ, wpSs, wpS, wpE, wpEs, wpBs, wpAs, wpC, wpI, wipeE, brw, brv, arg, q_v0, q_vs, q_b0, q_b1, q_bs, q_a0, q_a1, q_a2, q_as, q_s0, q_ss, q_r0, q_rs, q_asI, q_asB, q_asL, q_asT, q_nm, q_tp, q_nil, q_cons, q_rva, q_rvo, retP, setsE, frzE, oall, sl_nil, sl_int, slT_last, slL_last, ixT0, ixL0, ixT1, ixL1, ixT2, ixL2, ixT3, ixL3, ixT4, ixL4, ixT5, ixL5, ixT6, ixL6, ixT7, ixL7, ixT8, ixL8, osome, ite_t, ite_f, oadd, osub, ofdv, omod, omul, olt, ogt, ole, oge, oeqI, oneI, oeqS, oneS, oneB, oeqB, otake, ospF1, ospF2, ospF3, ospF4, lcW_at, frW_at, lcT_map, lcT_fil, ite_not, true_and, and_true, forall_const, Bool.false_eq_true, false_implies]
          match r with
          | [a, b, m, t] => exact h
          | [] => exact h
          | [a] => exact h
          | [a, b] => exact h
          | [a, b, c] => exact h
          | a :: b :: m :: t :: u :: r =>
            exact ite_cases (fun q => absurd (of_decide_eq_true q) (by simp only [List.length_cons]; omega)) fun _ => h
        by_cases hw2 : w = "table"
        · subst hw2
          simp only [szI_table, szX_table, bdI_table, slots0, List.map_cons, List.map_nil, slotOf, List.length_cons, List.length_nil, List.replicate_succ, List.replicate_zero, List.cons_append, List.nil_append, List.append_nil, Nat.reduceAdd, Nat.reduceSub, List.getElem?_cons_zero, List.getElem?_cons_succ, List.set_cons_zero, List.set_cons_succ, wpSs, wpS, wpE, wpEs, wpBs, wpAs, wpC, wpI, wipeE, brw, brv, arg, q_v0, q_vs, q_b0, q_b1, q_bs, q_a0, q_a1, q_a2, q_as, q_s0, q_ss, q_r0, q_rs, q_asI, q_asB, q_asL, q_asT, q_nm, q_tp, q_nil, q_cons, q_rva, q_rvo, retP, setsE, frzE, oall, sl_nil, sl_int, slT_last, slL_last, ixT0, ixL0, ixT1, ixL1, ixT2, ixL2, ixT3, ixL3, ixT4, ixL4, ixT5, ixL5, ixT6, ixL6, ixT7, ixL7, ixT8, ixL8, osome, ite_t, ite_f, oadd, osub, ofdv, omod, omul, olt, ogt, ole, oge, oeqI, oneI, oeqS, oneS, oneB, oeqB, otake, ospF1, ospF2, ospF3, ospF4, lcW_at, frW_at, lcT_map, lcT_fil, ite_not, true_and, and_true, forall_const, Bool.false_eq_true, false_implies]
          have e1 : decide ((("table" : Str)) = "road") = false := by decide +kernel
          have e2 : decide ((("table" : Str)) = "give") = false := by decide +kernel
          match r with
          | [k, tb, t] =>
            have h : R (.da (.bool (isBtw k 0 2 && isTable tb && isBtw t 0 30))) := h
            simp only [e1, e2, show decide (((0 + 1 + 1 + 1 + 1 : Nat) : Int) = 3 + 1) = true from rfl, slots0, List.map_cons, List.map_nil, slotOf, List.length_cons, List.length_nil, List.replicate_succ, List.replicate_zero, List.cons_append, List.nil_append, List.append_nil, Nat.reduceAdd, Nat.reduceSub, List.getElem?_cons_zero, List.getElem?_cons_succ, List.set_cons_zero, List.set_cons_succ, wpSs, wpS, wpE, wpEs, wpBs, wpAs, wpC, wpI, wipeE, brw, brv, arg, q_v0, q_vs, q_b0, q_b1, q_bs, q_a0, q_a1, q_a2, q_as, q_s0, q_ss, q_r0, q_rs, q_asI, q_asB, q_asL, q_asT, q_nm, q_tp, q_nil, q_cons, q_rva, q_rvo, retP, setsE, frzE, oall, sl_nil, sl_int, slT_last, slL_last, ixT0, ixL0, ixT1, ixL1, ixT2, ixL2, ixT3, ixL3, ixT4, ixL4, ixT5, ixL5, ixT6, ixL6, ixT7, ixL7, ixT8, ixL8, osome, ite_t, ite_f, oadd, osub, ofdv, omod, omul, olt, ogt, ole, oge, oeqI, oneI, oeqS, oneS, oneB, oeqB, otake, ospF1, ospF2, ospF3, ospF4, lcW_at, frW_at, lcT_map, lcT_fil, ite_not, true_and, and_true, forall_const, Bool.false_eq_true, false_implies]
            cases q : isBtw k 0 2 <;> rw [q] at h <;> first | exact h | skip
            cases q : isTable tb <;> rw [q] at h <;> exact h
          | [] => exact h
          | [a] => exact h
          | [a, b] => exact h
          | a :: b :: m :: u :: r =>
            exact ite_cases (fun q => absurd (of_decide_eq_true q) (by simp only [List.length_cons]; omega)) fun _ => h
        by_cases hw3 : w = "give"
        · subst hw3
          simp only [szI_give, szX_give, bdI_give, slots0, List.map_cons, List.map_nil, slotOf, List.length_cons, List.length_nil, List.replicate_succ, List.replicate_zero, List.cons_append, List.nil_append, List.append_nil, Nat.reduceAdd, Nat.reduceSub, List.getElem?_cons_zero, List.getElem?_cons_succ, List.set_cons_zero, List.set_cons_succ, wpSs, wpS, wpE, wpEs, wpBs, wpAs, wpC, wpI, wipeE, brw, brv, arg, q_v0, q_vs, q_b0, q_b1, q_bs, q_a0, q_a1, q_a2, q_as, q_s0, q_ss, q_r0, q_rs, q_asI, q_asB, q_asL, q_asT, q_nm, q_tp, q_nil, q_cons, q_rva, q_rvo, retP, setsE, frzE, oall, sl_nil, sl_int, slT_last, slL_last, ixT0, ixL0, ixT1, ixL1, ixT2, ixL2, ixT3, ixL3, ixT4, ixL4, ixT5, ixL5, ixT6, ixL6, ixT7, ixL7, ixT8, ixL8, osome, ite_t, ite_f, oadd, osub, ofdv, omod, omul, olt, ogt, ole, oge, oeqI, oneI, oeqS, oneS, oneB, oeqB, otake, ospF1, ospF2, ospF3, ospF4, lcW_at, frW_at, lcT_map, lcT_fil, ite_not, true_and, and_true, forall_const, Bool.false_eq_true, false_implies]
          have e1 : decide ((("give" : Str)) = "road") = false := by decide +kernel
          match r with
          | [l, t, p, g, n, k, f] => exact h
          | [] => exact h
          | [a] => exact h
          | [a, b] => exact h
          | [a, b, c] => exact h
          | [a, b, c, d] => exact h
          | [a, b, c, d, e] => exact h
          | [a, b, c, d, e, f] => exact h
          | a :: b :: m :: t :: u :: v :: w :: y :: r =>
            exact ite_cases (fun q => absurd (of_decide_eq_true q) (by simp only [List.length_cons]; omega)) fun _ => h
        by_cases hw_franks : w = "franks"
        · subst hw_franks
          simp only [szI_franks, bdI_franks, bdX_franks, lenT, slots0, List.map_cons, List.map_nil, slotOf, List.length_cons, List.length_nil, List.replicate_succ, List.replicate_zero, List.cons_append, List.nil_append, List.append_nil, Nat.reduceAdd, Nat.reduceSub, List.getElem?_cons_zero, List.getElem?_cons_succ, List.set_cons_zero, List.set_cons_succ, wpSs, wpS, wpE, wpEs, wpBs, wpAs, wpC, wpI, wipeE, brw, brv, arg, q_v0, q_vs, q_b0, q_b1, q_bs, q_a0, q_a1, q_a2, q_as, q_s0, q_ss, q_r0, q_rs, q_asI, q_asB, q_asL, q_asT, q_nm, q_tp, q_nil, q_cons, q_rva, q_rvo, retP, setsE, frzE, oall, sl_nil, sl_int, slT_last, slL_last, ixT0, ixL0, ixT1, ixL1, ixT2, ixL2, ixT3, ixL3, ixT4, ixL4, ixT5, ixL5, ixT6, ixL6, ixT7, ixL7, ixT8, ixL8, osome, ite_t, ite_f, oadd, osub, ofdv, omod, omul, olt, ogt, ole, oge, oeqI, oneI, oeqS, oneS, oneB, oeqB, otake, ospF1, ospF2, ospF3, ospF4, lcW_at, frW_at, lcT_map, lcT_fil, ite_not, true_and, and_true, forall_const, Bool.false_eq_true, false_implies]
          match r with
          | [a, b, c] =>
            simp only [show decide (((0 + 1 + 1 + 1 + 1 : Nat) : Int) = ((0 + 1 + 1 + 1 : Nat) : Int) + 1) = true from rfl, Bool.not_true, zp_cons, zp_nil, lcW_cons, lcW_nil, Option.toList_some, all3, f_is_between, slots0, List.map_cons, List.map_nil, slotOf, List.length_cons, List.length_nil, List.replicate_succ, List.replicate_zero, List.cons_append, List.nil_append, List.append_nil, Nat.reduceAdd, Nat.reduceSub, List.getElem?_cons_zero, List.getElem?_cons_succ, List.set_cons_zero, List.set_cons_succ, wpSs, wpS, wpE, wpEs, wpBs, wpAs, wpC, wpI, wipeE, brw, brv, arg, q_v0, q_vs, q_b0, q_b1, q_bs, q_a0, q_a1, q_a2, q_as, q_s0, q_ss, q_r0, q_rs, q_asI, q_asB, q_asL, q_asT, q_nm, q_tp, q_nil, q_cons, q_rva, q_rvo, retP, setsE, frzE, oall, sl_nil, sl_int, slT_last, slL_last, ixT0, ixL0, ixT1, ixL1, ixT2, ixL2, ixT3, ixL3, ixT4, ixL4, ixT5, ixL5, ixT6, ixL6, ixT7, ixL7, ixT8, ixL8, osome, ite_t, ite_f, oadd, osub, ofdv, omod, omul, olt, ogt, ole, oge, oeqI, oneI, oeqS, oneS, oneB, oeqB, otake, ospF1, ospF2, ospF3, ospF4, lcW_at, frW_at, lcT_map, lcT_fil, ite_not, true_and, and_true, forall_const, Bool.false_eq_true, false_implies]
            exact h
          | [] => exact h
          | [a] => exact h
          | [a, b] => exact h
          | a :: b :: c :: d :: r =>
            exact ite_cases (fun q => absurd (of_decide_eq_true q) (by simp only [List.length_cons]; omega)) fun _ => h
        by_cases hw_on : w = "on"
        · subst hw_on
          simp only [szI_on, bdI_on, bdX_on, lenT, slots0, List.map_cons, List.map_nil, slotOf, List.length_cons, List.length_nil, List.replicate_succ, List.replicate_zero, List.cons_append, List.nil_append, List.append_nil, Nat.reduceAdd, Nat.reduceSub, List.getElem?_cons_zero, List.getElem?_cons_succ, List.set_cons_zero, List.set_cons_succ, wpSs, wpS, wpE, wpEs, wpBs, wpAs, wpC, wpI, wipeE, brw, brv, arg, q_v0, q_vs, q_b0, q_b1, q_bs, q_a0, q_a1, q_a2, q_as, q_s0, q_ss, q_r0, q_rs, q_asI, q_asB, q_asL, q_asT, q_nm, q_tp, q_nil, q_cons, q_rva, q_rvo, retP, setsE, frzE, oall, sl_nil, sl_int, slT_last, slL_last, ixT0, ixL0, ixT1, ixL1, ixT2, ixL2, ixT3, ixL3, ixT4, ixL4, ixT5, ixL5, ixT6, ixL6, ixT7, ixL7, ixT8, ixL8, osome, ite_t, ite_f, oadd, osub, ofdv, omod, omul, olt, ogt, ole, oge, oeqI, oneI, oeqS, oneS, oneB, oeqB, otake, ospF1, ospF2, ospF3, ospF4, lcW_at, frW_at, lcT_map, lcT_fil, ite_not, true_and, and_true, forall_const, Bool.false_eq_true, false_implies]
          match r with
          | [a, b, c] =>
            simp only [show decide (((0 + 1 + 1 + 1 + 1 : Nat) : Int) = ((0 + 1 + 1 + 1 : Nat) : Int) + 1) = true from rfl, Bool.not_true, zp_cons, zp_nil, lcW_cons, lcW_nil, Option.toList_some, all3, f_is_between, slots0, List.map_cons, List.map_nil, slotOf, List.length_cons, List.length_nil, List.replicate_succ, List.replicate_zero, List.cons_append, List.nil_append, List.append_nil, Nat.reduceAdd, Nat.reduceSub, List.getElem?_cons_zero, List.getElem?_cons_succ, List.set_cons_zero, List.set_cons_succ, wpSs, wpS, wpE, wpEs, wpBs, wpAs, wpC, wpI, wipeE, brw, brv, arg, q_v0, q_vs, q_b0, q_b1, q_bs, q_a0, q_a1, q_a2, q_as, q_s0, q_ss, q_r0, q_rs, q_asI, q_asB, q_asL, q_asT, q_nm, q_tp, q_nil, q_cons, q_rva, q_rvo, retP, setsE, frzE, oall, sl_nil, sl_int, slT_last, slL_last, ixT0, ixL0, ixT1, ixL1, ixT2, ixL2, ixT3, ixL3, ixT4, ixL4, ixT5, ixL5, ixT6, ixL6, ixT7, ixL7, ixT8, ixL8, osome, ite_t, ite_f, oadd, osub, ofdv, omod, omul, olt, ogt, ole, oge, oeqI, oneI, oeqS, oneS, oneB, oeqB, otake, ospF1, ospF2, ospF3, ospF4, lcW_at, frW_at, lcT_map, lcT_fil, ite_not, true_and, and_true, forall_const, Bool.false_eq_true, false_implies]
            exact h
          | [] => exact h
          | [a] => exact h
          | [a, b] => exact h
          | a :: b :: c :: d :: r =>
            exact ite_cases (fun q => absurd (of_decide_eq_true q) (by simp only [List.length_cons]; omega)) fun _ => h
        by_cases hw_refuse : w = "refuse"
        · subst hw_refuse
          simp only [szI_refuse, bdI_refuse, bdX_refuse, lenT, slots0, List.map_cons, List.map_nil, slotOf, List.length_cons, List.length_nil, List.replicate_succ, List.replicate_zero, List.cons_append, List.nil_append, List.append_nil, Nat.reduceAdd, Nat.reduceSub, List.getElem?_cons_zero, List.getElem?_cons_succ, List.set_cons_zero, List.set_cons_succ, wpSs, wpS, wpE, wpEs, wpBs, wpAs, wpC, wpI, wipeE, brw, brv, arg, q_v0, q_vs, q_b0, q_b1, q_bs, q_a0, q_a1, q_a2, q_as, q_s0, q_ss, q_r0, q_rs, q_asI, q_asB, q_asL, q_asT, q_nm, q_tp, q_nil, q_cons, q_rva, q_rvo, retP, setsE, frzE, oall, sl_nil, sl_int, slT_last, slL_last, ixT0, ixL0, ixT1, ixL1, ixT2, ixL2, ixT3, ixL3, ixT4, ixL4, ixT5, ixL5, ixT6, ixL6, ixT7, ixL7, ixT8, ixL8, osome, ite_t, ite_f, oadd, osub, ofdv, omod, omul, olt, ogt, ole, oge, oeqI, oneI, oeqS, oneS, oneB, oeqB, otake, ospF1, ospF2, ospF3, ospF4, lcW_at, frW_at, lcT_map, lcT_fil, ite_not, true_and, and_true, forall_const, Bool.false_eq_true, false_implies]
          match r with
          | [a, b] =>
            simp only [show decide (((0 + 1 + 1 + 1 : Nat) : Int) = ((0 + 1 + 1 : Nat) : Int) + 1) = true from rfl, Bool.not_true, zp_cons, zp_nil, lcW_cons, lcW_nil, Option.toList_some, all2, f_is_between, slots0, List.map_cons, List.map_nil, slotOf, List.length_cons, List.length_nil, List.replicate_succ, List.replicate_zero, List.cons_append, List.nil_append, List.append_nil, Nat.reduceAdd, Nat.reduceSub, List.getElem?_cons_zero, List.getElem?_cons_succ, List.set_cons_zero, List.set_cons_succ, wpSs, wpS, wpE, wpEs, wpBs, wpAs, wpC, wpI, wipeE, brw, brv, arg, q_v0, q_vs, q_b0, q_b1, q_bs, q_a0, q_a1, q_a2, q_as, q_s0, q_ss, q_r0, q_rs, q_asI, q_asB, q_asL, q_asT, q_nm, q_tp, q_nil, q_cons, q_rva, q_rvo, retP, setsE, frzE, oall, sl_nil, sl_int, slT_last, slL_last, ixT0, ixL0, ixT1, ixL1, ixT2, ixL2, ixT3, ixL3, ixT4, ixL4, ixT5, ixL5, ixT6, ixL6, ixT7, ixL7, ixT8, ixL8, osome, ite_t, ite_f, oadd, osub, ofdv, omod, omul, olt, ogt, ole, oge, oeqI, oneI, oeqS, oneS, oneB, oeqB, otake, ospF1, ospF2, ospF3, ospF4, lcW_at, frW_at, lcT_map, lcT_fil, ite_not, true_and, and_true, forall_const, Bool.false_eq_true, false_implies]
            exact h
          | [] => exact h
          | [a] => exact h
          | a :: b :: c :: r =>
            exact ite_cases (fun q => absurd (of_decide_eq_true q) (by simp only [List.length_cons]; omega)) fun _ => h
        by_cases hw_take : w = "take"
        · subst hw_take
          simp only [szI_take, bdI_take, bdX_take, lenT, slots0, List.map_cons, List.map_nil, slotOf, List.length_cons, List.length_nil, List.replicate_succ, List.replicate_zero, List.cons_append, List.nil_append, List.append_nil, Nat.reduceAdd, Nat.reduceSub, List.getElem?_cons_zero, List.getElem?_cons_succ, List.set_cons_zero, List.set_cons_succ, wpSs, wpS, wpE, wpEs, wpBs, wpAs, wpC, wpI, wipeE, brw, brv, arg, q_v0, q_vs, q_b0, q_b1, q_bs, q_a0, q_a1, q_a2, q_as, q_s0, q_ss, q_r0, q_rs, q_asI, q_asB, q_asL, q_asT, q_nm, q_tp, q_nil, q_cons, q_rva, q_rvo, retP, setsE, frzE, oall, sl_nil, sl_int, slT_last, slL_last, ixT0, ixL0, ixT1, ixL1, ixT2, ixL2, ixT3, ixL3, ixT4, ixL4, ixT5, ixL5, ixT6, ixL6, ixT7, ixL7, ixT8, ixL8, osome, ite_t, ite_f, oadd, osub, ofdv, omod, omul, olt, ogt, ole, oge, oeqI, oneI, oeqS, oneS, oneB, oeqB, otake, ospF1, ospF2, ospF3, ospF4, lcW_at, frW_at, lcT_map, lcT_fil, ite_not, true_and, and_true, forall_const, Bool.false_eq_true, false_implies]
          match r with
          | [a, b] =>
            simp only [show decide (((0 + 1 + 1 + 1 : Nat) : Int) = ((0 + 1 + 1 : Nat) : Int) + 1) = true from rfl, Bool.not_true, zp_cons, zp_nil, lcW_cons, lcW_nil, Option.toList_some, all2, f_is_between, slots0, List.map_cons, List.map_nil, slotOf, List.length_cons, List.length_nil, List.replicate_succ, List.replicate_zero, List.cons_append, List.nil_append, List.append_nil, Nat.reduceAdd, Nat.reduceSub, List.getElem?_cons_zero, List.getElem?_cons_succ, List.set_cons_zero, List.set_cons_succ, wpSs, wpS, wpE, wpEs, wpBs, wpAs, wpC, wpI, wipeE, brw, brv, arg, q_v0, q_vs, q_b0, q_b1, q_bs, q_a0, q_a1, q_a2, q_as, q_s0, q_ss, q_r0, q_rs, q_asI, q_asB, q_asL, q_asT, q_nm, q_tp, q_nil, q_cons, q_rva, q_rvo, retP, setsE, frzE, oall, sl_nil, sl_int, slT_last, slL_last, ixT0, ixL0, ixT1, ixL1, ixT2, ixL2, ixT3, ixL3, ixT4, ixL4, ixT5, ixL5, ixT6, ixL6, ixT7, ixL7, ixT8, ixL8, osome, ite_t, ite_f, oadd, osub, ofdv, omod, omul, olt, ogt, ole, oge, oeqI, oneI, oeqS, oneS, oneB, oeqB, otake, ospF1, ospF2, ospF3, ospF4, lcW_at, frW_at, lcT_map, lcT_fil, ite_not, true_and, and_true, forall_const, Bool.false_eq_true, false_implies]
            exact h
          | [] => exact h
          | [a] => exact h
          | a :: b :: c :: r =>
            exact ite_cases (fun q => absurd (of_decide_eq_true q) (by simp only [List.length_cons]; omega)) fun _ => h
        by_cases hw_short : w = "short"
        · subst hw_short
          simp only [szI_short, bdI_short, bdX_short, lenT, slots0, List.map_cons, List.map_nil, slotOf, List.length_cons, List.length_nil, List.replicate_succ, List.replicate_zero, List.cons_append, List.nil_append, List.append_nil, Nat.reduceAdd, Nat.reduceSub, List.getElem?_cons_zero, List.getElem?_cons_succ, List.set_cons_zero, List.set_cons_succ, wpSs, wpS, wpE, wpEs, wpBs, wpAs, wpC, wpI, wipeE, brw, brv, arg, q_v0, q_vs, q_b0, q_b1, q_bs, q_a0, q_a1, q_a2, q_as, q_s0, q_ss, q_r0, q_rs, q_asI, q_asB, q_asL, q_asT, q_nm, q_tp, q_nil, q_cons, q_rva, q_rvo, retP, setsE, frzE, oall, sl_nil, sl_int, slT_last, slL_last, ixT0, ixL0, ixT1, ixL1, ixT2, ixL2, ixT3, ixL3, ixT4, ixL4, ixT5, ixL5, ixT6, ixL6, ixT7, ixL7, ixT8, ixL8, osome, ite_t, ite_f, oadd, osub, ofdv, omod, omul, olt, ogt, ole, oge, oeqI, oneI, oeqS, oneS, oneB, oeqB, otake, ospF1, ospF2, ospF3, ospF4, lcW_at, frW_at, lcT_map, lcT_fil, ite_not, true_and, and_true, forall_const, Bool.false_eq_true, false_implies]
          match r with
          | [a, b, c] =>
            simp only [show decide (((0 + 1 + 1 + 1 + 1 : Nat) : Int) = ((0 + 1 + 1 + 1 : Nat) : Int) + 1) = true from rfl, Bool.not_true, zp_cons, zp_nil, lcW_cons, lcW_nil, Option.toList_some, all3, f_is_between, slots0, List.map_cons, List.map_nil, slotOf, List.length_cons, List.length_nil, List.replicate_succ, List.replicate_zero, List.cons_append, List.nil_append, List.append_nil, Nat.reduceAdd, Nat.reduceSub, List.getElem?_cons_zero, List.getElem?_cons_succ, List.set_cons_zero, List.set_cons_succ, wpSs, wpS, wpE, wpEs, wpBs, wpAs, wpC, wpI, wipeE, brw, brv, arg, q_v0, q_vs, q_b0, q_b1, q_bs, q_a0, q_a1, q_a2, q_as, q_s0, q_ss, q_r0, q_rs, q_asI, q_asB, q_asL, q_asT, q_nm, q_tp, q_nil, q_cons, q_rva, q_rvo, retP, setsE, frzE, oall, sl_nil, sl_int, slT_last, slL_last, ixT0, ixL0, ixT1, ixL1, ixT2, ixL2, ixT3, ixL3, ixT4, ixL4, ixT5, ixL5, ixT6, ixL6, ixT7, ixL7, ixT8, ixL8, osome, ite_t, ite_f, oadd, osub, ofdv, omod, omul, olt, ogt, ole, oge, oeqI, oneI, oeqS, oneS, oneB, oeqB, otake, ospF1, ospF2, ospF3, ospF4, lcW_at, frW_at, lcT_map, lcT_fil, ite_not, true_and, and_true, forall_const, Bool.false_eq_true, false_implies]
            exact h
          | [] => exact h
          | [a] => exact h
          | [a, b] => exact h
          | a :: b :: c :: d :: r =>
            exact ite_cases (fun q => absurd (of_decide_eq_true q) (by simp only [List.length_cons]; omega)) fun _ => h
        by_cases hw_right : w = "right"
        · subst hw_right
          simp only [szI_right, bdI_right, bdX_right, lenT, slots0, List.map_cons, List.map_nil, slotOf, List.length_cons, List.length_nil, List.replicate_succ, List.replicate_zero, List.cons_append, List.nil_append, List.append_nil, Nat.reduceAdd, Nat.reduceSub, List.getElem?_cons_zero, List.getElem?_cons_succ, List.set_cons_zero, List.set_cons_succ, wpSs, wpS, wpE, wpEs, wpBs, wpAs, wpC, wpI, wipeE, brw, brv, arg, q_v0, q_vs, q_b0, q_b1, q_bs, q_a0, q_a1, q_a2, q_as, q_s0, q_ss, q_r0, q_rs, q_asI, q_asB, q_asL, q_asT, q_nm, q_tp, q_nil, q_cons, q_rva, q_rvo, retP, setsE, frzE, oall, sl_nil, sl_int, slT_last, slL_last, ixT0, ixL0, ixT1, ixL1, ixT2, ixL2, ixT3, ixL3, ixT4, ixL4, ixT5, ixL5, ixT6, ixL6, ixT7, ixL7, ixT8, ixL8, osome, ite_t, ite_f, oadd, osub, ofdv, omod, omul, olt, ogt, ole, oge, oeqI, oneI, oeqS, oneS, oneB, oeqB, otake, ospF1, ospF2, ospF3, ospF4, lcW_at, frW_at, lcT_map, lcT_fil, ite_not, true_and, and_true, forall_const, Bool.false_eq_true, false_implies]
          match r with
          | [a, b] =>
            simp only [show decide (((0 + 1 + 1 + 1 : Nat) : Int) = ((0 + 1 + 1 : Nat) : Int) + 1) = true from rfl, Bool.not_true, zp_cons, zp_nil, lcW_cons, lcW_nil, Option.toList_some, all2, f_is_between, slots0, List.map_cons, List.map_nil, slotOf, List.length_cons, List.length_nil, List.replicate_succ, List.replicate_zero, List.cons_append, List.nil_append, List.append_nil, Nat.reduceAdd, Nat.reduceSub, List.getElem?_cons_zero, List.getElem?_cons_succ, List.set_cons_zero, List.set_cons_succ, wpSs, wpS, wpE, wpEs, wpBs, wpAs, wpC, wpI, wipeE, brw, brv, arg, q_v0, q_vs, q_b0, q_b1, q_bs, q_a0, q_a1, q_a2, q_as, q_s0, q_ss, q_r0, q_rs, q_asI, q_asB, q_asL, q_asT, q_nm, q_tp, q_nil, q_cons, q_rva, q_rvo, retP, setsE, frzE, oall, sl_nil, sl_int, slT_last, slL_last, ixT0, ixL0, ixT1, ixL1, ixT2, ixL2, ixT3, ixL3, ixT4, ixL4, ixT5, ixL5, ixT6, ixL6, ixT7, ixL7, ixT8, ixL8, osome, ite_t, ite_f, oadd, osub, ofdv, omod, omul, olt, ogt, ole, oge, oeqI, oneI, oeqS, oneS, oneB, oeqB, otake, ospF1, ospF2, ospF3, ospF4, lcW_at, frW_at, lcT_map, lcT_fil, ite_not, true_and, and_true, forall_const, Bool.false_eq_true, false_implies]
            exact h
          | [] => exact h
          | [a] => exact h
          | a :: b :: c :: r =>
            exact ite_cases (fun q => absurd (of_decide_eq_true q) (by simp only [List.length_cons]; omega)) fun _ => h
        by_cases hw_pay : w = "pay"
        · subst hw_pay
          simp only [szI_pay, bdI_pay, bdX_pay, lenT, slots0, List.map_cons, List.map_nil, slotOf, List.length_cons, List.length_nil, List.replicate_succ, List.replicate_zero, List.cons_append, List.nil_append, List.append_nil, Nat.reduceAdd, Nat.reduceSub, List.getElem?_cons_zero, List.getElem?_cons_succ, List.set_cons_zero, List.set_cons_succ, wpSs, wpS, wpE, wpEs, wpBs, wpAs, wpC, wpI, wipeE, brw, brv, arg, q_v0, q_vs, q_b0, q_b1, q_bs, q_a0, q_a1, q_a2, q_as, q_s0, q_ss, q_r0, q_rs, q_asI, q_asB, q_asL, q_asT, q_nm, q_tp, q_nil, q_cons, q_rva, q_rvo, retP, setsE, frzE, oall, sl_nil, sl_int, slT_last, slL_last, ixT0, ixL0, ixT1, ixL1, ixT2, ixL2, ixT3, ixL3, ixT4, ixL4, ixT5, ixL5, ixT6, ixL6, ixT7, ixL7, ixT8, ixL8, osome, ite_t, ite_f, oadd, osub, ofdv, omod, omul, olt, ogt, ole, oge, oeqI, oneI, oeqS, oneS, oneB, oeqB, otake, ospF1, ospF2, ospF3, ospF4, lcW_at, frW_at, lcT_map, lcT_fil, ite_not, true_and, and_true, forall_const, Bool.false_eq_true, false_implies]
          match r with
          | [a, b, c] =>
            simp only [show decide (((0 + 1 + 1 + 1 + 1 : Nat) : Int) = ((0 + 1 + 1 + 1 : Nat) : Int) + 1) = true from rfl, Bool.not_true, zp_cons, zp_nil, lcW_cons, lcW_nil, Option.toList_some, all3, f_is_between, slots0, List.map_cons, List.map_nil, slotOf, List.length_cons, List.length_nil, List.replicate_succ, List.replicate_zero, List.cons_append, List.nil_append, List.append_nil, Nat.reduceAdd, Nat.reduceSub, List.getElem?_cons_zero, List.getElem?_cons_succ, List.set_cons_zero, List.set_cons_succ, wpSs, wpS, wpE, wpEs, wpBs, wpAs, wpC, wpI, wipeE, brw, brv, arg, q_v0, q_vs, q_b0, q_b1, q_bs, q_a0, q_a1, q_a2, q_as, q_s0, q_ss, q_r0, q_rs, q_asI, q_asB, q_asL, q_asT, q_nm, q_tp, q_nil, q_cons, q_rva, q_rvo, retP, setsE, frzE, oall, sl_nil, sl_int, slT_last, slL_last, ixT0, ixL0, ixT1, ixL1, ixT2, ixL2, ixT3, ixL3, ixT4, ixL4, ixT5, ixL5, ixT6, ixL6, ixT7, ixL7, ixT8, ixL8, osome, ite_t, ite_f, oadd, osub, ofdv, omod, omul, olt, ogt, ole, oge, oeqI, oneI, oeqS, oneS, oneB, oeqB, otake, ospF1, ospF2, ospF3, ospF4, lcW_at, frW_at, lcT_map, lcT_fil, ite_not, true_and, and_true, forall_const, Bool.false_eq_true, false_implies]
            exact h
          | [] => exact h
          | [a] => exact h
          | [a, b] => exact h
          | a :: b :: c :: d :: r =>
            exact ite_cases (fun q => absurd (of_decide_eq_true q) (by simp only [List.length_cons]; omega)) fun _ => h
        · obtain ⟨f1, f2, f3⟩ := noW (w := w) (by simp only [hw, hw2, hw3, hw_franks, hw_on, hw_refuse, hw_take, hw_short, hw_right, hw_pay, or_false, not_false_eq_true])
          simp only [f1, f2, slots0, List.map_cons, List.map_nil, slotOf, List.length_cons, List.length_nil, List.replicate_succ, List.replicate_zero, List.cons_append, List.nil_append, List.append_nil, Nat.reduceAdd, Nat.reduceSub, List.getElem?_cons_zero, List.getElem?_cons_succ, List.set_cons_zero, List.set_cons_succ, wpSs, wpS, wpE, wpEs, wpBs, wpAs, wpC, wpI, wipeE, brw, brv, arg, q_v0, q_vs, q_b0, q_b1, q_bs, q_a0, q_a1, q_a2, q_as, q_s0, q_ss, q_r0, q_rs, q_asI, q_asB, q_asL, q_asT, q_nm, q_tp, q_nil, q_cons, q_rva, q_rvo, retP, setsE, frzE, oall, sl_nil, sl_int, slT_last, slL_last, ixT0, ixL0, ixT1, ixL1, ixT2, ixL2, ixT3, ixL3, ixT4, ixL4, ixT5, ixL5, ixT6, ixL6, ixT7, ixL7, ixT8, ixL8, osome, ite_t, ite_f, oadd, osub, ofdv, omod, omul, olt, ogt, ole, oge, oeqI, oneI, oeqS, oneS, oneB, oeqB, otake, ospF1, ospF2, ospF3, ospF4, lcW_at, frW_at, lcT_map, lcT_fil, ite_not, true_and, and_true, forall_const, Bool.false_eq_true, false_implies]
          rw [f3] at h
          exact h
      | _ => exact h
  | _ => exact h
end VL
/-! LA: the defs that draw -/
namespace VL
open PySem PySem.Spec PyProof.Rows L2
def ir_law_cell_at : Ss := (.cons (.ifs (.cmp .lt (.var 1) (.lsc 0)) (.cons (.ret (.isc 0 (.var 1))) .nil) .nil) (.cons (.ret (.cst (.int 0))) .nil))
theorem lenS {ns : List Int} {k : Nat} (h : k < ns.length) : L2.atI ns (k : Int) = some ns[k] := (atN ns k).trans (List.getElem?_eq_getElem h)
theorem wp_law_cell_at {ns : List Int} {k : Nat} {x : Str → Prop} {R : Av → Prop} {N : En → Prop} (h : ∀ z, R (.da (.int z))) : wpSs ir_law_cell_at x R (slots0 2 [.sc ns, .da (.int (k : Int))]) N := by
  simp only [ir_law_cell_at, slots0, List.map_cons, List.map_nil, slotOf, List.length_cons, List.length_nil, List.replicate_succ, List.replicate_zero, List.cons_append, List.nil_append, List.append_nil, Nat.reduceAdd, Nat.reduceSub, List.getElem?_cons_zero, List.getElem?_cons_succ, List.set_cons_zero, List.set_cons_succ, wpSs, wpS, wpE, wpEs, wpBs, wpAs, wpC, wpI, wipeE, brw, brv, arg, q_v0, q_vs, q_b0, q_b1, q_bs, q_a0, q_a1, q_a2, q_as, q_s0, q_ss, q_r0, q_rs, q_asI, q_asB, q_asL, q_asT, q_nm, q_tp, q_nil, q_cons, q_rva, q_rvo, retP, setsE, frzE, oall, sl_nil, sl_int, slT_last, slL_last, ixT0, ixL0, ixT1, ixL1, ixT2, ixL2, ixT3, ixL3, ixT4, ixL4, ixT5, ixL5, ixT6, ixL6, ixT7, ixL7, ixT8, ixL8, osome, ite_t, ite_f, oadd, osub, ofdv, omod, omul, olt, ogt, ole, oge, oeqI, oneI, oeqS, oneS, oneB, oeqB, otake, ospF1, ospF2, ospF3, ospF4, lcW_at, frW_at, lcT_map, lcT_fil, ite_not, true_and, and_true, forall_const, Bool.false_eq_true, false_implies]
  refine ite_cases (fun q => ?_) fun _ => h 0
  have q : (k : Int) < (ns.length : Nat) := of_decide_eq_true q
  rw [lenS (by omega)]
  exact h _
def ir_law_state : Ss := (.cons (.set 2 (.cal "_law_cell_at" sp_law_cell_at (.cons (.var 0) (.cons (.var 1) .nil)))) (.cons (.rtg (.lst (.cons (.blt .max2 (.cons (.cst (.int 0)) (.cons (.bin .sub (.var 2) (.bin .pow (.cst (.int 10)) (.cst (.int 18)))) .nil))) (.cons (.bin .mod (.var 2) (.cst (.int 2147483647))) .nil)))) .nil))
theorem pow18 (P : PyData → Prop) : oP (BOp.pow.f (.int 10) (.int 18)) P ↔ P (.int (10 ^ 18)) := Iff.rfl
theorem omax (i j : Int) (P : PyData → Prop) : oP (Blt.max2.f [.int i, .int j]) P = P (.int (if j > i then j else i)) := rfl
theorem omin (i j : Int) (P : PyData → Prop) : oP (Blt.min2.f [.int i, .int j]) P = P (.int (if j < i then j else i)) := rfl
theorem wp_law_state {ns : List Int} {k : Nat} {x : Str → Prop} {R : Av → Prop} {N : En → Prop} (h : R .rg) : wpSs ir_law_state x R (slots0 3 [.sc ns, .da (.int (k : Int))]) N := by
  simp only [ir_law_state, slots0, List.map_cons, List.map_nil, slotOf, List.length_cons, List.length_nil, List.replicate_succ, List.replicate_zero, List.cons_append, List.nil_append, List.append_nil, Nat.reduceAdd, Nat.reduceSub, List.getElem?_cons_zero, List.getElem?_cons_succ, List.set_cons_zero, List.set_cons_succ, wpSs, wpS, wpE, wpEs, wpBs, wpAs, wpC, wpI, wipeE, brw, brv, arg, q_v0, q_vs, q_b0, q_b1, q_bs, q_a0, q_a1, q_a2, q_as, q_s0, q_ss, q_r0, q_rs, q_asI, q_asB, q_asL, q_asT, q_nm, q_tp, q_nil, q_cons, q_rva, q_rvo, retP, setsE, frzE, oall, sl_nil, sl_int, slT_last, slL_last, ixT0, ixL0, ixT1, ixL1, ixT2, ixL2, ixT3, ixL3, ixT4, ixL4, ixT5, ixL5, ixT6, ixL6, ixT7, ixL7, ixT8, ixL8, osome, ite_t, ite_f, oadd, osub, ofdv, omod, omul, olt, ogt, ole, oge, oeqI, oneI, oeqS, oneS, oneB, oeqB, otake, ospF1, ospF2, ospF3, ospF4, lcW_at, frW_at, lcT_map, lcT_fil, ite_not, true_and, and_true, forall_const, Bool.false_eq_true, false_implies]
  refine ⟨ns, k, rfl, fun z => ?_⟩
  simp only [pow18, omax, slots0, List.map_cons, List.map_nil, slotOf, List.length_cons, List.length_nil, List.replicate_succ, List.replicate_zero, List.cons_append, List.nil_append, List.append_nil, Nat.reduceAdd, Nat.reduceSub, List.getElem?_cons_zero, List.getElem?_cons_succ, List.set_cons_zero, List.set_cons_succ, wpSs, wpS, wpE, wpEs, wpBs, wpAs, wpC, wpI, wipeE, brw, brv, arg, q_v0, q_vs, q_b0, q_b1, q_bs, q_a0, q_a1, q_a2, q_as, q_s0, q_ss, q_r0, q_rs, q_asI, q_asB, q_asL, q_asT, q_nm, q_tp, q_nil, q_cons, q_rva, q_rvo, retP, setsE, frzE, oall, sl_nil, sl_int, slT_last, slL_last, ixT0, ixL0, ixT1, ixL1, ixT2, ixL2, ixT3, ixL3, ixT4, ixL4, ixT5, ixL5, ixT6, ixL6, ixT7, ixL7, ixT8, ixL8, osome, ite_t, ite_f, oadd, osub, ofdv, omod, omul, olt, ogt, ole, oge, oeqI, oneI, oeqS, oneS, oneB, oeqB, otake, ospF1, ospF2, ospF3, ospF4, lcW_at, frW_at, lcT_map, lcT_fil, ite_not, true_and, and_true, forall_const, Bool.false_eq_true, false_implies]
  refine ⟨by decide, ?_⟩
  refine ⟨?_, Int.emod_nonneg _ (by decide), Int.lt_trans (Int.emod_lt_of_pos _ (by decide)) (by decide), h⟩
  split <;> omega
def ir_law_take : Ss := (.cons (.ifs (.cmp .gt (.rgx 0 false) (.cst (.int 0))) (.cons (.set 2 (.bin .mod (.rgx 0 false) (.var 1))) (.cons (.rgp 0 false (.bin .fdv (.rgx 0 false) (.var 1))) (.cons (.ret (.var 2)) .nil))) .nil) (.cons (.rgp 0 true (.bin .mod (.bin .add (.bin .mul (.rgx 0 true) (.cst (.int 48271))) (.cst (.int 29))) (.cst (.int 2147483647)))) (.cons (.set 3 (.bin .mod (.bin .add (.bin .add (.bin .mul (.rgx 0 true) (.rgx 0 true)) (.bin .mul (.cst (.int 39373)) (.rgx 0 true))) (.cst (.int 7))) (.cst (.int 2147483629)))) (.cons (.set 3 (.bin .mod (.bin .add (.bin .mul (.var 3) (.var 3)) (.bin .mul (.cst (.int 16807)) (.var 3))) (.cst (.int 2147483587)))) (.cons (.ret (.bin .mod (.bin .fdv (.var 3) (.cst (.int 8))) (.var 1))) .nil)))))
theorem wp_law_take {m : Int} {x : Str → Prop} {R : Av → Prop} {N : En → Prop} (h1 : 0 < m) (h2 : m < 1073741824) (h : ∀ z : Int, 0 ≤ z → z < m → R (.da (.int z))) : wpSs ir_law_take x R (slots0 4 [.rg, .da (.int m)]) N := by
  simp only [ir_law_take, slots0, List.map_cons, List.map_nil, slotOf, List.length_cons, List.length_nil, List.replicate_succ, List.replicate_zero, List.cons_append, List.nil_append, List.append_nil, Nat.reduceAdd, Nat.reduceSub, List.getElem?_cons_zero, List.getElem?_cons_succ, List.set_cons_zero, List.set_cons_succ, wpSs, wpS, wpE, wpEs, wpBs, wpAs, wpC, wpI, wipeE, brw, brv, arg, q_v0, q_vs, q_b0, q_b1, q_bs, q_a0, q_a1, q_a2, q_as, q_s0, q_ss, q_r0, q_rs, q_asI, q_asB, q_asL, q_asT, q_nm, q_tp, q_nil, q_cons, q_rva, q_rvo, retP, setsE, frzE, oall, sl_nil, sl_int, slT_last, slL_last, ixT0, ixL0, ixT1, ixL1, ixT2, ixL2, ixT3, ixL3, ixT4, ixL4, ixT5, ixL5, ixT6, ixL6, ixT7, ixL7, ixT8, ixL8, osome, ite_t, ite_f, oadd, osub, ofdv, omod, omul, olt, ogt, ole, oge, oeqI, oneI, oeqS, oneS, oneB, oeqB, otake, ospF1, ospF2, ospF3, ospF4, lcW_at, frW_at, lcT_map, lcT_fil, ite_not, true_and, and_true, forall_const, Bool.false_eq_true, false_implies]
  have em : ∀ (a b : Int), 0 < b → 0 ≤ a % b ∧ a % b < b := fun a b q => ⟨Int.emod_nonneg _ (by omega), Int.emod_lt_of_pos _ q⟩
  refine fun z hz => ite_cases (fun _ z hz => ⟨h1, fun z2 h2' => ⟨⟨h1, h2⟩, Int.ediv_nonneg h2' (by omega), h _ (em z m h1).1 (em z m h1).2⟩⟩) fun _ z hz hz' => ?_
  have e1 := em (z * 48271 + 29) 2147483647 (by decide)
  refine ⟨okMul_l (by omega) (by omega), by decide, e1.1, by omega, fun a ha ha' b hb hb' => ⟨okMul_l (by omega) (by omega), fun c hc hc' => ⟨okMul_l (by decide) (by decide), by decide, ?_⟩⟩⟩
  have e2 := em (a * b + 39373 * c + 7) 2147483629 (by decide)
  refine ⟨okMul_l (by omega) (by omega), okMul_l (by decide) (by decide), by decide, ⟨by decide, by decide⟩, h1, h _ (em _ m h1).1 (em _ m h1).2⟩
end VL
/-! MP: pages, typed -/
namespace VL
open PySem PySem.Spec PyProof.Rows L2
inductive Page where
  | road (a b m t : Int)
  | table (k : Int) (tb : List (Int × Int)) (t : Int)
  | franks (f n t : Int)
  | give (l t p g s a : Int) (f : Option Int)
  | on (l t p : Int)
  | refuse (l t : Int)
  | take (l t : Int)
  | short (l g c : Int)
  | right (l g : Int)
  | pay (p c t : Int)
  deriving DecidableEq
def encO : Option Int → PyData
  | none => .none
  | some i => .int i
def encT (tb : List (Int × Int)) : PyData := .tuple (tb.map stp)
def Page.word : Page → Str
  | .road .. => "road" | .table .. => "table" | .franks .. => "franks" | .give .. => "give" | .on .. => "on" | .refuse .. => "refuse" | .take .. => "take" | .short .. => "short" | .right .. => "right" | .pay .. => "pay"
def Page.parts : Page → List PyData
  | .road a b m t => [.int a, .int b, .int m, .int t]
  | .table k tb t => [.int k, encT tb, .int t]
  | .franks f n t => [.int f, .int n, .int t]
  | .give l t p g s a f => [.int l, .int t, .int p, .int g, .int s, .int a, encO f]
  | .on l t p => [.int l, .int t, .int p]
  | .refuse l t => [.int l, .int t]
  | .take l t => [.int l, .int t]
  | .short l g c => [.int l, .int g, .int c]
  | .right l g => [.int l, .int g]
  | .pay p c t => [.int p, .int c, .int t]
def encP (p : Page) : PyData := .tuple (.str p.word :: p.parts)
/-- a number between two -/
def btw (i lo hi : Int) : Bool := decide (lo ≤ i) && decide (i ≤ hi)
def upT : List (Int × Int) → Bool
  | p :: q :: r => decide (p.1 < q.1) && decide (p.2 < q.2) && upT (q :: r)
  | _ => true
def tabOk (tb : List (Int × Int)) : Bool := decide (1 ≤ tb.length) && decide (tb.length ≤ 4) && (tb.all fun p => btw p.1 1 99 && btw p.2 1 12) && upT tb
def Page.ok : Page → Bool
  | .road a b m t => btw a 0 5 && btw b 0 5 && decide (a < b) && btw m 0 99 && btw t 0 30
  | .table k tb t => btw k 0 2 && tabOk tb && btw t 0 30
  | .franks f n t => btw f 0 2 && btw n 0 3 && btw t 0 30
  | .give l t p g s a f => btw l 0 7 && btw t 0 30 && btw p 0 5 && btw g 0 5 && !decide (p = g) && btw s 1 4 && btw a 0 1 && (match f with | none => true | some i => btw i 0 2)
  | .on l t p => btw l 0 7 && btw t 0 30 && btw p 0 5
  | .refuse l t => btw l 0 7 && btw t 0 30
  | .take l t => btw l 0 7 && btw t 0 30
  | .short l g c => btw l 0 7 && btw g 0 3 && btw c 1 99
  | .right l g => btw l 0 7 && btw g 0 3
  | .pay p c t => btw p 0 5 && btw c (-999) 999 && btw t 0 30
theorem isBtw_int (i lo hi : Int) : isBtw (.int i) lo hi = btw i lo hi := rfl
theorem isStep_stp (p : Int × Int) : isStep (stp p) = (btw p.1 1 99 && btw p.2 1 12) := rfl
theorem rises_stp : ∀ tb : List (Int × Int), rises (tb.map stp) = upT tb
  | [] => rfl
  | [p] => rfl
  | p :: q :: r => by
    show (decide (p.1 < q.1) && decide (p.2 < q.2) && rises ((q :: r).map stp)) = _
    rw [rises_stp (q :: r)]; rfl
theorem isTable_enc (tb : List (Int × Int)) : isTable (encT tb) = tabOk tb := by
  show (decide (1 ≤ (tb.map stp).length) && decide ((tb.map stp).length ≤ 4) && (tb.map stp).all isStep && rises (tb.map stp)) = _
  rw [rises_stp, List.length_map, List.all_map]; rfl
theorem table_shape {d : PyData} (h : isTable d = true) : ∃ tb, tabOk tb = true ∧ d = encT tb := by
  have h' := h
  unfold isTable at h
  split at h
  · rename_i ds
    simp only [Bool.and_eq_true] at h
    obtain ⟨tb, rfl⟩ := steps_shape h.1.2
    exact ⟨tb, (isTable_enc tb).symm.trans h', rfl⟩
  · cases h
theorem isPage_enc (p : Page) : isPage (encP p) = p.ok := by
  cases p with
  | table k tb t =>
    show (isBtw (.int k) 0 2 && isTable (encT tb) && isBtw (.int t) 0 30) = _
    rw [isTable_enc]; rfl
  | give l t p g s a f => cases f <;> rfl
  | _ => rfl
theorem btw_of {d : PyData} {lo hi : Int} (h : isBtw d lo hi = true) : ∃ i, d = .int i ∧ btw i lo hi = true := by
  obtain ⟨i, rfl⟩ := btw_int h
  exact ⟨i, rfl, h⟩
theorem page_shape {d : PyData} (h : isPage d = true) : ∃ p : Page, p.ok = true ∧ d = encP p := by
  suffices ∃ p : Page, d = encP p by
    obtain ⟨p, rfl⟩ := this
    exact ⟨p, (isPage_enc p).symm.trans h, rfl⟩
  unfold isPage at h
  split at h
  · rename_i w r
    unfold isParts at h
    split at h
    · rename_i e; subst e
      split at h
      · simp only [isRoad, Bool.and_eq_true] at h
        obtain ⟨a, rfl⟩ := btw_int h.1.1.1.1
        obtain ⟨b, rfl⟩ := btw_int h.1.1.1.2
        obtain ⟨m, rfl⟩ := btw_int h.1.2
        obtain ⟨t, rfl⟩ := btw_int h.2
        exact ⟨.road a b m t, rfl⟩
      · cases h
    split at h
    · rename_i e; subst e
      split at h
      · simp only [Bool.and_eq_true] at h
        obtain ⟨k, rfl⟩ := btw_int h.1.1
        obtain ⟨tb, _, rfl⟩ := table_shape h.1.2
        obtain ⟨t, rfl⟩ := btw_int h.2
        exact ⟨.table k tb t, rfl⟩
      · cases h
    split at h
    · rename_i e; subst e
      split at h
      · simp only [isGift, Bool.and_eq_true] at h
        obtain ⟨l, rfl⟩ := btw_int h.1.1.1.1.1.1.1
        obtain ⟨t, rfl⟩ := btw_int h.1.1.1.1.1.1.2
        obtain ⟨p, rfl⟩ := btw_int h.1.1.1.1.1.2
        obtain ⟨g, rfl⟩ := btw_int h.1.1.1.1.2
        obtain ⟨s, rfl⟩ := btw_int h.1.1.2
        obtain ⟨a, rfl⟩ := btw_int h.1.2
        have h2 := h.2
        rename_i f
        rw [Bool.or_eq_true] at h2
        rcases h2 with h2 | h2
        · cases f with
          | none => exact ⟨.give l t p g s a none, rfl⟩
          | _ => cases h2
        · obtain ⟨i, rfl⟩ := btw_int h2
          exact ⟨.give l t p g s a (some i), rfl⟩
      · cases h
    split at h
    · rename_i e; subst e
      split at h
      · simp only [Bool.and_eq_true] at h
        obtain ⟨a, rfl⟩ := btw_int h.1.1
        obtain ⟨b, rfl⟩ := btw_int h.1.2
        obtain ⟨c, rfl⟩ := btw_int h.2
        exact ⟨.franks a b c, rfl⟩
      · cases h
    split at h
    · rename_i e; subst e
      split at h
      · simp only [Bool.and_eq_true] at h
        obtain ⟨a, rfl⟩ := btw_int h.1.1
        obtain ⟨b, rfl⟩ := btw_int h.1.2
        obtain ⟨c, rfl⟩ := btw_int h.2
        exact ⟨.on a b c, rfl⟩
      · cases h
    split at h
    · rename_i e; subst e
      split at h
      · simp only [Bool.and_eq_true] at h
        obtain ⟨a, rfl⟩ := btw_int h.1
        obtain ⟨b, rfl⟩ := btw_int h.2
        exact ⟨.refuse a b, rfl⟩
      · cases h
    split at h
    · rename_i e; subst e
      split at h
      · simp only [Bool.and_eq_true] at h
        obtain ⟨a, rfl⟩ := btw_int h.1
        obtain ⟨b, rfl⟩ := btw_int h.2
        exact ⟨.take a b, rfl⟩
      · cases h
    split at h
    · rename_i e; subst e
      split at h
      · simp only [Bool.and_eq_true] at h
        obtain ⟨a, rfl⟩ := btw_int h.1.1
        obtain ⟨b, rfl⟩ := btw_int h.1.2
        obtain ⟨c, rfl⟩ := btw_int h.2
        exact ⟨.short a b c, rfl⟩
      · cases h
    split at h
    · rename_i e; subst e
      split at h
      · simp only [Bool.and_eq_true] at h
        obtain ⟨a, rfl⟩ := btw_int h.1
        obtain ⟨b, rfl⟩ := btw_int h.2
        exact ⟨.right a b, rfl⟩
      · cases h
    split at h
    · rename_i e; subst e
      split at h
      · simp only [Bool.and_eq_true] at h
        obtain ⟨a, rfl⟩ := btw_int h.1.1
        obtain ⟨b, rfl⟩ := btw_int h.1.2
        obtain ⟨c, rfl⟩ := btw_int h.2
        exact ⟨.pay a b c, rfl⟩
      · cases h
    cases h
  · cases h
theorem stp_inj {p q : Int × Int} (h : stp p = stp q) : p = q := by
  injection h with h
  injection h with h1 h
  injection h with h2 _
  injection h1 with h1
  injection h2 with h2
  exact Prod.ext h1 h2
theorem map_inj {α β : Type} {f : α → β} (hf : ∀ a b, f a = f b → a = b) : ∀ {xs ys : List α}, xs.map f = ys.map f → xs = ys
  | [], [], _ => rfl
  | [], _ :: _, h => by cases h
  | _ :: _, [], h => by cases h
  | x :: xs, y :: ys, h => by
    injection h with h1 h2
    rw [hf _ _ h1, map_inj hf h2]
theorem encT_inj {a b : List (Int × Int)} (h : encT a = encT b) : a = b := by
  injection h with h
  exact map_inj (fun _ _ => stp_inj) h
theorem encO_inj {a b : Option Int} (h : encO a = encO b) : a = b := by
  cases a <;> cases b <;> simp [encO] at h ⊢ <;> exact h
def Page.kd : Page → Nat
  | .road .. => 0 | .table .. => 1 | .franks .. => 2 | .give .. => 3 | .on .. => 4 | .refuse .. => 5 | .take .. => 6 | .short .. => 7 | .right .. => 8 | .pay .. => 9
theorem word_kd {p q : Page} (h : p.word = q.word) : p.kd = q.kd := by
  cases p <;> cases q <;> first
    | rfl
    | (exfalso; revert h; simp only [Page.word]; decide +kernel)
theorem encP_inj {p q : Page} (h : encP p = encP q) : p = q := by
  have h : PyData.str p.word :: p.parts = .str q.word :: q.parts := by injection h
  have h1 : p.word = q.word := by
    injection h with h _
    injection h
  have hk := word_kd h1
  injection h with _ h
  cases p <;> cases q <;> first
    | (exfalso; revert hk; simp only [Page.kd]; decide)
    | (simp only [Page.parts, List.cons.injEq, PyData.int.injEq, and_true] at h
       first
         | (simp only [h]; done)
         | (obtain ⟨h2, h3, h4⟩ := h; rw [h2, encT_inj h3, h4])
         | (obtain ⟨h2, h3, h4, h5, h6, h7, h8⟩ := h; rw [h2, h3, h4, h5, h6, h7, encO_inj h8]))
end VL
/-! LB: what k01, k02 and others draw: odd things, tables, pages -/
namespace VL
open PySem PySem.Spec PyProof.Rows L2
/-! ### the same -/
mutual
/-- comparable with itself, of a depth -/
def smOk : Nat → PyData → Bool
  | _, .none => true
  | _, .bool _ => true
  | _, .int _ => true
  | _, .str _ => true
  | n + 1, .list xs => smAll n xs
  | n + 1, .tuple xs => smAll n xs
  | _, _ => false
def smAll : Nat → List PyData → Bool
  | _, [] => true
  | n, x :: xs => smOk n x && smAll n xs
end
def sp_law_same (n : Nat) : Spec := fun as R _ => ∃ a, as = [.da a, .da a] ∧ smOk n a = true ∧ R (.da (.bool true))
theorem mo_law_same {n : Nat} : Mono (sp_law_same n) := fun _ _ _ _ _ ⟨a, h1, h2, h3⟩ hr _ => ⟨a, h1, h2, hr _ h3⟩
def ir_law_same (sp_law_same : Spec) : Ss := (.cons (.ifs (.isi [.tuple, .list] (.var 1)) (.cons (.ifs (.or (.cmp .ne (.isi [.tuple] (.var 0)) (.isi [.tuple] (.var 1))) (.cmp .ne (.isi [.list] (.var 0)) (.isi [.list] (.var 1)))) (.cons (.ret (.cst (.bool false))) .nil) .nil) (.cons (.ret (.and (.cmp .eq (.blt .len (.cons (.var 0) .nil)) (.blt .len (.cons (.var 1) .nil))) (.blt .all (.cons (.lcm (.cal "_law_same" sp_law_same (.cons (.var 2) (.cons (.var 3) .nil))) (.tp (.cons (.nm 2) (.cons (.nm 3) .nil))) (.zip (.var 0) (.var 1)) .nil [2, 3]) .nil)))) .nil)) .nil) (.cons (.ret (.and (.cmp .eq (.isi [.bool] (.var 0)) (.isi [.bool] (.var 1))) (.cmp .eq (.var 0) (.var 1)))) .nil))
theorem eqv_refl0 (a : PyData) (h : smOk 0 a = true) : COp.eq.f a a = some true := by
  cases a with
  | none => rfl
  | bool b => cases b <;> rfl
  | int i =>
    show (if okD (.int i) = true ∧ okD (.int i) = true then some (PyData.eqv (.int i) (.int i)) else none) = _
    rw [if_pos ⟨okD_int i, okD_int i⟩]
    simp [PyData.eqv]
  | str x => show some (decide (x = x)) = _; rw [decide_eq_true rfl]
  | _ => cases h
theorem smAll_mem {n : Nat} : ∀ {xs : List PyData}, smAll n xs = true → ∀ x ∈ xs, smOk n x = true
  | y :: ys, h, x, hx => by
    have h : (smOk n y && smAll n ys) = true := h
    rw [Bool.and_eq_true] at h
    rcases List.mem_cons.mp hx with e | e
    · rw [e]; exact h.1
    · exact smAll_mem h.2 x e
theorem zpL_self : ∀ xs : List PyData, zpL xs xs = xs.map fun d => .tuple [d, d]
  | [] => rfl
  | x :: xs => congrArg _ (zpL_self xs)
theorem all_tt (n : Nat) (P : PyData → Prop) : oP (Blt.all.f [.list (List.replicate n (.bool true))]) P = P (.bool true) := by
  rw [show List.replicate n (PyData.bool true) = (List.replicate n true).map PyData.bool by rw [List.map_replicate], allB]
  congr 2
  induction n with
  | zero => rfl
  | succ n ih => simpa [List.replicate_succ] using ih
theorem wp_law_same {n : Nat} {a : PyData} {sp : Spec} {x : Str → Prop} {R : Av → Prop} {N : En → Prop} (hs : ∀ m, n = m + 1 → sp = sp_law_same m) (h : smOk n a = true) (hR : R (.da (.bool true))) : wpSs (ir_law_same sp) x R (slots0 4 [.da a, .da a]) N := by
  simp only [ir_law_same, slots0, List.map_cons, List.map_nil, slotOf, List.length_cons, List.length_nil, List.replicate_succ, List.replicate_zero, List.cons_append, List.nil_append, List.append_nil, Nat.reduceAdd, Nat.reduceSub, List.getElem?_cons_zero, List.getElem?_cons_succ, List.set_cons_zero, List.set_cons_succ, wpSs, wpS, wpE, wpEs, wpBs, wpAs, wpC, wpI, wipeE, brw, brv, arg, q_v0, q_vs, q_b0, q_b1, q_bs, q_a0, q_a1, q_a2, q_as, q_s0, q_ss, q_r0, q_rs, q_asI, q_asB, q_asL, q_asT, q_nm, q_tp, q_nil, q_cons, q_rva, q_rvo, retP, setsE, frzE, oall, sl_nil, sl_int, slT_last, slL_last, ixT0, ixL0, ixT1, ixL1, ixT2, ixL2, ixT3, ixL3, ixT4, ixL4, ixT5, ixL5, ixT6, ixL6, ixT7, ixL7, ixT8, ixL8, osome, ite_t, ite_f, oadd, osub, ofdv, omod, omul, olt, ogt, ole, oge, oeqI, oneI, oeqS, oneS, oneB, oeqB, otake, ospF1, ospF2, ospF3, ospF4, lcW_at, frW_at, lcT_map, lcT_fil, ite_not, true_and, and_true, forall_const, Bool.false_eq_true, false_implies]
  have seq : ∀ ds : List PyData, ∀ m, n = m + 1 → smAll m ds = true → (lcT (fun d K => rdA [Slot.va d, .va d, .va d, .va d] 0 fun _ => sp [.da d, .da d] (fun r => rvP r fun r => K (some r)) noX) ds [] fun ds => oP (Blt.all.f [.list ds]) fun d => R (.da d)) := fun ds m e hm => by
    refine lcT_mp (fun _ => .bool true) (fun d hd K hk => ?_) ?_
    · show sp [.da d, .da d] _ noX
      rw [hs m e]
      exact ⟨d, rfl, smAll_mem hm d hd, hk⟩
    · rw [show ds.map (fun _ => PyData.bool true) = List.replicate ds.length (.bool true) by rw [List.map_const'], all_tt]
      exact hR
  cases a with
  | list ds =>
    match n, h with
    | m + 1, h =>
    show ite' true _ _
    simp only [isD, List.any_cons, List.any_nil, Ty.is, Bool.or_false, Bool.or_true, lenL, decide_true, zpL_self, slots0, List.map_cons, List.map_nil, slotOf, List.length_cons, List.length_nil, List.replicate_succ, List.replicate_zero, List.cons_append, List.nil_append, List.append_nil, Nat.reduceAdd, Nat.reduceSub, List.getElem?_cons_zero, List.getElem?_cons_succ, List.set_cons_zero, List.set_cons_succ, wpSs, wpS, wpE, wpEs, wpBs, wpAs, wpC, wpI, wipeE, brw, brv, arg, q_v0, q_vs, q_b0, q_b1, q_bs, q_a0, q_a1, q_a2, q_as, q_s0, q_ss, q_r0, q_rs, q_asI, q_asB, q_asL, q_asT, q_nm, q_tp, q_nil, q_cons, q_rva, q_rvo, retP, setsE, frzE, oall, sl_nil, sl_int, slT_last, slL_last, ixT0, ixL0, ixT1, ixL1, ixT2, ixL2, ixT3, ixL3, ixT4, ixL4, ixT5, ixL5, ixT6, ixL6, ixT7, ixL7, ixT8, ixL8, osome, ite_t, ite_f, oadd, osub, ofdv, omod, omul, olt, ogt, ole, oge, oeqI, oneI, oeqS, oneS, oneB, oeqB, otake, ospF1, ospF2, ospF3, ospF4, lcW_at, frW_at, lcT_map, lcT_fil, ite_not, true_and, and_true, forall_const, Bool.false_eq_true, false_implies]
    exact seq ds m rfl h
  | tuple ds =>
    match n, h with
    | m + 1, h =>
    show ite' true _ _
    simp only [isD, List.any_cons, List.any_nil, Ty.is, Bool.or_false, Bool.or_true, lenT, decide_true, zpL_self, slots0, List.map_cons, List.map_nil, slotOf, List.length_cons, List.length_nil, List.replicate_succ, List.replicate_zero, List.cons_append, List.nil_append, List.append_nil, Nat.reduceAdd, Nat.reduceSub, List.getElem?_cons_zero, List.getElem?_cons_succ, List.set_cons_zero, List.set_cons_succ, wpSs, wpS, wpE, wpEs, wpBs, wpAs, wpC, wpI, wipeE, brw, brv, arg, q_v0, q_vs, q_b0, q_b1, q_bs, q_a0, q_a1, q_a2, q_as, q_s0, q_ss, q_r0, q_rs, q_asI, q_asB, q_asL, q_asT, q_nm, q_tp, q_nil, q_cons, q_rva, q_rvo, retP, setsE, frzE, oall, sl_nil, sl_int, slT_last, slL_last, ixT0, ixL0, ixT1, ixL1, ixT2, ixL2, ixT3, ixL3, ixT4, ixL4, ixT5, ixL5, ixT6, ixL6, ixT7, ixL7, ixT8, ixL8, osome, ite_t, ite_f, oadd, osub, ofdv, omod, omul, olt, ogt, ole, oge, oeqI, oneI, oeqS, oneS, oneB, oeqB, otake, ospF1, ospF2, ospF3, ospF4, lcW_at, frW_at, lcT_map, lcT_fil, ite_not, true_and, and_true, forall_const, Bool.false_eq_true, false_implies]
    exact seq ds m rfl h
  | dict _ =>
    cases n <;> cases h
  | _ =>
    show ite' false _ _
    simp only [isD, List.any_cons, List.any_nil, Ty.is, Bool.or_false, Bool.or_true, slots0, List.map_cons, List.map_nil, slotOf, List.length_cons, List.length_nil, List.replicate_succ, List.replicate_zero, List.cons_append, List.nil_append, List.append_nil, Nat.reduceAdd, Nat.reduceSub, List.getElem?_cons_zero, List.getElem?_cons_succ, List.set_cons_zero, List.set_cons_succ, wpSs, wpS, wpE, wpEs, wpBs, wpAs, wpC, wpI, wipeE, brw, brv, arg, q_v0, q_vs, q_b0, q_b1, q_bs, q_a0, q_a1, q_a2, q_as, q_s0, q_ss, q_r0, q_rs, q_asI, q_asB, q_asL, q_asT, q_nm, q_tp, q_nil, q_cons, q_rva, q_rvo, retP, setsE, frzE, oall, sl_nil, sl_int, slT_last, slL_last, ixT0, ixL0, ixT1, ixL1, ixT2, ixL2, ixT3, ixL3, ixT4, ixL4, ixT5, ixL5, ixT6, ixL6, ixT7, ixL7, ixT8, ixL8, osome, ite_t, ite_f, oadd, osub, ofdv, omod, omul, olt, ogt, ole, oge, oeqI, oneI, oeqS, oneS, oneB, oeqB, otake, ospF1, ospF2, ospF3, ospF4, lcW_at, frW_at, lcT_map, lcT_fil, ite_not, true_and, and_true, forall_const, Bool.false_eq_true, false_implies]
    first
      | exact hR
      | (rw [eqv_refl0 _ (by rfl)]; exact hR)
      | (simp only [decide_true, ite_t]; exact hR)
end VL
/-! LC: odd things, tables, pages that are drawn -/
namespace VL
open PySem PySem.Spec PyProof.Rows L2
def oddL : List PyData := [.none, .bool true, .bool false, .int (-1), .int 6, .int 31, .int 8, .str "", .str "0", .str "road", .tuple [], .list [], .dict [], .tuple [.int 0], .list [.int 0], .int (10 ^ 29), .int (-10 ^ 20),
  .tuple [.str "road"], .tuple [.int 0, .int 0], .tuple [.tuple [.int 99, .int 1], .int 0], .dict [(.str "give", .int 0)], .tuple [.str "take", .int 0], .tuple [.bool true, .int 3], .tuple [.tuple [.int 1, .int 1], .tuple [.int 1, .int 2]], .str "take 0 1"]
def sp_law_odd : Spec := fun as R _ => as = [.rg] ∧ ∀ d ∈ oddL, R (.da d)
theorem mo_law_odd : Mono sp_law_odd := fun _ _ _ _ _ ⟨h1, h2⟩ hr _ => ⟨h1, fun d hd => hr _ (h2 d hd)⟩
def ir_law_odd : Ss := (.cons (.set 1 (.lst (.cons (.cst .none) (.cons (.cst (.bool true)) (.cons (.cst (.bool false)) (.cons (.neg (.cst (.int 1))) (.cons (.cst (.int 6)) (.cons (.cst (.int 31)) (.cons (.cst (.int 8)) (.cons (.cst (.str "")) (.cons (.cst (.str "0")) (.cons (.cst (.str "road")) (.cons (.tup .nil) (.cons (.lst .nil) (.cons (.dis .nil .nil) (.cons (.tup (.cons (.cst (.int 0)) .nil)) (.cons (.lst (.cons (.cst (.int 0)) .nil)) (.cons (.bin .pow (.cst (.int 10)) (.cst (.int 29))) (.cons (.neg (.bin .pow (.cst (.int 10)) (.cst (.int 20)))) .nil))))))))))))))))))) (.cons (.set 1 (.bin .add (.var 1) (.lst (.cons (.tup (.cons (.cst (.str "road")) .nil)) (.cons (.tup (.cons (.cst (.int 0)) (.cons (.cst (.int 0)) .nil))) (.cons (.tup (.cons (.tup (.cons (.cst (.int 99)) (.cons (.cst (.int 1)) .nil))) (.cons (.cst (.int 0)) .nil))) (.cons (.dis (kcs [(.inr "give")]) (.cons (.cst (.int 0)) .nil)) (.cons (.tup (.cons (.cst (.str "take")) (.cons (.cst (.int 0)) .nil))) (.cons (.tup (.cons (.cst (.bool true)) (.cons (.cst (.int 3)) .nil))) (.cons (.tup (.cons (.tup (.cons (.cst (.int 1)) (.cons (.cst (.int 1)) .nil))) (.cons (.tup (.cons (.cst (.int 1)) (.cons (.cst (.int 2)) .nil))) .nil))) (.cons (.cst (.str "take 0 1")) .nil))))))))))) (.cons (.ret (.sub (.var 1) (.cal "_law_take" sp_law_take (.cons (.var 0) (.cons (.cst (.int 25)) .nil))))) .nil)))
theorem opow {i : Int} {n : Nat} (P : PyData → Prop) (h : i.natAbs < 2 ^ 64) (hn : n ≤ 1000) : oP (BOp.pow.f (.int i) (.int (n : Nat))) P ↔ P (.int (i ^ n)) := by
  show oP (if 0 ≤ (n : Int) ∧ (n : Int) ≤ 1000 ∧ i.natAbs < 2 ^ 64 then some (.int (i ^ (n : Int).toNat)) else none) P ↔ _
  rw [if_pos ⟨by omega, by omega, h⟩]; rfl
theorem oaddL (a b : List PyData) (P : PyData → Prop) (h : a.length + b.length ≤ lim) : oP (BOp.add.f (.list a) (.list b)) P ↔ P (.list (a ++ b)) := by
  show oP (if a.length + b.length ≤ lim then some (.list (a ++ b)) else none) P ↔ _
  rw [if_pos h]; rfl
theorem oaddT (a b : List PyData) (P : PyData → Prop) (h : a.length + b.length ≤ lim) : oP (BOp.add.f (.tuple a) (.tuple b)) P ↔ P (.tuple (a ++ b)) := by
  show oP (if a.length + b.length ≤ lim then some (.tuple (a ++ b)) else none) P ↔ _
  rw [if_pos h]; rfl
theorem pow29 (P : PyData → Prop) : oP (BOp.pow.f (.int 10) (.int 29)) P ↔ P (.int (10 ^ 29)) := opow (n := 29) P (by decide) (by decide)
theorem pow20 (P : PyData → Prop) : oP (BOp.pow.f (.int 10) (.int 20)) P ↔ P (.int (10 ^ 20)) := opow (n := 20) P (by decide) (by decide)
theorem wp_law_odd {x : Str → Prop} {R : Av → Prop} {N : En → Prop} (h : ∀ d ∈ oddL, R (.da d)) : wpSs ir_law_odd x R (slots0 2 [.rg]) N := by
  simp only [ir_law_odd, kcs, List.zip_nil_left, List.zip_cons_cons, keyD, pow29, pow20, slots0, List.map_cons, List.map_nil, slotOf, List.length_cons, List.length_nil, List.replicate_succ, List.replicate_zero, List.cons_append, List.nil_append, List.append_nil, Nat.reduceAdd, Nat.reduceSub, List.getElem?_cons_zero, List.getElem?_cons_succ, List.set_cons_zero, List.set_cons_succ, wpSs, wpS, wpE, wpEs, wpBs, wpAs, wpC, wpI, wipeE, brw, brv, arg, q_v0, q_vs, q_b0, q_b1, q_bs, q_a0, q_a1, q_a2, q_as, q_s0, q_ss, q_r0, q_rs, q_asI, q_asB, q_asL, q_asT, q_nm, q_tp, q_nil, q_cons, q_rva, q_rvo, retP, setsE, frzE, oall, sl_nil, sl_int, slT_last, slL_last, ixT0, ixL0, ixT1, ixL1, ixT2, ixL2, ixT3, ixL3, ixT4, ixL4, ixT5, ixL5, ixT6, ixL6, ixT7, ixL7, ixT8, ixL8, osome, ite_t, ite_f, oadd, osub, ofdv, omod, omul, olt, ogt, ole, oge, oeqI, oneI, oeqS, oneS, oneB, oeqB, otake, ospF1, ospF2, ospF3, ospF4, lcW_at, frW_at, lcT_map, lcT_fil, ite_not, true_and, and_true, forall_const, Bool.false_eq_true, false_implies]
  rw [oaddL _ _ _ (by decide)]
  refine ⟨by decide, ?_⟩
  refine (pickL _ 25 (fun d => R (.da d)) rfl).mpr ?_
  exact h
/-! ### tables -/
structure TabAt (tb : List (Int × Int)) (m p : Int) : Prop where
  up : upT tb = true
  all : ∀ q ∈ tb, 1 ≤ q.1 ∧ q.1 ≤ m ∧ 1 ≤ q.2 ∧ q.2 ≤ p
theorem upT_put : ∀ (tb : List (Int × Int)) (q : Int × Int), upT tb = true → (∀ r ∈ tb, r.1 < q.1 ∧ r.2 < q.2) → upT (tb ++ [q]) = true
  | [], q, _, _ => rfl
  | [r], q, _, h => by
    have := h r List.mem_cons_self
    show (decide (r.1 < q.1) && decide (r.2 < q.2) && true) = true
    rw [decide_eq_true this.1, decide_eq_true this.2]; rfl
  | r :: u :: t, q, hu, h => by
    have hu : (decide (r.1 < u.1) && decide (r.2 < u.2) && upT (u :: t)) = true := hu
    rw [Bool.and_eq_true] at hu
    show (decide (r.1 < u.1) && decide (r.2 < u.2) && upT (u :: t ++ [q])) = true
    rw [hu.1, upT_put (u :: t) q hu.2 fun v hv => h v (List.mem_cons_of_mem _ hv)]; rfl
theorem TabAt.put {tb : List (Int × Int)} {m p a b : Int} (h : TabAt tb m p) (ha : 0 ≤ a) (hb : 0 ≤ b) (hm : 0 ≤ m) (hp : 0 ≤ p) : TabAt (tb ++ [(m + 1 + a, p + 1 + b)]) (m + 1 + a) (p + 1 + b) where
  up := upT_put tb _ h.up fun r hr => by have := h.all r hr; exact ⟨by show r.1 < m + 1 + a; omega, by show r.2 < p + 1 + b; omega⟩
  all := fun q hq => by
    rcases List.mem_append.mp hq with e | e
    · have := h.all q e; omega
    · rw [List.mem_singleton.mp e]; exact ⟨by show 1 ≤ m + 1 + a; omega, Int.le_refl _, by show 1 ≤ p + 1 + b; omega, Int.le_refl _⟩
theorem TabAt.ok {tb : List (Int × Int)} {m p : Int} (h : TabAt tb m p) (h1 : 1 ≤ tb.length) (h4 : tb.length ≤ 4) (hm : m ≤ 99) (hp : p ≤ 12) : tabOk tb = true := by
  unfold tabOk
  rw [h.up, decide_eq_true h1, decide_eq_true h4, List.all_eq_true.mpr]
  · rfl
  · intro q hq
    have := h.all q hq
    simp only [btw, Bool.and_eq_true, decide_eq_true_eq]; omega
def sp_law_table : Spec := fun as R _ => as = [.rg] ∧ ∀ tb, tabOk tb = true → R (.da (encT tb))
theorem mo_law_table : Mono sp_law_table := fun _ _ _ _ _ ⟨h1, h2⟩ hr _ => ⟨h1, fun d hd => hr _ (h2 d hd)⟩
def ir_law_table : Ss := (.cons (.par [1, 2, 3] (.cons (.cst (.int 0)) (.cons (.cst (.int 0)) (.cons (.lst .nil) .nil))) [false, false, true]) (.cons (.fgt [4]) (.cons (.fr (.nm 4) (.rg1 (.bin .add (.cst (.int 1)) (.cal "_law_take" sp_law_take (.cons (.var 0) (.cons (.cst (.int 4)) .nil))))) (.cons (.par [1, 2] (.cons (.bin .add (.bin .add (.var 1) (.cst (.int 1))) (.cal "_law_take" sp_law_take (.cons (.var 0) (.cons (.sub (.lst (.cons (.cst (.int 6)) (.cons (.cst (.int 24)) .nil))) (.cal "_law_take" sp_law_take (.cons (.var 0) (.cons (.cst (.int 2)) .nil)))) .nil)))) (.cons (.bin .add (.bin .add (.var 2) (.cst (.int 1))) (.cal "_law_take" sp_law_take (.cons (.var 0) (.cons (.cst (.int 3)) .nil)))) .nil)) [false, false]) (.cons (.app 3 (.tup (.cons (.var 1) (.cons (.var 2) .nil)))) (.cons (.fgt [4]) .nil)))) (.cons (.ret (.blt .tuple (.cons (.var 3) .nil))) .nil))))
theorem otuple (ds : List PyData) (P : PyData → Prop) : oP (Blt.tuple.f [.list ds]) P = P (.tuple ds) := rfl
theorem olist (ds : List PyData) (P : PyData → Prop) : oP (Blt.list.f [.tuple ds]) P = P (.list ds) := rfl
theorem wp_law_table {x : Str → Prop} {R : Av → Prop} {N : En → Prop} (h : ∀ tb, tabOk tb = true → R (.da (encT tb))) : wpSs ir_law_table x R (slots0 5 [.rg]) N := by
  simp only [ir_law_table, slots0, List.map_cons, List.map_nil, slotOf, List.length_cons, List.length_nil, List.replicate_succ, List.replicate_zero, List.cons_append, List.nil_append, List.append_nil, Nat.reduceAdd, Nat.reduceSub, List.getElem?_cons_zero, List.getElem?_cons_succ, List.set_cons_zero, List.set_cons_succ, wpSs, wpS, wpE, wpEs, wpBs, wpAs, wpC, wpI, wipeE, brw, brv, arg, q_v0, q_vs, q_b0, q_b1, q_bs, q_a0, q_a1, q_a2, q_as, q_s0, q_ss, q_r0, q_rs, q_asI, q_asB, q_asL, q_asT, q_nm, q_tp, q_nil, q_cons, q_rva, q_rvo, retP, setsE, frzE, oall, sl_nil, sl_int, slT_last, slL_last, ixT0, ixL0, ixT1, ixL1, ixT2, ixL2, ixT3, ixL3, ixT4, ixL4, ixT5, ixL5, ixT6, ixL6, ixT7, ixL7, ixT8, ixL8, osome, ite_t, ite_f, oadd, osub, ofdv, omod, omul, olt, ogt, ole, oge, oeqI, oneI, oeqS, oneS, oneB, oeqB, otake, ospF1, ospF2, ospF3, ospF4, lcW_at, frW_at, lcT_map, lcT_fil, ite_not, true_and, and_true, forall_const, Bool.false_eq_true, false_implies]
  refine ⟨by decide, fun z h0 h4 => ⟨by unfold rgI; simp; omega, by show 1 + z ≤ 1000000; omega, ?_⟩⟩
  have hn : (rgL 0 (1 + z).toNat).length = (1 + z).toNat := by simp [rgL]
  refine frW_inv (fun rest ρ => ∃ tb m p, ρ = [.rg, .va (.int m), .va (.int p), .ow (.list (tb.map stp)), .un] ∧ tb.length + rest.length = (1 + z).toNat ∧ TabAt tb m p ∧ 0 ≤ m ∧ 0 ≤ p ∧ m ≤ 24 * (tb.length : Nat) ∧ p ≤ 3 * (tb.length : Nat)) _ _ ?_ ⟨[], 0, 0, rfl, by rw [hn]; simp, ⟨rfl, fun q hq => by cases hq⟩, by decide, by decide, by decide, by decide⟩ ?_
  · rintro d rest ρ K ⟨tb, m, p, rfl, hl, ht, hm, hp, bm, bp⟩ hK
    simp only [slots0, List.map_cons, List.map_nil, slotOf, List.length_cons, List.length_nil, List.replicate_succ, List.replicate_zero, List.cons_append, List.nil_append, List.append_nil, Nat.reduceAdd, Nat.reduceSub, List.getElem?_cons_zero, List.getElem?_cons_succ, List.set_cons_zero, List.set_cons_succ, wpSs, wpS, wpE, wpEs, wpBs, wpAs, wpC, wpI, wipeE, brw, brv, arg, q_v0, q_vs, q_b0, q_b1, q_bs, q_a0, q_a1, q_a2, q_as, q_s0, q_ss, q_r0, q_rs, q_asI, q_asB, q_asL, q_asT, q_nm, q_tp, q_nil, q_cons, q_rva, q_rvo, retP, setsE, frzE, oall, sl_nil, sl_int, slT_last, slL_last, ixT0, ixL0, ixT1, ixL1, ixT2, ixL2, ixT3, ixL3, ixT4, ixL4, ixT5, ixL5, ixT6, ixL6, ixT7, ixL7, ixT8, ixL8, osome, ite_t, ite_f, oadd, osub, ofdv, omod, omul, olt, ogt, ole, oge, oeqI, oneI, oeqS, oneS, oneB, oeqB, otake, ospF1, ospF2, ospF3, ospF4, lcW_at, frW_at, lcT_map, lcT_fil, ite_not, true_and, and_true, forall_const, Bool.false_eq_true, false_implies]
    refine ⟨by decide, (pickL _ 2 _ rfl).mpr ?_⟩
    have key : ∀ w : Int, 0 < w → w ≤ 24 → (0 < w ∧ w < 1073741824) ∧ ∀ z : Int, 0 ≤ z → z < w → (0 < (3 : Int) ∧ (3 : Int) < 1073741824) ∧ ∀ z_1 : Int, 0 ≤ z_1 → z_1 < 3 → (tb.map stp).length < lim ∧ K [.rg, .va (.int (m + 1 + z)), .va (.int (p + 1 + z_1)), .ow (.list (tb.map stp ++ [.tuple [.int (m + 1 + z), .int (p + 1 + z_1)]])), .un] := fun w w0 w24 => by
      refine ⟨⟨w0, by omega⟩, fun a a0 a1 => ⟨by decide, fun b b0 b1 => ⟨?_, hK _ ⟨tb ++ [(m + 1 + a, p + 1 + b)], m + 1 + a, p + 1 + b, ?_, ?_, ht.put a0 b0 hm hp, by omega, by omega, ?_, ?_⟩⟩⟩⟩
      · rw [List.length_map]; simp only [List.length_cons] at hl; show tb.length < 1000000; omega
      · rw [List.map_append]; rfl
      · simp only [List.length_append, List.length_cons, List.length_nil] at hl ⊢; omega
      · simp only [List.length_append, List.length_cons, List.length_nil]; omega
      · simp only [List.length_append, List.length_cons, List.length_nil]; omega
    intro d hd
    rcases (by simpa using hd : d = .int 6 ∨ d = .int 24) with rfl | rfl
    · simp only [slots0, List.map_cons, List.map_nil, slotOf, List.length_cons, List.length_nil, List.replicate_succ, List.replicate_zero, List.cons_append, List.nil_append, List.append_nil, Nat.reduceAdd, Nat.reduceSub, List.getElem?_cons_zero, List.getElem?_cons_succ, List.set_cons_zero, List.set_cons_succ, wpSs, wpS, wpE, wpEs, wpBs, wpAs, wpC, wpI, wipeE, brw, brv, arg, q_v0, q_vs, q_b0, q_b1, q_bs, q_a0, q_a1, q_a2, q_as, q_s0, q_ss, q_r0, q_rs, q_asI, q_asB, q_asL, q_asT, q_nm, q_tp, q_nil, q_cons, q_rva, q_rvo, retP, setsE, frzE, oall, sl_nil, sl_int, slT_last, slL_last, ixT0, ixL0, ixT1, ixL1, ixT2, ixL2, ixT3, ixL3, ixT4, ixL4, ixT5, ixL5, ixT6, ixL6, ixT7, ixL7, ixT8, ixL8, osome, ite_t, ite_f, oadd, osub, ofdv, omod, omul, olt, ogt, ole, oge, oeqI, oneI, oeqS, oneS, oneB, oeqB, otake, ospF1, ospF2, ospF3, ospF4, lcW_at, frW_at, lcT_map, lcT_fil, ite_not, true_and, and_true, forall_const, Bool.false_eq_true, false_implies]
      exact key 6 (by decide) (by decide)
    · simp only [slots0, List.map_cons, List.map_nil, slotOf, List.length_cons, List.length_nil, List.replicate_succ, List.replicate_zero, List.cons_append, List.nil_append, List.append_nil, Nat.reduceAdd, Nat.reduceSub, List.getElem?_cons_zero, List.getElem?_cons_succ, List.set_cons_zero, List.set_cons_succ, wpSs, wpS, wpE, wpEs, wpBs, wpAs, wpC, wpI, wipeE, brw, brv, arg, q_v0, q_vs, q_b0, q_b1, q_bs, q_a0, q_a1, q_a2, q_as, q_s0, q_ss, q_r0, q_rs, q_asI, q_asB, q_asL, q_asT, q_nm, q_tp, q_nil, q_cons, q_rva, q_rvo, retP, setsE, frzE, oall, sl_nil, sl_int, slT_last, slL_last, ixT0, ixL0, ixT1, ixL1, ixT2, ixL2, ixT3, ixL3, ixT4, ixL4, ixT5, ixL5, ixT6, ixL6, ixT7, ixL7, ixT8, ixL8, osome, ite_t, ite_f, oadd, osub, ofdv, omod, omul, olt, ogt, ole, oge, oeqI, oneI, oeqS, oneS, oneB, oeqB, otake, ospF1, ospF2, ospF3, ospF4, lcW_at, frW_at, lcT_map, lcT_fil, ite_not, true_and, and_true, forall_const, Bool.false_eq_true, false_implies]
      exact key 24 (by decide) (by decide)
  · rintro ρ ⟨tb, m, p, rfl, hl, ht, hm, hp, bm, bp⟩
    simp only [List.length_nil, Nat.add_zero] at hl
    simp only [otuple, slots0, List.map_cons, List.map_nil, slotOf, List.length_cons, List.length_nil, List.replicate_succ, List.replicate_zero, List.cons_append, List.nil_append, List.append_nil, Nat.reduceAdd, Nat.reduceSub, List.getElem?_cons_zero, List.getElem?_cons_succ, List.set_cons_zero, List.set_cons_succ, wpSs, wpS, wpE, wpEs, wpBs, wpAs, wpC, wpI, wipeE, brw, brv, arg, q_v0, q_vs, q_b0, q_b1, q_bs, q_a0, q_a1, q_a2, q_as, q_s0, q_ss, q_r0, q_rs, q_asI, q_asB, q_asL, q_asT, q_nm, q_tp, q_nil, q_cons, q_rva, q_rvo, retP, setsE, frzE, oall, sl_nil, sl_int, slT_last, slL_last, ixT0, ixL0, ixT1, ixL1, ixT2, ixL2, ixT3, ixL3, ixT4, ixL4, ixT5, ixL5, ixT6, ixL6, ixT7, ixL7, ixT8, ixL8, osome, ite_t, ite_f, oadd, osub, ofdv, omod, omul, olt, ogt, ole, oge, oeqI, oneI, oeqS, oneS, oneB, oeqB, otake, ospF1, ospF2, ospF3, ospF4, lcW_at, frW_at, lcT_map, lcT_fil, ite_not, true_and, and_true, forall_const, Bool.false_eq_true, false_implies]
    exact h tb (ht.ok (by omega) (by omega) (by omega) (by omega))
end VL
/-! LD: pages that are drawn (k02, k04) -/
namespace VL
open PySem PySem.Spec PyProof.Rows L2
def sp_law_page : Spec := fun as R _ => as = [.rg] ∧ ∀ p : Page, p.ok = true → R (.da (encP p))
theorem mo_law_page : Mono sp_law_page := fun _ _ _ _ _ ⟨h1, h2⟩ hr _ => ⟨h1, fun d hd => hr _ (h2 d hd)⟩
def ir_law_page : Ss := (.cons (.par [1, 2, 3] (.cons (.cal "_law_take" sp_law_take (.cons (.var 0) (.cons (.cst (.int 12)) .nil))) (.cons (.cal "_law_take" sp_law_take (.cons (.var 0) (.cons (.cst (.int 8)) .nil))) (.cons (.cal "_law_take" sp_law_take (.cons (.var 0) (.cons (.cst (.int 31)) .nil))) .nil))) [false, false, false]) (.cons (.par [4, 5] (.cons (.cal "_law_take" sp_law_take (.cons (.var 0) (.cons (.cst (.int 6)) .nil))) (.cons (.cal "_law_take" sp_law_take (.cons (.var 0) (.cons (.cst (.int 5)) .nil))) .nil)) [false, false]) (.cons (.set 5 (.bin .add (.var 5) (.blt .int (.cons (.cmp .ge (.var 5) (.var 4)) .nil)))) (.cons (.ifs (.cmp .eq (.var 1) (.cst (.int 0))) (.cons (.ret (.tup (.cons (.cst (.str "road")) (.cons (.blt .min2 (.cons (.var 4) (.cons (.var 5) .nil))) (.cons (.blt .max2 (.cons (.var 4) (.cons (.var 5) .nil))) (.cons (.cal "_law_take" sp_law_take (.cons (.var 0) (.cons (.cst (.int 100)) .nil))) (.cons (.var 3) .nil))))))) .nil) .nil) (.cons (.ifs (.cmp .eq (.var 1) (.cst (.int 1))) (.cons (.ret (.tup (.cons (.cst (.str "table")) (.cons (.cal "_law_take" sp_law_take (.cons (.var 0) (.cons (.cst (.int 3)) .nil))) (.cons (.cal "_law_table" sp_law_table (.cons (.var 0) .nil)) (.cons (.var 3) .nil)))))) .nil) .nil) (.cons (.ifs (.cmp .eq (.var 1) (.cst (.int 2))) (.cons (.ret (.tup (.cons (.cst (.str "franks")) (.cons (.cal "_law_take" sp_law_take (.cons (.var 0) (.cons (.cst (.int 3)) .nil))) (.cons (.cal "_law_take" sp_law_take (.cons (.var 0) (.cons (.cst (.int 4)) .nil))) (.cons (.var 3) .nil)))))) .nil) .nil) (.cons (.ifs (.cmp .lt (.var 1) (.cst (.int 6))) (.cons (.set 6 (.sub (.lst (.cons (.cst .none) (.cons (.cst .none) (.cons (.cst (.int 0)) (.cons (.cst (.int 1)) (.cons (.cst (.int 2)) .nil)))))) (.cal "_law_take" sp_law_take (.cons (.var 0) (.cons (.cst (.int 5)) .nil))))) (.cons (.ret (.tup (.cons (.cst (.str "give")) (.cons (.var 2) (.cons (.var 3) (.cons (.var 4) (.cons (.var 5) (.cons (.bin .add (.cst (.int 1)) (.cal "_law_take" sp_law_take (.cons (.var 0) (.cons (.cst (.int 4)) .nil)))) (.cons (.cal "_law_take" sp_law_take (.cons (.var 0) (.cons (.cst (.int 2)) .nil))) (.cons (.var 6) .nil)))))))))) .nil)) .nil) (.cons (.ifs (.cmp .eq (.var 1) (.cst (.int 6))) (.cons (.ret (.tup (.cons (.cst (.str "on")) (.cons (.var 2) (.cons (.var 3) (.cons (.var 4) .nil)))))) .nil) .nil) (.cons (.ifs (.cmp .lt (.var 1) (.cst (.int 9))) (.cons (.ret (.tup (.cons (.sub (.lst (.cons (.cst (.str "refuse")) (.cons (.cst (.str "take")) .nil))) (.bin .sub (.var 1) (.cst (.int 7)))) (.cons (.var 2) (.cons (.var 3) .nil))))) .nil) .nil) (.cons (.ifs (.cmp .eq (.var 1) (.cst (.int 9))) (.cons (.ret (.tup (.cons (.cst (.str "short")) (.cons (.var 2) (.cons (.cal "_law_take" sp_law_take (.cons (.var 0) (.cons (.cst (.int 4)) .nil))) (.cons (.bin .add (.cst (.int 1)) (.cal "_law_take" sp_law_take (.cons (.var 0) (.cons (.cst (.int 99)) .nil)))) .nil)))))) .nil) .nil) (.cons (.ifs (.cmp .eq (.var 1) (.cst (.int 10))) (.cons (.ret (.tup (.cons (.cst (.str "right")) (.cons (.var 2) (.cons (.cal "_law_take" sp_law_take (.cons (.var 0) (.cons (.cst (.int 4)) .nil))) .nil))))) .nil) .nil) (.cons (.ret (.tup (.cons (.cst (.str "pay")) (.cons (.var 4) (.cons (.bin .sub (.cal "_law_take" sp_law_take (.cons (.var 0) (.cons (.cst (.int 1999)) .nil))) (.cst (.int 999))) (.cons (.var 3) .nil)))))) .nil))))))))))))
theorem otab (R : Av → Prop) (x : Str → Prop) : sp_law_table [.rg] R x ↔ ∀ tb, tabOk tb = true → R (.da (encT tb)) := ⟨fun h => h.2, fun h => ⟨rfl, h⟩⟩
theorem ointB (b : Bool) (P : PyData → Prop) : oP (Blt.int.f [.bool b]) P = P (.int (if b = true then 1 else 0)) := rfl
theorem pick2 (a b : PyData) (i : Int) (h : 0 ≤ i) (h2 : i < 2) (P : PyData → Prop) (ha : P a) (hb : P b) : oP (ixD (.list [a, b]) (.int i)) P := by
  have := (pickL [a, b] 2 P rfl).mpr (fun d hd => by rcases (by simpa using hd : d = a ∨ d = b) with rfl | rfl <;> assumption)
  exact this i h h2
theorem take_ok {m : Int} (h : 0 < m) (h2 : m < 1073741824) : (0 < m ∧ m < 1073741824) := ⟨h, h2⟩
theorem wp_law_page {x : Str → Prop} {R : Av → Prop} {N : En → Prop} (h : ∀ p : Page, p.ok = true → R (.da (encP p))) : wpSs ir_law_page x R (slots0 7 [.rg]) N := by
  simp only [ir_law_page, otab, omin, omax, ointB, slots0, List.map_cons, List.map_nil, slotOf, List.length_cons, List.length_nil, List.replicate_succ, List.replicate_zero, List.cons_append, List.nil_append, List.append_nil, Nat.reduceAdd, Nat.reduceSub, List.getElem?_cons_zero, List.getElem?_cons_succ, List.set_cons_zero, List.set_cons_succ, wpSs, wpS, wpE, wpEs, wpBs, wpAs, wpC, wpI, wipeE, brw, brv, arg, q_v0, q_vs, q_b0, q_b1, q_bs, q_a0, q_a1, q_a2, q_as, q_s0, q_ss, q_r0, q_rs, q_asI, q_asB, q_asL, q_asT, q_nm, q_tp, q_nil, q_cons, q_rva, q_rvo, retP, setsE, frzE, oall, sl_nil, sl_int, slT_last, slL_last, ixT0, ixL0, ixT1, ixL1, ixT2, ixL2, ixT3, ixL3, ixT4, ixL4, ixT5, ixL5, ixT6, ixL6, ixT7, ixL7, ixT8, ixL8, osome, ite_t, ite_f, oadd, osub, ofdv, omod, omul, olt, ogt, ole, oge, oeqI, oneI, oeqS, oneS, oneB, oeqB, otake, ospF1, ospF2, ospF3, ospF4, lcW_at, frW_at, lcT_map, lcT_fil, ite_not, true_and, and_true, forall_const, Bool.false_eq_true, false_implies]
  refine ⟨by decide, fun way w0 w1 => ⟨by decide, fun l l0 l1 => ⟨by decide, fun t t0 t1 => ⟨by decide, fun p p0 p1 => ⟨by decide, fun o o0 o1 => ?_⟩⟩⟩⟩⟩
  have bt : ∀ {i lo hi : Int}, lo ≤ i → i ≤ hi → btw i lo hi = true := fun h1 h2 => by simp only [btw, decide_eq_true h1, decide_eq_true h2, Bool.and_self]
  have hl : btw l 0 7 = true := bt l0 (by omega)
  have ht : btw t 0 30 = true := bt t0 (by omega)
  have hp : btw p 0 5 = true := bt p0 (by omega)
  obtain ⟨q, hq, q0, q1, qn⟩ : ∃ q, o + (if decide (p ≤ o) = true then 1 else 0) = q ∧ 0 ≤ q ∧ q ≤ 5 ∧ p ≠ q := by
    refine ⟨_, rfl, ?_⟩
    split
    · rename_i e; have e := of_decide_eq_true e; omega
    · rename_i e; have e : ¬ p ≤ o := fun z => e (decide_eq_true z); omega
  rw [hq]
  refine ite_cases (fun _ => ⟨by decide, fun m m0 m1 => ?_⟩) fun n0 => ite_cases (fun _ => ⟨by decide, fun k k0 k1 tb htb => ?_⟩) fun n1 => ite_cases (fun _ => ⟨by decide, fun f f0 f1 => ⟨by decide, fun n n0 n1 => ?_⟩⟩) fun n2 =>
    ite_cases (fun _ => ⟨by decide, ?_⟩) fun n5 => ite_cases (fun _ => ?_) fun n6 => ite_cases (fun n9 => ?_) fun n8 => ite_cases (fun _ => ⟨by decide, fun g g0 g1 => ⟨by decide, fun c c0 c1 => ?_⟩⟩) fun n9 => ite_cases (fun _ => ⟨by decide, fun g g0 g1 => ?_⟩) fun n10 => ⟨by decide, fun c c0 c1 => ?_⟩
  · have a0 : btw (if q < p then q else p) 0 5 = true := by split <;> exact bt (by omega) (by omega)
    have a1 : btw (if q > p then q else p) 0 5 = true := by split <;> exact bt (by omega) (by omega)
    have a2 : (if q < p then q else p) < (if q > p then q else p) := by split <;> split <;> omega
    exact h (.road _ _ m t) (by simp only [Page.ok, a0, a1, decide_eq_true a2, ht, bt m0 (show m ≤ 99 by omega), Bool.and_self])
  · exact h (.table k tb t) (by simp only [Page.ok, htb, ht, bt k0 (show k ≤ 2 by omega), Bool.and_self])
  · exact h (.franks f n t) (by simp only [Page.ok, ht, bt f0 (show f ≤ 2 by omega), bt n0 (show n ≤ 3 by omega), Bool.and_self])
  · have fin : ∀ f : Option Int, (match f with | none => true | some i => btw i 0 2) = true → (0 < (4 : Int) ∧ (4 : Int) < 1073741824) ∧ ∀ z : Int, 0 ≤ z → z < 4 → (0 < (2 : Int) ∧ (2 : Int) < 1073741824) ∧ ∀ z_1 : Int, 0 ≤ z_1 → z_1 < 2 → R (.da (encP (.give l t p q (1 + z) z_1 f))) :=
      fun f hf => ⟨by decide, fun s s0 s1 => ⟨by decide, fun a a0 a1 => h _ (by simp only [Page.ok, hl, ht, hp, bt q0 q1, decide_eq_false qn, bt (show 1 ≤ 1 + s by omega) (show 1 + s ≤ 4 by omega), bt a0 (show a ≤ 1 by omega), Bool.and_self, Bool.not_false, Bool.true_and]; exact hf)⟩⟩
    refine (pickL _ 5 _ rfl).mpr fun d hd => ?_
    rcases (by simpa using hd : d = .none ∨ d = .int 0 ∨ d = .int 1 ∨ d = .int 2) with rfl | rfl | rfl | rfl
    · exact fin none rfl
    · exact fin (some 0) rfl
    · exact fin (some 1) rfl
    · exact fin (some 2) rfl
  · exact h (.on l t p) (by simp only [Page.ok, hl, ht, hp, Bool.and_self])
  · have n5 := of_decide_eq_false n5
    have n6 := of_decide_eq_false n6
    have n9 := of_decide_eq_true n9
    refine pick2 _ _ _ (by omega) (by omega) _ ?_ ?_
    · exact h (.refuse l t) (by simp only [Page.ok, hl, ht, Bool.and_self])
    · exact h (.take l t) (by simp only [Page.ok, hl, ht, Bool.and_self])
  · exact h (.short l g (1 + c)) (by simp only [Page.ok, hl, bt g0 (show g ≤ 3 by omega), bt (show 1 ≤ 1 + c by omega) (show 1 + c ≤ 99 by omega), Bool.and_self])
  · exact h (.right l g) (by simp only [Page.ok, hl, bt g0 (show g ≤ 3 by omega), Bool.and_self])
  · exact h (.pay p (c - 999) t) (by simp only [Page.ok, hp, ht, bt (show -999 ≤ c - 999 by omega) (show c - 999 ≤ 999 by omega), Bool.and_self])
/-! ### spoilt pages -/
def spoilL : List PyData := [.int (-1), .int 2, .int 3, .int 4, .int 5, .int 6, .int 8, .int 31, .int 100, .bool true, .none, .str "1", .tuple [.int 0], .tuple [.tuple [.int 99, .int 1]], .int 1000, .int (-1000), .list [.int 0], .dict [(.int 0, .int 1)]]
/-- what a spoilt page may be -/
inductive Spoilt (ds : List PyData) : PyData → Prop
  | mix (es : List PyData) (o : PyData) : (∀ e ∈ es, e ∈ ds ∨ e = o) → es.length ≤ ds.length + 1 → o ∈ spoilL → Spoilt ds (.tuple es)
  | lst : Spoilt ds (.list ds)
  | word (w : Str) (es : List PyData) : w ∈ (["Give", "gives", "", "pays", "on "] : List Str) → (∀ e ∈ es, e ∈ ds) → es.length ≤ ds.length → Spoilt ds (.tuple (.str w :: es))
def sp_law_spoilt : Spec := fun as R _ => ∃ ds, as = [.rg, .da (.tuple ds)] ∧ 1 ≤ ds.length ∧ ds.length ≤ 1000 ∧ ∀ d, Spoilt ds d → R (.da d)
theorem mo_law_spoilt : Mono sp_law_spoilt := fun _ _ _ _ _ ⟨ds, h1, h2, h3, h4⟩ hr _ => ⟨ds, h1, h2, h3, fun d hd => hr _ (h4 d hd)⟩
def ir_law_spoilt : Ss := (.cons (.par [2, 3, 4] (.cons (.cal "_law_take" sp_law_take (.cons (.var 0) (.cons (.blt .len (.cons (.var 1) .nil)) .nil))) (.cons (.cal "_law_take" sp_law_take (.cons (.var 0) (.cons (.cst (.int 8)) .nil))) (.cons (.cal "_law_take" sp_law_take (.cons (.var 0) (.cons (.blt .len (.cons (.var 1) .nil)) .nil))) .nil))) [false, false, false]) (.cons (.set 5 (.lst (.cons (.neg (.cst (.int 1))) (.cons (.cst (.int 2)) (.cons (.cst (.int 3)) (.cons (.cst (.int 4)) (.cons (.cst (.int 5)) (.cons (.cst (.int 6)) (.cons (.cst (.int 8)) (.cons (.cst (.int 31)) (.cons (.cst (.int 100)) (.cons (.cst (.bool true)) (.cons (.cst .none) (.cons (.cst (.str "1")) (.cons (.tup (.cons (.cst (.int 0)) .nil)) (.cons (.tup (.cons (.tup (.cons (.cst (.int 99)) (.cons (.cst (.int 1)) .nil))) .nil)) (.cons (.cst (.int 1000)) (.cons (.neg (.cst (.int 1000))) (.cons (.lst (.cons (.cst (.int 0)) .nil)) (.cons (.dis (kcs [(.inl 0)]) (.cons (.cst (.int 1)) .nil)) .nil)))))))))))))))))))) (.cons (.set 5 (.sub (.var 5) (.cal "_law_take" sp_law_take (.cons (.var 0) (.cons (.cst (.int 18)) .nil))))) (.cons (.ifs (.cmp .eq (.var 3) (.cst (.int 0))) (.cons (.ret (.bin .add (.slc (.var 1) .nil (.cons (.var 2) .nil)) (.slc (.var 1) (.cons (.bin .add (.var 2) (.cst (.int 1))) .nil) .nil))) .nil) .nil) (.cons (.ifs (.cmp .eq (.var 3) (.cst (.int 1))) (.cons (.ret (.bin .add (.bin .add (.slc (.var 1) .nil (.cons (.var 2) .nil)) (.tup (.cons (.var 5) .nil))) (.slc (.var 1) (.cons (.var 2) .nil) .nil))) .nil) .nil) (.cons (.ifs (.cmp .eq (.var 3) (.cst (.int 2))) (.cons (.sow 6 (.blt .list (.cons (.var 1) .nil))) (.cons (.pts (.cons 6 (.var 2) (.cons 6 (.var 4) .nil)) (.cons (.sub (.var 6) (.var 4)) (.cons (.sub (.var 6) (.var 2)) .nil))) (.cons (.ret (.blt .tuple (.cons (.var 6) .nil))) .nil))) .nil) (.cons (.ifs (.cmp .eq (.var 3) (.cst (.int 3))) (.cons (.ret (.sub (.lst (.cons (.blt .list (.cons (.var 1) .nil)) (.cons (.bin .add (.tup (.cons (.sub (.lst (.cons (.cst (.str "Give")) (.cons (.cst (.str "gives")) (.cons (.cst (.str "")) (.cons (.cst (.str "pays")) (.cons (.cst (.str "on ")) .nil)))))) (.bin .mod (.var 2) (.cst (.int 5)))) .nil)) (.slc (.var 1) (.cons (.cst (.int 1)) .nil) .nil)) (.cons (.bin .add (.var 1) (.slc (.var 1) (.cons (.neg (.cst (.int 1))) .nil) .nil)) .nil)))) (.bin .mod (.var 4) (.cst (.int 3))))) .nil) .nil) (.cons (.ret (.bin .add (.bin .add (.slc (.var 1) .nil (.cons (.var 2) .nil)) (.tup (.cons (.var 5) .nil))) (.slc (.var 1) (.cons (.bin .add (.var 2) (.cst (.int 1))) .nil) .nil))) .nil))))))))
theorem wp_law_spoilt {ds : List PyData} {x : Str → Prop} {R : Av → Prop} {N : En → Prop} (h1 : 1 ≤ ds.length) (h2 : ds.length ≤ 1000) (h : ∀ d, Spoilt ds d → R (.da d)) : wpSs ir_law_spoilt x R (slots0 7 [.rg, .da (.tuple ds)]) N := by
  simp only [ir_law_spoilt, kcs, keyD, lenT, List.zip_cons_cons, List.zip_nil_left, slots0, List.map_cons, List.map_nil, slotOf, List.length_cons, List.length_nil, List.replicate_succ, List.replicate_zero, List.cons_append, List.nil_append, List.append_nil, Nat.reduceAdd, Nat.reduceSub, List.getElem?_cons_zero, List.getElem?_cons_succ, List.set_cons_zero, List.set_cons_succ, wpSs, wpS, wpE, wpEs, wpBs, wpAs, wpC, wpI, wipeE, brw, brv, arg, q_v0, q_vs, q_b0, q_b1, q_bs, q_a0, q_a1, q_a2, q_as, q_s0, q_ss, q_r0, q_rs, q_asI, q_asB, q_asL, q_asT, q_nm, q_tp, q_nil, q_cons, q_rva, q_rvo, retP, setsE, frzE, oall, sl_nil, sl_int, slT_last, slL_last, ixT0, ixL0, ixT1, ixL1, ixT2, ixL2, ixT3, ixL3, ixT4, ixL4, ixT5, ixL5, ixT6, ixL6, ixT7, ixL7, ixT8, ixL8, osome, ite_t, ite_f, oadd, osub, ofdv, omod, omul, olt, ogt, ole, oge, oeqI, oneI, oeqS, oneS, oneB, oeqB, otake, ospF1, ospF2, ospF3, ospF4, lcW_at, frW_at, lcT_map, lcT_fil, ite_not, true_and, and_true, forall_const, Bool.false_eq_true, false_implies]
  have at' : ∀ {z : Int}, 0 ≤ z → z < (ds.length : Nat) → ∃ n : Nat, z = (n : Int) ∧ n < ds.length := fun {z} h0 h1 => by
    obtain ⟨n, rfl⟩ := Int.eq_ofNat_of_zero_le h0
    exact ⟨n, rfl, by omega⟩
  have hlim : 2 * ds.length + 10 ≤ lim := Nat.le_trans (show 2 * ds.length + 10 ≤ 2010 by omega) (by decide)
  refine ⟨by omega, fun z z0 z1 => ⟨by decide, fun way w0 w1 => ⟨by omega, fun u u0 u1 => ⟨by decide, (pickL _ 18 _ rfl).mpr fun o ho => ?_⟩⟩⟩⟩
  obtain ⟨n, rfl, hn⟩ := at' z0 z1
  obtain ⟨k, rfl, hk⟩ := at' u0 u1
  have t1 : ∀ k : Nat, (ds.take k).length ≤ ds.length := fun k => by rw [List.length_take]; omega
  have t2 : ∀ k : Nat, (ds.drop k).length ≤ ds.length := fun k => by rw [List.length_drop]; omega
  rw [slT_upto ds n (by omega), slT_from ds n (by omega), slT_from ds (n + 1) (by omega), slT_from ds 1 (by omega)]
  simp only [osome, Int.toNat_natCast, show ((n : Int) + 1).toNat = n + 1 by omega, show (Int.toNat 1) = 1 from rfl]
  have rest : (oP (BOp.add.f (.tuple (ds.take n)) (.tuple [o])) fun da => oP (BOp.add.f da (.tuple (ds.drop (n + 1)))) fun d => R (.da d)) := by
    rw [oaddT _ _ _ (by simp only [List.length_cons, List.length_nil]; have := t1 n; omega), oaddT _ _ _ (by simp only [List.length_append, List.length_cons, List.length_nil]; have := t1 n; have := t2 (n + 1); omega)]
    refine h _ (.mix _ o (fun e he => ?_) (by simp only [List.length_append, List.length_cons, List.length_nil, List.length_take, List.length_drop]; omega) ho)
    rcases List.mem_append.mp he with q | q
    · rcases List.mem_append.mp q with q | q
      · exact .inl (List.mem_of_mem_take q)
      · exact .inr (List.mem_singleton.mp q)
    · exact .inl (List.mem_of_mem_drop q)
  refine ite_cases (fun _ => ?_) fun _ => ite_cases (fun _ => ?_) fun _ => ite_cases (fun _ => ?_) fun _ => ite_cases (fun _ => ?_) fun _ => rest
  · rw [oaddT _ _ _ (by have := t1 n; have := t2 (n + 1); rw [List.length_take, List.length_drop]; omega)]
    refine h _ (.mix _ o (fun e he => ?_) (by simp only [List.length_append, List.length_take, List.length_drop]; omega) ho)
    rcases List.mem_append.mp he with q | q
    · exact .inl (List.mem_of_mem_take q)
    · exact .inl (List.mem_of_mem_drop q)
  · rw [oaddT _ _ _ (by simp only [List.length_cons, List.length_nil]; have := t1 n; omega), oaddT _ _ _ (by simp only [List.length_append, List.length_cons, List.length_nil, List.length_take, List.length_drop]; omega)]
    refine h _ (.mix _ o (fun e he => ?_) (by simp only [List.length_append, List.length_cons, List.length_nil, List.length_take, List.length_drop]; omega) ho)
    rcases List.mem_append.mp he with q | q
    · rcases List.mem_append.mp q with q | q
      · exact .inl (List.mem_of_mem_take q)
      · exact .inr (List.mem_singleton.mp q)
    · exact .inl (List.mem_of_mem_drop q)
  · simp only [olist, ixL_at, List.getElem?_eq_getElem hn, List.getElem?_eq_getElem hk, osome, wpPts, putP, isOw, putB, slots0, List.map_cons, List.map_nil, slotOf, List.length_cons, List.length_nil, List.replicate_succ, List.replicate_zero, List.cons_append, List.nil_append, List.append_nil, Nat.reduceAdd, Nat.reduceSub, List.getElem?_cons_zero, List.getElem?_cons_succ, List.set_cons_zero, List.set_cons_succ, wpSs, wpS, wpE, wpEs, wpBs, wpAs, wpC, wpI, wipeE, brw, brv, arg, q_v0, q_vs, q_b0, q_b1, q_bs, q_a0, q_a1, q_a2, q_as, q_s0, q_ss, q_r0, q_rs, q_asI, q_asB, q_asL, q_asT, q_nm, q_tp, q_nil, q_cons, q_rva, q_rvo, retP, setsE, frzE, oall, sl_nil, sl_int, slT_last, slL_last, ixT0, ixL0, ixT1, ixL1, ixT2, ixL2, ixT3, ixL3, ixT4, ixL4, ixT5, ixL5, ixT6, ixL6, ixT7, ixL7, ixT8, ixL8, osome, ite_t, ite_f, oadd, osub, ofdv, omod, omul, olt, ogt, ole, oge, oeqI, oneI, oeqS, oneS, oneB, oeqB, otake, ospF1, ospF2, ospF3, ospF4, lcW_at, frW_at, lcT_map, lcT_fil, ite_not, true_and, and_true, forall_const, Bool.false_eq_true, false_implies]
    have ix : ∀ {m l : Nat}, m < l → ixN l (m : Int) = some m := fun {m l} h => by unfold ixN; rw [if_pos (by omega), if_pos (by omega)]; rfl
    simp only [ix hn, List.length_set, ix hk, osome, otuple, slots0, List.map_cons, List.map_nil, slotOf, List.length_cons, List.length_nil, List.replicate_succ, List.replicate_zero, List.cons_append, List.nil_append, List.append_nil, Nat.reduceAdd, Nat.reduceSub, List.getElem?_cons_zero, List.getElem?_cons_succ, List.set_cons_zero, List.set_cons_succ, wpSs, wpS, wpE, wpEs, wpBs, wpAs, wpC, wpI, wipeE, brw, brv, arg, q_v0, q_vs, q_b0, q_b1, q_bs, q_a0, q_a1, q_a2, q_as, q_s0, q_ss, q_r0, q_rs, q_asI, q_asB, q_asL, q_asT, q_nm, q_tp, q_nil, q_cons, q_rva, q_rvo, retP, setsE, frzE, oall, sl_nil, sl_int, slT_last, slL_last, ixT0, ixL0, ixT1, ixL1, ixT2, ixL2, ixT3, ixL3, ixT4, ixL4, ixT5, ixL5, ixT6, ixL6, ixT7, ixL7, ixT8, ixL8, osome, ite_t, ite_f, oadd, osub, ofdv, omod, omul, olt, ogt, ole, oge, oeqI, oneI, oeqS, oneS, oneB, oeqB, otake, ospF1, ospF2, ospF3, ospF4, lcW_at, frW_at, lcT_map, lcT_fil, ite_not, true_and, and_true, forall_const, Bool.false_eq_true, false_implies]
    refine h _ (.mix _ o (fun e he => ?_) (by rw [List.length_set, List.length_set]; omega) ho)
    rcases List.mem_or_eq_of_mem_set he with q | q
    · rcases List.mem_or_eq_of_mem_set q with q | q
      · exact .inl q
      · exact .inl (q ▸ List.getElem_mem hk)
    · exact .inl (q ▸ List.getElem_mem hn)
  · simp only [olist, osome]
    have m5 : 0 ≤ (n : Int) % 5 ∧ (n : Int) % 5 < 5 := ⟨Int.emod_nonneg _ (by decide), Int.emod_lt_of_pos _ (by decide)⟩
    have m3 : 0 ≤ (k : Int) % 3 ∧ (k : Int) % 3 < 3 := ⟨Int.emod_nonneg _ (by decide), Int.emod_lt_of_pos _ (by decide)⟩
    refine ⟨by decide, (pickL _ 5 _ rfl).mpr (fun w hw => ?_) _ m5.1 m5.2⟩
    have sl : slD (.tuple ds) [.int (-1)] [] = some (.tuple (ds.drop (ds.length - 1))) := by
      show some (PyData.tuple ((ds.drop (HT.sIx ds.length 0 (some (-1)))).take (ds.length - HT.sIx ds.length 0 (some (-1))))) = _
      have : HT.sIx ds.length 0 (some (-1)) = ds.length - 1 := by unfold HT.sIx; simp; omega
      rw [this, cut_all]
    rw [oaddT _ _ _ (by simp only [List.length_cons, List.length_nil, List.length_drop]; omega), sl, osome, oaddT _ _ _ (by simp only [List.length_drop]; omega)]
    refine ⟨by decide, (pickL _ 3 _ rfl).mpr (fun d hd => ?_) _ m3.1 m3.2⟩
    rcases (by simpa using hd : d = _ ∨ d = _ ∨ d = _) with rfl | rfl | rfl
    · exact h _ .lst
    · have wd : ∀ w : Str, w ∈ (["Give", "gives", "", "pays", "on "] : List Str) → R (.da (.tuple (PyData.str w :: ds.tail))) := fun w hw => h _ (.word w _ hw (fun e he => List.mem_of_mem_tail he) (by rw [List.length_tail]; omega))
      rcases (by simpa using hw : w = _ ∨ w = _ ∨ w = _ ∨ w = _ ∨ w = _) with rfl | rfl | rfl | rfl | rfl <;> refine wd _ ?_ <;> decide +kernel
    · refine h _ (.mix _ o (fun e he => ?_) (by simp only [List.length_append, List.length_drop]; omega) ho)
      rcases List.mem_append.mp he with q | q
      · exact .inl q
      · exact .inl (List.mem_of_mem_drop q)
end VL
/-! LE: the looks of k02's own -/
namespace VL
open PySem PySem.Spec PyProof.Rows L2
def sp_law_number : Spec := spF 3 false f_is_between
def ir_law_number : Ss := (.cons (.ret (.and (.isi [.int] (.var 0)) (.and (.not (.isi [.bool] (.var 0))) (.chn .le .le (.var 1) (.var 0) (.var 2))))) .nil)
theorem wp_law_number {d : PyData} {lo hi : Int} {x : Str → Prop} {R : Av → Prop} {N : En → Prop} (h : R (.da (.bool (isBtw d lo hi)))) : wpSs ir_law_number x R (slots0 3 [.da d, .da (.int lo), .da (.int hi)]) N := by
  simp only [ir_law_number, slots0, List.map_cons, List.map_nil, slotOf, List.length_cons, List.length_nil, List.replicate_succ, List.replicate_zero, List.cons_append, List.nil_append, List.append_nil, Nat.reduceAdd, Nat.reduceSub, List.getElem?_cons_zero, List.getElem?_cons_succ, List.set_cons_zero, List.set_cons_succ, wpSs, wpS, wpE, wpEs, wpBs, wpAs, wpC, wpI, wipeE, brw, brv, arg, q_v0, q_vs, q_b0, q_b1, q_bs, q_a0, q_a1, q_a2, q_as, q_s0, q_ss, q_r0, q_rs, q_asI, q_asB, q_asL, q_asT, q_nm, q_tp, q_nil, q_cons, q_rva, q_rvo, retP, setsE, frzE, oall, sl_nil, sl_int, slT_last, slL_last, ixT0, ixL0, ixT1, ixL1, ixT2, ixL2, ixT3, ixL3, ixT4, ixL4, ixT5, ixL5, ixT6, ixL6, ixT7, ixL7, ixT8, ixL8, osome, ite_t, ite_f, oadd, osub, ofdv, omod, omul, olt, ogt, ole, oge, oeqI, oneI, oeqS, oneS, oneB, oeqB, otake, ospF1, ospF2, ospF3, ospF4, lcW_at, frW_at, lcT_map, lcT_fil, ite_not, true_and, and_true, forall_const, Bool.false_eq_true, false_implies]
  cases d with
  | int i =>
    simp only [isD, List.any_cons, List.any_nil, Ty.is, Bool.or_false, Bool.not_false, slots0, List.map_cons, List.map_nil, slotOf, List.length_cons, List.length_nil, List.replicate_succ, List.replicate_zero, List.cons_append, List.nil_append, List.append_nil, Nat.reduceAdd, Nat.reduceSub, List.getElem?_cons_zero, List.getElem?_cons_succ, List.set_cons_zero, List.set_cons_succ, wpSs, wpS, wpE, wpEs, wpBs, wpAs, wpC, wpI, wipeE, brw, brv, arg, q_v0, q_vs, q_b0, q_b1, q_bs, q_a0, q_a1, q_a2, q_as, q_s0, q_ss, q_r0, q_rs, q_asI, q_asB, q_asL, q_asT, q_nm, q_tp, q_nil, q_cons, q_rva, q_rvo, retP, setsE, frzE, oall, sl_nil, sl_int, slT_last, slL_last, ixT0, ixL0, ixT1, ixL1, ixT2, ixL2, ixT3, ixL3, ixT4, ixL4, ixT5, ixL5, ixT6, ixL6, ixT7, ixL7, ixT8, ixL8, osome, ite_t, ite_f, oadd, osub, ofdv, omod, omul, olt, ogt, ole, oge, oeqI, oneI, oeqS, oneS, oneB, oeqB, otake, ospF1, ospF2, ospF3, ospF4, lcW_at, frW_at, lcT_map, lcT_fil, ite_not, true_and, and_true, forall_const, Bool.false_eq_true, false_implies]
    have h : R (.da (.bool (decide (lo ≤ i) && decide (i ≤ hi)))) := h
    cases q : decide (lo ≤ i) <;> rw [q] at h <;> exact h
  | _ => exact h
/-- steps that rise from m, p on -/
def toI : PyData → Int
  | .int i => i
  | _ => 0
def gf : List PyData → Int → Int → Bool
  | [], _, _ => true
  | d :: r, m, p => match d with
    | .tuple [a, b] => isBtw a (m + 1) 99 && isBtw b (p + 1) 12 && gf r (toI a) (toI b)
    | _ => false
def over : List (Int × Int) → Int → Int → Bool
  | [], _, _ => true
  | q :: _, m, p => decide (m < q.1) && decide (p < q.2)
theorem gf_typed : ∀ (tb : List (Int × Int)) (m p : Int), 0 ≤ m → 0 ≤ p → gf (tb.map stp) m p = ((tb.all fun p => btw p.1 1 99 && btw p.2 1 12) && upT tb && over tb m p)
  | [], _, _, _, _ => rfl
  | [q], m, p, hm, hp => by
    show (btw q.1 (m + 1) 99 && btw q.2 (p + 1) 12 && true) = ((btw q.1 1 99 && btw q.2 1 12 && true) && true && (decide (m < q.1) && decide (p < q.2)))
    simp only [btw, Bool.and_true]
    rw [Bool.eq_iff_iff]
    simp only [Bool.and_eq_true, decide_eq_true_eq]; omega
  | q :: u :: r, m, p, hm, hp => by
    show (btw q.1 (m + 1) 99 && btw q.2 (p + 1) 12 && gf ((u :: r).map stp) q.1 q.2) = ((btw q.1 1 99 && btw q.2 1 12 && ((u :: r).all fun p => btw p.1 1 99 && btw p.2 1 12)) && (decide (q.1 < u.1) && decide (q.2 < u.2) && upT (u :: r)) && (decide (m < q.1) && decide (p < q.2)))
    rw [Bool.eq_iff_iff]
    constructor
    · intro h
      simp only [Bool.and_eq_true, btw, decide_eq_true_eq] at h
      obtain ⟨⟨⟨h1, h2⟩, h3, h4⟩, h5⟩ := h
      rw [gf_typed (u :: r) q.1 q.2 (by omega) (by omega)] at h5
      simp only [Bool.and_eq_true, over, decide_eq_true_eq] at h5
      simp only [Bool.and_eq_true, btw, decide_eq_true_eq]
      exact ⟨⟨⟨⟨⟨by omega, by omega⟩, by omega, by omega⟩, h5.1.1⟩, ⟨h5.2.1, h5.2.2⟩, h5.1.2⟩, by omega, by omega⟩
    · intro h
      simp only [Bool.and_eq_true, btw, decide_eq_true_eq] at h
      obtain ⟨⟨⟨⟨⟨h1, h2⟩, h3, h4⟩, h5⟩, ⟨h6, h7⟩, h8⟩, h9, h10⟩ := h
      simp only [Bool.and_eq_true, btw, decide_eq_true_eq]
      refine ⟨⟨⟨by omega, by omega⟩, by omega, by omega⟩, ?_⟩
      rw [gf_typed (u :: r) q.1 q.2 (by omega) (by omega)]
      simp only [Bool.and_eq_true, over, decide_eq_true_eq]
      exact ⟨⟨h5, h8⟩, h6, h7⟩
theorem gf_steps : ∀ (ds : List PyData) (m p : Int), 0 ≤ m → 0 ≤ p → gf ds m p = true → ds.all isStep = true
  | [], _, _, _, _, _ => rfl
  | d :: r, m, p, hm, hp, h => by
    unfold gf at h
    split at h
    · rename_i a b
      simp only [Bool.and_eq_true] at h
      obtain ⟨⟨h1, h2⟩, h3⟩ := h
      obtain ⟨i, rfl, b1⟩ := btw_of h1
      obtain ⟨j, rfl, b2⟩ := btw_of h2
      simp only [Bool.and_eq_true, btw, decide_eq_true_eq] at b1 b2
      rw [List.all_cons, gf_steps r i j (by omega) (by omega) h3]
      show (btw i 1 99 && btw j 1 12 && true) = true
      simp only [Bool.and_eq_true, btw, decide_eq_true_eq]
      exact ⟨⟨⟨by omega, by omega⟩, by omega, by omega⟩, trivial⟩
    · cases h
theorem gf_table (ds : List PyData) : isTable (.tuple ds) = (decide (1 ≤ ds.length) && decide (ds.length ≤ 4) && gf ds 0 0) := by
  show (decide (1 ≤ ds.length) && decide (ds.length ≤ 4) && ds.all isStep && rises ds) = _
  rw [Bool.and_assoc]
  congr 1
  cases q : ds.all isStep with
  | true =>
    obtain ⟨tb, rfl⟩ := steps_shape q
    rw [gf_typed tb 0 0 (by decide) (by decide), rises_stp]
    rw [List.all_map] at q
    have q : (tb.all fun p => btw p.1 1 99 && btw p.2 1 12) = true := q
    rw [q]
    cases tb with
    | nil => rfl
    | cons u r =>
      have hu : (btw u.1 1 99 && btw u.2 1 12 && (r.all fun p => btw p.1 1 99 && btw p.2 1 12)) = true := q
      simp only [Bool.and_eq_true, btw, decide_eq_true_eq] at hu
      show _ = (true && upT (u :: r) && (decide (0 < u.1) && decide (0 < u.2)))
      rw [decide_eq_true (by omega), decide_eq_true (by omega), Bool.and_true]
      simp
  | false =>
    cases z : gf ds 0 0 with
    | true => rw [gf_steps ds 0 0 (by decide) (by decide) z] at q; cases q
    | false => simp
def sp_law_table_good : Spec := spF 1 false f_is_table
def ir_law_table_good : Ss := (.cons (.ifs (.or (.not (.isi [.tuple] (.var 0))) (.not (.chn .lt .lt (.cst (.int 0)) (.blt .len (.cons (.var 0) .nil)) (.cst (.int 5))))) (.cons (.ret (.cst (.bool false))) .nil) .nil) (.cons (.unp (.tp (.cons (.nm 1) (.cons (.nm 2) .nil))) (.tup (.cons (.cst (.int 0)) (.cons (.cst (.int 0)) .nil)))) (.cons (.fgt [3]) (.cons (.fr (.nm 3) (.seq (.var 0)) (.cons (.ifs (.or (.not (.isi [.tuple] (.var 3))) (.cmp .ne (.blt .len (.cons (.var 3) .nil)) (.cst (.int 2)))) (.cons (.ret (.cst (.bool false))) .nil) .nil) (.cons (.ifs (.or (.not (.cal "_law_number" sp_law_number (.cons (.sub (.var 3) (.cst (.int 0))) (.cons (.bin .add (.var 1) (.cst (.int 1))) (.cons (.cst (.int 99)) .nil))))) (.not (.cal "_law_number" sp_law_number (.cons (.sub (.var 3) (.cst (.int 1))) (.cons (.bin .add (.var 2) (.cst (.int 1))) (.cons (.cst (.int 12)) .nil)))))) (.cons (.ret (.cst (.bool false))) .nil) .nil) (.cons (.unp (.tp (.cons (.nm 1) (.cons (.nm 2) .nil))) (.var 3)) (.cons (.fgt [3]) .nil))))) (.cons (.ret (.cst (.bool true))) .nil)))))
theorem wp_law_table_good {d : PyData} {x : Str → Prop} {R : Av → Prop} {N : En → Prop} (h : R (.da (.bool (isTable d)))) : wpSs ir_law_table_good x R (slots0 4 [.da d]) N := by
  simp only [ir_law_table_good, sp_law_number, f_is_between, slots0, List.map_cons, List.map_nil, slotOf, List.length_cons, List.length_nil, List.replicate_succ, List.replicate_zero, List.cons_append, List.nil_append, List.append_nil, Nat.reduceAdd, Nat.reduceSub, List.getElem?_cons_zero, List.getElem?_cons_succ, List.set_cons_zero, List.set_cons_succ, wpSs, wpS, wpE, wpEs, wpBs, wpAs, wpC, wpI, wipeE, brw, brv, arg, q_v0, q_vs, q_b0, q_b1, q_bs, q_a0, q_a1, q_a2, q_as, q_s0, q_ss, q_r0, q_rs, q_asI, q_asB, q_asL, q_asT, q_nm, q_tp, q_nil, q_cons, q_rva, q_rvo, retP, setsE, frzE, oall, sl_nil, sl_int, slT_last, slL_last, ixT0, ixL0, ixT1, ixL1, ixT2, ixL2, ixT3, ixL3, ixT4, ixL4, ixT5, ixL5, ixT6, ixL6, ixT7, ixL7, ixT8, ixL8, osome, ite_t, ite_f, oadd, osub, ofdv, omod, omul, olt, ogt, ole, oge, oeqI, oneI, oeqS, oneS, oneB, oeqB, otake, ospF1, ospF2, ospF3, ospF4, lcW_at, frW_at, lcT_map, lcT_fil, ite_not, true_and, and_true, forall_const, Bool.false_eq_true, false_implies]
  cases d with
  | tuple ds =>
    rw [gf_table] at h
    simp only [isT, Bool.not_true, lenT, slots0, List.map_cons, List.map_nil, slotOf, List.length_cons, List.length_nil, List.replicate_succ, List.replicate_zero, List.cons_append, List.nil_append, List.append_nil, Nat.reduceAdd, Nat.reduceSub, List.getElem?_cons_zero, List.getElem?_cons_succ, List.set_cons_zero, List.set_cons_succ, wpSs, wpS, wpE, wpEs, wpBs, wpAs, wpC, wpI, wipeE, brw, brv, arg, q_v0, q_vs, q_b0, q_b1, q_bs, q_a0, q_a1, q_a2, q_as, q_s0, q_ss, q_r0, q_rs, q_asI, q_asB, q_asL, q_asT, q_nm, q_tp, q_nil, q_cons, q_rva, q_rvo, retP, setsE, frzE, oall, sl_nil, sl_int, slT_last, slL_last, ixT0, ixL0, ixT1, ixL1, ixT2, ixL2, ixT3, ixL3, ixT4, ixL4, ixT5, ixL5, ixT6, ixL6, ixT7, ixL7, ixT8, ixL8, osome, ite_t, ite_f, oadd, osub, ofdv, omod, omul, olt, ogt, ole, oge, oeqI, oneI, oeqS, oneS, oneB, oeqB, otake, ospF1, ospF2, ospF3, ospF4, lcW_at, frW_at, lcT_map, lcT_fil, ite_not, true_and, and_true, forall_const, Bool.false_eq_true, false_implies]
    refine ite_cases (fun q1 => ite_cases (fun q2 => ?_) fun q2 => ?_) fun q1 => ?_
    · have q1 := of_decide_eq_true q1
      have q2 := of_decide_eq_true q2
      rw [decide_eq_true (show 1 ≤ ds.length by omega), decide_eq_true (show ds.length ≤ 4 by omega)] at h
      simp only [Bool.true_and] at h
      have hh : (gf ds 0 0 = true → R (.da (.bool true))) ∧ (gf ds 0 0 = false → R (.da (.bool false))) := by
        constructor <;> intro z <;> rw [z] at h <;> exact h
      refine frW_inv (fun rest ρ => ∃ m p, ρ = [.va (.tuple ds), .va (.int m), .va (.int p), .un] ∧ (gf rest m p = true → R (.da (.bool true))) ∧ (gf rest m p = false → R (.da (.bool false)))) _ _ ?_ ⟨0, 0, rfl, hh⟩ ?_
      · rintro e rest ρ K ⟨m, p, rfl, g1, g2⟩ hK
        simp only [slots0, List.map_cons, List.map_nil, slotOf, List.length_cons, List.length_nil, List.replicate_succ, List.replicate_zero, List.cons_append, List.nil_append, List.append_nil, Nat.reduceAdd, Nat.reduceSub, List.getElem?_cons_zero, List.getElem?_cons_succ, List.set_cons_zero, List.set_cons_succ, wpSs, wpS, wpE, wpEs, wpBs, wpAs, wpC, wpI, wipeE, brw, brv, arg, q_v0, q_vs, q_b0, q_b1, q_bs, q_a0, q_a1, q_a2, q_as, q_s0, q_ss, q_r0, q_rs, q_asI, q_asB, q_asL, q_asT, q_nm, q_tp, q_nil, q_cons, q_rva, q_rvo, retP, setsE, frzE, oall, sl_nil, sl_int, slT_last, slL_last, ixT0, ixL0, ixT1, ixL1, ixT2, ixL2, ixT3, ixL3, ixT4, ixL4, ixT5, ixL5, ixT6, ixL6, ixT7, ixL7, ixT8, ixL8, osome, ite_t, ite_f, oadd, osub, ofdv, omod, omul, olt, ogt, ole, oge, oeqI, oneI, oeqS, oneS, oneB, oeqB, otake, ospF1, ospF2, ospF3, ospF4, lcW_at, frW_at, lcT_map, lcT_fil, ite_not, true_and, and_true, forall_const, Bool.false_eq_true, false_implies]
        cases e with
        | tuple es =>
          simp only [isT, Bool.not_true, lenT, slots0, List.map_cons, List.map_nil, slotOf, List.length_cons, List.length_nil, List.replicate_succ, List.replicate_zero, List.cons_append, List.nil_append, List.append_nil, Nat.reduceAdd, Nat.reduceSub, List.getElem?_cons_zero, List.getElem?_cons_succ, List.set_cons_zero, List.set_cons_succ, wpSs, wpS, wpE, wpEs, wpBs, wpAs, wpC, wpI, wipeE, brw, brv, arg, q_v0, q_vs, q_b0, q_b1, q_bs, q_a0, q_a1, q_a2, q_as, q_s0, q_ss, q_r0, q_rs, q_asI, q_asB, q_asL, q_asT, q_nm, q_tp, q_nil, q_cons, q_rva, q_rvo, retP, setsE, frzE, oall, sl_nil, sl_int, slT_last, slL_last, ixT0, ixL0, ixT1, ixL1, ixT2, ixL2, ixT3, ixL3, ixT4, ixL4, ixT5, ixL5, ixT6, ixL6, ixT7, ixL7, ixT8, ixL8, osome, ite_t, ite_f, oadd, osub, ofdv, omod, omul, olt, ogt, ole, oge, oeqI, oneI, oeqS, oneS, oneB, oeqB, otake, ospF1, ospF2, ospF3, ospF4, lcW_at, frW_at, lcT_map, lcT_fil, ite_not, true_and, and_true, forall_const, Bool.false_eq_true, false_implies]
          match es with
          | [a, b] =>
            show ite' (isBtw a (m + 1) 99) (ite' (isBtw b (p + 1) 12) (K [.va (.tuple ds), .va a, .va b, .un]) (R (.da (.bool false)))) (R (.da (.bool false)))
            have e : gf (.tuple [a, b] :: rest) m p = (isBtw a (m + 1) 99 && isBtw b (p + 1) 12 && gf rest (toI a) (toI b)) := rfl
            rw [e] at g1 g2
            cases q3 : isBtw a (m + 1) 99 with
            | false => rw [q3] at g2; exact g2 rfl
            | true =>
              obtain ⟨a', rfl⟩ := btw_int q3
              cases q4 : isBtw b (p + 1) 12 with
              | false => rw [q3, q4] at g2; exact g2 rfl
              | true =>
                obtain ⟨b', rfl⟩ := btw_int q4
                rw [q3, q4] at g1 g2
                exact hK _ ⟨a', b', rfl, g1, g2⟩
          | [] => exact g2 rfl
          | [a] => exact g2 rfl
          | a :: b :: c :: r =>
            refine ite_cases (fun z => ?_) fun z => g2 rfl
            exact absurd (of_decide_eq_true z) (by simp only [List.length_cons]; omega)
        | _ => exact g2 rfl
      · rintro ρ ⟨m, p, rfl, g1, g2⟩
        exact g1 rfl
    · have q2 := of_decide_eq_false q2
      rw [decide_eq_false (show ¬ ds.length ≤ 4 by omega), Bool.and_false] at h
      exact h
    · have q1 := of_decide_eq_false q1
      rw [decide_eq_false (show ¬ 1 ≤ ds.length by omega)] at h
      exact h
  | _ => exact h
def irD_law_good_p : Ss := (.cons (.ifs (.cmp .eq (.sub (.var 0) (.cst (.int 0))) (.cst (.str "road"))) (.cons (.ret (.cmp .lt (.sub (.var 0) (.cst (.int 1))) (.sub (.var 0) (.cst (.int 2))))) .nil) .nil) (.cons (.ifs (.cmp .eq (.sub (.var 0) (.cst (.int 0))) (.cst (.str "table"))) (.cons (.ret (.cal "_law_table_good" sp_law_table_good (.cons (.sub (.var 0) (.cst (.int 2))) .nil))) .nil) .nil) (.cons (.ret (.or (.cmp .ne (.sub (.var 0) (.cst (.int 0))) (.cst (.str "give"))) (.and (.cmp .ne (.sub (.var 0) (.cst (.int 3))) (.sub (.var 0) (.cst (.int 4)))) (.or (.isN (.sub (.var 0) (.cst (.int 7)))) (.cal "_law_number" sp_law_number (.cons (.sub (.var 0) (.cst (.int 7))) (.cons (.cst (.int 0)) (.cons (.cst (.int 2)) .nil)))))))) .nil)))
def irC_law_good_p : Ss := (.cons (.fgt [5, 6]) (.cons (.fr (.tp (.cons (.nm 5) (.cons (.nm 6) .nil))) (.zip (.slc (.var 0) (.cons (.cst (.int 1)) .nil) .nil) (.sub (.var 4) (.sub (.var 0) (.cst (.int 0))))) (.cons (.ifs (.and (.ntN (.var 6)) (.not (.cal "_law_number" sp_law_number (.cons (.var 5) (.cons (.sub (.var 6) (.cst (.int 0))) (.cons (.sub (.var 6) (.cst (.int 1))) .nil)))))) (.cons (.ret (.cst (.bool false))) .nil) .nil) (.cons (.fgt [5, 6]) .nil))) irD_law_good_p))
def irB_law_good_p : Ss := (.cons (.ifs (.or (.cmp .nin (.sub (.var 0) (.cst (.int 0))) (.var 4)) (.cmp .ne (.blt .len (.cons (.var 0) .nil)) (.bin .add (.cst (.int 1)) (.blt .len (.cons (.sub (.var 4) (.sub (.var 0) (.cst (.int 0)))) .nil))))) (.cons (.ret (.cst (.bool false))) .nil) .nil) irC_law_good_p)
def irA_law_good_p : Ss := (.cons (.put 4 false (.cst (.str "give")) (.lst (.cons (.var 3) (.cons (.var 1) (.cons (.var 2) (.cons (.var 2) (.cons (.tup (.cons (.cst (.int 1)) (.cons (.cst (.int 4)) .nil))) (.cons (.tup (.cons (.cst (.int 0)) (.cons (.cst (.int 1)) .nil))) (.cons (.cst .none) .nil))))))))) (.cons (.pts (.cons 4 (.cst (.str "on")) (.cons 4 (.cst (.str "refuse")) (.cons 4 (.cst (.str "take")) .nil))) (.cons (.lst (.cons (.var 3) (.cons (.var 1) (.cons (.var 2) .nil)))) (.cons (.lst (.cons (.var 3) (.cons (.var 1) .nil))) (.cons (.lst (.cons (.var 3) (.cons (.var 1) .nil))) .nil)))) (.cons (.pts (.cons 4 (.cst (.str "short")) (.cons 4 (.cst (.str "right")) .nil)) (.cons (.lst (.cons (.var 3) (.cons (.tup (.cons (.cst (.int 0)) (.cons (.cst (.int 3)) .nil))) (.cons (.tup (.cons (.cst (.int 1)) (.cons (.cst (.int 99)) .nil))) .nil)))) (.cons (.lst (.cons (.var 3) (.cons (.tup (.cons (.cst (.int 0)) (.cons (.cst (.int 3)) .nil))) .nil))) .nil))) (.cons (.put 4 false (.cst (.str "pay")) (.lst (.cons (.var 2) (.cons (.tup (.cons (.neg (.cst (.int 999))) (.cons (.cst (.int 999)) .nil))) (.cons (.var 1) .nil))))) irB_law_good_p))))
def ir_law_good_p : Ss := (.cons (.ifs (.or (.not (.isi [.tuple] (.var 0))) (.or (.cmp .eq (.var 0) (.tup .nil)) (.not (.isi [.str] (.sub (.var 0) (.cst (.int 0))))))) (.cons (.ret (.cst (.bool false))) .nil) .nil) (.cons (.unp (.tp (.cons (.nm 1) (.cons (.nm 2) (.cons (.nm 3) .nil)))) (.tup (.cons (.tup (.cons (.cst (.int 0)) (.cons (.cst (.int 30)) .nil))) (.cons (.tup (.cons (.cst (.int 0)) (.cons (.cst (.int 5)) .nil))) (.cons (.tup (.cons (.cst (.int 0)) (.cons (.cst (.int 7)) .nil))) .nil))))) (.cons (.sow 4 (.dis (kcs [(.inr "road"), (.inr "table"), (.inr "franks")]) (.cons (.lst (.cons (.var 2) (.cons (.var 2) (.cons (.tup (.cons (.cst (.int 0)) (.cons (.cst (.int 99)) .nil))) (.cons (.var 1) .nil))))) (.cons (.lst (.cons (.tup (.cons (.cst (.int 0)) (.cons (.cst (.int 2)) .nil))) (.cons (.cst .none) (.cons (.var 1) .nil)))) (.cons (.lst (.cons (.tup (.cons (.cst (.int 0)) (.cons (.cst (.int 2)) .nil))) (.cons (.tup (.cons (.cst (.int 0)) (.cons (.cst (.int 3)) .nil))) (.cons (.var 1) .nil)))) .nil))))) irA_law_good_p)))
def sp_law_good_p : Spec := spF 1 false f_is_page
def kindsL : List (PyData × PyData) :=
  let t : PyData := .tuple [.int 0, .int 30]; let p : PyData := .tuple [.int 0, .int 5]; let l : PyData := .tuple [.int 0, .int 7]
  [(.str "road", .list [p, p, .tuple [.int 0, .int 99], t]), (.str "table", .list [.tuple [.int 0, .int 2], .none, t]), (.str "franks", .list [.tuple [.int 0, .int 2], .tuple [.int 0, .int 3], t]),
   (.str "give", .list [l, t, p, p, .tuple [.int 1, .int 4], .tuple [.int 0, .int 1], .none]), (.str "on", .list [l, t, p]), (.str "refuse", .list [l, t]), (.str "take", .list [l, t]),
   (.str "short", .list [l, .tuple [.int 0, .int 3], .tuple [.int 1, .int 99]]), (.str "right", .list [l, .tuple [.int 0, .int 3]]), (.str "pay", .list [p, .tuple [.int (-999), .int 999], t])]
theorem wpA_law_good {d t p l : PyData} {x : Str → Prop} {R : Av → Prop} {N : En → Prop} (ht : t = .tuple [.int 0, .int 30]) (hp : p = .tuple [.int 0, .int 5]) (hl : l = .tuple [.int 0, .int 7]) (h : wpSs irB_law_good_p x R [.va d, .va t, .va p, .va l, .ow (.dict kindsL), .un, .un] N) :
    wpSs irA_law_good_p x R [.va d, .va t, .va p, .va l, .ow (.dict (kindsL.take 3)), .un, .un] N := by
  subst ht hp hl
  refine ⟨trivial, rfl, rfl, by decide, ?_⟩
  refine ⟨trivial, rfl, rfl, by decide, ?_⟩
  refine ⟨trivial, rfl, rfl, by decide, ?_⟩
  refine ⟨trivial, rfl, rfl, by decide, ?_⟩
  refine ⟨trivial, rfl, rfl, by decide, ?_⟩
  refine ⟨trivial, rfl, rfl, by decide, ?_⟩
  refine ⟨trivial, rfl, rfl, by decide, ?_⟩
  exact h
theorem kdI_road : COp.nin.f (.str "road") (.dict kindsL) = some false := by decide +kernel
theorem kdX_road : ixD (.dict kindsL) (.str "road") = some (.list [.tuple [.int 0, .int 5], .tuple [.int 0, .int 5], .tuple [.int 0, .int 99], .tuple [.int 0, .int 30]]) := by rfl
theorem kdI_table : COp.nin.f (.str "table") (.dict kindsL) = some false := by decide +kernel
theorem kdX_table : ixD (.dict kindsL) (.str "table") = some (.list [.tuple [.int 0, .int 2], .none, .tuple [.int 0, .int 30]]) := by rfl
theorem kdI_give : COp.nin.f (.str "give") (.dict kindsL) = some false := by decide +kernel
theorem kdX_give : ixD (.dict kindsL) (.str "give") = some (.list [.tuple [.int 0, .int 7], .tuple [.int 0, .int 30], .tuple [.int 0, .int 5], .tuple [.int 0, .int 5], .tuple [.int 1, .int 4], .tuple [.int 0, .int 1], .none]) := by rfl
theorem kdI_franks : COp.nin.f (.str "franks") (.dict kindsL) = some false := by decide +kernel
theorem kdX_franks : ixD (.dict kindsL) (.str "franks") = some (.list [.tuple [.int 0, .int 2], .tuple [.int 0, .int 3], .tuple [.int 0, .int 30]]) := by rfl
theorem kdI_on : COp.nin.f (.str "on") (.dict kindsL) = some false := by decide +kernel
theorem kdX_on : ixD (.dict kindsL) (.str "on") = some (.list [.tuple [.int 0, .int 7], .tuple [.int 0, .int 30], .tuple [.int 0, .int 5]]) := by rfl
theorem kdI_refuse : COp.nin.f (.str "refuse") (.dict kindsL) = some false := by decide +kernel
theorem kdX_refuse : ixD (.dict kindsL) (.str "refuse") = some (.list [.tuple [.int 0, .int 7], .tuple [.int 0, .int 30]]) := by rfl
theorem kdI_take : COp.nin.f (.str "take") (.dict kindsL) = some false := by decide +kernel
theorem kdX_take : ixD (.dict kindsL) (.str "take") = some (.list [.tuple [.int 0, .int 7], .tuple [.int 0, .int 30]]) := by rfl
theorem kdI_short : COp.nin.f (.str "short") (.dict kindsL) = some false := by decide +kernel
theorem kdX_short : ixD (.dict kindsL) (.str "short") = some (.list [.tuple [.int 0, .int 7], .tuple [.int 0, .int 3], .tuple [.int 1, .int 99]]) := by rfl
theorem kdI_right : COp.nin.f (.str "right") (.dict kindsL) = some false := by decide +kernel
theorem kdX_right : ixD (.dict kindsL) (.str "right") = some (.list [.tuple [.int 0, .int 7], .tuple [.int 0, .int 3]]) := by rfl
theorem kdI_pay : COp.nin.f (.str "pay") (.dict kindsL) = some false := by decide +kernel
theorem kdX_pay : ixD (.dict kindsL) (.str "pay") = some (.list [.tuple [.int 0, .int 5], .tuple [.int (-999), .int 999], .tuple [.int 0, .int 30]]) := by rfl
theorem kdN {w : Str} (h : ¬ (w = "road" ∨ w = "table" ∨ w = "give" ∨ w = "franks" ∨ w = "on" ∨ w = "refuse" ∨ w = "take" ∨ w = "short" ∨ w = "right" ∨ w = "pay")) : COp.nin.f (.str w) (.dict kindsL) = some true := by
  simp only [not_or] at h
  obtain ⟨h1, h2, h3, h4, h5, h6, h7, h8, h9, h10⟩ := h
  have e : ∀ {a : String}, w ≠ (a : Str) → ((a : Str) == w) = false := fun h => by simpa using fun z => h z.symm
  show some (!(dvl kindsL (.str w)).isSome) = _
  simp only [kindsL, dvl, List.find?_cons, PyData.eqv, e h1, e h2, e h3, e h4, e h5, e h6, e h7, e h8, e h9, e h10, List.find?_nil, Option.map_none, Option.isSome_none, Bool.not_false]
theorem frW_nil (f : PyData → En → (En → Prop) → Prop) (ρ : En) (Q : En → Prop) : frW f [] ρ Q = Q ρ := rfl
theorem frW_cons (f : PyData → En → (En → Prop) → Prop) (d : PyData) (xs : List PyData) (ρ : En) (Q : En → Prop) : frW f (d :: xs) ρ Q = f d ρ fun ρ' => frW f xs ρ' Q := rfl
theorem neD_int (i j : Int) (P : Bool → Prop) : oP (COp.ne.f (.int i) (.int j)) P ↔ P (!decide (i = j)) := oneI i j P
theorem wp_law_good_p {d : PyData} {x : Str → Prop} {R : Av → Prop} {N : En → Prop} (h : R (.da (.bool (isPage d)))) : wpSs ir_law_good_p x R (slots0 7 [.da d]) N := by
  simp only [ir_law_good_p, sp_law_number, f_is_between, sp_law_table_good, f_is_table, kcs, keyD, List.zip_cons_cons, List.zip_nil_left, slots0, List.map_cons, List.map_nil, slotOf, List.length_cons, List.length_nil, List.replicate_succ, List.replicate_zero, List.cons_append, List.nil_append, List.append_nil, Nat.reduceAdd, Nat.reduceSub, List.getElem?_cons_zero, List.getElem?_cons_succ, List.set_cons_zero, List.set_cons_succ, wpSs, wpS, wpE, wpEs, wpBs, wpAs, wpC, wpI, wipeE, brw, brv, arg, q_v0, q_vs, q_b0, q_b1, q_bs, q_a0, q_a1, q_a2, q_as, q_s0, q_ss, q_r0, q_rs, q_asI, q_asB, q_asL, q_asT, q_nm, q_tp, q_nil, q_cons, q_rva, q_rvo, retP, setsE, frzE, oall, sl_nil, sl_int, slT_last, slL_last, ixT0, ixL0, ixT1, ixL1, ixT2, ixL2, ixT3, ixL3, ixT4, ixL4, ixT5, ixL5, ixT6, ixL6, ixT7, ixL7, ixT8, ixL8, osome, ite_t, ite_f, oadd, osub, ofdv, omod, omul, olt, ogt, ole, oge, oeqI, oneI, oeqS, oneS, oneB, oeqB, otake, ospF1, ospF2, ospF3, ospF4, lcW_at, frW_at, lcT_map, lcT_fil, ite_not, true_and, and_true, forall_const, Bool.false_eq_true, false_implies]
  cases d with
  | tuple ds =>
    cases ds with
    | nil => exact h
    | cons a r =>
      simp only [isT, eqE, slots0, List.map_cons, List.map_nil, slotOf, List.length_cons, List.length_nil, List.replicate_succ, List.replicate_zero, List.cons_append, List.nil_append, List.append_nil, Nat.reduceAdd, Nat.reduceSub, List.getElem?_cons_zero, List.getElem?_cons_succ, List.set_cons_zero, List.set_cons_succ, wpSs, wpS, wpE, wpEs, wpBs, wpAs, wpC, wpI, wipeE, brw, brv, arg, q_v0, q_vs, q_b0, q_b1, q_bs, q_a0, q_a1, q_a2, q_as, q_s0, q_ss, q_r0, q_rs, q_asI, q_asB, q_asL, q_asT, q_nm, q_tp, q_nil, q_cons, q_rva, q_rvo, retP, setsE, frzE, oall, sl_nil, sl_int, slT_last, slL_last, ixT0, ixL0, ixT1, ixL1, ixT2, ixL2, ixT3, ixL3, ixT4, ixL4, ixT5, ixL5, ixT6, ixL6, ixT7, ixL7, ixT8, ixL8, osome, ite_t, ite_f, oadd, osub, ofdv, omod, omul, olt, ogt, ole, oge, oeqI, oneI, oeqS, oneS, oneB, oeqB, otake, ospF1, ospF2, ospF3, ospF4, lcW_at, frW_at, lcT_map, lcT_fil, ite_not, true_and, and_true, forall_const, Bool.false_eq_true, false_implies]
      cases a with
      | str w =>
        have h : R (.da (.bool (isParts w r))) := h
        show ite' true (wpSs irA_law_good_p x R [.va (.tuple (.str w :: r)), .va (.tuple [.int 0, .int 30]), .va (.tuple [.int 0, .int 5]), .va (.tuple [.int 0, .int 7]), .ow (.dict (kindsL.take 3)), .un, .un] N) _
        refine wpA_law_good rfl rfl rfl ?_
        simp only [irB_law_good_p, irC_law_good_p, irD_law_good_p, sp_law_number, f_is_between, sp_law_table_good, f_is_table, lenT, slots0, List.map_cons, List.map_nil, slotOf, List.length_cons, List.length_nil, List.replicate_succ, List.replicate_zero, List.cons_append, List.nil_append, List.append_nil, Nat.reduceAdd, Nat.reduceSub, List.getElem?_cons_zero, List.getElem?_cons_succ, List.set_cons_zero, List.set_cons_succ, wpSs, wpS, wpE, wpEs, wpBs, wpAs, wpC, wpI, wipeE, brw, brv, arg, q_v0, q_vs, q_b0, q_b1, q_bs, q_a0, q_a1, q_a2, q_as, q_s0, q_ss, q_r0, q_rs, q_asI, q_asB, q_asL, q_asT, q_nm, q_tp, q_nil, q_cons, q_rva, q_rvo, retP, setsE, frzE, oall, sl_nil, sl_int, slT_last, slL_last, ixT0, ixL0, ixT1, ixL1, ixT2, ixL2, ixT3, ixL3, ixT4, ixL4, ixT5, ixL5, ixT6, ixL6, ixT7, ixL7, ixT8, ixL8, osome, ite_t, ite_f, oadd, osub, ofdv, omod, omul, olt, ogt, ole, oge, oeqI, oneI, oeqS, oneS, oneB, oeqB, otake, ospF1, ospF2, ospF3, ospF4, lcW_at, frW_at, lcT_map, lcT_fil, ite_not, true_and, and_true, forall_const, Bool.false_eq_true, false_implies]
        rw [slT_from _ 1 (by decide)]
        simp only [show (Int.toNat 1) = 1 from rfl, List.drop_succ_cons, List.drop_zero, slots0, List.map_cons, List.map_nil, slotOf, List.length_cons, List.length_nil, List.replicate_succ, List.replicate_zero, List.cons_append, List.nil_append, List.append_nil, Nat.reduceAdd, Nat.reduceSub, List.getElem?_cons_zero, List.getElem?_cons_succ, List.set_cons_zero, List.set_cons_succ, wpSs, wpS, wpE, wpEs, wpBs, wpAs, wpC, wpI, wipeE, brw, brv, arg, q_v0, q_vs, q_b0, q_b1, q_bs, q_a0, q_a1, q_a2, q_as, q_s0, q_ss, q_r0, q_rs, q_asI, q_asB, q_asL, q_asT, q_nm, q_tp, q_nil, q_cons, q_rva, q_rvo, retP, setsE, frzE, oall, sl_nil, sl_int, slT_last, slL_last, ixT0, ixL0, ixT1, ixL1, ixT2, ixL2, ixT3, ixL3, ixT4, ixL4, ixT5, ixL5, ixT6, ixL6, ixT7, ixL7, ixT8, ixL8, osome, ite_t, ite_f, oadd, osub, ofdv, omod, omul, olt, ogt, ole, oge, oeqI, oneI, oeqS, oneS, oneB, oeqB, otake, ospF1, ospF2, ospF3, ospF4, lcW_at, frW_at, lcT_map, lcT_fil, ite_not, true_and, and_true, forall_const, Bool.false_eq_true, false_implies]
        by_cases hw_road : w = "road"
        · subst hw_road
          simp only [kdI_road, kdX_road, lenL, slots0, List.map_cons, List.map_nil, slotOf, List.length_cons, List.length_nil, List.replicate_succ, List.replicate_zero, List.cons_append, List.nil_append, List.append_nil, Nat.reduceAdd, Nat.reduceSub, List.getElem?_cons_zero, List.getElem?_cons_succ, List.set_cons_zero, List.set_cons_succ, wpSs, wpS, wpE, wpEs, wpBs, wpAs, wpC, wpI, wipeE, brw, brv, arg, q_v0, q_vs, q_b0, q_b1, q_bs, q_a0, q_a1, q_a2, q_as, q_s0, q_ss, q_r0, q_rs, q_asI, q_asB, q_asL, q_asT, q_nm, q_tp, q_nil, q_cons, q_rva, q_rvo, retP, setsE, frzE, oall, sl_nil, sl_int, slT_last, slL_last, ixT0, ixL0, ixT1, ixL1, ixT2, ixL2, ixT3, ixL3, ixT4, ixL4, ixT5, ixL5, ixT6, ixL6, ixT7, ixL7, ixT8, ixL8, osome, ite_t, ite_f, oadd, osub, ofdv, omod, omul, olt, ogt, ole, oge, oeqI, oneI, oeqS, oneS, oneB, oeqB, otake, ospF1, ospF2, ospF3, ospF4, lcW_at, frW_at, lcT_map, lcT_fil, ite_not, true_and, and_true, forall_const, Bool.false_eq_true, false_implies]
          have e_road : COp.eq.f (.str "road") (.str "road") = some true := by decide +kernel
          have e_table : COp.eq.f (.str "road") (.str "table") = some false := by decide +kernel
          have e_give : COp.eq.f (.str "road") (.str "give") = some false := by decide +kernel
          have e_n : COp.ne.f (.str "road") (.str "give") = some true := by decide +kernel
          match r with
          | [a, b, m, t] =>
            have h : R (.da (.bool (isBtw a 0 5 && isBtw b 0 5 && ltI a b && isBtw m 0 99 && isBtw t 0 30))) := h
            simp only [show decide (((0 + 1 + 1 + 1 + 1 + 1 : Nat) : Int) = 1 + ((0 + 1 + 1 + 1 + 1 : Nat) : Int)) = true from rfl, zp_cons, zp_nil, frW_cons, frW_nil, e_road, e_table, e_give, e_n, sp_law_number, f_is_between, sp_law_table_good, f_is_table, slots0, List.map_cons, List.map_nil, slotOf, List.length_cons, List.length_nil, List.replicate_succ, List.replicate_zero, List.cons_append, List.nil_append, List.append_nil, Nat.reduceAdd, Nat.reduceSub, List.getElem?_cons_zero, List.getElem?_cons_succ, List.set_cons_zero, List.set_cons_succ, wpSs, wpS, wpE, wpEs, wpBs, wpAs, wpC, wpI, wipeE, brw, brv, arg, q_v0, q_vs, q_b0, q_b1, q_bs, q_a0, q_a1, q_a2, q_as, q_s0, q_ss, q_r0, q_rs, q_asI, q_asB, q_asL, q_asT, q_nm, q_tp, q_nil, q_cons, q_rva, q_rvo, retP, setsE, frzE, oall, sl_nil, sl_int, slT_last, slL_last, ixT0, ixL0, ixT1, ixL1, ixT2, ixL2, ixT3, ixL3, ixT4, ixL4, ixT5, ixL5, ixT6, ixL6, ixT7, ixL7, ixT8, ixL8, osome, ite_t, ite_f, oadd, osub, ofdv, omod, omul, olt, ogt, ole, oge, oeqI, oneI, oeqS, oneS, oneB, oeqB, otake, ospF1, ospF2, ospF3, ospF4, lcW_at, frW_at, lcT_map, lcT_fil, ite_not, true_and, and_true, forall_const, Bool.false_eq_true, false_implies]
            cases q_a : isBtw a 0 5 with
            | false => rw [q_a] at h; simp only [Bool.and_false, Bool.false_and, Bool.true_and] at h; exact h
            | true =>
            rw [q_a] at h
            cases q_b : isBtw b 0 5 with
            | false => rw [q_b] at h; simp only [Bool.and_false, Bool.false_and, Bool.true_and] at h; exact h
            | true =>
            rw [q_b] at h
            cases q_m : isBtw m 0 99 with
            | false => rw [q_m] at h; simp only [Bool.and_false, Bool.false_and, Bool.true_and] at h; exact h
            | true =>
            rw [q_m] at h
            cases q_t : isBtw t 0 30 with
            | false => rw [q_t] at h; simp only [Bool.and_false, Bool.false_and, Bool.true_and] at h; exact h
            | true =>
            rw [q_t] at h
            obtain ⟨i, rfl⟩ := btw_int q_a
            obtain ⟨j, rfl⟩ := btw_int q_b
            simp only [Bool.and_true, Bool.true_and, ltI, slots0, List.map_cons, List.map_nil, slotOf, List.length_cons, List.length_nil, List.replicate_succ, List.replicate_zero, List.cons_append, List.nil_append, List.append_nil, Nat.reduceAdd, Nat.reduceSub, List.getElem?_cons_zero, List.getElem?_cons_succ, List.set_cons_zero, List.set_cons_succ, wpSs, wpS, wpE, wpEs, wpBs, wpAs, wpC, wpI, wipeE, brw, brv, arg, q_v0, q_vs, q_b0, q_b1, q_bs, q_a0, q_a1, q_a2, q_as, q_s0, q_ss, q_r0, q_rs, q_asI, q_asB, q_asL, q_asT, q_nm, q_tp, q_nil, q_cons, q_rva, q_rvo, retP, setsE, frzE, oall, sl_nil, sl_int, slT_last, slL_last, ixT0, ixL0, ixT1, ixL1, ixT2, ixL2, ixT3, ixL3, ixT4, ixL4, ixT5, ixL5, ixT6, ixL6, ixT7, ixL7, ixT8, ixL8, osome, ite_t, ite_f, oadd, osub, ofdv, omod, omul, olt, ogt, ole, oge, oeqI, oneI, oeqS, oneS, oneB, oeqB, otake, ospF1, ospF2, ospF3, ospF4, lcW_at, frW_at, lcT_map, lcT_fil, ite_not, true_and, and_true, forall_const, Bool.false_eq_true, false_implies] at h ⊢
            exact h
          | [] => exact h
          | [a0] => exact h
          | [a0, a1] => exact h
          | [a0, a1, a2] => exact h
          | a0 :: a1 :: a2 :: a3 :: a4 :: r => exact ite_cases (fun q => absurd (of_decide_eq_true q) (by simp only [List.length_cons]; omega)) fun _ => h
        by_cases hw_table : w = "table"
        · subst hw_table
          simp only [kdI_table, kdX_table, lenL, slots0, List.map_cons, List.map_nil, slotOf, List.length_cons, List.length_nil, List.replicate_succ, List.replicate_zero, List.cons_append, List.nil_append, List.append_nil, Nat.reduceAdd, Nat.reduceSub, List.getElem?_cons_zero, List.getElem?_cons_succ, List.set_cons_zero, List.set_cons_succ, wpSs, wpS, wpE, wpEs, wpBs, wpAs, wpC, wpI, wipeE, brw, brv, arg, q_v0, q_vs, q_b0, q_b1, q_bs, q_a0, q_a1, q_a2, q_as, q_s0, q_ss, q_r0, q_rs, q_asI, q_asB, q_asL, q_asT, q_nm, q_tp, q_nil, q_cons, q_rva, q_rvo, retP, setsE, frzE, oall, sl_nil, sl_int, slT_last, slL_last, ixT0, ixL0, ixT1, ixL1, ixT2, ixL2, ixT3, ixL3, ixT4, ixL4, ixT5, ixL5, ixT6, ixL6, ixT7, ixL7, ixT8, ixL8, osome, ite_t, ite_f, oadd, osub, ofdv, omod, omul, olt, ogt, ole, oge, oeqI, oneI, oeqS, oneS, oneB, oeqB, otake, ospF1, ospF2, ospF3, ospF4, lcW_at, frW_at, lcT_map, lcT_fil, ite_not, true_and, and_true, forall_const, Bool.false_eq_true, false_implies]
          have e_road : COp.eq.f (.str "table") (.str "road") = some false := by decide +kernel
          have e_table : COp.eq.f (.str "table") (.str "table") = some true := by decide +kernel
          have e_give : COp.eq.f (.str "table") (.str "give") = some false := by decide +kernel
          have e_n : COp.ne.f (.str "table") (.str "give") = some true := by decide +kernel
          match r with
          | [k, tb, t] =>
            have h : R (.da (.bool (isBtw k 0 2 && isTable tb && isBtw t 0 30))) := h
            simp only [show decide (((0 + 1 + 1 + 1 + 1 : Nat) : Int) = 1 + ((0 + 1 + 1 + 1 : Nat) : Int)) = true from rfl, zp_cons, zp_nil, frW_cons, frW_nil, e_road, e_table, e_give, e_n, sp_law_number, f_is_between, sp_law_table_good, f_is_table, slots0, List.map_cons, List.map_nil, slotOf, List.length_cons, List.length_nil, List.replicate_succ, List.replicate_zero, List.cons_append, List.nil_append, List.append_nil, Nat.reduceAdd, Nat.reduceSub, List.getElem?_cons_zero, List.getElem?_cons_succ, List.set_cons_zero, List.set_cons_succ, wpSs, wpS, wpE, wpEs, wpBs, wpAs, wpC, wpI, wipeE, brw, brv, arg, q_v0, q_vs, q_b0, q_b1, q_bs, q_a0, q_a1, q_a2, q_as, q_s0, q_ss, q_r0, q_rs, q_asI, q_asB, q_asL, q_asT, q_nm, q_tp, q_nil, q_cons, q_rva, q_rvo, retP, setsE, frzE, oall, sl_nil, sl_int, slT_last, slL_last, ixT0, ixL0, ixT1, ixL1, ixT2, ixL2, ixT3, ixL3, ixT4, ixL4, ixT5, ixL5, ixT6, ixL6, ixT7, ixL7, ixT8, ixL8, osome, ite_t, ite_f, oadd, osub, ofdv, omod, omul, olt, ogt, ole, oge, oeqI, oneI, oeqS, oneS, oneB, oeqB, otake, ospF1, ospF2, ospF3, ospF4, lcW_at, frW_at, lcT_map, lcT_fil, ite_not, true_and, and_true, forall_const, Bool.false_eq_true, false_implies]
            cases q_k : isBtw k 0 2 with
            | false => rw [q_k] at h; simp only [Bool.and_false, Bool.false_and, Bool.true_and] at h; exact h
            | true =>
            rw [q_k] at h
            cases q_t : isBtw t 0 30 with
            | false => rw [q_t] at h; simp only [Bool.and_false, Bool.false_and, Bool.true_and] at h; exact h
            | true =>
            rw [q_t] at h
            first | exact h | (simp only [Bool.true_and, Bool.and_true] at h; exact h)
          | [] => exact h
          | [a0] => exact h
          | [a0, a1] => exact h
          | a0 :: a1 :: a2 :: a3 :: r => exact ite_cases (fun q => absurd (of_decide_eq_true q) (by simp only [List.length_cons]; omega)) fun _ => h
        by_cases hw_give : w = "give"
        · subst hw_give
          simp only [kdI_give, kdX_give, lenL, slots0, List.map_cons, List.map_nil, slotOf, List.length_cons, List.length_nil, List.replicate_succ, List.replicate_zero, List.cons_append, List.nil_append, List.append_nil, Nat.reduceAdd, Nat.reduceSub, List.getElem?_cons_zero, List.getElem?_cons_succ, List.set_cons_zero, List.set_cons_succ, wpSs, wpS, wpE, wpEs, wpBs, wpAs, wpC, wpI, wipeE, brw, brv, arg, q_v0, q_vs, q_b0, q_b1, q_bs, q_a0, q_a1, q_a2, q_as, q_s0, q_ss, q_r0, q_rs, q_asI, q_asB, q_asL, q_asT, q_nm, q_tp, q_nil, q_cons, q_rva, q_rvo, retP, setsE, frzE, oall, sl_nil, sl_int, slT_last, slL_last, ixT0, ixL0, ixT1, ixL1, ixT2, ixL2, ixT3, ixL3, ixT4, ixL4, ixT5, ixL5, ixT6, ixL6, ixT7, ixL7, ixT8, ixL8, osome, ite_t, ite_f, oadd, osub, ofdv, omod, omul, olt, ogt, ole, oge, oeqI, oneI, oeqS, oneS, oneB, oeqB, otake, ospF1, ospF2, ospF3, ospF4, lcW_at, frW_at, lcT_map, lcT_fil, ite_not, true_and, and_true, forall_const, Bool.false_eq_true, false_implies]
          have e_road : COp.eq.f (.str "give") (.str "road") = some false := by decide +kernel
          have e_table : COp.eq.f (.str "give") (.str "table") = some false := by decide +kernel
          have e_give : COp.eq.f (.str "give") (.str "give") = some true := by decide +kernel
          have e_n : COp.ne.f (.str "give") (.str "give") = some false := by decide +kernel
          match r with
          | [l, t, p, g, n, k, f] =>
            have h : R (.da (.bool (isBtw l 0 7 && isBtw t 0 30 && isBtw p 0 5 && isBtw g 0 5 && neI p g && isBtw n 1 4 && isBtw k 0 1 && (isNo f || isBtw f 0 2)))) := h
            simp only [show decide (((0 + 1 + 1 + 1 + 1 + 1 + 1 + 1 + 1 : Nat) : Int) = 1 + ((0 + 1 + 1 + 1 + 1 + 1 + 1 + 1 : Nat) : Int)) = true from rfl, zp_cons, zp_nil, frW_cons, frW_nil, e_road, e_table, e_give, e_n, sp_law_number, f_is_between, sp_law_table_good, f_is_table, slots0, List.map_cons, List.map_nil, slotOf, List.length_cons, List.length_nil, List.replicate_succ, List.replicate_zero, List.cons_append, List.nil_append, List.append_nil, Nat.reduceAdd, Nat.reduceSub, List.getElem?_cons_zero, List.getElem?_cons_succ, List.set_cons_zero, List.set_cons_succ, wpSs, wpS, wpE, wpEs, wpBs, wpAs, wpC, wpI, wipeE, brw, brv, arg, q_v0, q_vs, q_b0, q_b1, q_bs, q_a0, q_a1, q_a2, q_as, q_s0, q_ss, q_r0, q_rs, q_asI, q_asB, q_asL, q_asT, q_nm, q_tp, q_nil, q_cons, q_rva, q_rvo, retP, setsE, frzE, oall, sl_nil, sl_int, slT_last, slL_last, ixT0, ixL0, ixT1, ixL1, ixT2, ixL2, ixT3, ixL3, ixT4, ixL4, ixT5, ixL5, ixT6, ixL6, ixT7, ixL7, ixT8, ixL8, osome, ite_t, ite_f, oadd, osub, ofdv, omod, omul, olt, ogt, ole, oge, oeqI, oneI, oeqS, oneS, oneB, oeqB, otake, ospF1, ospF2, ospF3, ospF4, lcW_at, frW_at, lcT_map, lcT_fil, ite_not, true_and, and_true, forall_const, Bool.false_eq_true, false_implies]
            cases q_l : isBtw l 0 7 with
            | false => rw [q_l] at h; simp only [Bool.and_false, Bool.false_and, Bool.true_and] at h; exact h
            | true =>
            rw [q_l] at h
            cases q_t : isBtw t 0 30 with
            | false => rw [q_t] at h; simp only [Bool.and_false, Bool.false_and, Bool.true_and] at h; exact h
            | true =>
            rw [q_t] at h
            cases q_p : isBtw p 0 5 with
            | false => rw [q_p] at h; simp only [Bool.and_false, Bool.false_and, Bool.true_and] at h; exact h
            | true =>
            rw [q_p] at h
            cases q_g : isBtw g 0 5 with
            | false => rw [q_g] at h; simp only [Bool.and_false, Bool.false_and, Bool.true_and] at h; exact h
            | true =>
            rw [q_g] at h
            cases q_n : isBtw n 1 4 with
            | false => rw [q_n] at h; simp only [Bool.and_false, Bool.false_and, Bool.true_and] at h; exact h
            | true =>
            rw [q_n] at h
            cases q_k : isBtw k 0 1 with
            | false => rw [q_k] at h; simp only [Bool.and_false, Bool.false_and, Bool.true_and] at h; exact h
            | true =>
            rw [q_k] at h
            obtain ⟨i, rfl⟩ := btw_int q_p
            obtain ⟨j, rfl⟩ := btw_int q_g
            simp only [Bool.and_true, Bool.true_and, neI, slots0, List.map_cons, List.map_nil, slotOf, List.length_cons, List.length_nil, List.replicate_succ, List.replicate_zero, List.cons_append, List.nil_append, List.append_nil, Nat.reduceAdd, Nat.reduceSub, List.getElem?_cons_zero, List.getElem?_cons_succ, List.set_cons_zero, List.set_cons_succ, wpSs, wpS, wpE, wpEs, wpBs, wpAs, wpC, wpI, wipeE, brw, brv, arg, q_v0, q_vs, q_b0, q_b1, q_bs, q_a0, q_a1, q_a2, q_as, q_s0, q_ss, q_r0, q_rs, q_asI, q_asB, q_asL, q_asT, q_nm, q_tp, q_nil, q_cons, q_rva, q_rvo, retP, setsE, frzE, oall, sl_nil, sl_int, slT_last, slL_last, ixT0, ixL0, ixT1, ixL1, ixT2, ixL2, ixT3, ixL3, ixT4, ixL4, ixT5, ixL5, ixT6, ixL6, ixT7, ixL7, ixT8, ixL8, osome, ite_t, ite_f, oadd, osub, ofdv, omod, omul, olt, ogt, ole, oge, oeqI, oneI, oeqS, oneS, oneB, oeqB, otake, ospF1, ospF2, ospF3, ospF4, lcW_at, frW_at, lcT_map, lcT_fil, ite_not, true_and, and_true, forall_const, Bool.false_eq_true, false_implies] at h ⊢
            cases q5 : decide (i = j) with
            | true => rw [q5] at h; exact h
            | false =>
            rw [q5] at h
            cases f <;> exact h
          | [] => exact h
          | [a0] => exact h
          | [a0, a1] => exact h
          | [a0, a1, a2] => exact h
          | [a0, a1, a2, a3] => exact h
          | [a0, a1, a2, a3, a4] => exact h
          | [a0, a1, a2, a3, a4, a5] => exact h
          | a0 :: a1 :: a2 :: a3 :: a4 :: a5 :: a6 :: a7 :: r => exact ite_cases (fun q => absurd (of_decide_eq_true q) (by simp only [List.length_cons]; omega)) fun _ => h
        by_cases hw_franks : w = "franks"
        · subst hw_franks
          simp only [kdI_franks, kdX_franks, lenL, slots0, List.map_cons, List.map_nil, slotOf, List.length_cons, List.length_nil, List.replicate_succ, List.replicate_zero, List.cons_append, List.nil_append, List.append_nil, Nat.reduceAdd, Nat.reduceSub, List.getElem?_cons_zero, List.getElem?_cons_succ, List.set_cons_zero, List.set_cons_succ, wpSs, wpS, wpE, wpEs, wpBs, wpAs, wpC, wpI, wipeE, brw, brv, arg, q_v0, q_vs, q_b0, q_b1, q_bs, q_a0, q_a1, q_a2, q_as, q_s0, q_ss, q_r0, q_rs, q_asI, q_asB, q_asL, q_asT, q_nm, q_tp, q_nil, q_cons, q_rva, q_rvo, retP, setsE, frzE, oall, sl_nil, sl_int, slT_last, slL_last, ixT0, ixL0, ixT1, ixL1, ixT2, ixL2, ixT3, ixL3, ixT4, ixL4, ixT5, ixL5, ixT6, ixL6, ixT7, ixL7, ixT8, ixL8, osome, ite_t, ite_f, oadd, osub, ofdv, omod, omul, olt, ogt, ole, oge, oeqI, oneI, oeqS, oneS, oneB, oeqB, otake, ospF1, ospF2, ospF3, ospF4, lcW_at, frW_at, lcT_map, lcT_fil, ite_not, true_and, and_true, forall_const, Bool.false_eq_true, false_implies]
          have e_road : COp.eq.f (.str "franks") (.str "road") = some false := by decide +kernel
          have e_table : COp.eq.f (.str "franks") (.str "table") = some false := by decide +kernel
          have e_give : COp.eq.f (.str "franks") (.str "give") = some false := by decide +kernel
          have e_n : COp.ne.f (.str "franks") (.str "give") = some true := by decide +kernel
          match r with
          | [a, b, c] =>
            have h : R (.da (.bool (isBtw a 0 2 && isBtw b 0 3 && isBtw c 0 30))) := h
            simp only [show decide (((0 + 1 + 1 + 1 + 1 : Nat) : Int) = 1 + ((0 + 1 + 1 + 1 : Nat) : Int)) = true from rfl, zp_cons, zp_nil, frW_cons, frW_nil, e_road, e_table, e_give, e_n, sp_law_number, f_is_between, sp_law_table_good, f_is_table, slots0, List.map_cons, List.map_nil, slotOf, List.length_cons, List.length_nil, List.replicate_succ, List.replicate_zero, List.cons_append, List.nil_append, List.append_nil, Nat.reduceAdd, Nat.reduceSub, List.getElem?_cons_zero, List.getElem?_cons_succ, List.set_cons_zero, List.set_cons_succ, wpSs, wpS, wpE, wpEs, wpBs, wpAs, wpC, wpI, wipeE, brw, brv, arg, q_v0, q_vs, q_b0, q_b1, q_bs, q_a0, q_a1, q_a2, q_as, q_s0, q_ss, q_r0, q_rs, q_asI, q_asB, q_asL, q_asT, q_nm, q_tp, q_nil, q_cons, q_rva, q_rvo, retP, setsE, frzE, oall, sl_nil, sl_int, slT_last, slL_last, ixT0, ixL0, ixT1, ixL1, ixT2, ixL2, ixT3, ixL3, ixT4, ixL4, ixT5, ixL5, ixT6, ixL6, ixT7, ixL7, ixT8, ixL8, osome, ite_t, ite_f, oadd, osub, ofdv, omod, omul, olt, ogt, ole, oge, oeqI, oneI, oeqS, oneS, oneB, oeqB, otake, ospF1, ospF2, ospF3, ospF4, lcW_at, frW_at, lcT_map, lcT_fil, ite_not, true_and, and_true, forall_const, Bool.false_eq_true, false_implies]
            cases q_a : isBtw a 0 2 with
            | false => rw [q_a] at h; simp only [Bool.and_false, Bool.false_and, Bool.true_and] at h; exact h
            | true =>
            rw [q_a] at h
            cases q_b : isBtw b 0 3 with
            | false => rw [q_b] at h; simp only [Bool.and_false, Bool.false_and, Bool.true_and] at h; exact h
            | true =>
            rw [q_b] at h
            cases q_c : isBtw c 0 30 with
            | false => rw [q_c] at h; simp only [Bool.and_false, Bool.false_and, Bool.true_and] at h; exact h
            | true =>
            rw [q_c] at h
            first | exact h | (simp only [Bool.true_and, Bool.and_true] at h; exact h)
          | [] => exact h
          | [a0] => exact h
          | [a0, a1] => exact h
          | a0 :: a1 :: a2 :: a3 :: r => exact ite_cases (fun q => absurd (of_decide_eq_true q) (by simp only [List.length_cons]; omega)) fun _ => h
        by_cases hw_on : w = "on"
        · subst hw_on
          simp only [kdI_on, kdX_on, lenL, slots0, List.map_cons, List.map_nil, slotOf, List.length_cons, List.length_nil, List.replicate_succ, List.replicate_zero, List.cons_append, List.nil_append, List.append_nil, Nat.reduceAdd, Nat.reduceSub, List.getElem?_cons_zero, List.getElem?_cons_succ, List.set_cons_zero, List.set_cons_succ, wpSs, wpS, wpE, wpEs, wpBs, wpAs, wpC, wpI, wipeE, brw, brv, arg, q_v0, q_vs, q_b0, q_b1, q_bs, q_a0, q_a1, q_a2, q_as, q_s0, q_ss, q_r0, q_rs, q_asI, q_asB, q_asL, q_asT, q_nm, q_tp, q_nil, q_cons, q_rva, q_rvo, retP, setsE, frzE, oall, sl_nil, sl_int, slT_last, slL_last, ixT0, ixL0, ixT1, ixL1, ixT2, ixL2, ixT3, ixL3, ixT4, ixL4, ixT5, ixL5, ixT6, ixL6, ixT7, ixL7, ixT8, ixL8, osome, ite_t, ite_f, oadd, osub, ofdv, omod, omul, olt, ogt, ole, oge, oeqI, oneI, oeqS, oneS, oneB, oeqB, otake, ospF1, ospF2, ospF3, ospF4, lcW_at, frW_at, lcT_map, lcT_fil, ite_not, true_and, and_true, forall_const, Bool.false_eq_true, false_implies]
          have e_road : COp.eq.f (.str "on") (.str "road") = some false := by decide +kernel
          have e_table : COp.eq.f (.str "on") (.str "table") = some false := by decide +kernel
          have e_give : COp.eq.f (.str "on") (.str "give") = some false := by decide +kernel
          have e_n : COp.ne.f (.str "on") (.str "give") = some true := by decide +kernel
          match r with
          | [a, b, c] =>
            have h : R (.da (.bool (isBtw a 0 7 && isBtw b 0 30 && isBtw c 0 5))) := h
            simp only [show decide (((0 + 1 + 1 + 1 + 1 : Nat) : Int) = 1 + ((0 + 1 + 1 + 1 : Nat) : Int)) = true from rfl, zp_cons, zp_nil, frW_cons, frW_nil, e_road, e_table, e_give, e_n, sp_law_number, f_is_between, sp_law_table_good, f_is_table, slots0, List.map_cons, List.map_nil, slotOf, List.length_cons, List.length_nil, List.replicate_succ, List.replicate_zero, List.cons_append, List.nil_append, List.append_nil, Nat.reduceAdd, Nat.reduceSub, List.getElem?_cons_zero, List.getElem?_cons_succ, List.set_cons_zero, List.set_cons_succ, wpSs, wpS, wpE, wpEs, wpBs, wpAs, wpC, wpI, wipeE, brw, brv, arg, q_v0, q_vs, q_b0, q_b1, q_bs, q_a0, q_a1, q_a2, q_as, q_s0, q_ss, q_r0, q_rs, q_asI, q_asB, q_asL, q_asT, q_nm, q_tp, q_nil, q_cons, q_rva, q_rvo, retP, setsE, frzE, oall, sl_nil, sl_int, slT_last, slL_last, ixT0, ixL0, ixT1, ixL1, ixT2, ixL2, ixT3, ixL3, ixT4, ixL4, ixT5, ixL5, ixT6, ixL6, ixT7, ixL7, ixT8, ixL8, osome, ite_t, ite_f, oadd, osub, ofdv, omod, omul, olt, ogt, ole, oge, oeqI, oneI, oeqS, oneS, oneB, oeqB, otake, ospF1, ospF2, ospF3, ospF4, lcW_at, frW_at, lcT_map, lcT_fil, ite_not, true_and, and_true, forall_const, Bool.false_eq_true, false_implies]
            cases q_a : isBtw a 0 7 with
            | false => rw [q_a] at h; simp only [Bool.and_false, Bool.false_and, Bool.true_and] at h; exact h
            | true =>
            rw [q_a] at h
            cases q_b : isBtw b 0 30 with
            | false => rw [q_b] at h; simp only [Bool.and_false, Bool.false_and, Bool.true_and] at h; exact h
            | true =>
            rw [q_b] at h
            cases q_c : isBtw c 0 5 with
            | false => rw [q_c] at h; simp only [Bool.and_false, Bool.false_and, Bool.true_and] at h; exact h
            | true =>
            rw [q_c] at h
            first | exact h | (simp only [Bool.true_and, Bool.and_true] at h; exact h)
          | [] => exact h
          | [a0] => exact h
          | [a0, a1] => exact h
          | a0 :: a1 :: a2 :: a3 :: r => exact ite_cases (fun q => absurd (of_decide_eq_true q) (by simp only [List.length_cons]; omega)) fun _ => h
        by_cases hw_refuse : w = "refuse"
        · subst hw_refuse
          simp only [kdI_refuse, kdX_refuse, lenL, slots0, List.map_cons, List.map_nil, slotOf, List.length_cons, List.length_nil, List.replicate_succ, List.replicate_zero, List.cons_append, List.nil_append, List.append_nil, Nat.reduceAdd, Nat.reduceSub, List.getElem?_cons_zero, List.getElem?_cons_succ, List.set_cons_zero, List.set_cons_succ, wpSs, wpS, wpE, wpEs, wpBs, wpAs, wpC, wpI, wipeE, brw, brv, arg, q_v0, q_vs, q_b0, q_b1, q_bs, q_a0, q_a1, q_a2, q_as, q_s0, q_ss, q_r0, q_rs, q_asI, q_asB, q_asL, q_asT, q_nm, q_tp, q_nil, q_cons, q_rva, q_rvo, retP, setsE, frzE, oall, sl_nil, sl_int, slT_last, slL_last, ixT0, ixL0, ixT1, ixL1, ixT2, ixL2, ixT3, ixL3, ixT4, ixL4, ixT5, ixL5, ixT6, ixL6, ixT7, ixL7, ixT8, ixL8, osome, ite_t, ite_f, oadd, osub, ofdv, omod, omul, olt, ogt, ole, oge, oeqI, oneI, oeqS, oneS, oneB, oeqB, otake, ospF1, ospF2, ospF3, ospF4, lcW_at, frW_at, lcT_map, lcT_fil, ite_not, true_and, and_true, forall_const, Bool.false_eq_true, false_implies]
          have e_road : COp.eq.f (.str "refuse") (.str "road") = some false := by decide +kernel
          have e_table : COp.eq.f (.str "refuse") (.str "table") = some false := by decide +kernel
          have e_give : COp.eq.f (.str "refuse") (.str "give") = some false := by decide +kernel
          have e_n : COp.ne.f (.str "refuse") (.str "give") = some true := by decide +kernel
          match r with
          | [a, b] =>
            have h : R (.da (.bool (isBtw a 0 7 && isBtw b 0 30))) := h
            simp only [show decide (((0 + 1 + 1 + 1 : Nat) : Int) = 1 + ((0 + 1 + 1 : Nat) : Int)) = true from rfl, zp_cons, zp_nil, frW_cons, frW_nil, e_road, e_table, e_give, e_n, sp_law_number, f_is_between, sp_law_table_good, f_is_table, slots0, List.map_cons, List.map_nil, slotOf, List.length_cons, List.length_nil, List.replicate_succ, List.replicate_zero, List.cons_append, List.nil_append, List.append_nil, Nat.reduceAdd, Nat.reduceSub, List.getElem?_cons_zero, List.getElem?_cons_succ, List.set_cons_zero, List.set_cons_succ, wpSs, wpS, wpE, wpEs, wpBs, wpAs, wpC, wpI, wipeE, brw, brv, arg, q_v0, q_vs, q_b0, q_b1, q_bs, q_a0, q_a1, q_a2, q_as, q_s0, q_ss, q_r0, q_rs, q_asI, q_asB, q_asL, q_asT, q_nm, q_tp, q_nil, q_cons, q_rva, q_rvo, retP, setsE, frzE, oall, sl_nil, sl_int, slT_last, slL_last, ixT0, ixL0, ixT1, ixL1, ixT2, ixL2, ixT3, ixL3, ixT4, ixL4, ixT5, ixL5, ixT6, ixL6, ixT7, ixL7, ixT8, ixL8, osome, ite_t, ite_f, oadd, osub, ofdv, omod, omul, olt, ogt, ole, oge, oeqI, oneI, oeqS, oneS, oneB, oeqB, otake, ospF1, ospF2, ospF3, ospF4, lcW_at, frW_at, lcT_map, lcT_fil, ite_not, true_and, and_true, forall_const, Bool.false_eq_true, false_implies]
            cases q_a : isBtw a 0 7 with
            | false => rw [q_a] at h; simp only [Bool.and_false, Bool.false_and, Bool.true_and] at h; exact h
            | true =>
            rw [q_a] at h
            cases q_b : isBtw b 0 30 with
            | false => rw [q_b] at h; simp only [Bool.and_false, Bool.false_and, Bool.true_and] at h; exact h
            | true =>
            rw [q_b] at h
            first | exact h | (simp only [Bool.true_and, Bool.and_true] at h; exact h)
          | [] => exact h
          | [a0] => exact h
          | a0 :: a1 :: a2 :: r => exact ite_cases (fun q => absurd (of_decide_eq_true q) (by simp only [List.length_cons]; omega)) fun _ => h
        by_cases hw_take : w = "take"
        · subst hw_take
          simp only [kdI_take, kdX_take, lenL, slots0, List.map_cons, List.map_nil, slotOf, List.length_cons, List.length_nil, List.replicate_succ, List.replicate_zero, List.cons_append, List.nil_append, List.append_nil, Nat.reduceAdd, Nat.reduceSub, List.getElem?_cons_zero, List.getElem?_cons_succ, List.set_cons_zero, List.set_cons_succ, wpSs, wpS, wpE, wpEs, wpBs, wpAs, wpC, wpI, wipeE, brw, brv, arg, q_v0, q_vs, q_b0, q_b1, q_bs, q_a0, q_a1, q_a2, q_as, q_s0, q_ss, q_r0, q_rs, q_asI, q_asB, q_asL, q_asT, q_nm, q_tp, q_nil, q_cons, q_rva, q_rvo, retP, setsE, frzE, oall, sl_nil, sl_int, slT_last, slL_last, ixT0, ixL0, ixT1, ixL1, ixT2, ixL2, ixT3, ixL3, ixT4, ixL4, ixT5, ixL5, ixT6, ixL6, ixT7, ixL7, ixT8, ixL8, osome, ite_t, ite_f, oadd, osub, ofdv, omod, omul, olt, ogt, ole, oge, oeqI, oneI, oeqS, oneS, oneB, oeqB, otake, ospF1, ospF2, ospF3, ospF4, lcW_at, frW_at, lcT_map, lcT_fil, ite_not, true_and, and_true, forall_const, Bool.false_eq_true, false_implies]
          have e_road : COp.eq.f (.str "take") (.str "road") = some false := by decide +kernel
          have e_table : COp.eq.f (.str "take") (.str "table") = some false := by decide +kernel
          have e_give : COp.eq.f (.str "take") (.str "give") = some false := by decide +kernel
          have e_n : COp.ne.f (.str "take") (.str "give") = some true := by decide +kernel
          match r with
          | [a, b] =>
            have h : R (.da (.bool (isBtw a 0 7 && isBtw b 0 30))) := h
            simp only [show decide (((0 + 1 + 1 + 1 : Nat) : Int) = 1 + ((0 + 1 + 1 : Nat) : Int)) = true from rfl, zp_cons, zp_nil, frW_cons, frW_nil, e_road, e_table, e_give, e_n, sp_law_number, f_is_between, sp_law_table_good, f_is_table, slots0, List.map_cons, List.map_nil, slotOf, List.length_cons, List.length_nil, List.replicate_succ, List.replicate_zero, List.cons_append, List.nil_append, List.append_nil, Nat.reduceAdd, Nat.reduceSub, List.getElem?_cons_zero, List.getElem?_cons_succ, List.set_cons_zero, List.set_cons_succ, wpSs, wpS, wpE, wpEs, wpBs, wpAs, wpC, wpI, wipeE, brw, brv, arg, q_v0, q_vs, q_b0, q_b1, q_bs, q_a0, q_a1, q_a2, q_as, q_s0, q_ss, q_r0, q_rs, q_asI, q_asB, q_asL, q_asT, q_nm, q_tp, q_nil, q_cons, q_rva, q_rvo, retP, setsE, frzE, oall, sl_nil, sl_int, slT_last, slL_last, ixT0, ixL0, ixT1, ixL1, ixT2, ixL2, ixT3, ixL3, ixT4, ixL4, ixT5, ixL5, ixT6, ixL6, ixT7, ixL7, ixT8, ixL8, osome, ite_t, ite_f, oadd, osub, ofdv, omod, omul, olt, ogt, ole, oge, oeqI, oneI, oeqS, oneS, oneB, oeqB, otake, ospF1, ospF2, ospF3, ospF4, lcW_at, frW_at, lcT_map, lcT_fil, ite_not, true_and, and_true, forall_const, Bool.false_eq_true, false_implies]
            cases q_a : isBtw a 0 7 with
            | false => rw [q_a] at h; simp only [Bool.and_false, Bool.false_and, Bool.true_and] at h; exact h
            | true =>
            rw [q_a] at h
            cases q_b : isBtw b 0 30 with
            | false => rw [q_b] at h; simp only [Bool.and_false, Bool.false_and, Bool.true_and] at h; exact h
            | true =>
            rw [q_b] at h
            first | exact h | (simp only [Bool.true_and, Bool.and_true] at h; exact h)
          | [] => exact h
          | [a0] => exact h
          | a0 :: a1 :: a2 :: r => exact ite_cases (fun q => absurd (of_decide_eq_true q) (by simp only [List.length_cons]; omega)) fun _ => h
        by_cases hw_short : w = "short"
        · subst hw_short
          simp only [kdI_short, kdX_short, lenL, slots0, List.map_cons, List.map_nil, slotOf, List.length_cons, List.length_nil, List.replicate_succ, List.replicate_zero, List.cons_append, List.nil_append, List.append_nil, Nat.reduceAdd, Nat.reduceSub, List.getElem?_cons_zero, List.getElem?_cons_succ, List.set_cons_zero, List.set_cons_succ, wpSs, wpS, wpE, wpEs, wpBs, wpAs, wpC, wpI, wipeE, brw, brv, arg, q_v0, q_vs, q_b0, q_b1, q_bs, q_a0, q_a1, q_a2, q_as, q_s0, q_ss, q_r0, q_rs, q_asI, q_asB, q_asL, q_asT, q_nm, q_tp, q_nil, q_cons, q_rva, q_rvo, retP, setsE, frzE, oall, sl_nil, sl_int, slT_last, slL_last, ixT0, ixL0, ixT1, ixL1, ixT2, ixL2, ixT3, ixL3, ixT4, ixL4, ixT5, ixL5, ixT6, ixL6, ixT7, ixL7, ixT8, ixL8, osome, ite_t, ite_f, oadd, osub, ofdv, omod, omul, olt, ogt, ole, oge, oeqI, oneI, oeqS, oneS, oneB, oeqB, otake, ospF1, ospF2, ospF3, ospF4, lcW_at, frW_at, lcT_map, lcT_fil, ite_not, true_and, and_true, forall_const, Bool.false_eq_true, false_implies]
          have e_road : COp.eq.f (.str "short") (.str "road") = some false := by decide +kernel
          have e_table : COp.eq.f (.str "short") (.str "table") = some false := by decide +kernel
          have e_give : COp.eq.f (.str "short") (.str "give") = some false := by decide +kernel
          have e_n : COp.ne.f (.str "short") (.str "give") = some true := by decide +kernel
          match r with
          | [a, b, c] =>
            have h : R (.da (.bool (isBtw a 0 7 && isBtw b 0 3 && isBtw c 1 99))) := h
            simp only [show decide (((0 + 1 + 1 + 1 + 1 : Nat) : Int) = 1 + ((0 + 1 + 1 + 1 : Nat) : Int)) = true from rfl, zp_cons, zp_nil, frW_cons, frW_nil, e_road, e_table, e_give, e_n, sp_law_number, f_is_between, sp_law_table_good, f_is_table, slots0, List.map_cons, List.map_nil, slotOf, List.length_cons, List.length_nil, List.replicate_succ, List.replicate_zero, List.cons_append, List.nil_append, List.append_nil, Nat.reduceAdd, Nat.reduceSub, List.getElem?_cons_zero, List.getElem?_cons_succ, List.set_cons_zero, List.set_cons_succ, wpSs, wpS, wpE, wpEs, wpBs, wpAs, wpC, wpI, wipeE, brw, brv, arg, q_v0, q_vs, q_b0, q_b1, q_bs, q_a0, q_a1, q_a2, q_as, q_s0, q_ss, q_r0, q_rs, q_asI, q_asB, q_asL, q_asT, q_nm, q_tp, q_nil, q_cons, q_rva, q_rvo, retP, setsE, frzE, oall, sl_nil, sl_int, slT_last, slL_last, ixT0, ixL0, ixT1, ixL1, ixT2, ixL2, ixT3, ixL3, ixT4, ixL4, ixT5, ixL5, ixT6, ixL6, ixT7, ixL7, ixT8, ixL8, osome, ite_t, ite_f, oadd, osub, ofdv, omod, omul, olt, ogt, ole, oge, oeqI, oneI, oeqS, oneS, oneB, oeqB, otake, ospF1, ospF2, ospF3, ospF4, lcW_at, frW_at, lcT_map, lcT_fil, ite_not, true_and, and_true, forall_const, Bool.false_eq_true, false_implies]
            cases q_a : isBtw a 0 7 with
            | false => rw [q_a] at h; simp only [Bool.and_false, Bool.false_and, Bool.true_and] at h; exact h
            | true =>
            rw [q_a] at h
            cases q_b : isBtw b 0 3 with
            | false => rw [q_b] at h; simp only [Bool.and_false, Bool.false_and, Bool.true_and] at h; exact h
            | true =>
            rw [q_b] at h
            cases q_c : isBtw c 1 99 with
            | false => rw [q_c] at h; simp only [Bool.and_false, Bool.false_and, Bool.true_and] at h; exact h
            | true =>
            rw [q_c] at h
            first | exact h | (simp only [Bool.true_and, Bool.and_true] at h; exact h)
          | [] => exact h
          | [a0] => exact h
          | [a0, a1] => exact h
          | a0 :: a1 :: a2 :: a3 :: r => exact ite_cases (fun q => absurd (of_decide_eq_true q) (by simp only [List.length_cons]; omega)) fun _ => h
        by_cases hw_right : w = "right"
        · subst hw_right
          simp only [kdI_right, kdX_right, lenL, slots0, List.map_cons, List.map_nil, slotOf, List.length_cons, List.length_nil, List.replicate_succ, List.replicate_zero, List.cons_append, List.nil_append, List.append_nil, Nat.reduceAdd, Nat.reduceSub, List.getElem?_cons_zero, List.getElem?_cons_succ, List.set_cons_zero, List.set_cons_succ, wpSs, wpS, wpE, wpEs, wpBs, wpAs, wpC, wpI, wipeE, brw, brv, arg, q_v0, q_vs, q_b0, q_b1, q_bs, q_a0, q_a1, q_a2, q_as, q_s0, q_ss, q_r0, q_rs, q_asI, q_asB, q_asL, q_asT, q_nm, q_tp, q_nil, q_cons, q_rva, q_rvo, retP, setsE, frzE, oall, sl_nil, sl_int, slT_last, slL_last, ixT0, ixL0, ixT1, ixL1, ixT2, ixL2, ixT3, ixL3, ixT4, ixL4, ixT5, ixL5, ixT6, ixL6, ixT7, ixL7, ixT8, ixL8, osome, ite_t, ite_f, oadd, osub, ofdv, omod, omul, olt, ogt, ole, oge, oeqI, oneI, oeqS, oneS, oneB, oeqB, otake, ospF1, ospF2, ospF3, ospF4, lcW_at, frW_at, lcT_map, lcT_fil, ite_not, true_and, and_true, forall_const, Bool.false_eq_true, false_implies]
          have e_road : COp.eq.f (.str "right") (.str "road") = some false := by decide +kernel
          have e_table : COp.eq.f (.str "right") (.str "table") = some false := by decide +kernel
          have e_give : COp.eq.f (.str "right") (.str "give") = some false := by decide +kernel
          have e_n : COp.ne.f (.str "right") (.str "give") = some true := by decide +kernel
          match r with
          | [a, b] =>
            have h : R (.da (.bool (isBtw a 0 7 && isBtw b 0 3))) := h
            simp only [show decide (((0 + 1 + 1 + 1 : Nat) : Int) = 1 + ((0 + 1 + 1 : Nat) : Int)) = true from rfl, zp_cons, zp_nil, frW_cons, frW_nil, e_road, e_table, e_give, e_n, sp_law_number, f_is_between, sp_law_table_good, f_is_table, slots0, List.map_cons, List.map_nil, slotOf, List.length_cons, List.length_nil, List.replicate_succ, List.replicate_zero, List.cons_append, List.nil_append, List.append_nil, Nat.reduceAdd, Nat.reduceSub, List.getElem?_cons_zero, List.getElem?_cons_succ, List.set_cons_zero, List.set_cons_succ, wpSs, wpS, wpE, wpEs, wpBs, wpAs, wpC, wpI, wipeE, brw, brv, arg, q_v0, q_vs, q_b0, q_b1, q_bs, q_a0, q_a1, q_a2, q_as, q_s0, q_ss, q_r0, q_rs, q_asI, q_asB, q_asL, q_asT, q_nm, q_tp, q_nil, q_cons, q_rva, q_rvo, retP, setsE, frzE, oall, sl_nil, sl_int, slT_last, slL_last, ixT0, ixL0, ixT1, ixL1, ixT2, ixL2, ixT3, ixL3, ixT4, ixL4, ixT5, ixL5, ixT6, ixL6, ixT7, ixL7, ixT8, ixL8, osome, ite_t, ite_f, oadd, osub, ofdv, omod, omul, olt, ogt, ole, oge, oeqI, oneI, oeqS, oneS, oneB, oeqB, otake, ospF1, ospF2, ospF3, ospF4, lcW_at, frW_at, lcT_map, lcT_fil, ite_not, true_and, and_true, forall_const, Bool.false_eq_true, false_implies]
            cases q_a : isBtw a 0 7 with
            | false => rw [q_a] at h; simp only [Bool.and_false, Bool.false_and, Bool.true_and] at h; exact h
            | true =>
            rw [q_a] at h
            cases q_b : isBtw b 0 3 with
            | false => rw [q_b] at h; simp only [Bool.and_false, Bool.false_and, Bool.true_and] at h; exact h
            | true =>
            rw [q_b] at h
            first | exact h | (simp only [Bool.true_and, Bool.and_true] at h; exact h)
          | [] => exact h
          | [a0] => exact h
          | a0 :: a1 :: a2 :: r => exact ite_cases (fun q => absurd (of_decide_eq_true q) (by simp only [List.length_cons]; omega)) fun _ => h
        by_cases hw_pay : w = "pay"
        · subst hw_pay
          simp only [kdI_pay, kdX_pay, lenL, slots0, List.map_cons, List.map_nil, slotOf, List.length_cons, List.length_nil, List.replicate_succ, List.replicate_zero, List.cons_append, List.nil_append, List.append_nil, Nat.reduceAdd, Nat.reduceSub, List.getElem?_cons_zero, List.getElem?_cons_succ, List.set_cons_zero, List.set_cons_succ, wpSs, wpS, wpE, wpEs, wpBs, wpAs, wpC, wpI, wipeE, brw, brv, arg, q_v0, q_vs, q_b0, q_b1, q_bs, q_a0, q_a1, q_a2, q_as, q_s0, q_ss, q_r0, q_rs, q_asI, q_asB, q_asL, q_asT, q_nm, q_tp, q_nil, q_cons, q_rva, q_rvo, retP, setsE, frzE, oall, sl_nil, sl_int, slT_last, slL_last, ixT0, ixL0, ixT1, ixL1, ixT2, ixL2, ixT3, ixL3, ixT4, ixL4, ixT5, ixL5, ixT6, ixL6, ixT7, ixL7, ixT8, ixL8, osome, ite_t, ite_f, oadd, osub, ofdv, omod, omul, olt, ogt, ole, oge, oeqI, oneI, oeqS, oneS, oneB, oeqB, otake, ospF1, ospF2, ospF3, ospF4, lcW_at, frW_at, lcT_map, lcT_fil, ite_not, true_and, and_true, forall_const, Bool.false_eq_true, false_implies]
          have e_road : COp.eq.f (.str "pay") (.str "road") = some false := by decide +kernel
          have e_table : COp.eq.f (.str "pay") (.str "table") = some false := by decide +kernel
          have e_give : COp.eq.f (.str "pay") (.str "give") = some false := by decide +kernel
          have e_n : COp.ne.f (.str "pay") (.str "give") = some true := by decide +kernel
          match r with
          | [a, b, c] =>
            have h : R (.da (.bool (isBtw a 0 5 && isBtw b (-999) 999 && isBtw c 0 30))) := h
            simp only [show decide (((0 + 1 + 1 + 1 + 1 : Nat) : Int) = 1 + ((0 + 1 + 1 + 1 : Nat) : Int)) = true from rfl, zp_cons, zp_nil, frW_cons, frW_nil, e_road, e_table, e_give, e_n, sp_law_number, f_is_between, sp_law_table_good, f_is_table, slots0, List.map_cons, List.map_nil, slotOf, List.length_cons, List.length_nil, List.replicate_succ, List.replicate_zero, List.cons_append, List.nil_append, List.append_nil, Nat.reduceAdd, Nat.reduceSub, List.getElem?_cons_zero, List.getElem?_cons_succ, List.set_cons_zero, List.set_cons_succ, wpSs, wpS, wpE, wpEs, wpBs, wpAs, wpC, wpI, wipeE, brw, brv, arg, q_v0, q_vs, q_b0, q_b1, q_bs, q_a0, q_a1, q_a2, q_as, q_s0, q_ss, q_r0, q_rs, q_asI, q_asB, q_asL, q_asT, q_nm, q_tp, q_nil, q_cons, q_rva, q_rvo, retP, setsE, frzE, oall, sl_nil, sl_int, slT_last, slL_last, ixT0, ixL0, ixT1, ixL1, ixT2, ixL2, ixT3, ixL3, ixT4, ixL4, ixT5, ixL5, ixT6, ixL6, ixT7, ixL7, ixT8, ixL8, osome, ite_t, ite_f, oadd, osub, ofdv, omod, omul, olt, ogt, ole, oge, oeqI, oneI, oeqS, oneS, oneB, oeqB, otake, ospF1, ospF2, ospF3, ospF4, lcW_at, frW_at, lcT_map, lcT_fil, ite_not, true_and, and_true, forall_const, Bool.false_eq_true, false_implies]
            cases q_a : isBtw a 0 5 with
            | false => rw [q_a] at h; simp only [Bool.and_false, Bool.false_and, Bool.true_and] at h; exact h
            | true =>
            rw [q_a] at h
            cases q_b : isBtw b (-999) 999 with
            | false => rw [q_b] at h; simp only [Bool.and_false, Bool.false_and, Bool.true_and] at h; exact h
            | true =>
            rw [q_b] at h
            cases q_c : isBtw c 0 30 with
            | false => rw [q_c] at h; simp only [Bool.and_false, Bool.false_and, Bool.true_and] at h; exact h
            | true =>
            rw [q_c] at h
            first | exact h | (simp only [Bool.true_and, Bool.and_true] at h; exact h)
          | [] => exact h
          | [a0] => exact h
          | [a0, a1] => exact h
          | a0 :: a1 :: a2 :: a3 :: r => exact ite_cases (fun q => absurd (of_decide_eq_true q) (by simp only [List.length_cons]; omega)) fun _ => h
        · have hn := (noW (w := w) (by simp only [hw_road, hw_table, hw_give, hw_franks, hw_on, hw_refuse, hw_take, hw_short, hw_right, hw_pay, or_false, not_false_eq_true])).2.2
          simp only [kdN (w := w) (by simp only [hw_road, hw_table, hw_give, hw_franks, hw_on, hw_refuse, hw_take, hw_short, hw_right, hw_pay, or_false, not_false_eq_true]), slots0, List.map_cons, List.map_nil, slotOf, List.length_cons, List.length_nil, List.replicate_succ, List.replicate_zero, List.cons_append, List.nil_append, List.append_nil, Nat.reduceAdd, Nat.reduceSub, List.getElem?_cons_zero, List.getElem?_cons_succ, List.set_cons_zero, List.set_cons_succ, wpSs, wpS, wpE, wpEs, wpBs, wpAs, wpC, wpI, wipeE, brw, brv, arg, q_v0, q_vs, q_b0, q_b1, q_bs, q_a0, q_a1, q_a2, q_as, q_s0, q_ss, q_r0, q_rs, q_asI, q_asB, q_asL, q_asT, q_nm, q_tp, q_nil, q_cons, q_rva, q_rvo, retP, setsE, frzE, oall, sl_nil, sl_int, slT_last, slL_last, ixT0, ixL0, ixT1, ixL1, ixT2, ixL2, ixT3, ixL3, ixT4, ixL4, ixT5, ixL5, ixT6, ixL6, ixT7, ixL7, ixT8, ixL8, osome, ite_t, ite_f, oadd, osub, ofdv, omod, omul, olt, ogt, ole, oge, oeqI, oneI, oeqS, oneS, oneB, oeqB, otake, ospF1, ospF2, ospF3, ospF4, lcW_at, frW_at, lcT_map, lcT_fil, ite_not, true_and, and_true, forall_const, Bool.false_eq_true, false_implies]
          rw [hn] at h
          exact h
      | _ => exact h
  | _ => exact h
end VL
/-! LF: law k02 itself -/
namespace VL
open PySem PySem.Spec PyProof.Rows L2
/-- parts of things that are small -/
theorem wz_btw {i lo hi : Int} (h : btw i lo hi = true) (h1 : -10000 < lo) (h2 : hi < 10000) : wz (.int i) = 5 := by
  simp only [btw, Bool.and_eq_true, decide_eq_true_eq] at h
  exact wz_int (by omega) (by omega)
structure Small (n : Nat) (x : PyData) : Prop where
  w : wz x ≤ n
  d : x.depth ≤ 3
  h : x.hasDict = false
  l : noLs x = true
theorem small_int {i lo hi : Int} (h : btw i lo hi = true) (h1 : -10000 < lo) (h2 : hi < 10000) : Small 5 (.int i) := ⟨by rw [wz_btw h h1 h2]; exact Nat.le_refl _, Nat.zero_le _, rfl, rfl⟩
theorem noLsA_all : ∀ {xs : List PyData}, (∀ d ∈ xs, noLs d = true) → noLsA xs = true
  | [], _ => rfl
  | x :: xs, h => by
    show (noLs x && noLsA xs) = true
    rw [h x List.mem_cons_self, noLsA_all fun d hd => h d (List.mem_cons_of_mem _ hd)]; rfl
theorem small_tab {tb : List (Int × Int)} (h : tabOk tb = true) : Small 100 (encT tb) := by
  unfold tabOk at h
  simp only [Bool.and_eq_true, decide_eq_true_eq, List.all_eq_true] at h
  have hw : ∀ d ∈ tb.map stp, wz d ≤ 17 ∧ d.depth ≤ 1 ∧ d.hasDict = false ∧ noLs d = true := fun d hd => by
    obtain ⟨q, hq, rfl⟩ := List.mem_map.mp hd
    obtain ⟨h1, h2⟩ := h.1.2 q hq
    refine ⟨?_, Nat.le_refl 1, rfl, rfl⟩
    show wz (.int q.1) + 2 + (wz (.int q.2) + 2 + 0) + 3 ≤ 17
    rw [wz_btw h1 (by decide) (by decide), wz_btw h2 (by decide) (by decide)]; decide
  refine ⟨?_, ?_, ?_, ?_⟩
  · show wzA (tb.map stp) + 3 ≤ 100
    have := wzA_le (n := 17) fun d hd => (hw d hd).1
    rw [List.length_map] at this
    omega
  · show PyData.depthAll (tb.map stp) + 1 ≤ 3
    have := depthAll_le (n := 1) fun d hd => (hw d hd).2.1
    omega
  · exact hasDictAll_ff fun d hd => (hw d hd).2.2.1
  · exact noLsA_all fun d hd => (hw d hd).2.2.2
theorem small_parts {p : Page} (h : p.ok = true) : ∀ d ∈ p.parts, Small 100 d := by
  have up : ∀ {d}, Small 5 d → Small 100 d := fun h => ⟨Nat.le_trans h.w (by decide), h.d, h.h, h.l⟩
  intro d hd
  cases p with
  | table k tb t =>
    simp only [Page.ok, Bool.and_eq_true] at h
    rcases (by simpa [Page.parts] using hd : d = _ ∨ d = _ ∨ d = _) with rfl | rfl | rfl
    · exact up (small_int h.1.1 (by decide) (by decide))
    · exact small_tab h.1.2
    · exact up (small_int h.2 (by decide) (by decide))
  | give l t p g s a f =>
    simp only [Page.ok, Bool.and_eq_true] at h
    rcases (by simpa [Page.parts] using hd : d = _ ∨ d = _ ∨ d = _ ∨ d = _ ∨ d = _ ∨ d = _ ∨ d = _) with rfl | rfl | rfl | rfl | rfl | rfl | rfl
    · exact up (small_int h.1.1.1.1.1.1.1 (by decide) (by decide))
    · exact up (small_int h.1.1.1.1.1.1.2 (by decide) (by decide))
    · exact up (small_int h.1.1.1.1.1.2 (by decide) (by decide))
    · exact up (small_int h.1.1.1.1.2 (by decide) (by decide))
    · exact up (small_int h.1.1.2 (by decide) (by decide))
    · exact up (small_int h.1.2 (by decide) (by decide))
    · cases f with
      | none => exact ⟨by decide, by decide, rfl, rfl⟩
      | some i => exact up (small_int h.2 (by decide) (by decide))
  | road a b m t =>
    simp only [Page.ok, Bool.and_eq_true] at h
    rcases (by simpa [Page.parts] using hd : d = _ ∨ d = _ ∨ d = _ ∨ d = _) with rfl | rfl | rfl | rfl
    · exact up (small_int h.1.1.1.1 (by decide) (by decide))
    · exact up (small_int h.1.1.1.2 (by decide) (by decide))
    · exact up (small_int h.1.2 (by decide) (by decide))
    · exact up (small_int h.2 (by decide) (by decide))
  | refuse a b =>
    simp only [Page.ok, Bool.and_eq_true] at h
    rcases (by simpa [Page.parts] using hd : d = _ ∨ d = _) with rfl | rfl
    · exact up (small_int h.1 (by decide) (by decide))
    · exact up (small_int h.2 (by decide) (by decide))
  | take a b =>
    simp only [Page.ok, Bool.and_eq_true] at h
    rcases (by simpa [Page.parts] using hd : d = _ ∨ d = _) with rfl | rfl
    · exact up (small_int h.1 (by decide) (by decide))
    · exact up (small_int h.2 (by decide) (by decide))
  | right a b =>
    simp only [Page.ok, Bool.and_eq_true] at h
    rcases (by simpa [Page.parts] using hd : d = _ ∨ d = _) with rfl | rfl
    · exact up (small_int h.1 (by decide) (by decide))
    · exact up (small_int h.2 (by decide) (by decide))
  | _ =>
    simp only [Page.ok, Bool.and_eq_true] at h
    rcases (by simpa [Page.parts] using hd : d = _ ∨ d = _ ∨ d = _) with rfl | rfl | rfl
    · exact up (small_int h.1.1 (by decide) (by decide))
    · exact up (small_int h.1.2 (by decide) (by decide))
    · exact up (small_int h.2 (by decide) (by decide))
theorem parts_len (p : Page) : 2 ≤ p.parts.length ∧ p.parts.length ≤ 7 := by cases p <;> simp [Page.parts]
theorem small_word (p : Page) : Small 100 (.str p.word) := by
  cases p <;> refine ⟨?_, Nat.zero_le _, rfl, rfl⟩ <;> simp only [Page.word] <;> decide +kernel
theorem small_all {p : Page} (h : p.ok = true) : ∀ d ∈ PyData.str p.word :: p.parts, Small 100 d := fun d hd => by
  rcases List.mem_cons.mp hd with e | e
  · rw [e]; exact small_word p
  · exact small_parts h d e
/-- a tuple, a list of small things and one odd thing -/
theorem okR_seq {es : List PyData} {o : PyData} (h : ∀ e ∈ es, Small 100 e ∨ e = o) (hl : es.length ≤ 40) (ow : wz o ≤ 200) (od : o.depth ≤ 3) (oh : o.hasDict = false ∨ noLs o = true) : okR (.tuple es) = true ∧ (o.hasDict = false → okR (.list es) = true) := by
  have h1 : ∀ e ∈ es, wz e ≤ 200 := fun e he => by
    rcases h e he with q | q
    · exact Nat.le_trans q.w (by decide)
    · rw [q]; exact ow
  have h2 : PyData.depthAll es ≤ 3 := depthAll_le fun e he => by
    rcases h e he with q | q
    · exact q.d
    · rw [q]; exact od
  have h3 := wzA_le h1
  have h4 : wzA es ≤ 40 * 202 := Nat.le_trans h3 (Nat.mul_le_mul_right _ hl)
  have hd : o.hasDict = false → PyData.hasDictAll es = false := fun oh => hasDictAll_ff fun e he => by
    rcases h e he with q | q
    · exact q.h
    · rw [q]; exact oh
  constructor
  · refine okR_of (show wzA es + 3 + 64 ≤ 1000000 by omega) (show PyData.depthAll es + 1 ≤ 64 by omega) ?_
    rcases oh with oh | oh
    · exact .inl (hd oh)
    · refine .inr (noLsA_all fun e he => ?_)
      rcases h e he with q | q
      · exact q.l
      · rw [q]; exact oh
  · intro oh
    exact okR_of (show wzA es + 2 + 64 ≤ 1000000 by omega) (show PyData.depthAll es + 1 ≤ 64 by omega) (.inl (hd oh))
theorem okR_page {p : Page} (h : p.ok = true) : okR (encP p) = true :=
  (okR_seq (o := .none) (fun e he => .inl (small_all h e he)) (by have := (parts_len p).2; simp only [List.length_cons]; omega) (by decide) (by decide) (.inl rfl)).1
theorem okR_odd : ∀ d ∈ oddL, okR d = true := by decide +kernel
theorem spoil_ok : ∀ o ∈ spoilL, wz o ≤ 200 ∧ o.depth ≤ 3 ∧ (o.hasDict = false ∨ noLs o = true) := by decide +kernel
theorem okR_spoilt {p : Page} (h : p.ok = true) {d : PyData} (q : Spoilt (.str p.word :: p.parts) d) : okR d = true := by
  have hl : (PyData.str p.word :: p.parts).length ≤ 8 := by have := (parts_len p).2; simp only [List.length_cons]; omega
  cases q with
  | mix es o he hn ho =>
    obtain ⟨o1, o2, o3⟩ := spoil_ok o ho
    exact (okR_seq (fun e q => (he e q).imp (small_all h e) id) (by omega) o1 o2 o3).1
  | lst => exact (okR_seq (o := .none) (fun e q => .inl (small_all h e q)) (by omega) (by decide) (by decide) (.inl rfl)).2 rfl
  | word w es hw he hn =>
    have sw : Small 100 (.str w) := by
      have : ∀ w ∈ (["Give", "gives", "", "pays", "on "] : List Str), wz (.str w) ≤ 100 := by decide +kernel
      exact ⟨this w hw, Nat.zero_le _, rfl, rfl⟩
    refine (okR_seq (o := .none) (fun e q => .inl ?_) (by simp only [List.length_cons]; omega) (by decide) (by decide) (.inl rfl)).1
    rcases List.mem_cons.mp q with q | q
    · rw [q]; exact sw
    · exact small_all h e (he e q)
theorem opage (R : Av → Prop) (x : Str → Prop) : sp_law_page [.rg] R x ↔ ∀ p : Page, p.ok = true → R (.da (encP p)) := ⟨fun h => h.2, fun h => ⟨rfl, h⟩⟩
theorem oodd (R : Av → Prop) (x : Str → Prop) : sp_law_odd [.rg] R x ↔ ∀ d ∈ oddL, R (.da d) := ⟨fun h => h.2, fun h => ⟨rfl, h⟩⟩
theorem osameB (b : Bool) (R : Av → Prop) (x : Str → Prop) (h : R (.da (.bool true))) : sp_law_same 0 [.da (.bool b), .da (.bool b)] R x := ⟨_, rfl, rfl, h⟩
theorem sstate {ns : List Int} {k : Nat} {R : Av → Prop} {x : Str → Prop} (h : R .rg) : sp_law_state [.sc ns, .da (.int (k : Int))] R x := ⟨ns, k, rfl, h⟩
def ir_law02 : Ss := (.cons (.fgt [1, 2, 3, 4, 5, 6]) (.cons (.fr (.nm 1) (.rg1 (.blt .max2 (.cons (.cst (.int 1)) (.cons (.blt .min2 (.cons (.lsc 0) (.cons (.cst (.int 8)) .nil))) .nil)))) (.cons (.sca 2 "_law_state" sp_law_state (.cons (.var 0) (.cons (.var 1) .nil))) (.cons (.fgt [3, 4, 5, 6]) (.cons (.fr (.nm 3) (.rg1 (.cst (.int 4))) (.cons (.set 4 (.cal "_law_page" sp_law_page (.cons (.var 2) .nil))) (.cons (.fgt [5, 6]) (.cons (.fr (.nm 5) (.seq (.bin .add (.lst (.cons (.var 4) (.cons (.cal "_law_odd" sp_law_odd (.cons (.var 2) .nil)) .nil))) (.lcm (.cal "_law_spoilt" sp_law_spoilt (.cons (.var 2) (.cons (.var 4) .nil))) (.nm 7) (.rg1 (.cst (.int 4))) .nil [7]))) (.cons (.set 6 (.blt .repr (.cons (.var 5) .nil))) (.cons (.ifs (.or (.not (.cal "_law_same" (sp_law_same 0) (.cons (.cal "is_page" sp_is_page (.cons (.var 5) .nil)) (.cons (.cal "_law_good" sp_law_good_p (.cons (.var 5) .nil)) .nil)))) (.cmp .ne (.blt .repr (.cons (.var 5) .nil)) (.var 6))) (.cons (.ret (.cst (.bool false))) .nil) .nil) (.cons (.fgt [5, 6]) .nil)))) (.cons (.fgt [3, 4, 5, 6]) .nil))))) (.cons (.fgt [1, 2, 3, 4, 5, 6]) .nil))))) (.cons (.ret (.cst (.bool true))) .nil)))
theorem rgI_small {i : Int} (h : 0 ≤ i) (h2 : i ≤ 1000000) : rgI i = true := by unfold rgI; simp; omega
/-- the turns of a law's own loop -/
theorem law_turns (ns : List Int) (c : Int) (hc : 0 ≤ c) (hc2 : c ≤ 1000) {Q : Prop} (h : Q) :
    rgI (if (if c < ((ns.length : Nat) : Int) then c else (ns.length : Nat)) > 1 then if c < ((ns.length : Nat) : Int) then c else (ns.length : Nat) else 1) = true ∧ (if (if c < ((ns.length : Nat) : Int) then c else (ns.length : Nat)) > 1 then if c < ((ns.length : Nat) : Int) then c else (ns.length : Nat) else 1) ≤ (lim : Nat) ∧ Q := by
  have hl : ((lim : Nat) : Int) = 1000000 := rfl
  refine ⟨rgI_small ?_ ?_, ?_, h⟩
  · split <;> (try split) <;> omega
  · split <;> (try split) <;> omega
  · rw [hl]; split <;> (try split) <;> omega
theorem fr_same {f : PyData → En → (En → Prop) → Prop} {ρ : En} {Q : En → Prop} {n : Nat} (hf : ∀ (k : Nat) K, K ρ → f (.int (k : Nat)) ρ K) (h : Q ρ) : frW f (rgL 0 n) ρ Q := by
  rw [rgL_0, frW_at]
  exact frT_same (fun k _ K hK => hf k K hK) h
theorem fr_list {f : PyData → En → (En → Prop) → Prop} {ρ : En} {Q : En → Prop} {xs : List PyData} (hf : ∀ d ∈ xs, ∀ K, K ρ → f d ρ K) (h : Q ρ) : frW f xs ρ Q := by
  rw [frW_eq]
  exact frT_same hf h
theorem wp_law02 {ns : List Int} {x : Str → Prop} {R : Av → Prop} {N : En → Prop} (hl : ns.length ≤ 63) (h : R (.da (.bool true))) : wpSs ir_law02 x R (slots0 8 [.sc ns]) N := by
  simp only [ir_law02, omin, omax, opage, slots0, List.map_cons, List.map_nil, slotOf, List.length_cons, List.length_nil, List.replicate_succ, List.replicate_zero, List.cons_append, List.nil_append, List.append_nil, Nat.reduceAdd, Nat.reduceSub, List.getElem?_cons_zero, List.getElem?_cons_succ, List.set_cons_zero, List.set_cons_succ, wpSs, wpS, wpE, wpEs, wpBs, wpAs, wpC, wpI, wipeE, brw, brv, arg, q_v0, q_vs, q_b0, q_b1, q_bs, q_a0, q_a1, q_a2, q_as, q_s0, q_ss, q_r0, q_rs, q_asI, q_asB, q_asL, q_asT, q_nm, q_tp, q_nil, q_cons, q_rva, q_rvo, retP, setsE, frzE, oall, sl_nil, sl_int, slT_last, slL_last, ixT0, ixL0, ixT1, ixL1, ixT2, ixL2, ixT3, ixL3, ixT4, ixL4, ixT5, ixL5, ixT6, ixL6, ixT7, ixL7, ixT8, ixL8, osome, ite_t, ite_f, oadd, osub, ofdv, omod, omul, olt, ogt, ole, oge, oeqI, oneI, oeqS, oneS, oneB, oeqB, otake, ospF1, ospF2, ospF3, ospF4, lcW_at, frW_at, lcT_map, lcT_fil, ite_not, true_and, and_true, forall_const, Bool.false_eq_true, false_implies]
  refine law_turns ns 8 (by decide) (by decide) ?_
  refine fr_same (fun k K hK => ?_) h
  simp only [slots0, List.map_cons, List.map_nil, slotOf, List.length_cons, List.length_nil, List.replicate_succ, List.replicate_zero, List.cons_append, List.nil_append, List.append_nil, Nat.reduceAdd, Nat.reduceSub, List.getElem?_cons_zero, List.getElem?_cons_succ, List.set_cons_zero, List.set_cons_succ, wpSs, wpS, wpE, wpEs, wpBs, wpAs, wpC, wpI, wipeE, brw, brv, arg, q_v0, q_vs, q_b0, q_b1, q_bs, q_a0, q_a1, q_a2, q_as, q_s0, q_ss, q_r0, q_rs, q_asI, q_asB, q_asL, q_asT, q_nm, q_tp, q_nil, q_cons, q_rva, q_rvo, retP, setsE, frzE, oall, sl_nil, sl_int, slT_last, slL_last, ixT0, ixL0, ixT1, ixL1, ixT2, ixL2, ixT3, ixL3, ixT4, ixL4, ixT5, ixL5, ixT6, ixL6, ixT7, ixL7, ixT8, ixL8, osome, ite_t, ite_f, oadd, osub, ofdv, omod, omul, olt, ogt, ole, oge, oeqI, oneI, oeqS, oneS, oneB, oeqB, otake, ospF1, ospF2, ospF3, ospF4, lcW_at, frW_at, lcT_map, lcT_fil, ite_not, true_and, and_true, forall_const, Bool.false_eq_true, false_implies]
  refine sstate ⟨rfl, by decide, ?_⟩
  refine fr_same (fun t K2 hK2 => ?_) hK
  simp only [opage, oodd, slots0, List.map_cons, List.map_nil, slotOf, List.length_cons, List.length_nil, List.replicate_succ, List.replicate_zero, List.cons_append, List.nil_append, List.append_nil, Nat.reduceAdd, Nat.reduceSub, List.getElem?_cons_zero, List.getElem?_cons_succ, List.set_cons_zero, List.set_cons_succ, wpSs, wpS, wpE, wpEs, wpBs, wpAs, wpC, wpI, wipeE, brw, brv, arg, q_v0, q_vs, q_b0, q_b1, q_bs, q_a0, q_a1, q_a2, q_as, q_s0, q_ss, q_r0, q_rs, q_asI, q_asB, q_asL, q_asT, q_nm, q_tp, q_nil, q_cons, q_rva, q_rvo, retP, setsE, frzE, oall, sl_nil, sl_int, slT_last, slL_last, ixT0, ixL0, ixT1, ixL1, ixT2, ixL2, ixT3, ixL3, ixT4, ixL4, ixT5, ixL5, ixT6, ixL6, ixT7, ixL7, ixT8, ixL8, osome, ite_t, ite_f, oadd, osub, ofdv, omod, omul, olt, ogt, ole, oge, oeqI, oneI, oeqS, oneS, oneB, oeqB, otake, ospF1, ospF2, ospF3, ospF4, lcW_at, frW_at, lcT_map, lcT_fil, ite_not, true_and, and_true, forall_const, Bool.false_eq_true, false_implies]
  refine fun p hp o ho => ⟨rfl, by decide, ?_⟩
  rw [lcW_eq]
  refine lcT_P (Spoilt (.str p.word :: p.parts)) (fun d hd K hK => ?_) fun os hlen hp2 => ?_
  · refine ⟨_, rfl, by simp only [List.length_cons]; omega, by have := (parts_len p).2; simp only [List.length_cons]; omega, fun d hd => hK d hd⟩
  · have hos : ∀ d ∈ os, okR d = true := fun d hd => okR_spoilt hp (hp2 d hd)
    have hlen : os.length ≤ 4 := by rw [hlen]; exact Nat.le_of_eq (rgL_len _ _)
    rw [List.nil_append, oaddL _ _ _ (by simp only [List.length_cons, List.length_nil]; show 2 + _ ≤ 1000000; omega)]
    simp only [slots0, List.map_cons, List.map_nil, slotOf, List.length_cons, List.length_nil, List.replicate_succ, List.replicate_zero, List.cons_append, List.nil_append, List.append_nil, Nat.reduceAdd, Nat.reduceSub, List.getElem?_cons_zero, List.getElem?_cons_succ, List.set_cons_zero, List.set_cons_succ, wpSs, wpS, wpE, wpEs, wpBs, wpAs, wpC, wpI, wipeE, brw, brv, arg, q_v0, q_vs, q_b0, q_b1, q_bs, q_a0, q_a1, q_a2, q_as, q_s0, q_ss, q_r0, q_rs, q_asI, q_asB, q_asL, q_asT, q_nm, q_tp, q_nil, q_cons, q_rva, q_rvo, retP, setsE, frzE, oall, sl_nil, sl_int, slT_last, slL_last, ixT0, ixL0, ixT1, ixL1, ixT2, ixL2, ixT3, ixL3, ixT4, ixL4, ixT5, ixL5, ixT6, ixL6, ixT7, ixL7, ixT8, ixL8, osome, ite_t, ite_f, oadd, osub, ofdv, omod, omul, olt, ogt, ole, oge, oeqI, oneI, oeqS, oneS, oneB, oeqB, otake, ospF1, ospF2, ospF3, ospF4, lcW_at, frW_at, lcT_map, lcT_fil, ite_not, true_and, and_true, forall_const, Bool.false_eq_true, false_implies]
    refine fr_list (fun d hd K hK => ?_) hK2
    have hd2 : okR d = true := by
      rcases List.mem_cons.mp hd with e | hd
      · rw [e]; exact okR_page hp
      · rcases List.mem_cons.mp hd with e | hd
        · rw [e]; exact okR_odd o ho
        · exact hos d hd
    simp only [orepr _ _ hd2, sp_is_page, f_is_page, sp_law_good_p, slots0, List.map_cons, List.map_nil, slotOf, List.length_cons, List.length_nil, List.replicate_succ, List.replicate_zero, List.cons_append, List.nil_append, List.append_nil, Nat.reduceAdd, Nat.reduceSub, List.getElem?_cons_zero, List.getElem?_cons_succ, List.set_cons_zero, List.set_cons_succ, wpSs, wpS, wpE, wpEs, wpBs, wpAs, wpC, wpI, wipeE, brw, brv, arg, q_v0, q_vs, q_b0, q_b1, q_bs, q_a0, q_a1, q_a2, q_as, q_s0, q_ss, q_r0, q_rs, q_asI, q_asB, q_asL, q_asT, q_nm, q_tp, q_nil, q_cons, q_rva, q_rvo, retP, setsE, frzE, oall, sl_nil, sl_int, slT_last, slL_last, ixT0, ixL0, ixT1, ixL1, ixT2, ixL2, ixT3, ixL3, ixT4, ixL4, ixT5, ixL5, ixT6, ixL6, ixT7, ixL7, ixT8, ixL8, osome, ite_t, ite_f, oadd, osub, ofdv, omod, omul, olt, ogt, ole, oge, oeqI, oneI, oeqS, oneS, oneB, oeqB, otake, ospF1, ospF2, ospF3, ospF4, lcW_at, frW_at, lcT_map, lcT_fil, ite_not, true_and, and_true, forall_const, Bool.false_eq_true, false_implies]
    refine osameB _ _ _ ?_
    simp only [orepr _ _ hd2, sp_is_page, f_is_page, sp_law_good_p, decide_true, Bool.not_true, slots0, List.map_cons, List.map_nil, slotOf, List.length_cons, List.length_nil, List.replicate_succ, List.replicate_zero, List.cons_append, List.nil_append, List.append_nil, Nat.reduceAdd, Nat.reduceSub, List.getElem?_cons_zero, List.getElem?_cons_succ, List.set_cons_zero, List.set_cons_succ, wpSs, wpS, wpE, wpEs, wpBs, wpAs, wpC, wpI, wipeE, brw, brv, arg, q_v0, q_vs, q_b0, q_b1, q_bs, q_a0, q_a1, q_a2, q_as, q_s0, q_ss, q_r0, q_rs, q_asI, q_asB, q_asL, q_asT, q_nm, q_tp, q_nil, q_cons, q_rva, q_rvo, retP, setsE, frzE, oall, sl_nil, sl_int, slT_last, slL_last, ixT0, ixL0, ixT1, ixL1, ixT2, ixL2, ixT3, ixL3, ixT4, ixL4, ixT5, ixL5, ixT6, ixL6, ixT7, ixL7, ixT8, ixL8, osome, ite_t, ite_f, oadd, osub, ofdv, omod, omul, olt, ogt, ole, oge, oeqI, oneI, oeqS, oneS, oneB, oeqB, otake, ospF1, ospF2, ospF3, ospF4, lcW_at, frW_at, lcT_map, lcT_fil, ite_not, true_and, and_true, forall_const, Bool.false_eq_true, false_implies]
    exact hK
end VL
/-! LG: each spec in a def's own words: its length, what is to be shown -/
namespace VL
open PySem PySem.Spec PyProof.Rows L2
def HW (sp : Spec) (ir : Ss) (n m : Nat) : Prop := (∀ as R x, sp as R x → as.length = m) ∧ ∀ as R x, sp as R x → wpSs ir x R (slots0 n as) fun _ => R (.da .none)
def spNo : Spec := fun _ _ _ => False
theorem mo_spNo : Mono spNo := fun _ _ _ _ _ h _ _ => h
theorem hw_F1 {f : List PyData → Option PyData} {ir : Ss} {n : Nat} (h : ∀ d r (x : Str → Prop) (R : Av → Prop), f [d] = some r → R (.da r) → wpSs ir x R (slots0 n [.da d]) fun _ => R (.da .none)) : HW (spF 1 false f) ir n 1 :=
  ⟨fun as R x h => len_spF h, fun as R x q => by
    obtain ⟨ds, r, rfl, hl, hf, hR⟩ := q
    match ds, hl with
    | [d], _ => exact h d r x R hf hR⟩
theorem hw_F3 {f : List PyData → Option PyData} {ir : Ss} {n : Nat} (h : ∀ a b c r (x : Str → Prop) (R : Av → Prop), f [a, b, c] = some r → R (.da r) → wpSs ir x R (slots0 n [.da a, .da b, .da c]) fun _ => R (.da .none)) : HW (spF 3 false f) ir n 3 :=
  ⟨fun as R x h => len_spF h, fun as R x q => by
    obtain ⟨ds, r, rfl, hl, hf, hR⟩ := q
    match ds, hl with
    | [a, b, c], _ => exact h a b c r x R hf hR⟩
theorem btw_args {a b c r : PyData} (h : f_is_between [a, b, c] = some r) : ∃ lo hi, b = .int lo ∧ c = .int hi ∧ r = .bool (isBtw a lo hi) := by
  unfold f_is_between at h
  split at h
  · rename_i e
    injection e with e1 e
    injection e with e2 e
    injection e with e3 _
    subst e1 e2 e3
    cases h
    exact ⟨_, _, rfl, rfl, rfl⟩
  · cases h
theorem hw_is_whole : HW sp_is_whole ir_is_whole 1 1 := hw_F1 fun d r x R hf hR => by cases hf; exact wp_is_whole hR
theorem hw_is_between : HW sp_is_between ir_is_between 3 3 := hw_F3 fun a b c r x R hf hR => by
  obtain ⟨lo, hi, rfl, rfl, rfl⟩ := btw_args hf
  exact wp_is_between hR
theorem hw_law_number : HW sp_law_number ir_law_number 3 3 := hw_F3 fun a b c r x R hf hR => by
  obtain ⟨lo, hi, rfl, rfl, rfl⟩ := btw_args hf
  exact wp_law_number hR
theorem hw_is_step : HW sp_is_step ir_is_step 1 1 := hw_F1 fun d r x R hf hR => by cases hf; exact wp_is_step hR
theorem hw_is_table : HW sp_is_table ir_is_table 4 1 := hw_F1 fun d r x R hf hR => by cases hf; exact wp_is_table hR
theorem hw_is_page : HW sp_is_page ir_is_page 4 1 := hw_F1 fun d r x R hf hR => by cases hf; exact wp_is_page hR
theorem hw_is_road : HW sp_is_road ir_is_road 6 1 := hw_F1 fun d r x R hf hR => by
  unfold f_is_road at hf
  split at hf
  · rename_i e
    injection e with e _
    subst e
    cases hf
    exact wp_is_road hR
  · cases hf
theorem hw_is_gift : HW sp_is_gift ir_is_gift 9 1 := hw_F1 fun d r x R hf hR => by
  unfold f_is_gift at hf
  split at hf
  · rename_i e
    injection e with e _
    subst e
    cases hf
    exact wp_is_gift hR
  · cases hf
theorem hw_law_table_good : HW sp_law_table_good ir_law_table_good 4 1 := hw_F1 fun d r x R hf hR => by cases hf; exact wp_law_table_good hR
theorem hw_law_good_p : HW sp_law_good_p ir_law_good_p 7 1 := hw_F1 fun d r x R hf hR => by cases hf; exact wp_law_good_p hR
theorem hw_law_cell_at : HW sp_law_cell_at ir_law_cell_at 2 2 := ⟨fun as R x ⟨ns, k, h, _⟩ => by rw [h]; rfl, fun as R x ⟨ns, k, h, q⟩ => by rw [h]; exact wp_law_cell_at q⟩
theorem hw_law_state : HW sp_law_state ir_law_state 3 2 := ⟨fun as R x ⟨ns, k, h, _⟩ => by rw [h]; rfl, fun as R x ⟨ns, k, h, q⟩ => by rw [h]; exact wp_law_state q⟩
theorem hw_law_take : HW sp_law_take ir_law_take 4 2 := ⟨fun as R x ⟨m, h, _⟩ => by rw [h]; rfl, fun as R x ⟨m, h, h1, h2, q⟩ => by rw [h]; exact wp_law_take h1 h2 q⟩
theorem hw_law_same0 : HW (sp_law_same 0) (ir_law_same spNo) 4 2 := ⟨fun as R x ⟨a, h, _⟩ => by rw [h]; rfl, fun as R x ⟨a, h, h1, q⟩ => by rw [h]; exact wp_law_same (n := 0) (fun m e => by cases e) h1 q⟩
theorem hw_law_sameS (n : Nat) : HW (sp_law_same (n + 1)) (ir_law_same (sp_law_same n)) 4 2 := ⟨fun as R x ⟨a, h, _⟩ => by rw [h]; rfl, fun as R x ⟨a, h, h1, q⟩ => by rw [h]; exact wp_law_same (n := n + 1) (fun m e => by cases e; rfl) h1 q⟩
theorem hw_law_odd : HW sp_law_odd ir_law_odd 2 1 := ⟨fun as R x ⟨h, _⟩ => by rw [h]; rfl, fun as R x ⟨h, q⟩ => by rw [h]; exact wp_law_odd q⟩
theorem hw_law_table : HW sp_law_table ir_law_table 5 1 := ⟨fun as R x ⟨h, _⟩ => by rw [h]; rfl, fun as R x ⟨h, q⟩ => by rw [h]; exact wp_law_table q⟩
theorem hw_law_page : HW sp_law_page ir_law_page 7 1 := ⟨fun as R x ⟨h, _⟩ => by rw [h]; rfl, fun as R x ⟨h, q⟩ => by rw [h]; exact wp_law_page q⟩
theorem hw_law_spoilt : HW sp_law_spoilt ir_law_spoilt 7 2 := ⟨fun as R x ⟨ds, h, _⟩ => by rw [h]; rfl, fun as R x ⟨ds, h, h1, h2, q⟩ => by rw [h]; exact wp_law_spoilt h1 h2 q⟩
theorem hw_law02 : HW (spLaw 63) ir_law02 8 1 := ⟨fun as R x ⟨ns, h, _⟩ => by rw [h]; rfl, fun as R x ⟨ns, h, hl, q⟩ => by rw [h]; exact wp_law02 hl q⟩
theorem mo_spLaw {n : Nat} : Mono (spLaw n) := fun _ _ _ _ _ ⟨ns, h1, h2, h3⟩ hr _ => ⟨ns, h1, h2, hr _ h3⟩
theorem mo_is_whole : Mono sp_is_whole := mo_spF
theorem mo_is_between : Mono sp_is_between := mo_spF
theorem mo_is_step : Mono sp_is_step := mo_spF
theorem mo_is_table : Mono sp_is_table := mo_spF
theorem mo_is_road : Mono sp_is_road := mo_spF
theorem mo_is_gift : Mono sp_is_gift := mo_spF
theorem mo_is_page : Mono sp_is_page := mo_spF
theorem mo_law_number : Mono sp_law_number := mo_spF
theorem mo_law_table_good : Mono sp_law_table_good := mo_spF
theorem mo_law_good_p : Mono sp_law_good_p := mo_spF
/-! ### defs by their data -/
theorem call_hw {M : Md} {k : Nat} {y qual : Str} {params : Arguments} {scope : Scope} {f : Addr} {fd : FuncData} {N ps : List Str} {vis loc cel : List Nat} {gl : List Str} {sp : Spec} {ir : Ss} {body : List Stmt} (F : FunD M.K y qual params body scope [] [] f fd) (hm : M.mg y = some (.ref f)) (hbn : Binds M.K fd ps [])
    (S : FnScope N ps scope) (ok : (VC.ok ⟨M, k, N, vis, loc, cel, gl, scope⟩) = true) (hb : VSs ⟨M, k, N, vis, loc, cel, gl, scope⟩ body ir) (hw : HW sp ir N.length ps.length) : Callable M (k + 1) y sp :=
  call_of F hm hbn S ok hb hw.1 hw.2
theorem call_no {M : Md} {k : Nat} {y qual : Str} {params : Arguments} {scope : Scope} {f : Addr} {fd : FuncData} {ps : List Str} {body : List Stmt} (F : FunD M.K y qual params body scope [] [] f fd) (hm : M.mg y = some (.ref f)) (hbn : Binds M.K fd ps []) : Callable M k y spNo :=
  ⟨f, fd, ps, hm, F.kp, hbn, fun vs H Q E ⟨_, _, _, _, h⟩ => h.elim, fun A outer s H args us vs Q E _ _ _ _ _ ⟨_, _, _, _, h⟩ => h.elim⟩
end VL
set_option maxHeartbeats 0
namespace VL
open PySem PySem.Spec PyProof.Rows L2
def top (i : Nat) : Stmt := PySem.Challenge.pw_milepence_k02_pages_looked_at.main.body.getD i (.Pass ⟨0, 0, 0, 0⟩)
structure Fx (M : Md) : Prop where
  f_all : M.mg "all" = none
  f_bool : M.mg "bool" = none
  f_int : M.mg "int" = none
  f_isinstance : M.mg "isinstance" = none
  f_len : M.mg "len" = none
  f_list : M.mg "list" = none
  f_max : M.mg "max" = none
  f_min : M.mg "min" = none
  f_range : M.mg "range" = none
  f_repr : M.mg "repr" = none
  f_str : M.mg "str" = none
  f_tuple : M.mg "tuple" = none
  f_zip : M.mg "zip" = none
  g_BOUNDS : Gldb M "BOUNDS" d_BOUNDS
  g_FRANKERS : Glob M "FRANKERS" (.int 2)
  g_LAST : Glob M "LAST" (.int 30)
  g_LETTERS : Glob M "LETTERS" (.int 7)
  g_POSTS : Glob M "POSTS" (.int 5)
  g_SIZES : Gldb M "SIZES" d_SIZES
abbrev N_is_whole : List Str := ["thing"]
abbrev cx_is_whole (M : Md) (k : Nat) : VC := ⟨M, k, N_is_whole, [0], [], [], ["isinstance", "int", "bool"], defScope (top 6)⟩
theorem bd_is_whole {M : Md} {k : Nat} (F : Fx M) : VSs (cx_is_whole M k) (defBody (top 6)) ir_is_whole :=
  (ss_cons (s_ret (r_of (e_and (e_isi .int ⟨0, rfl, F.f_isinstance⟩ ⟨1, rfl, F.f_int⟩ (b_var rfl rfl)) (e_one (e_not (e_isi .bool ⟨0, rfl, F.f_isinstance⟩ ⟨2, rfl, F.f_bool⟩ (b_var rfl rfl))))))) ss_nil)
theorem sc_is_whole : FnScope N_is_whole ["thing"] (defScope (top 6)) := ⟨rfl, rfl, rfl, by decide +kernel, rfl, by decide +kernel, by decide +kernel⟩
theorem call_is_whole {M : Md} {k : Nat} (F : Fx M) {f : Addr} {fd : FuncData} (FD : FunD M.K "is_whole" "is_whole" (defArgs (top 6)) (defBody (top 6)) (defScope (top 6)) [] [] f fd) (hm : M.mg "is_whole" = some (.ref f)) : Callable M (k + 1) "is_whole" (sp_is_whole) :=
  call_hw (N := N_is_whole) (ps := ["thing"]) FD hm (FD.bindsN fun _ _ _ _ _ _ us hl => match us, hl with | [_], _ => rfl) sc_is_whole rfl (bd_is_whole F ) hw_is_whole
abbrev N_is_between : List Str := ["thing", "least", "most"]
abbrev cx_is_between (M : Md) (k : Nat) : VC := ⟨M, k, N_is_between, [0, 1, 2], [], [], ["is_whole"], defScope (top 7)⟩
theorem bd_is_between {M : Md} {k : Nat} (F : Fx M) (C_is_whole : Callable M k "is_whole" sp_is_whole) : VSs (cx_is_between M k) (defBody (top 7)) ir_is_between :=
  (ss_cons (s_ret (r_of (e_and (e_cal 0 mo_is_whole C_is_whole rfl (as_cons (a_var rfl rfl) as_nil)) (e_one (e_chn .le .le (e_var rfl rfl) (e_var rfl rfl) (e_var rfl rfl) (by with_unfolding_all rfl)))))) ss_nil)
theorem sc_is_between : FnScope N_is_between ["thing", "least", "most"] (defScope (top 7)) := ⟨rfl, rfl, rfl, by decide +kernel, rfl, by decide +kernel, by decide +kernel⟩
theorem call_is_between {M : Md} {k : Nat} (F : Fx M) {f : Addr} {fd : FuncData} (FD : FunD M.K "is_between" "is_between" (defArgs (top 7)) (defBody (top 7)) (defScope (top 7)) [] [] f fd) (hm : M.mg "is_between" = some (.ref f)) (C_is_whole : Callable M k "is_whole" sp_is_whole) : Callable M (k + 1) "is_between" (sp_is_between) :=
  call_hw (N := N_is_between) (ps := ["thing", "least", "most"]) FD hm (FD.bindsN fun _ _ _ _ _ _ us hl => match us, hl with | [_, _, _], _ => rfl) sc_is_between rfl (bd_is_between F C_is_whole) hw_is_between
abbrev N_is_step : List Str := ["thing"]
abbrev cx_is_step (M : Md) (k : Nat) : VC := ⟨M, k, N_is_step, [0], [], [], ["isinstance", "tuple", "len", "is_between"], defScope (top 8)⟩
theorem bd_is_step {M : Md} {k : Nat} (F : Fx M) (C_is_between : Callable M k "is_between" sp_is_between) : VSs (cx_is_step M k) (defBody (top 8)) ir_is_step :=
  (ss_cons (s_ifs (t_w (w_or (t_not (t_val (e_isi .tuple ⟨0, rfl, F.f_isinstance⟩ ⟨1, rfl, F.f_tuple⟩ (b_var rfl rfl)))) (w_or1 (t_cmp .ne (b_of (e_blt .len ⟨2, rfl, F.f_len⟩ (bs_cons (v_var rfl rfl) bs_nil))) (b_of e_int) (mark_of _ ⟨(by decide), (by decide)⟩))))) (ss_cons (s_ret (r_of e_bl)) ss_nil) ss_nil) (ss_cons (s_ret (r_of (e_and (e_cal 3 mo_is_between C_is_between rfl (as_cons (a_of (e_sub (b_var rfl rfl) e_int (fun _ _ => rfl))) (as_cons (a_of e_int) (as_cons (a_of e_int) as_nil)))) (e_one (e_cal 3 mo_is_between C_is_between rfl (as_cons (a_of (e_sub (b_var rfl rfl) e_int (fun _ _ => rfl))) (as_cons (a_of e_int) (as_cons (a_of e_int) as_nil)))))))) ss_nil))
theorem sc_is_step : FnScope N_is_step ["thing"] (defScope (top 8)) := ⟨rfl, rfl, rfl, by decide +kernel, rfl, by decide +kernel, by decide +kernel⟩
theorem call_is_step {M : Md} {k : Nat} (F : Fx M) {f : Addr} {fd : FuncData} (FD : FunD M.K "is_step" "is_step" (defArgs (top 8)) (defBody (top 8)) (defScope (top 8)) [] [] f fd) (hm : M.mg "is_step" = some (.ref f)) (C_is_between : Callable M k "is_between" sp_is_between) : Callable M (k + 1) "is_step" (sp_is_step) :=
  call_hw (N := N_is_step) (ps := ["thing"]) FD hm (FD.bindsN fun _ _ _ _ _ _ us hl => match us, hl with | [_], _ => rfl) sc_is_step rfl (bd_is_step F C_is_between) hw_is_step
abbrev N_is_table : List Str := ["thing", "step", "one", "other"]
abbrev cx_is_table (M : Md) (k : Nat) : VC := ⟨M, k, N_is_table, [0], [], [], ["isinstance", "tuple", "len", "all", "zip"], defScope (top 9)⟩
theorem bd_is_table {M : Md} {k : Nat} (F : Fx M) (C_is_step : Callable M k "is_step" sp_is_step) : VSs (cx_is_table M k) (defBody (top 9)) ir_is_table :=
  (ss_cons (s_ifs (t_w (w_or (t_not (t_val (e_isi .tuple ⟨0, rfl, F.f_isinstance⟩ ⟨1, rfl, F.f_tuple⟩ (b_var rfl rfl)))) (w_or (t_not (t_chn .le .le e_int (e_blt .len ⟨2, rfl, F.f_len⟩ (bs_cons (v_var rfl rfl) bs_nil)) e_int (by with_unfolding_all rfl))) (w_or1 (t_not (t_val (e_blt .all ⟨3, rfl, F.f_all⟩ (bs_cons (v_of (e_f (f_lcm [("step", 1)] [1] [1] ["is_step"] (by kernel_rfl) (by kernel_rfl) (i_seqB (b_var rfl rfl)) (g_nm rfl rfl) c_no (e_cal 0 mo_is_step C_is_step rfl (as_cons (a_var rfl rfl) as_nil)) rfl))) bs_nil)))))))) (ss_cons (s_ret (r_of e_bl)) ss_nil) ss_nil) (ss_cons (s_ret (r_of (e_blt .all ⟨3, rfl, F.f_all⟩ (bs_cons (v_of (e_f (f_lcm [("one", 2), ("other", 3)] [2, 3] [2, 3] [] (by kernel_rfl) (by kernel_rfl) (i_zip ⟨4, rfl, F.f_zip⟩ (e_slc (b_var rfl rfl) o_no (o_so (e_neg e_int))) (e_slc (b_var rfl rfl) (o_so e_int) o_no)) (g_tup (gs_cons (g_nm rfl rfl) (gs_cons (g_nm rfl rfl) gs_nil))) c_no (e_and (e_cmp .lt (b_of (e_sub (b_var rfl rfl) e_int (fun _ _ => rfl))) (b_of (e_sub (b_var rfl rfl) e_int (fun _ _ => rfl))) (mark_of _ ⟨(by decide), (by decide)⟩)) (e_one (e_cmp .lt (b_of (e_sub (b_var rfl rfl) e_int (fun _ _ => rfl))) (b_of (e_sub (b_var rfl rfl) e_int (fun _ _ => rfl))) (mark_of _ ⟨(by decide), (by decide)⟩)))) rfl))) bs_nil)))) ss_nil))
theorem sc_is_table : FnScope N_is_table ["thing"] (defScope (top 9)) := ⟨rfl, rfl, rfl, by decide +kernel, rfl, by decide +kernel, by decide +kernel⟩
theorem call_is_table {M : Md} {k : Nat} (F : Fx M) {f : Addr} {fd : FuncData} (FD : FunD M.K "is_table" "is_table" (defArgs (top 9)) (defBody (top 9)) (defScope (top 9)) [] [] f fd) (hm : M.mg "is_table" = some (.ref f)) (C_is_step : Callable M k "is_step" sp_is_step) : Callable M (k + 1) "is_table" (sp_is_table) :=
  call_hw (N := N_is_table) (ps := ["thing"]) FD hm (FD.bindsN fun _ _ _ _ _ _ us hl => match us, hl with | [_], _ => rfl) sc_is_table rfl (bd_is_table F C_is_step) hw_is_table
abbrev N_is_road : List Str := ["page", "word", "one", "other", "miles", "day"]
abbrev cx_is_road (M : Md) (k : Nat) : VC := ⟨M, k, N_is_road, [0, 2, 3, 4, 5], [1, 2, 3, 4, 5], [], ["POSTS", "is_between", "LAST"], defScope (top 10)⟩
theorem bd_is_road {M : Md} {k : Nat} (F : Fx M) (C_is_between : Callable M k "is_between" sp_is_between) : VSs (cx_is_road M k) (defBody (top 10)) ir_is_road :=
  (ss_cons (s_unp (g_tup (gs_cons (g_nm rfl rfl) (gs_cons (g_nm rfl rfl) (gs_cons (g_nm rfl rfl) (gs_cons (g_nm rfl rfl) (gs_cons (g_nm rfl rfl) gs_nil)))))) (e_var rfl rfl)) (ss_cons (s_ifs (t_w (w_or (t_not (t_val (e_cal 1 mo_is_between C_is_between rfl (as_cons (a_var rfl rfl) (as_cons (a_of e_int) (as_cons (a_of (e_glb (j := 0) rfl F.g_POSTS)) as_nil)))))) (w_or (t_not (t_val (e_cal 1 mo_is_between C_is_between rfl (as_cons (a_var rfl rfl) (as_cons (a_of e_int) (as_cons (a_of (e_glb (j := 0) rfl F.g_POSTS)) as_nil)))))) (w_or1 (t_cmp .ge (b_var rfl rfl) (b_var rfl rfl) (mark_of _ ⟨(by decide), (by decide)⟩)))))) (ss_cons (s_ret (r_of e_bl)) ss_nil) ss_nil) (ss_cons (s_ret (r_of (e_and (e_cal 1 mo_is_between C_is_between rfl (as_cons (a_var rfl rfl) (as_cons (a_of e_int) (as_cons (a_of e_int) as_nil)))) (e_one (e_cal 1 mo_is_between C_is_between rfl (as_cons (a_var rfl rfl) (as_cons (a_of e_int) (as_cons (a_of (e_glb (j := 2) rfl F.g_LAST)) as_nil)))))))) ss_nil)))
theorem sc_is_road : FnScope N_is_road ["page"] (defScope (top 10)) := ⟨rfl, rfl, rfl, by decide +kernel, rfl, by decide +kernel, by decide +kernel⟩
theorem call_is_road {M : Md} {k : Nat} (F : Fx M) {f : Addr} {fd : FuncData} (FD : FunD M.K "is_road" "is_road" (defArgs (top 10)) (defBody (top 10)) (defScope (top 10)) [] [] f fd) (hm : M.mg "is_road" = some (.ref f)) (C_is_between : Callable M k "is_between" sp_is_between) : Callable M (k + 1) "is_road" (sp_is_road) :=
  call_hw (N := N_is_road) (ps := ["page"]) FD hm (FD.bindsN fun _ _ _ _ _ _ us hl => match us, hl with | [_], _ => rfl) sc_is_road rfl (bd_is_road F C_is_between) hw_is_road
abbrev N_is_gift : List Str := ["page", "word", "letter", "day", "post", "goal", "sheets", "ahead", "franker"]
abbrev cx_is_gift (M : Md) (k : Nat) : VC := ⟨M, k, N_is_gift, [0, 2, 3, 4, 5, 6, 7, 8], [1, 2, 3, 4, 5, 6, 7, 8], [], ["LETTERS", "is_between", "LAST", "POSTS", "FRANKERS"], defScope (top 11)⟩
theorem bd_is_gift {M : Md} {k : Nat} (F : Fx M) (C_is_between : Callable M k "is_between" sp_is_between) : VSs (cx_is_gift M k) (defBody (top 11)) ir_is_gift :=
  (ss_cons (s_unp (g_tup (gs_cons (g_nm rfl rfl) (gs_cons (g_nm rfl rfl) (gs_cons (g_nm rfl rfl) (gs_cons (g_nm rfl rfl) (gs_cons (g_nm rfl rfl) (gs_cons (g_nm rfl rfl) (gs_cons (g_nm rfl rfl) (gs_cons (g_nm rfl rfl) gs_nil))))))))) (e_var rfl rfl)) (ss_cons (s_ifs (t_w (w_or (t_not (t_val (e_cal 1 mo_is_between C_is_between rfl (as_cons (a_var rfl rfl) (as_cons (a_of e_int) (as_cons (a_of (e_glb (j := 0) rfl F.g_LETTERS)) as_nil)))))) (w_or1 (t_not (t_val (e_cal 1 mo_is_between C_is_between rfl (as_cons (a_var rfl rfl) (as_cons (a_of e_int) (as_cons (a_of (e_glb (j := 2) rfl F.g_LAST)) as_nil))))))))) (ss_cons (s_ret (r_of e_bl)) ss_nil) ss_nil) (ss_cons (s_ifs (t_w (w_or (t_not (t_val (e_cal 1 mo_is_between C_is_between rfl (as_cons (a_var rfl rfl) (as_cons (a_of e_int) (as_cons (a_of (e_glb (j := 3) rfl F.g_POSTS)) as_nil)))))) (w_or (t_not (t_val (e_cal 1 mo_is_between C_is_between rfl (as_cons (a_var rfl rfl) (as_cons (a_of e_int) (as_cons (a_of (e_glb (j := 3) rfl F.g_POSTS)) as_nil)))))) (w_or1 (t_cmp .eq (b_var rfl rfl) (b_var rfl rfl) (mark_of _ ⟨(by decide), (by decide)⟩)))))) (ss_cons (s_ret (r_of e_bl)) ss_nil) ss_nil) (ss_cons (s_ifs (t_w (w_or (t_not (t_val (e_cal 1 mo_is_between C_is_between rfl (as_cons (a_var rfl rfl) (as_cons (a_of e_int) (as_cons (a_of e_int) as_nil)))))) (w_or1 (t_not (t_val (e_cal 1 mo_is_between C_is_between rfl (as_cons (a_var rfl rfl) (as_cons (a_of e_int) (as_cons (a_of e_int) as_nil))))))))) (ss_cons (s_ret (r_of e_bl)) ss_nil) ss_nil) (ss_cons (s_ret (r_of (e_or (e_isN (b_var rfl rfl)) (e_one (e_cal 1 mo_is_between C_is_between rfl (as_cons (a_var rfl rfl) (as_cons (a_of e_int) (as_cons (a_of (e_glb (j := 4) rfl F.g_FRANKERS)) as_nil)))))))) ss_nil)))))
theorem sc_is_gift : FnScope N_is_gift ["page"] (defScope (top 11)) := ⟨rfl, rfl, rfl, by decide +kernel, rfl, by decide +kernel, by decide +kernel⟩
theorem call_is_gift {M : Md} {k : Nat} (F : Fx M) {f : Addr} {fd : FuncData} (FD : FunD M.K "is_gift" "is_gift" (defArgs (top 11)) (defBody (top 11)) (defScope (top 11)) [] [] f fd) (hm : M.mg "is_gift" = some (.ref f)) (C_is_between : Callable M k "is_between" sp_is_between) : Callable M (k + 1) "is_gift" (sp_is_gift) :=
  call_hw (N := N_is_gift) (ps := ["page"]) FD hm (FD.bindsN fun _ _ _ _ _ _ us hl => match us, hl with | [_], _ => rfl) sc_is_gift rfl (bd_is_gift F C_is_between) hw_is_gift
abbrev N_is_page : List Str := ["thing", "part", "least", "most"]
abbrev cx_is_page (M : Md) (k : Nat) : VC := ⟨M, k, N_is_page, [0], [], [], ["isinstance", "tuple", "str", "SIZES", "len", "is_road", "is_gift", "is_between", "is_table", "LAST", "BOUNDS", "zip", "all"], defScope (top 14)⟩
theorem bd_is_page {M : Md} {k : Nat} (F : Fx M) (C_is_road : Callable M k "is_road" sp_is_road) (C_is_gift : Callable M k "is_gift" sp_is_gift) (C_is_between : Callable M k "is_between" sp_is_between) (C_is_table : Callable M k "is_table" sp_is_table) : VSs (cx_is_page M k) (defBody (top 14)) ir_is_page :=
  (ss_cons (s_ifs (t_w (w_or (t_not (t_val (e_isi .tuple ⟨0, rfl, F.f_isinstance⟩ ⟨1, rfl, F.f_tuple⟩ (b_var rfl rfl)))) (w_or (t_cmp .eq (b_var rfl rfl) (b_of (e_tup es_nil)) (mark_of _ ⟨(by decide), (by decide)⟩)) (w_or1 (t_not (t_val (e_isi .str ⟨0, rfl, F.f_isinstance⟩ ⟨2, rfl, F.f_str⟩ (b_of (e_sub (b_var rfl rfl) e_int (fun _ _ => rfl)))))))))) (ss_cons (s_ret (r_of e_bl)) ss_nil) ss_nil) (ss_cons (s_ifs (t_w (w_and (t_cmp .inn (b_of (e_sub (b_var rfl rfl) e_int (fun _ _ => rfl))) (b_gld (j := 3) rfl F.g_SIZES) rfl) (w_and1 (t_cmp .eq (b_of (e_blt .len ⟨4, rfl, F.f_len⟩ (bs_cons (v_var rfl rfl) bs_nil))) (b_of (e_bin .add (b_of (e_sub (b_gld (j := 3) rfl F.g_SIZES) (e_sub (b_var rfl rfl) e_int (fun _ _ => rfl)) (fun _ _ => rfl))) (b_of e_int))) (mark_of _ ⟨(by decide), (by decide)⟩))))) (ss_cons (s_ifs (t_cmp .eq (b_of (e_sub (b_var rfl rfl) e_int (fun _ _ => rfl))) (b_of (e_str rfl)) (mark_of _ ⟨(by decide), (by decide)⟩)) (ss_cons (s_ret (r_of (e_cal 5 mo_is_road C_is_road rfl (as_cons (a_var rfl rfl) as_nil)))) ss_nil) ss_nil) (ss_cons (s_ifs (t_cmp .eq (b_of (e_sub (b_var rfl rfl) e_int (fun _ _ => rfl))) (b_of (e_str rfl)) (mark_of _ ⟨(by decide), (by decide)⟩)) (ss_cons (s_ret (r_of (e_cal 6 mo_is_gift C_is_gift rfl (as_cons (a_var rfl rfl) as_nil)))) ss_nil) ss_nil) (ss_cons (s_ret (r_of (e_and (e_cal 7 mo_is_between C_is_between rfl (as_cons (a_of (e_sub (b_var rfl rfl) e_int (fun _ _ => rfl))) (as_cons (a_of e_int) (as_cons (a_of e_int) as_nil)))) (e_and (e_cal 8 mo_is_table C_is_table rfl (as_cons (a_of (e_sub (b_var rfl rfl) e_int (fun _ _ => rfl))) as_nil)) (e_one (e_cal 7 mo_is_between C_is_between rfl (as_cons (a_of (e_sub (b_var rfl rfl) e_int (fun _ _ => rfl))) (as_cons (a_of e_int) (as_cons (a_of (e_glb (j := 9) rfl F.g_LAST)) as_nil))))))))) ss_nil))) ss_nil) (ss_cons (s_ifs (t_w (w_or (t_cmp .nin (b_of (e_sub (b_var rfl rfl) e_int (fun _ _ => rfl))) (b_gld (j := 10) rfl F.g_BOUNDS) rfl) (w_or1 (t_cmp .ne (b_of (e_blt .len ⟨4, rfl, F.f_len⟩ (bs_cons (v_var rfl rfl) bs_nil))) (b_of (e_bin .add (b_of (e_blt .len ⟨4, rfl, F.f_len⟩ (bs_cons (v_of (e_sub (b_gld (j := 10) rfl F.g_BOUNDS) (e_sub (b_var rfl rfl) e_int (fun _ _ => rfl)) (fun _ _ => rfl))) bs_nil))) (b_of e_int))) (mark_of _ ⟨(by decide), (by decide)⟩))))) (ss_cons (s_ret (r_of e_bl)) ss_nil) ss_nil) (ss_cons (s_ret (r_of (e_blt .all ⟨12, rfl, F.f_all⟩ (bs_cons (v_of (e_f (f_lcm [("part", 1), ("least", 2), ("most", 3)] [1, 2, 3] [1, 2, 3] ["is_between"] (by kernel_rfl) (by kernel_rfl) (i_zip ⟨11, rfl, F.f_zip⟩ (e_slc (b_var rfl rfl) (o_so e_int) o_no) (e_sub (b_gld (j := 10) rfl F.g_BOUNDS) (e_sub (b_var rfl rfl) e_int (fun _ _ => rfl)) (fun _ _ => rfl))) (g_tup (gs_cons (g_nm rfl rfl) (gs_cons (g_tup (gs_cons (g_nm rfl rfl) (gs_cons (g_nm rfl rfl) gs_nil))) gs_nil))) c_no (e_cal 0 mo_is_between C_is_between rfl (as_cons (a_var rfl rfl) (as_cons (a_var rfl rfl) (as_cons (a_var rfl rfl) as_nil)))) rfl))) bs_nil)))) ss_nil))))
theorem sc_is_page : FnScope N_is_page ["thing"] (defScope (top 14)) := ⟨rfl, rfl, rfl, by decide +kernel, rfl, by decide +kernel, by decide +kernel⟩
theorem call_is_page {M : Md} {k : Nat} (F : Fx M) {f : Addr} {fd : FuncData} (FD : FunD M.K "is_page" "is_page" (defArgs (top 14)) (defBody (top 14)) (defScope (top 14)) [] [] f fd) (hm : M.mg "is_page" = some (.ref f)) (C_is_road : Callable M k "is_road" sp_is_road) (C_is_gift : Callable M k "is_gift" sp_is_gift) (C_is_between : Callable M k "is_between" sp_is_between) (C_is_table : Callable M k "is_table" sp_is_table) : Callable M (k + 1) "is_page" (sp_is_page) :=
  call_hw (N := N_is_page) (ps := ["thing"]) FD hm (FD.bindsN fun _ _ _ _ _ _ us hl => match us, hl with | [_], _ => rfl) sc_is_page rfl (bd_is_page F C_is_road C_is_gift C_is_between C_is_table) hw_is_page
abbrev N_law_cell_at : List Str := ["_law_script", "_law_k"]
abbrev cx_law_cell_at (M : Md) (k : Nat) : VC := ⟨M, k, N_law_cell_at, [0, 1], [], [], ["len"], defScope (top 16)⟩
theorem bd_law_cell_at {M : Md} {k : Nat} (F : Fx M) : VSs (cx_law_cell_at M k) (defBody (top 16)) ir_law_cell_at :=
  (ss_cons (s_ifs (t_cmp .lt (b_var rfl rfl) (b_of (e_lsc ⟨0, rfl, F.f_len⟩ rfl rfl)) (mark_of _ ⟨(by decide), (by decide)⟩)) (ss_cons (s_ret (r_of (e_isc rfl rfl (e_var rfl rfl) (fun _ _ => rfl)))) ss_nil) ss_nil) (ss_cons (s_ret (r_of e_int)) ss_nil))
theorem sc_law_cell_at : FnScope N_law_cell_at ["_law_script", "_law_k"] (defScope (top 16)) := ⟨rfl, rfl, rfl, by decide +kernel, rfl, by decide +kernel, by decide +kernel⟩
theorem call_law_cell_at {M : Md} {k : Nat} (F : Fx M) {f : Addr} {fd : FuncData} (FD : FunD M.K "_law_cell_at" "_law_cell_at" (defArgs (top 16)) (defBody (top 16)) (defScope (top 16)) [] [] f fd) (hm : M.mg "_law_cell_at" = some (.ref f)) : Callable M (k + 1) "_law_cell_at" (sp_law_cell_at) :=
  call_hw (N := N_law_cell_at) (ps := ["_law_script", "_law_k"]) FD hm (FD.bindsN fun _ _ _ _ _ _ us hl => match us, hl with | [_, _], _ => rfl) sc_law_cell_at rfl (bd_law_cell_at F ) hw_law_cell_at
abbrev N_law_state : List Str := ["_law_script", "_law_k", "_law_cell"]
abbrev cx_law_state (M : Md) (k : Nat) : VC := ⟨M, k, N_law_state, [0, 1, 2], [2], [], ["_law_cell_at", "max"], defScope (top 17)⟩
theorem bd_law_state {M : Md} {k : Nat} (F : Fx M) (C_law_cell_at : Callable M k "_law_cell_at" sp_law_cell_at) : VSs (cx_law_state M k) (defBody (top 17)) ir_law_state :=
  (ss_cons (s_set rfl rfl (e_cal 0 mo_law_cell_at C_law_cell_at rfl (as_cons (a_var rfl rfl) (as_cons (a_var rfl rfl) as_nil)))) (ss_cons (s_rtg (f_lst (es_cons (e_blt .max2 ⟨1, rfl, F.f_max⟩ (bs_cons (v_of e_int) (bs_cons (v_of (e_bin .sub (b_var rfl rfl) (b_of (e_bin .pow (b_of e_int) (b_of e_int))))) bs_nil))) (es_cons (e_bin .mod (b_var rfl rfl) (b_of e_int)) es_nil)))) ss_nil))
theorem sc_law_state : FnScope N_law_state ["_law_script", "_law_k"] (defScope (top 17)) := ⟨rfl, rfl, rfl, by decide +kernel, rfl, by decide +kernel, by decide +kernel⟩
theorem call_law_state {M : Md} {k : Nat} (F : Fx M) {f : Addr} {fd : FuncData} (FD : FunD M.K "_law_state" "_law_state" (defArgs (top 17)) (defBody (top 17)) (defScope (top 17)) [] [] f fd) (hm : M.mg "_law_state" = some (.ref f)) (C_law_cell_at : Callable M k "_law_cell_at" sp_law_cell_at) : Callable M (k + 1) "_law_state" (sp_law_state) :=
  call_hw (N := N_law_state) (ps := ["_law_script", "_law_k"]) FD hm (FD.bindsN fun _ _ _ _ _ _ us hl => match us, hl with | [_, _], _ => rfl) sc_law_state rfl (bd_law_state F C_law_cell_at) hw_law_state
abbrev N_law_take : List Str := ["_law_state_here", "_law_many", "_law_found", "_law_stirred"]
abbrev cx_law_take (M : Md) (k : Nat) : VC := ⟨M, k, N_law_take, [0, 1, 2, 3], [2, 3], [], [], defScope (top 18)⟩
theorem bd_law_take {M : Md} {k : Nat} (F : Fx M) : VSs (cx_law_take M k) (defBody (top 18)) ir_law_take :=
  (ss_cons (s_ifs (t_cmp .gt (b_of (e_rgx false rfl rfl rfl (fun _ _ => rfl))) (b_of e_int) (mark_of _ ⟨(by decide), (by decide)⟩)) (ss_cons (s_set rfl rfl (e_bin .mod (b_of (e_rgx false rfl rfl rfl (fun _ _ => rfl))) (b_var rfl rfl))) (ss_cons (s_rgp false rfl rfl rfl (e_bin .fdv (b_of (e_rgx false rfl rfl rfl (fun _ _ => rfl))) (b_var rfl rfl))) (ss_cons (s_ret (r_var rfl rfl)) ss_nil))) ss_nil) (ss_cons (s_rgp true rfl rfl rfl (e_bin .mod (b_of (e_bin .add (b_of (e_bin .mul (b_of (e_rgx true rfl rfl rfl (fun _ _ => rfl))) (b_of e_int))) (b_of e_int))) (b_of e_int))) (ss_cons (s_set rfl rfl (e_bin .mod (b_of (e_bin .add (b_of (e_bin .add (b_of (e_bin .mul (b_of (e_rgx true rfl rfl rfl (fun _ _ => rfl))) (b_of (e_rgx true rfl rfl rfl (fun _ _ => rfl))))) (b_of (e_bin .mul (b_of e_int) (b_of (e_rgx true rfl rfl rfl (fun _ _ => rfl))))))) (b_of e_int))) (b_of e_int))) (ss_cons (s_set rfl rfl (e_bin .mod (b_of (e_bin .add (b_of (e_bin .mul (b_var rfl rfl) (b_var rfl rfl))) (b_of (e_bin .mul (b_of e_int) (b_var rfl rfl))))) (b_of e_int))) (ss_cons (s_ret (r_of (e_bin .mod (b_of (e_bin .fdv (b_var rfl rfl) (b_of e_int))) (b_var rfl rfl)))) ss_nil)))))
theorem sc_law_take : FnScope N_law_take ["_law_state_here", "_law_many"] (defScope (top 18)) := ⟨rfl, rfl, rfl, by decide +kernel, rfl, by decide +kernel, by decide +kernel⟩
theorem call_law_take {M : Md} {k : Nat} (F : Fx M) {f : Addr} {fd : FuncData} (FD : FunD M.K "_law_take" "_law_take" (defArgs (top 18)) (defBody (top 18)) (defScope (top 18)) [] [] f fd) (hm : M.mg "_law_take" = some (.ref f)) : Callable M (k + 1) "_law_take" (sp_law_take) :=
  call_hw (N := N_law_take) (ps := ["_law_state_here", "_law_many"]) FD hm (FD.bindsN fun _ _ _ _ _ _ us hl => match us, hl with | [_, _], _ => rfl) sc_law_take rfl (bd_law_take F ) hw_law_take
abbrev N_law_same : List Str := ["_law_found", "_law_due", "_law_one", "_law_other"]
abbrev cx_law_same (M : Md) (k : Nat) : VC := ⟨M, k, N_law_same, [0, 1], [], [], ["list", "tuple", "isinstance", "len", "zip", "all", "bool"], defScope (top 19)⟩
theorem bd_law_same {M : Md} {k : Nat} (F : Fx M) {sp_law_same : Spec} (mo_law_same : Mono sp_law_same) (C_law_same : Callable M k "_law_same" sp_law_same) : VSs (cx_law_same M k) (defBody (top 19)) (ir_law_same sp_law_same) :=
  (ss_cons (s_ifs (t_val (e_isiT ⟨2, rfl, F.f_isinstance⟩ (ty_cons .tuple ⟨1, rfl, F.f_tuple⟩ (ty_cons .list ⟨0, rfl, F.f_list⟩ ty_nil)) rfl (b_var rfl rfl))) (ss_cons (s_ifs (t_w (w_or (t_cmp .ne (b_of (e_isi .tuple ⟨2, rfl, F.f_isinstance⟩ ⟨1, rfl, F.f_tuple⟩ (b_var rfl rfl))) (b_of (e_isi .tuple ⟨2, rfl, F.f_isinstance⟩ ⟨1, rfl, F.f_tuple⟩ (b_var rfl rfl))) (mark_of _ ⟨(by decide), (by decide)⟩)) (w_or1 (t_cmp .ne (b_of (e_isi .list ⟨2, rfl, F.f_isinstance⟩ ⟨0, rfl, F.f_list⟩ (b_var rfl rfl))) (b_of (e_isi .list ⟨2, rfl, F.f_isinstance⟩ ⟨0, rfl, F.f_list⟩ (b_var rfl rfl))) (mark_of _ ⟨(by decide), (by decide)⟩))))) (ss_cons (s_ret (r_of e_bl)) ss_nil) ss_nil) (ss_cons (s_ret (r_of (e_and (e_cmp .eq (b_of (e_blt .len ⟨3, rfl, F.f_len⟩ (bs_cons (v_var rfl rfl) bs_nil))) (b_of (e_blt .len ⟨3, rfl, F.f_len⟩ (bs_cons (v_var rfl rfl) bs_nil))) (mark_of _ ⟨(by decide), (by decide)⟩)) (e_one (e_blt .all ⟨5, rfl, F.f_all⟩ (bs_cons (v_of (e_f (f_lcm [("_law_one", 2), ("_law_other", 3)] [2, 3] [2, 3] ["_law_same"] (by kernel_rfl) (by kernel_rfl) (i_zip ⟨4, rfl, F.f_zip⟩ (e_var rfl rfl) (e_var rfl rfl)) (g_tup (gs_cons (g_nm rfl rfl) (gs_cons (g_nm rfl rfl) gs_nil))) c_no (e_cal 0 mo_law_same C_law_same rfl (as_cons (a_var rfl rfl) (as_cons (a_var rfl rfl) as_nil))) rfl))) bs_nil)))))) ss_nil)) ss_nil) (ss_cons (s_ret (r_of (e_and (e_cmp .eq (b_of (e_isi .bool ⟨2, rfl, F.f_isinstance⟩ ⟨6, rfl, F.f_bool⟩ (b_var rfl rfl))) (b_of (e_isi .bool ⟨2, rfl, F.f_isinstance⟩ ⟨6, rfl, F.f_bool⟩ (b_var rfl rfl))) (mark_of _ ⟨(by decide), (by decide)⟩)) (e_one (e_cmp .eq (b_var rfl rfl) (b_var rfl rfl) (mark_of _ ⟨(by decide), (by decide)⟩)))))) ss_nil))
theorem sc_law_same : FnScope N_law_same ["_law_found", "_law_due"] (defScope (top 19)) := ⟨rfl, rfl, rfl, by decide +kernel, rfl, by decide +kernel, by decide +kernel⟩
theorem call_law_same {M : Md} {k : Nat} (F : Fx M) {f : Addr} {fd : FuncData} (FD : FunD M.K "_law_same" "_law_same" (defArgs (top 19)) (defBody (top 19)) (defScope (top 19)) [] [] f fd) (hm : M.mg "_law_same" = some (.ref f)) {sp_law_same : Spec} (mo_law_same : Mono sp_law_same) (C_law_same : Callable M k "_law_same" sp_law_same) {sp_own : Spec} (hw : HW sp_own (ir_law_same sp_law_same) 4 2) : Callable M (k + 1) "_law_same" (sp_own) :=
  call_hw (N := N_law_same) (ps := ["_law_found", "_law_due"]) FD hm (FD.bindsN fun _ _ _ _ _ _ us hl => match us, hl with | [_, _], _ => rfl) sc_law_same rfl (bd_law_same F mo_law_same C_law_same) hw
abbrev N_law_odd : List Str := ["_law_state_here", "_law_some"]
abbrev cx_law_odd (M : Md) (k : Nat) : VC := ⟨M, k, N_law_odd, [0, 1], [1], [], ["_law_take"], defScope (top 20)⟩
theorem bd_law_odd {M : Md} {k : Nat} (F : Fx M) (C_law_take : Callable M k "_law_take" sp_law_take) : VSs (cx_law_odd M k) (defBody (top 20)) ir_law_odd :=
  (ss_cons (s_set rfl rfl (e_f (f_lst (es_cons e_non (es_cons e_bl (es_cons e_bl (es_cons (e_neg e_int) (es_cons e_int (es_cons e_int (es_cons e_int (es_cons (e_str rfl) (es_cons (e_str rfl) (es_cons (e_str rfl) (es_cons (e_tup es_nil) (es_cons (e_f (f_lst es_nil)) (es_cons (e_f f_dis0) (es_cons (e_tup (es_cons e_int es_nil)) (es_cons (e_f (f_lst (es_cons e_int es_nil))) (es_cons (e_bin .pow (b_of e_int) (b_of e_int)) (es_cons (e_neg (e_bin .pow (b_of e_int) (b_of e_int))) es_nil)))))))))))))))))))) (ss_cons (s_set rfl rfl (e_bin .add (b_var rfl rfl) (b_of (e_f (f_lst (es_cons (e_tup (es_cons (e_str rfl) es_nil)) (es_cons (e_tup (es_cons e_int (es_cons e_int es_nil))) (es_cons (e_tup (es_cons (e_tup (es_cons e_int (es_cons e_int es_nil))) (es_cons e_int es_nil))) (es_cons (e_f (f_dis [(.inr "give")] (vd_cons (.inr "give") kd_str e_int vd_nil) (hnd := by decide))) (es_cons (e_tup (es_cons (e_str rfl) (es_cons e_int es_nil))) (es_cons (e_tup (es_cons e_bl (es_cons e_int es_nil))) (es_cons (e_tup (es_cons (e_tup (es_cons e_int (es_cons e_int es_nil))) (es_cons (e_tup (es_cons e_int (es_cons e_int es_nil))) es_nil))) (es_cons (e_str rfl) es_nil))))))))))))) (ss_cons (s_ret (r_of (e_sub (b_var rfl rfl) (e_cal 0 mo_law_take C_law_take rfl (as_cons (a_var rfl rfl) (as_cons (a_of e_int) as_nil))) (fun _ _ => rfl)))) ss_nil)))
theorem sc_law_odd : FnScope N_law_odd ["_law_state_here"] (defScope (top 20)) := ⟨rfl, rfl, rfl, by decide +kernel, rfl, by decide +kernel, by decide +kernel⟩
theorem call_law_odd {M : Md} {k : Nat} (F : Fx M) {f : Addr} {fd : FuncData} (FD : FunD M.K "_law_odd" "_law_odd" (defArgs (top 20)) (defBody (top 20)) (defScope (top 20)) [] [] f fd) (hm : M.mg "_law_odd" = some (.ref f)) (C_law_take : Callable M k "_law_take" sp_law_take) : Callable M (k + 1) "_law_odd" (sp_law_odd) :=
  call_hw (N := N_law_odd) (ps := ["_law_state_here"]) FD hm (FD.bindsN fun _ _ _ _ _ _ us hl => match us, hl with | [_], _ => rfl) sc_law_odd rfl (bd_law_odd F C_law_take) hw_law_odd
abbrev N_law_table : List Str := ["_law_state_here", "_law_miles", "_law_pence", "_law_found", "_law_turn"]
abbrev cx_law_table (M : Md) (k : Nat) : VC := ⟨M, k, N_law_table, [0, 1, 2, 3], [1, 2, 3, 4], [], ["_law_take", "range", "tuple"], defScope (top 21)⟩
theorem bd_law_table {M : Md} {k : Nat} (F : Fx M) (C_law_take : Callable M k "_law_take" sp_law_take) : VSs (cx_law_table M k) (defBody (top 21)) ir_law_table :=
  (ss_cons (s_par3 rfl rfl rfl rfl rfl rfl rfl rfl rfl (by kernel_rfl) (by kernel_rfl) (by kernel_rfl) (ps_va e_int (ps_va e_int (ps_ow (f_lst es_nil) ps_nil'))) rfl rfl rfl rfl rfl) (ss_fgt [4] (ss_cons (s_fr (g_nm rfl rfl) (i_rg1 ⟨1, rfl, F.f_range⟩ (e_bin .add (b_of e_int) (b_of (e_cal 0 mo_law_take C_law_take rfl (as_cons (a_var rfl rfl) (as_cons (a_of e_int) as_nil)))))) (ss_cons (s_par2 rfl rfl rfl rfl rfl (by kernel_rfl) (ps_va (e_bin .add (b_of (e_bin .add (b_var rfl rfl) (b_of e_int))) (b_of (e_cal 0 mo_law_take C_law_take rfl (as_cons (a_var rfl rfl) (as_cons (a_of (e_sub (b_of (e_f (f_lst (es_cons e_int (es_cons e_int es_nil))))) (e_cal 0 mo_law_take C_law_take rfl (as_cons (a_var rfl rfl) (as_cons (a_of e_int) as_nil))) (fun _ _ => rfl))) as_nil))))) (ps_va (e_bin .add (b_of (e_bin .add (b_var rfl rfl) (b_of e_int))) (b_of (e_cal 0 mo_law_take C_law_take rfl (as_cons (a_var rfl rfl) (as_cons (a_of e_int) as_nil))))) ps_nil')) rfl rfl rfl rfl) (ss_cons (s_app rfl rfl (e_tup (es_cons (e_var rfl rfl) (es_cons (e_var rfl rfl) es_nil)))) (ss_fgt [4] ss_nil)))) (ss_cons (s_ret (r_of (e_blt .tuple ⟨2, rfl, F.f_tuple⟩ (bs_cons (v_var rfl rfl) bs_nil)))) ss_nil))))
theorem sc_law_table : FnScope N_law_table ["_law_state_here"] (defScope (top 21)) := ⟨rfl, rfl, rfl, by decide +kernel, rfl, by decide +kernel, by decide +kernel⟩
theorem call_law_table {M : Md} {k : Nat} (F : Fx M) {f : Addr} {fd : FuncData} (FD : FunD M.K "_law_table" "_law_table" (defArgs (top 21)) (defBody (top 21)) (defScope (top 21)) [] [] f fd) (hm : M.mg "_law_table" = some (.ref f)) (C_law_take : Callable M k "_law_take" sp_law_take) : Callable M (k + 1) "_law_table" (sp_law_table) :=
  call_hw (N := N_law_table) (ps := ["_law_state_here"]) FD hm (FD.bindsN fun _ _ _ _ _ _ us hl => match us, hl with | [_], _ => rfl) sc_law_table rfl (bd_law_table F C_law_take) hw_law_table
abbrev N_law_page : List Str := ["_law_state_here", "_law_way", "_law_letter", "_law_day", "_law_post", "_law_other", "_law_franker"]
abbrev cx_law_page (M : Md) (k : Nat) : VC := ⟨M, k, N_law_page, [0, 1, 2, 3, 4, 5, 6], [1, 2, 3, 4, 5, 6], [], ["_law_take", "int", "max", "min", "_law_table"], defScope (top 22)⟩
theorem bd_law_page {M : Md} {k : Nat} (F : Fx M) (C_law_take : Callable M k "_law_take" sp_law_take) (C_law_table : Callable M k "_law_table" sp_law_table) : VSs (cx_law_page M k) (defBody (top 22)) ir_law_page :=
  (ss_cons (s_par3 rfl rfl rfl rfl rfl rfl rfl rfl rfl (by kernel_rfl) (by kernel_rfl) (by kernel_rfl) (ps_va (e_cal 0 mo_law_take C_law_take rfl (as_cons (a_var rfl rfl) (as_cons (a_of e_int) as_nil))) (ps_va (e_cal 0 mo_law_take C_law_take rfl (as_cons (a_var rfl rfl) (as_cons (a_of e_int) as_nil))) (ps_va (e_cal 0 mo_law_take C_law_take rfl (as_cons (a_var rfl rfl) (as_cons (a_of e_int) as_nil))) ps_nil'))) rfl rfl rfl rfl rfl) (ss_cons (s_par2 rfl rfl rfl rfl rfl (by kernel_rfl) (ps_va (e_cal 0 mo_law_take C_law_take rfl (as_cons (a_var rfl rfl) (as_cons (a_of e_int) as_nil))) (ps_va (e_cal 0 mo_law_take C_law_take rfl (as_cons (a_var rfl rfl) (as_cons (a_of e_int) as_nil))) ps_nil')) rfl rfl rfl rfl) (ss_cons (s_set rfl rfl (e_bin .add (b_var rfl rfl) (b_of (e_blt .int ⟨1, rfl, F.f_int⟩ (bs_cons (v_of (e_cmp .ge (b_var rfl rfl) (b_var rfl rfl) (mark_of _ ⟨(by decide), (by decide)⟩))) bs_nil))))) (ss_cons (s_ifs (t_cmp .eq (b_var rfl rfl) (b_of e_int) (mark_of _ ⟨(by decide), (by decide)⟩)) (ss_cons (s_ret (r_of (e_tup (es_cons (e_str rfl) (es_cons (e_blt .min2 ⟨3, rfl, F.f_min⟩ (bs_cons (v_var rfl rfl) (bs_cons (v_var rfl rfl) bs_nil))) (es_cons (e_blt .max2 ⟨2, rfl, F.f_max⟩ (bs_cons (v_var rfl rfl) (bs_cons (v_var rfl rfl) bs_nil))) (es_cons (e_cal 0 mo_law_take C_law_take rfl (as_cons (a_var rfl rfl) (as_cons (a_of e_int) as_nil))) (es_cons (e_var rfl rfl) es_nil)))))))) ss_nil) ss_nil) (ss_cons (s_ifs (t_cmp .eq (b_var rfl rfl) (b_of e_int) (mark_of _ ⟨(by decide), (by decide)⟩)) (ss_cons (s_ret (r_of (e_tup (es_cons (e_str rfl) (es_cons (e_cal 0 mo_law_take C_law_take rfl (as_cons (a_var rfl rfl) (as_cons (a_of e_int) as_nil))) (es_cons (e_cal 4 mo_law_table C_law_table rfl (as_cons (a_var rfl rfl) as_nil)) (es_cons (e_var rfl rfl) es_nil))))))) ss_nil) ss_nil) (ss_cons (s_ifs (t_cmp .eq (b_var rfl rfl) (b_of e_int) (mark_of _ ⟨(by decide), (by decide)⟩)) (ss_cons (s_ret (r_of (e_tup (es_cons (e_str rfl) (es_cons (e_cal 0 mo_law_take C_law_take rfl (as_cons (a_var rfl rfl) (as_cons (a_of e_int) as_nil))) (es_cons (e_cal 0 mo_law_take C_law_take rfl (as_cons (a_var rfl rfl) (as_cons (a_of e_int) as_nil))) (es_cons (e_var rfl rfl) es_nil))))))) ss_nil) ss_nil) (ss_cons (s_ifs (t_cmp .lt (b_var rfl rfl) (b_of e_int) (mark_of _ ⟨(by decide), (by decide)⟩)) (ss_cons (s_set rfl rfl (e_sub (b_of (e_f (f_lst (es_cons e_non (es_cons e_non (es_cons e_int (es_cons e_int (es_cons e_int es_nil)))))))) (e_cal 0 mo_law_take C_law_take rfl (as_cons (a_var rfl rfl) (as_cons (a_of e_int) as_nil))) (fun _ _ => rfl))) (ss_cons (s_ret (r_of (e_tup (es_cons (e_str rfl) (es_cons (e_var rfl rfl) (es_cons (e_var rfl rfl) (es_cons (e_var rfl rfl) (es_cons (e_var rfl rfl) (es_cons (e_bin .add (b_of e_int) (b_of (e_cal 0 mo_law_take C_law_take rfl (as_cons (a_var rfl rfl) (as_cons (a_of e_int) as_nil))))) (es_cons (e_cal 0 mo_law_take C_law_take rfl (as_cons (a_var rfl rfl) (as_cons (a_of e_int) as_nil))) (es_cons (e_var rfl rfl) es_nil))))))))))) ss_nil)) ss_nil) (ss_cons (s_ifs (t_cmp .eq (b_var rfl rfl) (b_of e_int) (mark_of _ ⟨(by decide), (by decide)⟩)) (ss_cons (s_ret (r_of (e_tup (es_cons (e_str rfl) (es_cons (e_var rfl rfl) (es_cons (e_var rfl rfl) (es_cons (e_var rfl rfl) es_nil))))))) ss_nil) ss_nil) (ss_cons (s_ifs (t_cmp .lt (b_var rfl rfl) (b_of e_int) (mark_of _ ⟨(by decide), (by decide)⟩)) (ss_cons (s_ret (r_of (e_tup (es_cons (e_sub (b_of (e_f (f_lst (es_cons (e_str rfl) (es_cons (e_str rfl) es_nil))))) (e_bin .sub (b_var rfl rfl) (b_of e_int)) (fun _ _ => rfl)) (es_cons (e_var rfl rfl) (es_cons (e_var rfl rfl) es_nil)))))) ss_nil) ss_nil) (ss_cons (s_ifs (t_cmp .eq (b_var rfl rfl) (b_of e_int) (mark_of _ ⟨(by decide), (by decide)⟩)) (ss_cons (s_ret (r_of (e_tup (es_cons (e_str rfl) (es_cons (e_var rfl rfl) (es_cons (e_cal 0 mo_law_take C_law_take rfl (as_cons (a_var rfl rfl) (as_cons (a_of e_int) as_nil))) (es_cons (e_bin .add (b_of e_int) (b_of (e_cal 0 mo_law_take C_law_take rfl (as_cons (a_var rfl rfl) (as_cons (a_of e_int) as_nil))))) es_nil))))))) ss_nil) ss_nil) (ss_cons (s_ifs (t_cmp .eq (b_var rfl rfl) (b_of e_int) (mark_of _ ⟨(by decide), (by decide)⟩)) (ss_cons (s_ret (r_of (e_tup (es_cons (e_str rfl) (es_cons (e_var rfl rfl) (es_cons (e_cal 0 mo_law_take C_law_take rfl (as_cons (a_var rfl rfl) (as_cons (a_of e_int) as_nil))) es_nil)))))) ss_nil) ss_nil) (ss_cons (s_ret (r_of (e_tup (es_cons (e_str rfl) (es_cons (e_var rfl rfl) (es_cons (e_bin .sub (b_of (e_cal 0 mo_law_take C_law_take rfl (as_cons (a_var rfl rfl) (as_cons (a_of e_int) as_nil)))) (b_of e_int)) (es_cons (e_var rfl rfl) es_nil))))))) ss_nil))))))))))))
theorem sc_law_page : FnScope N_law_page ["_law_state_here"] (defScope (top 22)) := ⟨rfl, rfl, rfl, by decide +kernel, rfl, by decide +kernel, by decide +kernel⟩
theorem call_law_page {M : Md} {k : Nat} (F : Fx M) {f : Addr} {fd : FuncData} (FD : FunD M.K "_law_page" "_law_page" (defArgs (top 22)) (defBody (top 22)) (defScope (top 22)) [] [] f fd) (hm : M.mg "_law_page" = some (.ref f)) (C_law_take : Callable M k "_law_take" sp_law_take) (C_law_table : Callable M k "_law_table" sp_law_table) : Callable M (k + 1) "_law_page" (sp_law_page) :=
  call_hw (N := N_law_page) (ps := ["_law_state_here"]) FD hm (FD.bindsN fun _ _ _ _ _ _ us hl => match us, hl with | [_], _ => rfl) sc_law_page rfl (bd_law_page F C_law_take C_law_table) hw_law_page
abbrev N_law_spoilt : List Str := ["_law_state_here", "_law_page_here", "_law_at", "_law_way", "_law_to", "_law_odd_here", "_law_rows"]
abbrev cx_law_spoilt (M : Md) (k : Nat) : VC := ⟨M, k, N_law_spoilt, [0, 1, 2, 3, 4, 5, 6], [2, 3, 4, 5, 6], [], ["len", "_law_take", "list", "tuple"], defScope (top 23)⟩
theorem bd_law_spoilt {M : Md} {k : Nat} (F : Fx M) (C_law_take : Callable M k "_law_take" sp_law_take) : VSs (cx_law_spoilt M k) (defBody (top 23)) ir_law_spoilt :=
  (ss_cons (s_par3 rfl rfl rfl rfl rfl rfl rfl rfl rfl (by kernel_rfl) (by kernel_rfl) (by kernel_rfl) (ps_va (e_cal 1 mo_law_take C_law_take rfl (as_cons (a_var rfl rfl) (as_cons (a_of (e_blt .len ⟨0, rfl, F.f_len⟩ (bs_cons (v_var rfl rfl) bs_nil))) as_nil))) (ps_va (e_cal 1 mo_law_take C_law_take rfl (as_cons (a_var rfl rfl) (as_cons (a_of e_int) as_nil))) (ps_va (e_cal 1 mo_law_take C_law_take rfl (as_cons (a_var rfl rfl) (as_cons (a_of (e_blt .len ⟨0, rfl, F.f_len⟩ (bs_cons (v_var rfl rfl) bs_nil))) as_nil))) ps_nil'))) rfl rfl rfl rfl rfl) (ss_cons (s_set rfl rfl (e_f (f_lst (es_cons (e_neg e_int) (es_cons e_int (es_cons e_int (es_cons e_int (es_cons e_int (es_cons e_int (es_cons e_int (es_cons e_int (es_cons e_int (es_cons e_bl (es_cons e_non (es_cons (e_str rfl) (es_cons (e_tup (es_cons e_int es_nil)) (es_cons (e_tup (es_cons (e_tup (es_cons e_int (es_cons e_int es_nil))) es_nil)) (es_cons e_int (es_cons (e_neg e_int) (es_cons (e_f (f_lst (es_cons e_int es_nil))) (es_cons (e_f (f_dis [(.inl 0)] (vd_cons (.inl 0) kd_int e_int vd_nil) (hnd := by decide))) es_nil))))))))))))))))))))) (ss_cons (s_set rfl rfl (e_sub (b_var rfl rfl) (e_cal 1 mo_law_take C_law_take rfl (as_cons (a_var rfl rfl) (as_cons (a_of e_int) as_nil))) (fun _ _ => rfl))) (ss_cons (s_ifs (t_cmp .eq (b_var rfl rfl) (b_of e_int) (mark_of _ ⟨(by decide), (by decide)⟩)) (ss_cons (s_ret (r_of (e_bin .add (b_of (e_slc (b_var rfl rfl) o_no (o_so (e_var rfl rfl)))) (b_of (e_slc (b_var rfl rfl) (o_so (e_bin .add (b_var rfl rfl) (b_of e_int))) o_no))))) ss_nil) ss_nil) (ss_cons (s_ifs (t_cmp .eq (b_var rfl rfl) (b_of e_int) (mark_of _ ⟨(by decide), (by decide)⟩)) (ss_cons (s_ret (r_of (e_bin .add (b_of (e_bin .add (b_of (e_slc (b_var rfl rfl) o_no (o_so (e_var rfl rfl)))) (b_of (e_tup (es_cons (e_var rfl rfl) es_nil))))) (b_of (e_slc (b_var rfl rfl) (o_so (e_var rfl rfl)) o_no))))) ss_nil) ss_nil) (ss_cons (s_ifs (t_cmp .eq (b_var rfl rfl) (b_of e_int) (mark_of _ ⟨(by decide), (by decide)⟩)) (ss_cons (s_sow rfl rfl (f_list ⟨2, rfl, F.f_list⟩ (bs_cons (v_var rfl rfl) bs_nil))) (ss_cons (s_pts (pt_cons rfl rfl (k_of (e_var rfl rfl)) (pt_cons rfl rfl (k_of (e_var rfl rfl)) pt_nil)) (es_cons (e_sub (b_var rfl rfl) (e_var rfl rfl) (fun _ _ => rfl)) (es_cons (e_sub (b_var rfl rfl) (e_var rfl rfl) (fun _ _ => rfl)) es_nil)) (hw := fun _ _ => swns2)) (ss_cons (s_ret (r_of (e_blt .tuple ⟨3, rfl, F.f_tuple⟩ (bs_cons (v_var rfl rfl) bs_nil)))) ss_nil))) ss_nil) (ss_cons (s_ifs (t_cmp .eq (b_var rfl rfl) (b_of e_int) (mark_of _ ⟨(by decide), (by decide)⟩)) (ss_cons (s_ret (r_of (e_sub (b_of (e_f (f_lst (es_cons (e_blt .list ⟨2, rfl, F.f_list⟩ (bs_cons (v_var rfl rfl) bs_nil)) (es_cons (e_bin .add (b_of (e_tup (es_cons (e_sub (b_of (e_f (f_lst (es_cons (e_str rfl) (es_cons (e_str rfl) (es_cons (e_str rfl) (es_cons (e_str rfl) (es_cons (e_str rfl) es_nil)))))))) (e_bin .mod (b_var rfl rfl) (b_of e_int)) (fun _ _ => rfl)) es_nil))) (b_of (e_slc (b_var rfl rfl) (o_so e_int) o_no))) (es_cons (e_bin .add (b_var rfl rfl) (b_of (e_slc (b_var rfl rfl) (o_so (e_neg e_int)) o_no))) es_nil)))))) (e_bin .mod (b_var rfl rfl) (b_of e_int)) (fun _ _ => rfl)))) ss_nil) ss_nil) (ss_cons (s_ret (r_of (e_bin .add (b_of (e_bin .add (b_of (e_slc (b_var rfl rfl) o_no (o_so (e_var rfl rfl)))) (b_of (e_tup (es_cons (e_var rfl rfl) es_nil))))) (b_of (e_slc (b_var rfl rfl) (o_so (e_bin .add (b_var rfl rfl) (b_of e_int))) o_no))))) ss_nil))))))))
theorem sc_law_spoilt : FnScope N_law_spoilt ["_law_state_here", "_law_page_here"] (defScope (top 23)) := ⟨rfl, rfl, rfl, by decide +kernel, rfl, by decide +kernel, by decide +kernel⟩
theorem call_law_spoilt {M : Md} {k : Nat} (F : Fx M) {f : Addr} {fd : FuncData} (FD : FunD M.K "_law_spoilt" "_law_spoilt" (defArgs (top 23)) (defBody (top 23)) (defScope (top 23)) [] [] f fd) (hm : M.mg "_law_spoilt" = some (.ref f)) (C_law_take : Callable M k "_law_take" sp_law_take) : Callable M (k + 1) "_law_spoilt" (sp_law_spoilt) :=
  call_hw (N := N_law_spoilt) (ps := ["_law_state_here", "_law_page_here"]) FD hm (FD.bindsN fun _ _ _ _ _ _ us hl => match us, hl with | [_, _], _ => rfl) sc_law_spoilt rfl (bd_law_spoilt F C_law_take) hw_law_spoilt
abbrev N_law_number : List Str := ["_law_thing", "_law_least", "_law_most"]
abbrev cx_law_number (M : Md) (k : Nat) : VC := ⟨M, k, N_law_number, [0, 1, 2], [], [], ["isinstance", "int", "bool"], defScope (top 24)⟩
theorem bd_law_number {M : Md} {k : Nat} (F : Fx M) : VSs (cx_law_number M k) (defBody (top 24)) ir_law_number :=
  (ss_cons (s_ret (r_of (e_and (e_isi .int ⟨0, rfl, F.f_isinstance⟩ ⟨1, rfl, F.f_int⟩ (b_var rfl rfl)) (e_and (e_not (e_isi .bool ⟨0, rfl, F.f_isinstance⟩ ⟨2, rfl, F.f_bool⟩ (b_var rfl rfl))) (e_one (e_chn .le .le (e_var rfl rfl) (e_var rfl rfl) (e_var rfl rfl) (by with_unfolding_all rfl))))))) ss_nil)
theorem sc_law_number : FnScope N_law_number ["_law_thing", "_law_least", "_law_most"] (defScope (top 24)) := ⟨rfl, rfl, rfl, by decide +kernel, rfl, by decide +kernel, by decide +kernel⟩
theorem call_law_number {M : Md} {k : Nat} (F : Fx M) {f : Addr} {fd : FuncData} (FD : FunD M.K "_law_number" "_law_number" (defArgs (top 24)) (defBody (top 24)) (defScope (top 24)) [] [] f fd) (hm : M.mg "_law_number" = some (.ref f)) : Callable M (k + 1) "_law_number" (sp_law_number) :=
  call_hw (N := N_law_number) (ps := ["_law_thing", "_law_least", "_law_most"]) FD hm (FD.bindsN fun _ _ _ _ _ _ us hl => match us, hl with | [_, _, _], _ => rfl) sc_law_number rfl (bd_law_number F ) hw_law_number
abbrev N_law_table_good : List Str := ["_law_thing", "_law_miles", "_law_pence", "_law_step"]
abbrev cx_law_table_good (M : Md) (k : Nat) : VC := ⟨M, k, N_law_table_good, [0, 1, 2, 3], [1, 2, 3], [], ["isinstance", "tuple", "len", "_law_number"], defScope (top 25)⟩
theorem bd_law_table_good {M : Md} {k : Nat} (F : Fx M) (C_law_number : Callable M k "_law_number" sp_law_number) : VSs (cx_law_table_good M k) (defBody (top 25)) ir_law_table_good :=
  (ss_cons (s_ifs (t_w (w_or (t_not (t_val (e_isi .tuple ⟨0, rfl, F.f_isinstance⟩ ⟨1, rfl, F.f_tuple⟩ (b_var rfl rfl)))) (w_or1 (t_not (t_chn .lt .lt e_int (e_blt .len ⟨2, rfl, F.f_len⟩ (bs_cons (v_var rfl rfl) bs_nil)) e_int (by with_unfolding_all rfl)))))) (ss_cons (s_ret (r_of e_bl)) ss_nil) ss_nil) (ss_cons (s_unp2 (i := 1) (j := 2) rfl rfl rfl rfl (by kernel_rfl) (g_tup (gs_cons (g_nm rfl rfl) (gs_cons (g_nm rfl rfl) gs_nil))) (e_tup (es_cons e_int (es_cons e_int es_nil))) rfl rfl rfl) (ss_fgt [3] (ss_cons (s_fr (g_nm rfl rfl) (i_seq (e_var rfl rfl)) (ss_cons (s_ifs (t_w (w_or (t_not (t_val (e_isi .tuple ⟨0, rfl, F.f_isinstance⟩ ⟨1, rfl, F.f_tuple⟩ (b_var rfl rfl)))) (w_or1 (t_cmp .ne (b_of (e_blt .len ⟨2, rfl, F.f_len⟩ (bs_cons (v_var rfl rfl) bs_nil))) (b_of e_int) (mark_of _ ⟨(by decide), (by decide)⟩))))) (ss_cons (s_ret (r_of e_bl)) ss_nil) ss_nil) (ss_cons (s_ifs (t_w (w_or (t_not (t_val (e_cal 3 mo_law_number C_law_number rfl (as_cons (a_of (e_sub (b_var rfl rfl) e_int (fun _ _ => rfl))) (as_cons (a_of (e_bin .add (b_var rfl rfl) (b_of e_int))) (as_cons (a_of e_int) as_nil)))))) (w_or1 (t_not (t_val (e_cal 3 mo_law_number C_law_number rfl (as_cons (a_of (e_sub (b_var rfl rfl) e_int (fun _ _ => rfl))) (as_cons (a_of (e_bin .add (b_var rfl rfl) (b_of e_int))) (as_cons (a_of e_int) as_nil))))))))) (ss_cons (s_ret (r_of e_bl)) ss_nil) ss_nil) (ss_cons (s_unp (g_tup (gs_cons (g_nm rfl rfl) (gs_cons (g_nm rfl rfl) gs_nil))) (e_var rfl rfl)) (ss_fgt [3] ss_nil))))) (ss_cons (s_ret (r_of e_bl)) ss_nil)))))
theorem sc_law_table_good : FnScope N_law_table_good ["_law_thing"] (defScope (top 25)) := ⟨rfl, rfl, rfl, by decide +kernel, rfl, by decide +kernel, by decide +kernel⟩
theorem call_law_table_good {M : Md} {k : Nat} (F : Fx M) {f : Addr} {fd : FuncData} (FD : FunD M.K "_law_table_good" "_law_table_good" (defArgs (top 25)) (defBody (top 25)) (defScope (top 25)) [] [] f fd) (hm : M.mg "_law_table_good" = some (.ref f)) (C_law_number : Callable M k "_law_number" sp_law_number) : Callable M (k + 1) "_law_table_good" (sp_law_table_good) :=
  call_hw (N := N_law_table_good) (ps := ["_law_thing"]) FD hm (FD.bindsN fun _ _ _ _ _ _ us hl => match us, hl with | [_], _ => rfl) sc_law_table_good rfl (bd_law_table_good F C_law_number) hw_law_table_good
abbrev N_law_good_p : List Str := ["_law_thing", "_law_day", "_law_post", "_law_letter", "_law_kinds", "_law_part", "_law_bounds"]
abbrev cx_law_good_p (M : Md) (k : Nat) : VC := ⟨M, k, N_law_good_p, [0, 1, 2, 3, 4, 5, 6], [1, 2, 3, 4, 5, 6], [], ["isinstance", "tuple", "str", "len", "zip", "_law_number", "_law_table_good"], defScope (top 26)⟩
theorem bd_law_good_p {M : Md} {k : Nat} (F : Fx M) (C_law_number : Callable M k "_law_number" sp_law_number) (C_law_table_good : Callable M k "_law_table_good" sp_law_table_good) : VSs (cx_law_good_p M k) (defBody (top 26)) ir_law_good_p :=
  (ss_cons (s_ifs (t_w (w_or (t_not (t_val (e_isi .tuple ⟨0, rfl, F.f_isinstance⟩ ⟨1, rfl, F.f_tuple⟩ (b_var rfl rfl)))) (w_or (t_cmp .eq (b_var rfl rfl) (b_of (e_tup es_nil)) (mark_of _ ⟨(by decide), (by decide)⟩)) (w_or1 (t_not (t_val (e_isi .str ⟨0, rfl, F.f_isinstance⟩ ⟨2, rfl, F.f_str⟩ (b_of (e_sub (b_var rfl rfl) e_int (fun _ _ => rfl)))))))))) (ss_cons (s_ret (r_of e_bl)) ss_nil) ss_nil) (ss_cons (s_unp3 (i := 1) (j := 2) (k := 3) rfl rfl rfl rfl rfl rfl (by kernel_rfl) (by kernel_rfl) (by kernel_rfl) (g_tup (gs_cons (g_nm rfl rfl) (gs_cons (g_nm rfl rfl) (gs_cons (g_nm rfl rfl) gs_nil)))) (e_tup (es_cons (e_tup (es_cons e_int (es_cons e_int es_nil))) (es_cons (e_tup (es_cons e_int (es_cons e_int es_nil))) (es_cons (e_tup (es_cons e_int (es_cons e_int es_nil))) es_nil)))) rfl rfl rfl rfl) (ss_cons (s_sow rfl rfl (f_dis [(.inr "road"), (.inr "table"), (.inr "franks")] (vd_cons (.inr "road") kd_str (e_f (f_lst (es_cons (e_var rfl rfl) (es_cons (e_var rfl rfl) (es_cons (e_tup (es_cons e_int (es_cons e_int es_nil))) (es_cons (e_var rfl rfl) es_nil)))))) (vd_cons (.inr "table") kd_str (e_f (f_lst (es_cons (e_tup (es_cons e_int (es_cons e_int es_nil))) (es_cons e_non (es_cons (e_var rfl rfl) es_nil))))) (vd_cons (.inr "franks") kd_str (e_f (f_lst (es_cons (e_tup (es_cons e_int (es_cons e_int es_nil))) (es_cons (e_tup (es_cons e_int (es_cons e_int es_nil))) (es_cons (e_var rfl rfl) es_nil))))) vd_nil))) (hnd := by decide))) (ss_cons (s_put rfl rfl (k_of (e_str rfl)) (e_f (f_lst (es_cons (e_var rfl rfl) (es_cons (e_var rfl rfl) (es_cons (e_var rfl rfl) (es_cons (e_var rfl rfl) (es_cons (e_tup (es_cons e_int (es_cons e_int es_nil))) (es_cons (e_tup (es_cons e_int (es_cons e_int es_nil))) (es_cons e_non es_nil)))))))))) (ss_cons (s_pts (pt_cons rfl rfl (k_of (e_str rfl)) (pt_cons rfl rfl (k_of (e_str rfl)) (pt_cons rfl rfl (k_of (e_str rfl)) pt_nil))) (es_cons (e_f (f_lst (es_cons (e_var rfl rfl) (es_cons (e_var rfl rfl) (es_cons (e_var rfl rfl) es_nil))))) (es_cons (e_f (f_lst (es_cons (e_var rfl rfl) (es_cons (e_var rfl rfl) es_nil)))) (es_cons (e_f (f_lst (es_cons (e_var rfl rfl) (es_cons (e_var rfl rfl) es_nil)))) es_nil))) (hw := fun _ _ => swns3)) (ss_cons (s_pts (pt_cons rfl rfl (k_of (e_str rfl)) (pt_cons rfl rfl (k_of (e_str rfl)) pt_nil)) (es_cons (e_f (f_lst (es_cons (e_var rfl rfl) (es_cons (e_tup (es_cons e_int (es_cons e_int es_nil))) (es_cons (e_tup (es_cons e_int (es_cons e_int es_nil))) es_nil))))) (es_cons (e_f (f_lst (es_cons (e_var rfl rfl) (es_cons (e_tup (es_cons e_int (es_cons e_int es_nil))) es_nil)))) es_nil)) (hw := fun _ _ => swns2)) (ss_cons (s_put rfl rfl (k_of (e_str rfl)) (e_f (f_lst (es_cons (e_var rfl rfl) (es_cons (e_tup (es_cons (e_neg e_int) (es_cons e_int es_nil))) (es_cons (e_var rfl rfl) es_nil)))))) (ss_cons (s_ifs (t_w (w_or (t_cmp .nin (b_of (e_sub (b_var rfl rfl) e_int (fun _ _ => rfl))) (b_var rfl rfl) rfl) (w_or1 (t_cmp .ne (b_of (e_blt .len ⟨3, rfl, F.f_len⟩ (bs_cons (v_var rfl rfl) bs_nil))) (b_of (e_bin .add (b_of e_int) (b_of (e_blt .len ⟨3, rfl, F.f_len⟩ (bs_cons (v_of (e_sub (b_var rfl rfl) (e_sub (b_var rfl rfl) e_int (fun _ _ => rfl)) (fun _ _ => rfl))) bs_nil))))) (mark_of _ ⟨(by decide), (by decide)⟩))))) (ss_cons (s_ret (r_of e_bl)) ss_nil) ss_nil) (ss_fgt [5, 6] (ss_cons (s_fr (g_tup (gs_cons (g_nm rfl rfl) (gs_cons (g_nm rfl rfl) gs_nil))) (i_zip ⟨4, rfl, F.f_zip⟩ (e_slc (b_var rfl rfl) (o_so e_int) o_no) (e_sub (b_var rfl rfl) (e_sub (b_var rfl rfl) e_int (fun _ _ => rfl)) (fun _ _ => rfl))) (ss_cons (s_ifs (t_w (w_and (t_ntN (b_var rfl rfl)) (w_and1 (t_not (t_val (e_cal 5 mo_law_number C_law_number rfl (as_cons (a_var rfl rfl) (as_cons (a_of (e_sub (b_var rfl rfl) e_int (fun _ _ => rfl))) (as_cons (a_of (e_sub (b_var rfl rfl) e_int (fun _ _ => rfl))) as_nil))))))))) (ss_cons (s_ret (r_of e_bl)) ss_nil) ss_nil) (ss_fgt [5, 6] ss_nil))) (ss_cons (s_ifs (t_cmp .eq (b_of (e_sub (b_var rfl rfl) e_int (fun _ _ => rfl))) (b_of (e_str rfl)) (mark_of _ ⟨(by decide), (by decide)⟩)) (ss_cons (s_ret (r_of (e_cmp .lt (b_of (e_sub (b_var rfl rfl) e_int (fun _ _ => rfl))) (b_of (e_sub (b_var rfl rfl) e_int (fun _ _ => rfl))) (mark_of _ ⟨(by decide), (by decide)⟩)))) ss_nil) ss_nil) (ss_cons (s_ifs (t_cmp .eq (b_of (e_sub (b_var rfl rfl) e_int (fun _ _ => rfl))) (b_of (e_str rfl)) (mark_of _ ⟨(by decide), (by decide)⟩)) (ss_cons (s_ret (r_of (e_cal 6 mo_law_table_good C_law_table_good rfl (as_cons (a_of (e_sub (b_var rfl rfl) e_int (fun _ _ => rfl))) as_nil)))) ss_nil) ss_nil) (ss_cons (s_ret (r_of (e_or (e_cmp .ne (b_of (e_sub (b_var rfl rfl) e_int (fun _ _ => rfl))) (b_of (e_str rfl)) (mark_of _ ⟨(by decide), (by decide)⟩)) (e_one (e_and (e_cmp .ne (b_of (e_sub (b_var rfl rfl) e_int (fun _ _ => rfl))) (b_of (e_sub (b_var rfl rfl) e_int (fun _ _ => rfl))) (mark_of _ ⟨(by decide), (by decide)⟩)) (e_one (e_or (e_isN (b_of (e_sub (b_var rfl rfl) e_int (fun _ _ => rfl)))) (e_one (e_cal 5 mo_law_number C_law_number rfl (as_cons (a_of (e_sub (b_var rfl rfl) e_int (fun _ _ => rfl))) (as_cons (a_of e_int) (as_cons (a_of e_int) as_nil)))))))))))) ss_nil)))))))))))))
theorem sc_law_good_p : FnScope N_law_good_p ["_law_thing"] (defScope (top 26)) := ⟨rfl, rfl, rfl, by decide +kernel, rfl, by decide +kernel, by decide +kernel⟩
theorem call_law_good_p {M : Md} {k : Nat} (F : Fx M) {f : Addr} {fd : FuncData} (FD : FunD M.K "_law_good" "_law_good" (defArgs (top 26)) (defBody (top 26)) (defScope (top 26)) [] [] f fd) (hm : M.mg "_law_good" = some (.ref f)) (C_law_number : Callable M k "_law_number" sp_law_number) (C_law_table_good : Callable M k "_law_table_good" sp_law_table_good) : Callable M (k + 1) "_law_good" (sp_law_good_p) :=
  call_hw (N := N_law_good_p) (ps := ["_law_thing"]) FD hm (FD.bindsN fun _ _ _ _ _ _ us hl => match us, hl with | [_], _ => rfl) sc_law_good_p rfl (bd_law_good_p F C_law_number C_law_table_good) hw_law_good_p
abbrev N_law02 : List Str := ["_law_script", "_law_k", "_law_state_here", "_law_turn", "_law_page_here", "_law_thing", "_law_kept", "_law_lap"]
abbrev cx_law02 (M : Md) (k : Nat) : VC := ⟨M, k, N_law02, [0, 1, 2, 4, 5, 6], [1, 3, 5, 6], [2, 4], ["len", "min", "max", "range", "_law_state", "_law_page", "_law_odd", "repr", "_law_good", "is_page", "_law_same"], defScope (top 27)⟩
theorem bd_law02 {M : Md} {k : Nat} (F : Fx M) (C_law_state : Callable M k "_law_state" sp_law_state) (C_law_page : Callable M k "_law_page" sp_law_page) (C_law_odd : Callable M k "_law_odd" sp_law_odd) (C_law_good : Callable M k "_law_good" sp_law_good_p) (C_is_page : Callable M k "is_page" sp_is_page) (C_law_same : Callable M k "_law_same" (sp_law_same 0)) (C_law_spoilt : Callable M k "_law_spoilt" sp_law_spoilt) : VSs (cx_law02 M k) (defBody (top 27)) ir_law02 :=
  (ss_fgt [1, 2, 3, 4, 5, 6] (ss_cons (s_fr (g_nm rfl rfl) (i_rg1 ⟨3, rfl, F.f_range⟩ (e_blt .max2 ⟨2, rfl, F.f_max⟩ (bs_cons (v_of e_int) (bs_cons (v_of (e_blt .min2 ⟨1, rfl, F.f_min⟩ (bs_cons (v_of (e_lsc ⟨0, rfl, F.f_len⟩ rfl rfl)) (bs_cons (v_of e_int) bs_nil)))) bs_nil)))) (ss_cons (s_sca 4 mo_law_state C_law_state rfl rfl rfl (as_cons (a_var rfl rfl) (as_cons (a_var rfl rfl) as_nil))) (ss_fgt [3, 4, 5, 6] (ss_cons (s_fr (g_nm rfl rfl) (i_rg1 ⟨3, rfl, F.f_range⟩ e_int) (ss_cons (s_set rfl rfl (e_cal 5 mo_law_page C_law_page rfl (as_cons (a_var rfl rfl) as_nil))) (ss_fgt [5, 6] (ss_cons (s_fr (g_nm rfl rfl) (i_seq (e_bin .add (b_of (e_f (f_lst (es_cons (e_var rfl rfl) (es_cons (e_cal 6 mo_law_odd C_law_odd rfl (as_cons (a_var rfl rfl) as_nil)) es_nil))))) (b_of (e_f (f_lcm [("_law_lap", 7)] [2, 4] [7] ["_law_spoilt"] (by kernel_rfl) (by kernel_rfl) (i_rg1 ⟨3, rfl, F.f_range⟩ e_int) (g_nm rfl rfl) c_no (e_cal 0 mo_law_spoilt C_law_spoilt rfl (as_cons (a_var rfl rfl) (as_cons (a_var rfl rfl) as_nil))) rfl))))) (ss_cons (s_set rfl rfl (e_blt .repr ⟨7, rfl, F.f_repr⟩ (bs_cons (v_var rfl rfl) bs_nil))) (ss_cons (s_ifs (t_w (w_or (t_not (t_val (e_cal 10 mo_law_same C_law_same rfl (as_cons (a_of (e_cal 9 mo_is_page C_is_page rfl (as_cons (a_var rfl rfl) as_nil))) (as_cons (a_of (e_cal 8 mo_law_good_p C_law_good rfl (as_cons (a_var rfl rfl) as_nil))) as_nil))))) (w_or1 (t_cmp .ne (b_of (e_blt .repr ⟨7, rfl, F.f_repr⟩ (bs_cons (v_var rfl rfl) bs_nil))) (b_var rfl rfl) (mark_of _ ⟨(by decide), (by decide)⟩))))) (ss_cons (s_ret (r_of e_bl)) ss_nil) ss_nil) (ss_fgt [5, 6] ss_nil)))) (ss_fgt [3, 4, 5, 6] ss_nil))))) (ss_fgt [1, 2, 3, 4, 5, 6] ss_nil))))) (ss_cons (s_ret (r_of e_bl)) ss_nil)))
theorem sc_law02 : FnScope N_law02 ["_law_script"] (defScope (top 27)) := ⟨rfl, rfl, rfl, by decide +kernel, rfl, by decide +kernel, by decide +kernel⟩
theorem call_law02 {M : Md} {k : Nat} (F : Fx M) {f : Addr} {fd : FuncData} (FD : FunD M.K "law" "law" (defArgs (top 27)) (defBody (top 27)) (defScope (top 27)) [] [] f fd) (hm : M.mg "law" = some (.ref f)) (C_law_state : Callable M k "_law_state" sp_law_state) (C_law_page : Callable M k "_law_page" sp_law_page) (C_law_odd : Callable M k "_law_odd" sp_law_odd) (C_law_good : Callable M k "_law_good" sp_law_good_p) (C_is_page : Callable M k "is_page" sp_is_page) (C_law_same : Callable M k "_law_same" (sp_law_same 0)) (C_law_spoilt : Callable M k "_law_spoilt" sp_law_spoilt) : Callable M (k + 1) "law" (spLaw 63) :=
  call_hw (N := N_law02) (ps := ["_law_script"]) FD hm (FD.bindsN fun _ _ _ _ _ _ us hl => match us, hl with | [_], _ => rfl) sc_law02 rfl (bd_law02 F C_law_state C_law_page C_law_odd C_law_good C_is_page C_law_same C_law_spoilt) hw_law02
def fn : List He.DefD := ([⟨("is_whole", none), "is_whole", "is_whole", defArgs (top 6), defBody (top 6), defScope (top 6), [], []⟩, ⟨("is_between", none), "is_between", "is_between", defArgs (top 7), defBody (top 7), defScope (top 7), [], []⟩, ⟨("is_step", none), "is_step", "is_step", defArgs (top 8), defBody (top 8), defScope (top 8), [], []⟩, ⟨("is_table", none), "is_table", "is_table", defArgs (top 9), defBody (top 9), defScope (top 9), [], []⟩, ⟨("is_road", none), "is_road", "is_road", defArgs (top 10), defBody (top 10), defScope (top 10), [], []⟩, ⟨("is_gift", none), "is_gift", "is_gift", defArgs (top 11), defBody (top 11), defScope (top 11), [], []⟩, ⟨("is_page", none), "is_page", "is_page", defArgs (top 14), defBody (top 14), defScope (top 14), [], []⟩, ⟨("_law_cell_at", none), "_law_cell_at", "_law_cell_at", defArgs (top 16), defBody (top 16), defScope (top 16), [], []⟩, ⟨("_law_state", none), "_law_state", "_law_state", defArgs (top 17), defBody (top 17), defScope (top 17), [], []⟩, ⟨("_law_take", none), "_law_take", "_law_take", defArgs (top 18), defBody (top 18), defScope (top 18), [], []⟩, ⟨("_law_same", none), "_law_same", "_law_same", defArgs (top 19), defBody (top 19), defScope (top 19), [], []⟩, ⟨("_law_odd", none), "_law_odd", "_law_odd", defArgs (top 20), defBody (top 20), defScope (top 20), [], []⟩, ⟨("_law_table", none), "_law_table", "_law_table", defArgs (top 21), defBody (top 21), defScope (top 21), [], []⟩, ⟨("_law_page", none), "_law_page", "_law_page", defArgs (top 22), defBody (top 22), defScope (top 22), [], []⟩, ⟨("_law_spoilt", none), "_law_spoilt", "_law_spoilt", defArgs (top 23), defBody (top 23), defScope (top 23), [], []⟩, ⟨("_law_number", none), "_law_number", "_law_number", defArgs (top 24), defBody (top 24), defScope (top 24), [], []⟩, ⟨("_law_table_good", none), "_law_table_good", "_law_table_good", defArgs (top 25), defBody (top 25), defScope (top 25), [], []⟩, ⟨("_law_good", none), "_law_good", "_law_good", defArgs (top 26), defBody (top 26), defScope (top 26), [], []⟩, ⟨("law", none), "law", "law", defArgs (top 27), defBody (top 27), defScope (top 27), [], []⟩] : List He.DefD)
def fa : List He.Fa := ([.glo "is_whole", .glo "is_between", .glo "is_step", .glo "is_table", .glo "is_road", .glo "is_gift", .glo "is_page", .glo "_law_cell_at", .glo "_law_state", .glo "_law_take", .glo "_law_same", .glo "_law_odd", .glo "_law_table", .glo "_law_page", .glo "_law_spoilt", .glo "_law_number", .glo "_law_table_good", .glo "_law_good", .glo "law", .free "all", .free "bool", .free "int", .free "isinstance", .free "len", .free "list", .free "max", .free "min", .free "range", .free "repr", .free "str"] : List He.Fa) ++ ([.free "tuple", .free "zip"] : List He.Fa)
def cs : List (Str × PyData) := ([("FRANKERS", (.int 2)), ("LAST", (.int 30)), ("LETTERS", (.int 7)), ("POSTS", (.int 5))] : List (Str × PyData))
def kv_BOUNDS : List (Str × PyData) := [("franks", (.tuple [(.tuple [(.int 0), (.int 2)]), (.tuple [(.int 0), (.int 3)]), (.tuple [(.int 0), (.int 30)])])), ("on", (.tuple [(.tuple [(.int 0), (.int 7)]), (.tuple [(.int 0), (.int 30)]), (.tuple [(.int 0), (.int 5)])])), ("refuse", (.tuple [(.tuple [(.int 0), (.int 7)]), (.tuple [(.int 0), (.int 30)])])), ("take", (.tuple [(.tuple [(.int 0), (.int 7)]), (.tuple [(.int 0), (.int 30)])])), ("short", (.tuple [(.tuple [(.int 0), (.int 7)]), (.tuple [(.int 0), (.int 3)]), (.tuple [(.int 1), (.int 99)])])), ("right", (.tuple [(.tuple [(.int 0), (.int 7)]), (.tuple [(.int 0), (.int 3)])])), ("pay", (.tuple [(.tuple [(.int 0), (.int 5)]), (.tuple [(.int (-999)), (.int 999)]), (.tuple [(.int 0), (.int 30)])]))]
def kv_SIZES : List (Str × PyData) := [("road", (.int 4)), ("table", (.int 3)), ("give", (.int 7))]
def ts : List (Str × List (Str × PyData)) := [("BOUNDS", kv_BOUNDS), ("SIZES", kv_SIZES)]
abbrev R : PySem.W.OpenRow := PySem.W.OpenLaw.row PySem.Challenge.rw_milepence_k02_pages_looked_at
abbrev hk : PySem.W.Hook := hookN 2 fa fn cs ts
def ob (s : PySem.W.SharedT) : AlN := obsNG 2 fa fn cs ts (HandSHeadRun.getT s)
theorem ob_eq (s : PySem.W.SharedT) : ob s = hk.obs s.abs := obsNG_eq (HandSHeadRun.getT_eq s)
def loose : List PySem.Str := (["is_whole", "is_between", "is_step", "is_table", "is_road", "is_gift", "is_page", "_law_cell_at", "_law_state", "_law_take", "_law_same", "_law_odd", "_law_table", "_law_page", "_law_spoilt", "_law_number", "_law_table_good", "_law_good", "BOUNDS", "FRANKERS", "LAST", "LEGS", "LETTERS", "POSTS", "SIZES"] : List PySem.Str)
theorem run_f (w : World) : HandSHeadRun.RunEq R (PySem.W.view R.prog [27]) hk ob 100000 loose (w.withFollow "special-get-raises" false) := by
  intro os
  kernel_rfl
theorem run_t (w : World) : HandSHeadRun.RunEq R (PySem.W.view R.prog [27]) hk ob 100000 loose (w.withFollow "special-get-raises" true) := by
  intro os
  kernel_rfl
theorem run (w : World) : HandSHeadRun.RunEq R (PySem.W.view R.prog [27]) hk ob 100000 loose w :=
  PySem.W.byRow2 "special-get-raises" (P := fun w => HandSHeadRun.RunEq R (PySem.W.view R.prog [27]) hk ob 100000 loose w) run_f run_t w
section
variable {P : Program} {w : World} {K : PySem.W.Frag} {h : Heap} {mg : Str → Option Value}
theorem facts_x (X : K.In h) (G : h.Ns mainGlobals mg) (c : SaysN fa fn cs ts w K) (base : Heap) : Fx ⟨P, w, K, mg, base⟩ where
  f_all := He.free_ok X G (c.fact 19)
  f_bool := He.free_ok X G (c.fact 20)
  f_int := He.free_ok X G (c.fact 21)
  f_isinstance := He.free_ok X G (c.fact 22)
  f_len := He.free_ok X G (c.fact 23)
  f_list := He.free_ok X G (c.fact 24)
  f_max := He.free_ok X G (c.fact 25)
  f_min := He.free_ok X G (c.fact 26)
  f_range := He.free_ok X G (c.fact 27)
  f_repr := He.free_ok X G (c.fact 28)
  f_str := He.free_ok X G (c.fact 29)
  f_tuple := He.free_ok X G (c.fact 30)
  f_zip := He.free_ok X G (c.fact 31)
  g_BOUNDS := c.tab X G 0 rfl (by intro z; cases z)
  g_FRANKERS := c.con X G 0 rfl
  g_LAST := c.con X G 1 rfl
  g_LETTERS := c.con X G 2 rfl
  g_POSTS := c.con X G 3 rfl
  g_SIZES := c.tab X G 1 rfl (by intro z; cases z)
theorem facts {f : Addr} (X : K.In h) (G : h.Ns mainGlobals mg) (hfa : mg ("law" : Str) = some (.ref f)) (c : SaysN fa fn cs ts w K) :
    ∃ fd : FuncData, (∀ (s : Shared) (v : Value), BindsTo s fd ⟨[v], []⟩ [("_law_script", v)]) ∧ ∀ base : Heap, K.In base → base.Ns mainGlobals mg → FnG ⟨P, w, K, mg, base⟩ 6 f fd ["_law_script"] (spOf ⟨P, w, K, mg, base⟩ (spLaw 63)) := by
  obtain ⟨d0, F0⟩ := c.def_ 0
  obtain ⟨d1, F1⟩ := c.def_ 1
  obtain ⟨d2, F2⟩ := c.def_ 2
  obtain ⟨d3, F3⟩ := c.def_ 3
  obtain ⟨d4, F4⟩ := c.def_ 4
  obtain ⟨d5, F5⟩ := c.def_ 5
  obtain ⟨d6, F6⟩ := c.def_ 6
  obtain ⟨d7, F7⟩ := c.def_ 7
  obtain ⟨d8, F8⟩ := c.def_ 8
  obtain ⟨d9, F9⟩ := c.def_ 9
  obtain ⟨d10, F10⟩ := c.def_ 10
  obtain ⟨d11, F11⟩ := c.def_ 11
  obtain ⟨d12, F12⟩ := c.def_ 12
  obtain ⟨d13, F13⟩ := c.def_ 13
  obtain ⟨d14, F14⟩ := c.def_ 14
  obtain ⟨d15, F15⟩ := c.def_ 15
  obtain ⟨d16, F16⟩ := c.def_ 16
  obtain ⟨d17, F17⟩ := c.def_ 17
  obtain ⟨d18, F18⟩ := c.def_ 18
  have e := hfa.symm.trans (He.glo_ok X G (c.fact 18 (f := .glo "law") rfl))
  cases e
  have b := FunD.bindsA (ps := ["_law_script"]) F18 fun _ _ _ _ _ _ us hl => match us, hl with | [_], _ => rfl
  refine ⟨d18, fun s v => b s [v] rfl, fun base _ _ => ?_⟩
  have Fx := facts_x (P := P) X G c base
  have C_law_cell_at := call_law_cell_at (k := 0) Fx F7 (He.glo_ok X G (c.fact 7)) 
  have C_law_state := call_law_state (k := 1) Fx F8 (He.glo_ok X G (c.fact 8)) (C_law_cell_at.mono rfl)
  have C_law_take := call_law_take (k := 0) Fx F9 (He.glo_ok X G (c.fact 9)) 
  have C_law_table := call_law_table (k := 1) Fx F12 (He.glo_ok X G (c.fact 12)) (C_law_take.mono rfl)
  have C_law_page := call_law_page (k := 2) Fx F13 (He.glo_ok X G (c.fact 13)) (C_law_take.mono rfl) (C_law_table.mono rfl)
  have C_law_odd := call_law_odd (k := 1) Fx F11 (He.glo_ok X G (c.fact 11)) (C_law_take.mono rfl)
  have C_law_number := call_law_number (k := 0) Fx F15 (He.glo_ok X G (c.fact 15)) 
  have C_law_table_good := call_law_table_good (k := 1) Fx F16 (He.glo_ok X G (c.fact 16)) (C_law_number.mono rfl)
  have C_law_good := call_law_good_p (k := 2) Fx F17 (He.glo_ok X G (c.fact 17)) (C_law_number.mono rfl) (C_law_table_good.mono rfl)
  have C_is_whole := call_is_whole (k := 0) Fx F0 (He.glo_ok X G (c.fact 0)) 
  have C_is_between := call_is_between (k := 1) Fx F1 (He.glo_ok X G (c.fact 1)) (C_is_whole.mono rfl)
  have C_is_road := call_is_road (k := 2) Fx F4 (He.glo_ok X G (c.fact 4)) (C_is_between.mono rfl)
  have C_is_gift := call_is_gift (k := 2) Fx F5 (He.glo_ok X G (c.fact 5)) (C_is_between.mono rfl)
  have C_is_step := call_is_step (k := 2) Fx F2 (He.glo_ok X G (c.fact 2)) (C_is_between.mono rfl)
  have C_is_table := call_is_table (k := 3) Fx F3 (He.glo_ok X G (c.fact 3)) (C_is_step.mono rfl)
  have C_is_page := call_is_page (k := 4) Fx F6 (He.glo_ok X G (c.fact 6)) (C_is_road.mono rfl) (C_is_gift.mono rfl) (C_is_between.mono rfl) (C_is_table.mono rfl)
  have C_law_same_0 := call_law_same (k := 0) Fx F10 (He.glo_ok X G (c.fact 10)) (mo_spNo) (call_no (ps := ["_law_found", "_law_due"]) F10 (He.glo_ok X G (c.fact 10)) (F10.bindsN fun _ _ _ _ _ _ us hl => match us, hl with | [_, _], _ => rfl))  hw_law_same0
  have C_law_same := C_law_same_0
  have C_law_spoilt := call_law_spoilt (k := 1) Fx F14 (He.glo_ok X G (c.fact 14)) (C_law_take.mono rfl)
  exact fnG_of (k := 5) (N := N_law02) F18 sc_law02 rfl (bd_law02 Fx (C_law_state.mono rfl) (C_law_page.mono rfl) (C_law_odd.mono rfl) (C_law_good.mono rfl) (C_is_page.mono rfl) (C_law_same.mono rfl) (C_law_spoilt.mono rfl)) hw_law02.1 hw_law02.2
end
end VL
open PySem PySem.W PySem.Calls PyProof.Rows
theorem PySem.Challenge.cw_milepence_k02_pages_looked_at_holds : PySem.Challenge.rw_milepence_k02_pages_looked_at.Holds := by
  w_on; o_law
  refine HandSHeadRun.head_any (r := OpenLaw.row PySem.Challenge.rw_milepence_k02_pages_looked_at) (q := view (OpenLaw.row PySem.Challenge.rw_milepence_k02_pages_looked_at).prog [27]) (H := VL.hk) (ob := VL.ob) (M := 100000) (loose := VL.loose) (d := HandSHeadRun.topDef (OpenLaw.row PySem.Challenge.rw_milepence_k02_pages_looked_at).prog 27) (kwd := []) VL.ob_eq
    (by kernel_rfl) (fun s => by kernel_rfl) VL.run (by kernel_rfl) (by kernel_rfl) (by kernel_rfl) (by rfl) (by first | assumption | decide +kernel) (by decide +kernel) ⟨rfl, rfl, rfl, rfl, rfl, by decide +kernel⟩ ?hw ?hc
  case hw => w_witness2
  case hc =>
    refine VL.walk_ofG (l := PySem.Challenge.rw_milepence_k02_pages_looked_at) (n := 63) (k := 6) (x := "_law_script") rfl (by decide) (by kernel_rfl) ⟨rfl, by decide, by decide⟩ ?F
    intro w mg fa h Y G hmg0
    obtain ⟨K, KX, c⟩ := Y
    have hmg : mg ("law" : PySem.Str) = some (.ref fa) := by
      have e : (HandSHeadRun.topDef (OpenLaw.row PySem.Challenge.rw_milepence_k02_pages_looked_at).prog 27).name = ("law" : PySem.Str) := by kernel_rfl
      rw [← e]
      exact hmg0
    obtain ⟨fd, hb, hF⟩ := VL.facts (P := (PySem.Challenge.rw_milepence_k02_pages_looked_at).prog) (w := w) KX G hmg c
    exact ⟨K, fd, KX, hb, hF⟩
