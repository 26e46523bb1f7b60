import PyProof.Rows.All
import Wide.All
import OpenK.AllK
import Wide.FinOn
import HandS.ForMost
import HandS.Walk
import HandS.IsInst
import HandS.TupAny
import HandS.TupMul
import HandS.Style
import HandS.Lambda
import KE.DataCmp
import HandS.Wide
import KE.GoesEnum
import HandS.Zip
import HandS.SortInts
import PyProof.LongRange
import PyProof.StrLawsRepr
import KE.KDictZip
import HandS.ListItems
import HandS.Conv
import HandS.ExcIs
import HandS.ExcOwn
import HandS.TryOnly
import HandS.WordsExc
import HandS.Small
import HandS.SetFor
import KE.SortData
import KE.DataMinMax
import HandS.Iter
import HandS.Deep
import PyProof.NeKinds
import PyProof.EqKinds
import PyProof.SumWalkG
import PyProof.Rows.SumAny
import KE.KDictPairs
import HandS.HeadHook3
import KE.KDictDisplayH
import KE.KDictCopyH
import KE.KDictOf
import HandS.WordsDict
import KE.KTupSum
import HandS.DictEq
import HandS.TryMany
import KE.GoesZip
import HandS.ExcInit
import HandS.ExcField
import KE.KExcIs
import HandS.CallLocal
import HandS.RaiseMore
import PySem.Challenge.RW_rowsback_k09_texts_of_none
set_option Elab.async false
set_option linter.all false
set_option maxRecDepth 100000
set_option maxHeartbeats 4000000
namespace DL
open PySem PySem.Spec PyProof.Rows L2
/-! DL1: data over the abstract heap; the pure state; the judgements. -/
abbrev D := PyData
abbrev St := L2.St
def keyD : Key → D
  | .inl i => .int i
  | .inr x => .str x
mutual
inductive Rp (K : PySem.W.Frag) (H : Hp) : V → D → Prop
  | non : Rp K H .non .none
  | bl (b : Bool) : Rp K H (.bl b) (.bool b)
  | int (i : Int) : Rp K H (.int i) (.int i)
  | str (x : Str) : Rp K H (.str x) (.str x)
  | lst {a : Addr} {vs : List V} {ds : List D} : H a = some (.lst vs) → RpA K H vs ds → Rp K H (.ref a) (.list ds)
  | tup {a : Addr} {vs : List V} {ds : List D} : H a = some (.tup vs) → RpA K H vs ds → Rp K H (.ref a) (.tuple ds)
  | dK {a : Addr} {kvs : List (Key × V)} {ds : List (D × D)} : Rd H a (.dK kvs) → RpK K H kvs ds → Rp K H (.ref a) (.dict ds)
  | dT {a : Addr} {kvs : List (List Key × V)} {ds : List (D × D)} : Rd H a (.dT kvs) → RpT K H kvs ds → Rp K H (.ref a) (.dict ds)
  /-- a tuple known to have no dict: told as a dict that cannot be -/
  | pl {a : Addr} {o : Obj} {vs : List V} {ds : List D} : H a = some (.frz o (.tup vs)) → o.dict = none → RpA K H vs ds → Rp K H (.ref a) (.dict [(.none, .tuple ds)])
inductive RpA (K : PySem.W.Frag) (H : Hp) : List V → List D → Prop
  | nil : RpA K H [] []
  | cons {v : V} {vs : List V} {d : D} {ds : List D} : Rp K H v d → RpA K H vs ds → RpA K H (v :: vs) (d :: ds)
inductive RpK (K : PySem.W.Frag) (H : Hp) : List (Key × V) → List (D × D) → Prop
  | nil : RpK K H [] []
  | cons {k : Key} {v : V} {r : List (Key × V)} {d : D} {ds : List (D × D)} : Rp K H v d → RpK K H r ds → RpK K H ((k, v) :: r) ((keyD k, d) :: ds)
inductive RpT (K : PySem.W.Frag) (H : Hp) : List (List Key × V) → List (D × D) → Prop
  | nil : RpT K H [] []
  | cons {k : List Key} {v : V} {r : List (List Key × V)} {d : D} {ds : List (D × D)} : Rp K H v d → RpT K H r ds → RpT K H ((k, v) :: r) ((.tuple (k.map keyD), d) :: ds)
end
/-- all that was tracked stays -/
abbrev Grw (H H' : Hp) : Prop := ∀ (a : Addr) (o : HO), H a = some o → H' a = some o
theorem rd_grw {H H' : Hp} {a : Addr} {u : HO} (g : Grw H H') (h : Rd H a u) : Rd H' a u := h.imp (g _ _) fun ⟨o, e⟩ => ⟨o, g _ _ e⟩
theorem Grw.refl (H : Hp) : Grw H H := fun _ _ h => h
theorem Grw.trans {H H1 H2 : Hp} (a : Grw H H1) (b : Grw H1 H2) : Grw H H2 := fun x o h => b x o (a x o h)
theorem Grw.new {H : Hp} {p : Addr} {o : HO} (h : H p = none) : Grw H (upd H p o) := fun a u e => by
  rw [upd_ne (ne_of_none e h)]; exact e
theorem SqT.grw {K : PySem.W.Frag} {H H' : Hp} {a : Addr} {xs : List V} (g : Grw H H') (h : SqT K H a xs) : SqT K H' a xs := by
  rcases h with (h | ⟨o, h⟩) | h
  · exact .inl (.inl (g _ _ h))
  · exact .inl (.inr ⟨o, g _ _ h⟩)
  · exact .inr h
mutual
theorem Rp.mono {K : PySem.W.Frag} {H H' : Hp} (g : Grw H H') : ∀ {v : V} {d : D}, Rp K H v d → Rp K H' v d
  | _, _, .non => .non
  | _, _, .bl b => .bl b
  | _, _, .int i => .int i
  | _, _, .str x => .str x
  | _, _, .lst h r => .lst (g _ _ h) (RpA.mono g r)
  | _, _, .tup h r => .tup (g _ _ h) (RpA.mono g r)
  | _, _, .dK h r => .dK (rd_grw g h) (RpK.mono g r)
  | _, _, .dT h r => .dT (rd_grw g h) (RpT.mono g r)
  | _, _, .pl h n r => .pl (g _ _ h) n (RpA.mono g r)
theorem RpA.mono {K : PySem.W.Frag} {H H' : Hp} (g : Grw H H') : ∀ {v : List V} {d : List D}, RpA K H v d → RpA K H' v d
  | _, _, .nil => .nil
  | _, _, .cons a b => .cons (Rp.mono g a) (RpA.mono g b)
theorem RpK.mono {K : PySem.W.Frag} {H H' : Hp} (g : Grw H H') : ∀ {v : List (Key × V)} {d : List (D × D)}, RpK K H v d → RpK K H' v d
  | _, _, .nil => .nil
  | _, _, .cons a b => .cons (Rp.mono g a) (RpK.mono g b)
theorem RpT.mono {K : PySem.W.Frag} {H H' : Hp} (g : Grw H H') : ∀ {v : List (List Key × V)} {d : List (D × D)}, RpT K H v d → RpT K H' v d
  | _, _, .nil => .nil
  | _, _, .cons a b => .cons (Rp.mono g a) (RpT.mono g b)
end
/-- a plain tuple's mark -/
def isP : List (D × D) → Bool
  | [(.none, .tuple _)] => true
  | _ => false
@[simp] theorem isP_nil : isP [] = false := rfl
@[simp] theorem isP_int {i : Int} {d : D} {r : List (D × D)} : isP ((.int i, d) :: r) = false := rfl
@[simp] theorem isP_str {i : Str} {d : D} {r : List (D × D)} : isP ((.str i, d) :: r) = false := rfl
@[simp] theorem isP_tup {i : List D} {d : D} {r : List (D × D)} : isP ((.tuple i, d) :: r) = false := rfl
@[simp] theorem isP_pln {ds : List D} : isP [(.none, .tuple ds)] = true := rfl
theorem isP_inv {ds : List (D × D)} (h : isP ds = true) : ∃ es, ds = [(.none, .tuple es)] := by
  unfold isP at h
  split at h
  · exact ⟨_, rfl⟩
  · cases h
theorem RpK.notP {K : PySem.W.Frag} {H : Hp} : ∀ {v : List (Key × V)} {d : List (D × D)}, RpK K H v d → isP d = false
  | _, _, .nil => rfl
  | (k, _) :: _, _, .cons _ _ => by cases k <;> rfl
theorem RpT.notP {K : PySem.W.Frag} {H : Hp} : ∀ {v : List (List Key × V)} {d : List (D × D)}, RpT K H v d → isP d = false
  | _, _, .nil => rfl
  | _, _, .cons _ _ => rfl
theorem RpA.length {K : PySem.W.Frag} {H : Hp} : ∀ {vs : List V} {ds : List D}, RpA K H vs ds → vs.length = ds.length
  | _, _, .nil => rfl
  | _, _, .cons _ r => by simp [RpA.length r]
theorem RpA.get {K : PySem.W.Frag} {H : Hp} : ∀ {vs : List V} {ds : List D} {i : Nat} {d : D}, RpA K H vs ds → ds[i]? = some d → ∃ v, vs[i]? = some v ∧ Rp K H v d
  | _, _, _, _, .nil, e => by simp at e
  | _, _, 0, _, .cons h _, e => by simp at e; subst e; exact ⟨_, rfl, h⟩
  | _, _, i + 1, d, .cons _ r, e => by
    obtain ⟨v, h1, h2⟩ := RpA.get (i := i) r (by simpa using e)
    exact ⟨v, by simpa using h1, h2⟩
theorem RpA.getv {K : PySem.W.Frag} {H : Hp} : ∀ {vs : List V} {ds : List D} {i : Nat} {v : V}, RpA K H vs ds → vs[i]? = some v → ∃ d, ds[i]? = some d ∧ Rp K H v d
  | _, _, _, _, .nil, e => by simp at e
  | _, _, 0, _, .cons h _, e => by simp at e; subst e; exact ⟨_, rfl, h⟩
  | _, _, i + 1, d, .cons _ r, e => by
    obtain ⟨v, h1, h2⟩ := RpA.getv (i := i) r (by simpa using e)
    exact ⟨v, by simpa using h1, h2⟩
theorem RpA.append {K : PySem.W.Frag} {H : Hp} : ∀ {vs us : List V} {ds es : List D}, RpA K H vs ds → RpA K H us es → RpA K H (vs ++ us) (ds ++ es)
  | _, _, _, _, .nil, r => r
  | _, _, _, _, .cons h t, r => .cons h (RpA.append t r)
theorem RpA.take {K : PySem.W.Frag} {H : Hp} : ∀ {vs : List V} {ds : List D} (n : Nat), RpA K H vs ds → RpA K H (vs.take n) (ds.take n)
  | _, _, 0, _ => .nil
  | _, _, _ + 1, .nil => .nil
  | _, _, n + 1, .cons h t => .cons h (RpA.take n t)
theorem RpA.drop {K : PySem.W.Frag} {H : Hp} : ∀ {vs : List V} {ds : List D} (n : Nat), RpA K H vs ds → RpA K H (vs.drop n) (ds.drop n)
  | _, _, 0, h => h
  | _, _, _ + 1, .nil => .nil
  | _, _, n + 1, .cons _ t => RpA.drop n t
theorem RpA.set {K : PySem.W.Frag} {H : Hp} {v : V} {d : D} (h : Rp K H v d) : ∀ {vs : List V} {ds : List D} (n : Nat), RpA K H vs ds → RpA K H (vs.set n v) (ds.set n d)
  | _, _, _, .nil => .nil
  | _, _, 0, .cons _ t => .cons h t
  | _, _, n + 1, .cons q t => .cons q (RpA.set h n t)
/-! ### what is reserved is hidden -/
open Classical in
noncomputable def mask (P : Addr → Prop) (H : Hp) : Hp := fun a => if P a then none else H a
theorem mask_some {P : Addr → Prop} {H : Hp} {a : Addr} {o : HO} : mask P H a = some o ↔ ¬ P a ∧ H a = some o := by
  unfold mask
  by_cases h : P a
  · simp [h]
  · simp [h]
theorem mask_grw {P P' : Addr → Prop} {H H' : Hp} (h : ∀ a o, H a = some o → ¬ P a → ¬ P' a ∧ H' a = some o) : Grw (mask P H) (mask P' H') := fun a o e => by
  obtain ⟨h1, h2⟩ := mask_some.mp e
  exact mask_some.mpr (h a o h2 h1)
theorem mask_le {P : Addr → Prop} {H : Hp} : Grw (mask P H) H := fun _ _ e => (mask_some.mp e).2
/-! ### the pure state -/
structure Dk where
  great : List Int
  cells : List Int
  n : Int
/-- a field of an object: data, or a list of its own -/
inductive OV where
  | dat (d : D)
  | lst (ds : List D)
structure Ob where
  cls : Str
  fs : List (Str × OV)
inductive Val where
  | dat (d : D)
  | lst (ds : List D)
  | dct (t : Bool) (kvs : List (D × D))
  | deck
  | obj (o : Ob)
  | gst (ds : List D)
  | fn (c : Str)
structure S where
  g : List (Option Val)
  k : Dk
abbrev M (α : Type) := S → Option (α × S)
/-- where an object stands: itself, its dict, its class, the lists of its own -/
structure OA where
  p : Addr
  q : Addr
  C : Addr
  ls : List Addr
structure DA where
  o : Addr
  g : Addr
  c : Addr
  x : Option OA
  t : List (Addr × Str) := []
  gs : Option Addr := none
def OA.is (y : OA) (a : Addr) : Prop := a = y.p ∨ a = y.q ∨ a ∈ y.ls
def DA.is (A : DA) (a : Addr) : Prop := a = A.o ∨ a = A.g ∨ a = A.c ∨ (∃ y, A.x = some y ∧ y.is a) ∨ (∃ p ∈ A.t, a = p.1) ∨ A.gs = some a
/-- without the object -/
def DA.no (A : DA) : DA := ⟨A.o, A.g, A.c, none, A.t, none⟩
theorem DA.no_is {A : DA} {a : Addr} (h : A.no.is a) : A.is a := by
  rcases h with h | h | h | ⟨y, h, _⟩ | h | h
  · exact .inl h
  · exact .inr (.inl h)
  · exact .inr (.inr (.inl h))
  · cases h
  · exact .inr (.inr (.inr (.inr (.inl h))))
  · cases h
/-- without the guest -/
def DA.ng (A : DA) : DA := ⟨A.o, A.g, A.c, A.x, A.t, none⟩
/-- without the object, with the guest -/
def DA.nx (A : DA) : DA := ⟨A.o, A.g, A.c, none, A.t, A.gs⟩
inductive FldsOk (K : PySem.W.Frag) (P : Addr → Prop) (H : Hp) : List (Str × V) → List (Str × OV) → List Addr → Prop
  | nil : FldsOk K P H [] [] []
  | dat {f : Str} {v : V} {d : D} {fs : List (Str × V)} {o : List (Str × OV)} {ls : List Addr} : Rp K (mask P H) v d → FldsOk K P H fs o ls → FldsOk K P H ((f, v) :: fs) ((f, .dat d) :: o) ls
  | lst {f : Str} {l : Addr} {vs : List V} {ds : List D} {fs : List (Str × V)} {o : List (Str × OV)} {ls : List Addr} : H l = some (.lst vs) → RpA K (mask P H) vs ds → FldsOk K P H fs o ls → FldsOk K P H ((f, .ref l) :: fs) ((f, .lst ds) :: o) (l :: ls)
theorem FldsOk.move {K : PySem.W.Frag} {P P' : Addr → Prop} {H H' : Hp} {fs : List (Str × V)} {o : List (Str × OV)} {ls : List Addr} (g : Grw (mask P H) (mask P' H')) (h : FldsOk K P H fs o ls) (k : ∀ l ∈ ls, ∀ u, H l = some u → H' l = some u) : FldsOk K P' H' fs o ls := by
  induction h with
  | nil => exact .nil
  | dat r _ ih => exact .dat (r.mono g) (ih k)
  | lst e r _ ih => exact .lst (k _ (List.mem_cons_self ..) _ e) (r.mono g) (ih fun l hl => k l (List.mem_cons_of_mem _ hl))
/-- the object of y holds o -/
def ObOk (K : PySem.W.Frag) (y : OA) (A : DA) (P : Addr → Prop) (H : Hp) (o : Ob) : Prop := ∃ fs, H y.p = some (.ins y.C y.q fs) ∧ H y.q = some (.own y.p) ∧ FldsOk K P H fs o.fs y.ls ∧ fs.length ≤ 900 ∧ y.ls.Nodup ∧ (∀ l ∈ y.ls, l ≠ A.o ∧ l ≠ A.g ∧ l ≠ A.c) ∧ PySem.W.nsIn K mainGlobals o.cls = some (some (.ref y.C))
theorem ObOk.move {K : PySem.W.Frag} {y : OA} {A : DA} {P P' : Addr → Prop} {H H' : Hp} {o : Ob} (h : ObOk K y A P H o) (g : Grw (mask P H) (mask P' H')) (k : ∀ a, y.is a → ∀ u, H a = some u → H' a = some u) : ObOk K y A P' H' o := by
  obtain ⟨fs, h1, h2, h3, h4, h5, h6, h7⟩ := h
  exact ⟨fs, k _ (.inl rfl) _ h1, k _ (.inr (.inl rfl)) _ h2, h3.move g fun l hl => k l (.inr (.inr hl)), h4, h5, h6, h7⟩
/-- the defs of a law whose lambdas stand in tables -/
def lamDefs : List Str := ["law"]
/-- where these tables stand -/
def tbsOf (K : PySem.W.Frag) : List (Addr × Str) := lamDefs.filterMap fun x => (PySem.W.tabIn K x).map fun q => (q.2, x ++ ".<locals>.<lambda>")
/-- a deck as it was made -/
structure DkB (A : DA) (P : Addr → Prop) (H : Hp) (k : Dk) : Prop where
  ho : H A.o = some (.lst [.ref A.g, .ref A.c, .int k.n])
  hg : H A.g = some (.lst (k.great.map V.int))
  hc : H A.c = some (.lst (k.cells.map V.int))
  rs : ∀ a, A.is a → P a
  og : A.o ≠ A.g
  oc : A.o ≠ A.c
  gc : A.g ≠ A.c
structure DkOk (K : PySem.W.Frag) (A : DA) (P : Addr → Prop) (H : Hp) (k : Dk) : Prop where
  ho : H A.o = some (.lst [.ref A.g, .ref A.c, .int k.n])
  hg : H A.g = some (.lst (k.great.map V.int))
  hc : H A.c = some (.lst (k.cells.map V.int))
  rs : ∀ a, A.is a → P a
  og : A.o ≠ A.g
  oc : A.o ≠ A.c
  gc : A.g ≠ A.c
  tb : LamX.Tabs A.t H
  tk : A.t = tbsOf K
/-- one slot -/
def SlotOk (K : PySem.W.Frag) (A : DA) (hid P : Addr → Prop) (H : Hp) (x : Option (Option V)) : Val → Prop
  | .dat d => ∃ v, x = some (some v) ∧ Rp K (mask P H) v d
  | .lst ds => ∃ a vs, x = some (some (.ref a)) ∧ H a = some (.lst vs) ∧ P a ∧ ¬ hid a ∧ ¬ A.is a ∧ RpA K (mask P H) vs ds
  | .dct t kvs => ∃ a, x = some (some (.ref a)) ∧ P a ∧ ¬ hid a ∧ ¬ A.is a ∧ ((t = false ∧ ∃ ks, H a = some (.dK ks) ∧ RpK K (mask P H) ks kvs) ∨ t = true ∧ ∃ ks, H a = some (.dT ks) ∧ RpT K (mask P H) ks kvs)
  | .deck => x = some (some (.ref A.o))
  | .obj o => ∃ y, A.x = some y ∧ x = some (some (.ref y.p)) ∧ ObOk K y A P H o
  | .gst ds => ∃ l vs, A.gs = some l ∧ x = some (some (.ref l)) ∧ H l = some (.lst vs) ∧ RpA K (mask P H) vs ds ∧ l ≠ A.o ∧ l ≠ A.g ∧ l ≠ A.c ∧ ∀ y, A.x = some y → l ∉ y.ls
  | .fn c => ∃ a, x = some (some (.ref a)) ∧ PySem.W.nsIn K mainGlobals c = some (some (.ref a))
def isCell : Val → Bool
  | .lst _ | .dct _ _ => true
  | _ => false
/-- no tuple -/
def NoT : HO → Prop
  | .tup _ => False
  | .ext _ => False
  | _ => True
/-- tables and their code objects stand when another thing is put otherwise -/
theorem tabs_put {T : List (Addr × Str)} {H H' : Hp} {a : Addr} {o : HO} (h : LamX.Tabs T H) (e : H a = some o) (n1 : NoT o) (n2 : ∀ ps, o ≠ .tbl ps) (k : ∀ b, b ≠ a → H' b = H b) : LamX.Tabs T H' := fun p hp => by
  obtain ⟨ps, h1, h2, h3⟩ := h p hp
  have ne1 : p.1 ≠ a := fun z => by rw [z, e] at h1; cases h1; exact n2 _ rfl
  refine ⟨ps, by rw [k _ ne1]; exact h1, h2, fun pos cv hc => ?_⟩
  obtain ⟨c, e1, e2⟩ := h3 pos cv hc
  have ne2 : c ≠ a := fun z => by
    rw [z, e] at e2
    have e2 := Option.some.inj e2
    subst e2
    exact n1
  exact ⟨c, e1, by rw [k _ ne2]; exact e2⟩
theorem tabs_upd {T : List (Addr × Str)} {H : Hp} {a : Addr} {o u : HO} (h : LamX.Tabs T H) (e : H a = some o) (n1 : NoT o) (n2 : ∀ ps, o ≠ .tbl ps) : LamX.Tabs T (upd H a u) := tabs_put h e n1 n2 fun _ hb => upd_ne hb
theorem tabs_ext {T : List (Addr × Str)} {H H' : Hp} (h : LamX.Tabs T H) (k : ∀ b o, H b = some o → H' b = some o) : LamX.Tabs T H' := h.ext k
structure SOk (K : PySem.W.Frag) (A : DA) (hid P : Addr → Prop) (s : S) (σ : St) (H : Hp) : Prop where
  trk : ∀ a, P a → ∃ o, H a = some o ∧ NoT o
  hp : ∀ a, hid a → P a
  hd : ∀ a, hid a → ¬ A.is a
  len : s.g.length = σ.length
  slot : ∀ (i : Nat) (v : Val), s.g[i]? = some (some v) → SlotOk K A hid P H σ[i]? v
  apart : ∀ (i j : Nat) (v w : Val) (a : Addr), s.g[i]? = some (some v) → s.g[j]? = some (some w) → isCell v = true → isCell w = true → σ[i]? = some (some (.ref a)) → σ[j]? = some (some (.ref a)) → i = j
  deck : DkOk K A P H s.k
theorem SOk.tabs_off {K : PySem.W.Frag} {A : DA} {hid P : Addr → Prop} {s : S} {σ : St} {H H' : Hp} {a : Addr} (ok : SOk K A hid P s σ H) (hp : P a) (na : ∀ b, A.is b → b ≠ a) (k : ∀ b, b ≠ a → H' b = H b) : LamX.Tabs A.t H' := fun p hm => by
  obtain ⟨ps, h1, h2, h3⟩ := ok.deck.tb p hm
  obtain ⟨o, e, n⟩ := ok.trk a hp
  refine ⟨ps, by rw [k _ (na _ (.inr (.inr (.inr (.inr (.inl ⟨p, hm, rfl⟩))))))]; exact h1, h2, fun pos cv hc => ?_⟩
  obtain ⟨c, e1, e2⟩ := h3 pos cv hc
  have ne2 : c ≠ a := fun z => by
    rw [z, e] at e2
    have e2 := Option.some.inj e2
    subst e2
    exact n
  exact ⟨c, e1, by rw [k _ ne2]; exact e2⟩
theorem ObOk.thereL {K : PySem.W.Frag} {y : OA} {A : DA} {P : Addr → Prop} {H : Hp} {o : Ob} (h : ObOk K y A P H o) : ∀ a, y.is a → ∃ u, H a = some u ∧ NoT u ∧ ∀ ps, u ≠ .tbl ps := by
  obtain ⟨fs, h1, h2, h3, -⟩ := h
  rintro a (rfl | rfl | hl)
  · exact ⟨_, h1, trivial, fun _ z => nomatch z⟩
  · exact ⟨_, h2, trivial, fun _ z => nomatch z⟩
  · clear h1 h2
    revert hl
    generalize y.ls = ls at h3
    generalize o.fs = ov at h3
    intro hl
    induction h3 with
    | nil => cases hl
    | dat _ _ ih => exact ih hl
    | lst e _ _ ih =>
      rcases List.mem_cons.mp hl with rfl | hl
      · exact ⟨_, e, trivial, fun _ z => nomatch z⟩
      · exact ih hl
/-- what stays on the way -/
structure Stp (hid P P' : Addr → Prop) (H H' : Hp) : Prop where
  keep : ∀ a o, H a = some o → (hid a ∨ ¬ P a) → H' a = some o
  vis : ∀ a o, H a = some o → ¬ P a → ¬ P' a
theorem Stp.refl {hid P : Addr → Prop} {H : Hp} : Stp hid P P H H := ⟨fun _ _ h _ => h, fun _ _ _ h => h⟩
theorem Stp.trans {hid P P1 P2 : Addr → Prop} {H H1 H2 : Hp} (a : Stp hid P P1 H H1) (b : Stp hid P1 P2 H1 H2) : Stp hid P P2 H H2 :=
  ⟨fun x o h c => b.keep x o (a.keep x o h c) (c.imp (fun z => z) fun z => a.vis x o h z), fun x o h c => b.vis x o (a.keep x o h (.inr c)) (a.vis x o h c)⟩
theorem Stp.grw {hid P : Addr → Prop} {H H' : Hp} (g : Grw H H') : Stp hid P P H H' := ⟨fun a o h _ => g a o h, fun _ _ _ h => h⟩
theorem Stp.mg {hid P P' : Addr → Prop} {H H' : Hp} (a : Stp hid P P' H H') : Grw (mask P H) (mask P' H') := mask_grw fun x o h c => ⟨a.vis x o h c, a.keep x o h (.inr c)⟩
theorem Stp.rp {K : PySem.W.Frag} {hid P P' : Addr → Prop} {H H' : Hp} {v : V} {d : D} (a : Stp hid P P' H H') (h : Rp K (mask P H) v d) : Rp K (mask P' H') v d := h.mono a.mg
theorem Stp.rpA {K : PySem.W.Frag} {hid P P' : Addr → Prop} {H H' : Hp} {v : List V} {d : List D} (a : Stp hid P P' H H') (h : RpA K (mask P H) v d) : RpA K (mask P' H') v d := h.mono a.mg
theorem grw_mask {P : Addr → Prop} {H H' : Hp} (g : Grw H H') : Grw (mask P H) (mask P H') := mask_grw fun x o h c => ⟨c, g x o h⟩
theorem DkOk.grw {K : PySem.W.Frag} {A : DA} {P : Addr → Prop} {H H' : Hp} {k : Dk} (h : DkOk K A P H k) (g : Grw H H') : DkOk K A P H' k := ⟨g _ _ h.ho, g _ _ h.hg, g _ _ h.hc, h.rs, h.og, h.oc, h.gc, h.tb.ext g, h.tk⟩
theorem SlotOk.grw {K : PySem.W.Frag} {A : DA} {hid P : Addr → Prop} {H H' : Hp} {x : Option (Option V)} {v : Val} (g : Grw H H') (h : SlotOk K A hid P H x v) : SlotOk K A hid P H' x v := by
  cases v with
  | dat d => obtain ⟨u, e, r⟩ := h; exact ⟨u, e, r.mono (grw_mask g)⟩
  | lst ds => obtain ⟨a, vs, e, h1, h2, h3, h4, r⟩ := h; exact ⟨a, vs, e, g _ _ h1, h2, h3, h4, r.mono (grw_mask g)⟩
  | dct t kvs =>
    obtain ⟨a, e, h2, h3, h4, r⟩ := h
    refine ⟨a, e, h2, h3, h4, ?_⟩
    rcases r with ⟨ht, ks, h1, r⟩ | ⟨ht, ks, h1, r⟩
    · exact .inl ⟨ht, ks, g _ _ h1, r.mono (grw_mask g)⟩
    · exact .inr ⟨ht, ks, g _ _ h1, r.mono (grw_mask g)⟩
  | deck => exact h
  | obj o => obtain ⟨y, h1, h2, h3⟩ := h; exact ⟨y, h1, h2, h3.move (grw_mask g) fun a _ u e => g _ _ e⟩
  | fn _ => exact h
  | gst es => obtain ⟨b, us, z1, z2, z3, z4, z5⟩ := h; exact ⟨b, us, z1, z2, g _ _ z3, z4.mono (grw_mask g), z5⟩
theorem SOk.grw {K : PySem.W.Frag} {A : DA} {hid P : Addr → Prop} {s : S} {σ : St} {H H' : Hp} (h : SOk K A hid P s σ H) (g : Grw H H') : SOk K A hid P s σ H' :=
  ⟨fun a p => let ⟨o, e, n⟩ := h.trk a p; ⟨o, g _ _ e, n⟩, h.hp, h.hd, h.len, fun i v e => (h.slot i v e).grw g, h.apart, h.deck.grw g⟩
theorem SOk.free {K : PySem.W.Frag} {A : DA} {hid P : Addr → Prop} {s : S} {σ : St} {H : Hp} (h : SOk K A hid P s σ H) {p : Addr} (e : H p = none) : ¬ P p := fun z => by
  obtain ⟨o, q, _⟩ := h.trk p z
  rw [e] at q; cases q
theorem mask_new {P : Addr → Prop} {H : Hp} {p : Addr} {o : HO} (h : ¬ P p) : mask P (upd H p o) p = some o := mask_some.mpr ⟨h, upd_same⟩
/-! ### the judgements -/
def EvE (K : PySem.W.Frag) (t : TE) (f : M D) : Prop := ∀ (A : DA) (hid P : Addr → Prop) (s : S) (σ : St) (H : Hp) (d : D) (s' : S), SOk K A hid P s σ H → f s = some (d, s') →
  ∀ Q : VK, (∀ v P' H', SOk K A hid P' s' σ H' → Stp hid P P' H H' → Rp K (mask P' H') v d → Q v H') → t σ H Q
def EvT (K : PySem.W.Frag) (t : TT) (f : M Bool) : Prop := ∀ (A : DA) (hid P : Addr → Prop) (s : S) (σ : St) (H : Hp) (b : Bool) (s' : S), SOk K A hid P s σ H → f s = some (b, s') →
  ∀ Q : Bool → Hp → Prop, (∀ P' H', SOk K A hid P' s' σ H' → Stp hid P P' H H' → Q b H') → t σ H Q
def EvA (K : PySem.W.Frag) (t : TA) (f : M (List D)) : Prop := ∀ (A : DA) (hid P : Addr → Prop) (s : S) (σ : St) (H : Hp) (ds : List D) (s' : S), SOk K A hid P s σ H → f s = some (ds, s') →
  ∀ Q : List V → Hp → Prop, (∀ vs P' H', SOk K A hid P' s' σ H' → Stp hid P P' H H' → RpA K (mask P' H') vs ds → Q vs H') → t σ H Q
inductive Fl where
  | nx | rt (d : D) | bk | ct
def FlOk (K : PySem.W.Frag) (A : DA) (hid P : Addr → Prop) (H : Hp) (s' : S) (D : Ends) : Fl → Prop
  | .nx => ∀ σ' P' H', SOk K A hid P' s' σ' H' → Stp hid P P' H H' → D.nx σ' H'
  | .rt d => ∀ v σ' P' H', SOk K A hid P' s' σ' H' → Stp hid P P' H H' → Rp K (mask P' H') v d → D.rt v H'
  | .bk => ∀ σ' P' H', SOk K A hid P' s' σ' H' → Stp hid P P' H H' → D.bk σ' H'
  | .ct => ∀ σ' P' H', SOk K A hid P' s' σ' H' → Stp hid P P' H H' → D.ct σ' H'
def EvS (K : PySem.W.Frag) (t : TS) (f : M Fl) : Prop := ∀ (A : DA) (hid P : Addr → Prop) (s : S) (σ : St) (H : Hp) (fl : Fl) (s' : S), SOk K A hid P s σ H → f s = some (fl, s') →
  ∀ D : Ends, FlOk K A hid P H s' D fl → t D σ H
theorem FlOk.back {K : PySem.W.Frag} {A : DA} {hid P P1 : Addr → Prop} {H H1 : Hp} {s' : S} {D : Ends} {fl : Fl} (h : FlOk K A hid P H s' D fl) (z : Stp hid P P1 H H1) : FlOk K A hid P1 H1 s' D fl := by
  cases fl with
  | nx => exact fun σ' P' H' o e => h σ' P' H' o (z.trans e)
  | rt d => exact fun v σ' P' H' o e r => h v σ' P' H' o (z.trans e) r
  | bk => exact fun σ' P' H' o e => h σ' P' H' o (z.trans e)
  | ct => exact fun σ' P' H' o e => h σ' P' H' o (z.trans e)
structure DE (X : Cx) (e : Expr) (t : TE) (f : M D) : Prop where
  p : PE X e t
  v : EvE X.K t f
structure DT (X : Cx) (e : Expr) (t : TT) (f : M Bool) : Prop where
  p : PT X e t
  v : EvT X.K t f
structure DW (X : Cx) (e : Expr) (t : TT) (f : M Bool) : Prop where
  p : PW X e t
  v : EvT X.K t f
structure DAr (X : Cx) (es : List Expr) (t : TA) (f : M (List D)) : Prop where
  p : PA X es t
  v : EvA X.K t f
structure DS (X : Cx) (st : Stmt) (t : TS) (f : M Fl) : Prop where
  p : PS X st t
  v : EvS X.K t f
structure DSs (X : Cx) (st : List Stmt) (t : TS) (f : M Fl) : Prop where
  p : PSs X st t
  v : EvS X.K t f
end DL
namespace DL
open PySem PySem.Spec PyProof.Rows L2
/-! DL2: operators over data. -/
def lim : Nat := 1000000
theorem lim_le {n : Nat} (h : n ≤ lim) : n ≤ sizeLine := by rw [sizeLine_eq]; unfold lim at h; omega
theorem lim_lt {n : Nat} (h : n ≤ lim) : n < sizeLine := by rw [sizeLine_eq]; unfold lim at h; omega
abbrev Trk (P : Addr → Prop) (H : Hp) : Prop := ∀ a, P a → ∃ o, H a = some o ∧ NoT o
theorem Trk.free {P : Addr → Prop} {H : Hp} (h : Trk P H) {p : Addr} (e : H p = none) : ¬ P p := fun z => by
  obtain ⟨o, q, _⟩ := h p z
  rw [e] at q; cases q
/-- a two-place reading does what the partial function tells -/
def DO2 (K : PySem.W.Frag) (r : R2) (op : D → D → Option D) : Prop := ∀ (P : Addr → Prop) (H : Hp) (x y : V) (dx dy d : D), Trk P H → Rp K (mask P H) x dx → Rp K (mask P H) y dy → op dx dy = some d →
  ∀ Q : VK, (∀ z H', Grw H H' → Rp K (mask P H') z d → Q z H') → r x y H Q
def DO1 (K : PySem.W.Frag) (r : V → Hp → VK → Prop) (op : D → Option D) : Prop := ∀ (P : Addr → Prop) (H : Hp) (x : V) (dx d : D), Trk P H → Rp K (mask P H) x dx → op dx = some d →
  ∀ Q : VK, (∀ z H', Grw H H' → Rp K (mask P H') z d → Q z H') → r x H Q
def DOC (K : PySem.W.Frag) (r : List V → Hp → VK → Prop) (op : List D → Option D) : Prop := ∀ (P : Addr → Prop) (H : Hp) (xs : List V) (ds : List D) (d : D), Trk P H → RpA K (mask P H) xs ds → op ds = some d →
  ∀ Q : VK, (∀ z H', Grw H H' → Rp K (mask P H') z d → Q z H') → r xs H Q
def rOr (r r' : R2) : R2 := fun x y H Q => r x y H Q ∨ r' x y H Q
theorem op_or {X : Cx} {f : Value → Value → Sem Value} {r r' : R2} (h : OpR X f r) (h' : OpR X f r') : OpR X f (rOr r r') := by
  intro pins s σ H x y v u Q I rx ry q
  rcases q with q | q
  · exact h pins s σ H x y v u Q I rx ry q
  · exact h' pins s σ H x y v u Q I rx ry q
theorem rp_newT {K : PySem.W.Frag} {P : Addr → Prop} {H : Hp} {p : Addr} {vs : List V} {ds : List D} (t : Trk P H) (h : H p = none) (r : RpA K (mask P H) vs ds) : Rp K (mask P (upd H p (.tup vs))) (.ref p) (.tuple ds) :=
  .tup (mask_new (t.free h)) (r.mono (grw_mask (Grw.new h)))
theorem rp_newL {K : PySem.W.Frag} {P : Addr → Prop} {H : Hp} {p : Addr} {vs : List V} {ds : List D} (t : Trk P H) (h : H p = none) (r : RpA K (mask P H) vs ds) : Rp K (mask P (upd H p (.lst vs))) (.ref p) (.list ds) :=
  .lst (mask_new (t.free h)) (r.mono (grw_mask (Grw.new h)))
/-- what data at a value tells -/
theorem Rp.int_inv {K : PySem.W.Frag} {H : Hp} {v : V} {i : Int} (h : Rp K H v (.int i)) : v = .int i := by cases h; rfl
theorem Rp.str_inv {K : PySem.W.Frag} {H : Hp} {v : V} {x : Str} (h : Rp K H v (.str x)) : v = .str x := by cases h; rfl
theorem Rp.tup_inv {K : PySem.W.Frag} {H : Hp} {v : V} {ds : List D} (h : Rp K H v (.tuple ds)) : ∃ a vs, v = .ref a ∧ SqT K H a vs ∧ RpA K H vs ds := by
  cases h with
  | tup h r => exact ⟨_, _, rfl, SqT.of h, r⟩
theorem Rp.lst_inv {K : PySem.W.Frag} {H : Hp} {v : V} {ds : List D} (h : Rp K H v (.list ds)) : ∃ a vs, v = .ref a ∧ H a = some (.lst vs) ∧ RpA K H vs ds := by
  cases h with
  | lst h r => exact ⟨_, _, rfl, h, r⟩
theorem Rp.pln_inv {K : PySem.W.Frag} {H : Hp} {v : V} {ds : List D} (h : Rp K H v (.dict [(.none, .tuple ds)])) : ∃ a vs o, v = .ref a ∧ H a = some (.frz o (.tup vs)) ∧ o.dict = none ∧ RpA K H vs ds := by
  cases h with
  | pl h n r => exact ⟨_, _, _, rfl, h, n, r⟩
  | dK h r => have z := r.notP; cases z
  | dT h r => have z := r.notP; cases z
theorem SqT.frz {K : PySem.W.Frag} {H : Hp} {a : Addr} {o : Obj} {vs : List V} (h : H a = some (.frz o (.tup vs))) : SqT K H a vs := .inl (.inr ⟨o, h⟩)
theorem sqT_le {K : PySem.W.Frag} {P : Addr → Prop} {H : Hp} {a : Addr} {vs : List V} (h : SqT K (mask P H) a vs) : SqT K H a vs := SqT.grw mask_le h
/-! ### + - * // % ** -/
def dAdd : D → D → Option D
  | .int i, .int j => some (.int (i + j))
  | .tuple a, .tuple b => if a.length + b.length ≤ lim then some (.tuple (a ++ b)) else none
  | .list a, .list b => if a.length + b.length ≤ lim then some (.list (a ++ b)) else none
  | .str a, .str b => if a.length + b.length ≤ lim then some (.str (a ++ b)) else none
  | _, _ => none
def rAddS : R2 := fun x y H Q => ∃ i j, x = .str i ∧ y = .str j ∧ i.length + j.length ≤ sizeLine ∧ Q (.str (i ++ j)) H
def rAddD (K : PySem.W.Frag) : R2 := rOr (rI0 fun i j => .int (i + j)) (rOr (rCatA K) (rOr rCat rAddS))
theorem op_addD {X : Cx} : OpR X (binaryOp .Add) (rAddD X.K) := op_or op_add (op_or op_catA (op_or op_cat op_add_str))
theorem do_add {K : PySem.W.Frag} : DO2 K (rAddD K) dAdd := by
  intro P H x y dx dy d t hx hy e Q q
  unfold dAdd at e
  split at e
  · rename_i i j
    cases e; cases hx; cases hy
    exact .inl ⟨_, _, rfl, rfl, q _ H (Grw.refl H) (.int _)⟩
  · rename_i a b
    split at e
    · rename_i hl
      cases e
      obtain ⟨a1, vs, rfl, h1, r1⟩ := hx.tup_inv
      obtain ⟨b1, us, rfl, h2, r2⟩ := hy.tup_inv
      refine .inr (.inl ⟨a1, b1, vs, us, rfl, rfl, sqT_le h1, sqT_le h2, ?_, fun z => ?_, fun _ z => ?_, fun _ _ p hp => ?_⟩)
      · rw [r1.length, r2.length]; exact lim_le hl
      · subst z; cases r1
        exact q _ H (Grw.refl H) hy
      · subst z; cases r2
        rw [List.append_nil] at q
        exact q _ H (Grw.refl H) hx
      · exact q _ _ (Grw.new hp) (rp_newT t hp (r1.append r2))
    · cases e
  · rename_i a b
    split at e
    · rename_i hl
      cases e
      obtain ⟨a1, vs, rfl, h1, r1⟩ := hx.lst_inv
      obtain ⟨b1, us, rfl, h2, r2⟩ := hy.lst_inv
      refine .inr (.inr (.inl ⟨a1, b1, vs, us, rfl, rfl, mask_le _ _ h1, mask_le _ _ h2, ?_, fun p hp => ?_⟩))
      · rw [r1.length, r2.length]; exact lim_le hl
      · exact q _ _ (Grw.new hp) (rp_newL t hp (r1.append r2))
    · cases e
  · rename_i a b
    split at e
    · rename_i hl
      cases e; cases hx; cases hy
      exact .inr (.inr (.inr ⟨a, b, rfl, rfl, lim_le hl, q _ H (Grw.refl H) (.str _)⟩))
    · cases e
  · cases e
def dI2 (g : Int → Int → Option D) : D → D → Option D
  | .int i, .int j => g i j
  | _, _ => none
theorem dI2_some {g : Int → Int → Option D} {x y d : D} (h : dI2 g x y = some d) : ∃ i j, x = .int i ∧ y = .int j ∧ g i j = some d := by
  unfold dI2 at h
  split at h
  · exact ⟨_, _, rfl, rfl, h⟩
  · cases h
theorem do_I0 {K : PySem.W.Frag} {g : Int → Int → V} {g' : Int → Int → Option D} (h : ∀ i j d, g' i j = some d → ∀ H, Rp K H (g i j) d) : DO2 K (rI0 g) (dI2 g') := by
  intro P H x y dx dy d t hx hy e Q q
  obtain ⟨i, j, rfl, rfl, e⟩ := dI2_some e
  exact ⟨i, j, hx.int_inv, hy.int_inv, q _ H (Grw.refl H) (h i j d e _)⟩
theorem do_I {K : PySem.W.Frag} {C : Int → Int → Prop} {g : Int → Int → V} {g' : Int → Int → Option D} (h : ∀ i j d, g' i j = some d → C i j ∧ ∀ H, Rp K H (g i j) d) : DO2 K (rI C g) (dI2 g') := by
  intro P H x y dx dy d t hx hy e Q q
  obtain ⟨i, j, rfl, rfl, e⟩ := dI2_some e
  exact ⟨i, j, hx.int_inv, hy.int_inv, (h i j d e).1, q _ H (Grw.refl H) ((h i j d e).2 _)⟩
def dSub : D → D → Option D := dI2 fun i j => some (.int (i - j))
theorem do_sub {K : PySem.W.Frag} : DO2 K (rI0 fun i j => .int (i - j)) dSub := do_I0 fun i j d e H => by cases e; exact .int _
def dPow : D → D → Option D := dI2 fun i j => if 0 ≤ j ∧ j ≤ 1000 ∧ i.natAbs < 1000000 then some (.int (i ^ j.toNat)) else none
theorem do_pow {K : PySem.W.Frag} : DO2 K (rI CPow fun i j => .int (i ^ j.toNat)) dPow := do_I fun i j d e => by
  split at e
  · rename_i h; cases e; exact ⟨⟨h.1, by omega, by omega⟩, fun _ => .int _⟩
  · cases e
/-! ### comparisons -/
mutual
theorem Rp.dp {K : PySem.W.Frag} {H : Hp} : ∀ {v : V} {d : D}, Rp K H v d → d.canLay0 = true → Dp K H v d
  | _, _, .non, _ => .non
  | _, _, .bl b, _ => .bl b
  | _, _, .int i, _ => .int i
  | _, _, .str x, _ => .str x
  | _, _, .lst h r, c => .lst (SqL.of h) (RpA.dp r (by simpa [PyData.canLay0] using c))
  | _, _, .tup h r, c => .tup (SqT.of h) (RpA.dp r (by simpa [PyData.canLay0] using c))
  | _, _, .dK _ _, c => by simp [PyData.canLay0] at c
  | _, _, .dT _ _, c => by simp [PyData.canLay0] at c
  | _, _, .pl _ _ _, c => by simp [PyData.canLay0] at c
theorem RpA.dp {K : PySem.W.Frag} {H : Hp} : ∀ {v : List V} {d : List D}, RpA K H v d → PyData.canLayAll0 d = true → DpAll K H v d
  | _, _, .nil, _ => .nil
  | _, _, .cons a b, c => by
    rw [PyData.canLayAll0, Bool.and_eq_true] at c
    exact .cons (Rp.dp a c.1) (RpA.dp b c.2)
end
/-- whether one may be compared with the other: numbers, texts, tuples and lists of these, alike -/
def okCmp (x y : D) : Bool := PySem.W.alike x y && SeqAt.shaped x && SeqAt.shaped y && (match x with | .none => false | _ => true)
theorem okCmp_some {x y : D} (h : okCmp x y = true) : PySem.W.alike x y = true ∧ SeqAt.shaped x = true ∧ SeqAt.shaped y = true ∧ x ≠ .none := by
  simp only [okCmp, Bool.and_eq_true] at h
  exact ⟨h.1.1.1, h.1.1.2, h.1.2, fun z => by subst z; exact absurd h.2 (by decide)⟩
def dCmp (g : Int → Int → Bool) (f : D → D → Bool) (x y : D) : Option D := match x, y with
  | .int i, .int j => some (.bool (g i j))
  | x, y => if okCmp x y = true then some (.bool (f x y)) else none
def dLt : D → D → Option D := dCmp (fun i j => decide (i < j)) fun x y => PySem.W.dataLt x y
def dLe : D → D → Option D := dCmp (fun i j => decide (i ≤ j)) fun x y => !PySem.W.dataLt y x
def dGt : D → D → Option D := dCmp (fun i j => decide (j < i)) fun x y => PySem.W.dataLt y x
def rOrdD (K : PySem.W.Frag) (f : D → D → Bool) : R2 := fun x y H Q => ∃ d e, Dp K H x d ∧ Dp K H y e ∧ okCmp d e = true ∧ Q (.bl (f d e)) H
def rCmpS (K : PySem.W.Frag) (g : Int → Int → Bool) (f : D → D → Bool) : R2 := rOr (rI0 fun i j => .bl (g i j)) (rOrdD K f)
section
variable {X : Cx}
theorem cmp_room {A : Around} {d e : D} (hu : A.units + 64 < cLine) (h : SeqAt.shaped d = true) : A.units + min d.depth e.depth < cLine := by
  have := SeqAt.depth_of_shaped h
  omega
theorem op_ltS (hu : X.A.units + 64 < cLine) : OpR X (compareOp .Lt) (rCmpS X.K (fun i j => decide (i < j)) fun x y => PySem.W.dataLt x y) := op_or op_lt fun pins s σ H x y v u Q I rx ry h => by
  obtain ⟨d, e, hd, he, hc, q⟩ := h
  obtain ⟨h1, h2, h3, h4⟩ := okCmp_some hc
  obtain ⟨as, r1⟩ := Dp.reads I d x v hd rx
  obtain ⟨bs, r2⟩ := Dp.reads I e y u he ry
  exact PySem.W.lt_data r1 r2 h1 h4 (cmp_room hu h2) ⟨.bl _, H, I, rfl, q⟩
theorem op_leS (hu : X.A.units + 64 < cLine) : OpR X (compareOp .LtE) (rCmpS X.K (fun i j => decide (i ≤ j)) fun x y => !PySem.W.dataLt y x) := op_or op_le fun pins s σ H x y v u Q I rx ry h => by
  obtain ⟨d, e, hd, he, hc, q⟩ := h
  obtain ⟨h1, h2, h3, h4⟩ := okCmp_some hc
  obtain ⟨as, r1⟩ := Dp.reads I d x v hd rx
  obtain ⟨bs, r2⟩ := Dp.reads I e y u he ry
  exact PySem.W.le_data r1 r2 h1 h4 (cmp_room hu h2) ⟨.bl _, H, I, rfl, q⟩
theorem op_gtS (hu : X.A.units + 64 < cLine) : OpR X (compareOp .Gt) (rCmpS X.K (fun i j => decide (j < i)) fun x y => PySem.W.dataLt y x) := op_or op_gt fun pins s σ H x y v u Q I rx ry h => by
  obtain ⟨d, e, hd, he, hc, q⟩ := h
  obtain ⟨h1, h2, h3, h4⟩ := okCmp_some hc
  obtain ⟨as, r1⟩ := Dp.reads I d x v hd rx
  obtain ⟨bs, r2⟩ := Dp.reads I e y u he ry
  exact PySem.W.gt_data r1 r2 h1 h4 (cmp_room hu h2) ⟨.bl _, H, I, rfl, q⟩
end
theorem do_cmp {K : PySem.W.Frag} {g : Int → Int → Bool} {f : D → D → Bool} : DO2 K (rCmpS K g f) (dCmp g f) := by
  intro P H x y dx dy d t hx hy e Q q
  unfold dCmp at e
  split at e
  · cases e
    cases hx; cases hy
    exact .inl ⟨_, _, rfl, rfl, q _ H (Grw.refl H) (.bl _)⟩
  · split at e
    · rename_i h; cases e
      obtain ⟨h1, h2, h3, h4⟩ := okCmp_some h
      exact .inr ⟨dx, dy, (hx.mono mask_le).dp (SeqAt.canLay_of_shaped h2), (hy.mono mask_le).dp (SeqAt.canLay_of_shaped h3), h, q _ H (Grw.refl H) (.bl _)⟩
    · cases e
theorem do_lt {K : PySem.W.Frag} : DO2 K (rCmpS K (fun i j => decide (i < j)) fun x y => PySem.W.dataLt x y) dLt := do_cmp
theorem do_le {K : PySem.W.Frag} : DO2 K (rCmpS K (fun i j => decide (i ≤ j)) fun x y => !PySem.W.dataLt y x) dLe := do_cmp
theorem do_gt {K : PySem.W.Frag} : DO2 K (rCmpS K (fun i j => decide (j < i)) fun x y => PySem.W.dataLt y x) dGt := do_cmp
def dEq (x y : D) : Option D := match x, y with
  | .str a, .str b => some (.bool (a == b))
  | x, y => if SeqAt.shaped x = true ∧ SeqAt.shaped y = true then some (.bool (PyData.eqv x y)) else none
def dNe (x y : D) : Option D := match x, y with
  | .str a, .str b => some (.bool (!(a == b)))
  | x, y => if SeqAt.shaped x = true ∧ SeqAt.shaped y = true then some (.bool (!PyData.eqv x y)) else none
def rEqS (K : PySem.W.Frag) : R2 := rOr rEq (rEqD K)
def rNeS (K : PySem.W.Frag) : R2 := rOr rNe (rNeD K)
theorem do_eq {K : PySem.W.Frag} : DO2 K (rEqS K) dEq := by
  intro P H x y dx dy d t hx hy e Q q
  unfold dEq at e
  split at e
  · cases e
    cases hx; cases hy
    exact .inl ⟨rfl, by rw [dec_str]; exact q _ H (Grw.refl H) (.bl _)⟩
  · split at e
    · rename_i h; cases e
      exact .inr ⟨dx, dy, (hx.mono mask_le).dp (SeqAt.canLay_of_shaped h.1), (hy.mono mask_le).dp (SeqAt.canLay_of_shaped h.2), h.1, h.2, q _ H (Grw.refl H) (.bl _)⟩
    · cases e
theorem do_ne {K : PySem.W.Frag} : DO2 K (rNeS K) dNe := by
  intro P H x y dx dy d t hx hy e Q q
  unfold dNe at e
  split at e
  · cases e
    cases hx; cases hy
    exact .inl ⟨rfl, by rw [dec_str]; exact q _ H (Grw.refl H) (.bl _)⟩
  · split at e
    · rename_i h; cases e
      exact .inr ⟨dx, dy, (hx.mono mask_le).dp (SeqAt.canLay_of_shaped h.1), (hy.mono mask_le).dp (SeqAt.canLay_of_shaped h.2), h.1, h.2, q _ H (Grw.refl H) (.bl _)⟩
    · cases e
def isNone : D → Bool
  | .none => true
  | _ => false
theorem Rp.isNon {K : PySem.W.Frag} {H : Hp} {v : V} {d : D} (h : Rp K H v d) : decide (v = .non) = isNone d := by
  cases h <;> rfl
def dIs (x y : D) : Option D := if isNone y = true then some (.bool (isNone x)) else none
def dIsNot (x y : D) : Option D := if isNone y = true then some (.bool (!isNone x)) else none
abbrev rIsN : R2 := fun x y H Q => y = .non ∧ Q (.bl (decide (x = .non))) H
abbrev rNotN : R2 := fun x y H Q => y = .non ∧ Q (.bl (!decide (x = .non))) H
theorem do_is {K : PySem.W.Frag} : DO2 K rIsN dIs := by
  intro P H x y dx dy d t hx hy e Q q
  unfold dIs at e
  split at e
  · rename_i h; cases e
    have e1 := hy.isNon
    rw [h] at e1
    refine ⟨of_decide_eq_true e1, ?_⟩
    rw [hx.isNon]
    exact q _ H (Grw.refl H) (.bl _)
  · cases e
theorem do_isNot {K : PySem.W.Frag} : DO2 K rNotN dIsNot := by
  intro P H x y dx dy d t hx hy e Q q
  unfold dIsNot at e
  split at e
  · rename_i h; cases e
    have e1 := hy.isNon
    rw [h] at e1
    refine ⟨of_decide_eq_true e1, ?_⟩
    rw [hx.isNon]
    exact q _ H (Grw.refl H) (.bl _)
  · cases e
/-! ### in, not in, of flat things -/
def flatD : D → Bool
  | .none | .bool _ | .int _ | .str _ => true
  | _ => false
theorem Rp.flat {K : PySem.W.Frag} {H : Hp} {v : V} {d : D} (h : Rp K H v d) : flatV v = flatD d := by cases h <;> rfl
theorem RpA.flat {K : PySem.W.Frag} {H : Hp} : ∀ {v : List V} {d : List D}, RpA K H v d → v.all flatV = d.all flatD
  | _, _, .nil => rfl
  | _, _, .cons a b => by rw [List.all_cons, List.all_cons, a.flat, RpA.flat b]
theorem Rp.eqF {K : PySem.W.Frag} {H : Hp} {v u : V} {d e : D} (h : Rp K H v d) (h' : Rp K H u e) (fd : flatD d = true) (fe : flatD e = true) : eqV v u = PyData.eqv d e := by
  cases h <;> first | (cases fd; done) | skip
  all_goals (cases h' <;> first | (cases fe; done) | (simp only [eqV, PyData.eqv]))
def inD (x : D) (ys : List D) : Bool := ys.any fun y => PyData.eqv y x
theorem RpA.inF {K : PySem.W.Frag} {H : Hp} {v : V} {d : D} (h : Rp K H v d) (fd : flatD d = true) : ∀ {us : List V} {es : List D}, RpA K H us es → es.all flatD = true → inV v us = inD d es
  | _, _, .nil, _ => rfl
  | _, _, .cons a b, f => by
    rw [List.all_cons, Bool.and_eq_true] at f
    have ih := RpA.inF h fd b f.2
    unfold inV inD at ih ⊢
    rw [List.any_cons, List.any_cons, ih, a.eqF h f.1 fd]
def dInB (x y : D) : Option Bool := match y with
  | .list ys => if flatD x && ys.all flatD then some (inD x ys) else none
  | .tuple ys => if flatD x && ys.all flatD then some (inD x ys) else none
  | _ => none
def dIn (x y : D) : Option D := (dInB x y).map fun b => .bool b
def dNotIn (x y : D) : Option D := (dInB x y).map fun b => .bool (!b)
theorem dInB_ok {K : PySem.W.Frag} {P : Addr → Prop} {H : Hp} {x y : V} {dx dy : D} {b : Bool} (hx : Rp K (mask P H) x dx) (hy : Rp K (mask P H) y dy) (e : dInB dx dy = some b) :
    ∃ p xs, y = .ref p ∧ (SqL K H p xs ∨ SqT K H p xs) ∧ flatV x = true ∧ xs.all flatV = true ∧ inV x xs = b := by
  unfold dInB at e
  split at e
  · split at e
    · rename_i h; cases e
      rw [Bool.and_eq_true] at h
      obtain ⟨a, vs, rfl, h1, r⟩ := hy.lst_inv
      exact ⟨a, vs, rfl, .inl (SqL.of (mask_le _ _ h1)), by rw [hx.flat]; exact h.1, by rw [r.flat]; exact h.2, r.inF hx h.1 h.2⟩
    · cases e
  · split at e
    · rename_i h; cases e
      rw [Bool.and_eq_true] at h
      obtain ⟨a, vs, rfl, h1, r⟩ := hy.tup_inv
      exact ⟨a, vs, rfl, .inr (sqT_le h1), by rw [hx.flat]; exact h.1, by rw [r.flat]; exact h.2, r.inF hx h.1 h.2⟩
    · cases e
  · cases e
theorem do_in {K : PySem.W.Frag} : DO2 K (rIn K false) dIn := by
  intro P H x y dx dy d t hx hy e Q q
  unfold dIn at e
  cases hb : dInB dx dy with
  | none => rw [hb] at e; cases e
  | some b =>
    rw [hb] at e; cases e
    obtain ⟨p, xs, e1, e2, e3, e4, e5⟩ := dInB_ok hx hy hb
    refine ⟨p, xs, e1, e2, e3, e4, ?_⟩
    rw [e5]
    exact q _ H (Grw.refl H) (.bl _)
theorem do_notIn {K : PySem.W.Frag} : DO2 K (rIn K true) dNotIn := by
  intro P H x y dx dy d t hx hy e Q q
  unfold dNotIn at e
  cases hb : dInB dx dy with
  | none => rw [hb] at e; cases e
  | some b =>
    rw [hb] at e; cases e
    obtain ⟨p, xs, e1, e2, e3, e4, e5⟩ := dInB_ok hx hy hb
    refine ⟨p, xs, e1, e2, e3, e4, ?_⟩
    rw [e5]
    exact q _ H (Grw.refl H) (.bl _)
/-! ### x[i] -/
def dIx : D → D → Option D
  | .list a, .int i => atI a i
  | .tuple a, .int i => atI a i
  | _, _ => none
theorem RpA.atI {K : PySem.W.Frag} {H : Hp} {vs : List V} {ds : List D} {i : Int} {d : D} (r : RpA K H vs ds) (h : L2.atI ds i = some d) : ∃ v, L2.atI vs i = some v ∧ Rp K H v d := by
  unfold L2.atI at h ⊢
  rw [r.length]
  cases e : ixN ds.length i with
  | none => rw [e] at h; cases h
  | some j =>
    rw [e] at h
    obtain ⟨v, h1, h2⟩ := r.get (i := j) h
    exact ⟨v, h1, h2⟩
theorem do_ix {K : PySem.W.Frag} : DO2 K (rIx K) dIx := by
  intro P H x y dx dy d t hx hy e Q q
  unfold dIx at e
  split at e
  · obtain ⟨a, vs, rfl, h1, r⟩ := hx.lst_inv
    obtain ⟨v, h2, h3⟩ := r.atI e
    exact .inl ⟨a, vs, _, v, rfl, hy.int_inv, SqL.of (mask_le _ _ h1), h2, q _ H (Grw.refl H) h3⟩
  · obtain ⟨a, vs, rfl, h1, r⟩ := hx.tup_inv
    obtain ⟨v, h2, h3⟩ := r.atI e
    exact .inr (.inl ⟨a, vs, _, v, rfl, hy.int_inv, sqT_le h1, h2, q _ H (Grw.refl H) h3⟩)
  · cases e
/-! ### calls of built-ins -/
def rOrC (r r' : List V → Hp → VK → Prop) : List V → Hp → VK → Prop := fun xs H Q => r xs H Q ∨ r' xs H Q
theorem call_or {X : Cx} {f : Value} {r r' : List V → Hp → VK → Prop} (h : CallR X f r) (h' : CallR X f r') : CallR X f (rOrC r r') := by
  intro pins s σ H xs us Q I rx q
  rcases q with q | q
  · exact h pins s σ H xs us Q I rx q
  · exact h' pins s σ H xs us Q I rx q
theorem RpA.one {K : PySem.W.Frag} {H : Hp} {vs : List V} {d : D} (r : RpA K H vs [d]) : ∃ v, vs = [v] ∧ Rp K H v d := by
  cases r with
  | cons h t => cases t; exact ⟨_, rfl, h⟩
theorem RpA.two {K : PySem.W.Frag} {H : Hp} {vs : List V} {d e : D} (r : RpA K H vs [d, e]) : ∃ v u, vs = [v, u] ∧ Rp K H v d ∧ Rp K H u e := by
  cases r with
  | cons h t => obtain ⟨u, rfl, h'⟩ := t.one; exact ⟨_, _, rfl, h, h'⟩
def dLen : List D → Option D
  | [.list a] => some (.int a.length)
  | [.tuple a] => some (.int a.length)
  | [.dict [(.none, .tuple a)]] => some (.int a.length)
  | [.str x] => if x.length ≤ lim then some (.int x.length) else none
  | _ => none
abbrev rLenQ (K : PySem.W.Frag) : List V → Hp → VK → Prop := fun xs H Q => ∃ p ys, xs = [.ref p] ∧ (SqL K H p ys ∨ SqT K H p ys) ∧ Q (.int ys.length) H
abbrev rLenZ : List V → Hp → VK → Prop := fun xs H Q => ∃ z, xs = [.str z] ∧ z.length ≤ sizeLine ∧ Q (.int z.length) H
theorem call_lenD {X : Cx} : CallR X (.builtin "len") (rOrC (rLenQ X.K) rLenZ) := call_or call_len_seq call_len_str
theorem do_len {K : PySem.W.Frag} : DOC K (rOrC (rLenQ K) rLenZ) dLen := by
  intro P H xs ds d t r e Q q
  unfold dLen at e
  split at e
  · cases e
    obtain ⟨v, rfl, h⟩ := r.one
    obtain ⟨a, vs, rfl, h1, r1⟩ := h.lst_inv
    refine .inl ⟨a, vs, rfl, .inl (SqL.of (mask_le _ _ h1)), ?_⟩
    rw [r1.length]
    exact q _ H (Grw.refl H) (.int _)
  · cases e
    obtain ⟨v, rfl, h⟩ := r.one
    obtain ⟨a, vs, rfl, h1, r1⟩ := h.tup_inv
    refine .inl ⟨a, vs, rfl, .inr (sqT_le h1), ?_⟩
    rw [r1.length]
    exact q _ H (Grw.refl H) (.int _)
  · cases e
    obtain ⟨v, rfl, h⟩ := r.one
    obtain ⟨a, vs, o, rfl, h1, n1, r1⟩ := h.pln_inv
    refine .inl ⟨a, vs, rfl, .inr (sqT_le (SqT.frz h1)), ?_⟩
    rw [r1.length]
    exact q _ H (Grw.refl H) (.int _)
  · split at e
    · rename_i hl; cases e
      obtain ⟨v, rfl, h⟩ := r.one
      cases h
      exact .inr ⟨_, rfl, lim_le hl, q _ H (Grw.refl H) (.int _)⟩
    · cases e
  · cases e
def dInt : List D → Option D
  | [.int i] => some (.int i)
  | [.bool b] => some (.int (if b then 1 else 0))
  | _ => none
abbrev rInt1 : List V → Hp → VK → Prop := fun xs H Q => (∃ i, xs = [.int i] ∧ Q (.int i) H) ∨ ∃ k, xs = [.bl k] ∧ Q (.int (if k then 1 else 0)) H
theorem do_int {K : PySem.W.Frag} : DOC K rInt1 dInt := by
  intro P H xs ds d t r e Q q
  unfold dInt at e
  split at e
  · cases e
    obtain ⟨v, rfl, h⟩ := r.one
    cases h
    exact .inl ⟨_, rfl, q _ H (Grw.refl H) (.int _)⟩
  · cases e
    obtain ⟨v, rfl, h⟩ := r.one
    cases h
    exact .inr ⟨_, rfl, q _ H (Grw.refl H) (.int _)⟩
  · cases e
def dStr : List D → Option D
  | [.int i] => if i.natAbs.log2 < 1920 then some (.str (toString i : Str)) else none
  | _ => none
abbrev rStr1 : List V → Hp → VK → Prop := fun xs H Q => ∃ i, xs = [.int i] ∧ i.natAbs.log2 < 1920 ∧ Q (.str (toString i)) H
theorem do_str {K : PySem.W.Frag} : DOC K rStr1 dStr := by
  intro P H xs ds d t r e Q q
  unfold dStr at e
  split at e
  · split at e
    · rename_i hl; cases e
      obtain ⟨v, rfl, h⟩ := r.one
      cases h
      exact ⟨_, rfl, hl, q _ H (Grw.refl H) (.str _)⟩
    · cases e
  · cases e
def dMin2 : List D → Option D
  | [.int i, .int j] => some (.int (if j < i then j else i))
  | _ => none
def dMax2 : List D → Option D
  | [.int i, .int j] => some (.int (if j > i then j else i))
  | _ => none
abbrev rMin2 : List V → Hp → VK → Prop := fun xs H Q => ∃ i j, xs = [.int i, .int j] ∧ Q (.int (if j < i then j else i)) H
abbrev rMax2 : List V → Hp → VK → Prop := fun xs H Q => ∃ i j, xs = [.int i, .int j] ∧ Q (.int (if j > i then j else i)) H
theorem do_min2 {K : PySem.W.Frag} : DOC K rMin2 dMin2 := by
  intro P H xs ds d t r e Q q
  unfold dMin2 at e
  split at e
  · cases e
    obtain ⟨v, u, rfl, h, h'⟩ := r.two
    cases h; cases h'
    exact ⟨_, _, rfl, q _ H (Grw.refl H) (.int _)⟩
  · cases e
theorem do_max2 {K : PySem.W.Frag} : DOC K rMax2 dMax2 := by
  intro P H xs ds d t r e Q q
  unfold dMax2 at e
  split at e
  · cases e
    obtain ⟨v, u, rfl, h, h'⟩ := r.two
    cases h; cases h'
    exact ⟨_, _, rfl, q _ H (Grw.refl H) (.int _)⟩
  · cases e
def dTupleOf : List D → Option D
  | [.list a] => some (.tuple a)
  | [.tuple a] => some (.tuple a)
  | _ => none
abbrev rTupleOf (K : PySem.W.Frag) : List V → Hp → VK → Prop := fun xs H Q => ∃ p ys, xs = [.ref p] ∧ ((SqL K H p ys ∧ ∀ l, H l = none → Q (.ref l) (upd H l (.tup ys))) ∨ (SqT K H p ys ∧ Q (.ref p) H))
theorem do_tupleOf {K : PySem.W.Frag} : DOC K (rTupleOf K) dTupleOf := by
  intro P H xs ds d t r e Q q
  unfold dTupleOf at e
  split at e
  · cases e
    obtain ⟨v, rfl, h⟩ := r.one
    obtain ⟨a, vs, rfl, h1, r1⟩ := h.lst_inv
    exact ⟨a, vs, rfl, .inl ⟨SqL.of (mask_le _ _ h1), fun l hl => q _ _ (Grw.new hl) (rp_newT t hl r1)⟩⟩
  · cases e
    obtain ⟨v, rfl, h⟩ := r.one
    obtain ⟨a, vs, rfl, h1, r1⟩ := h.tup_inv
    exact ⟨a, vs, rfl, .inr ⟨sqT_le h1, q _ H (Grw.refl H) h⟩⟩
  · cases e
/-! ### isinstance -/
def tyD : D → String
  | .none => "NoneType"
  | .bool _ => "bool"
  | .int _ => "int"
  | .str _ => "str"
  | .list _ => "list"
  | .tuple _ => "tuple"
  | .dict ds => if isP ds then "tuple" else "dict"
/-- the type of a value; a dict that is held still, too -/
inductive TyY (K : PySem.W.Frag) (H : Hp) : V → Value → Prop where
  | of {x : V} {t : Value} (h : TyX K H x t) : TyY K H x t
  | fT {a : Addr} {o : Obj} {kvs : List (List Key × V)} (e : H a = some (.frz o (.dT kvs))) : TyY K H (.ref a) (.type "dict")
theorem kit_ofY {X : Cx} {pins : List (Addr × Obj)} {σ : L2.St} {H : Hp} {s : Shared} {x : V} {u t : Value} (I : Inv X pins σ H s) (rx : RelV x u) (ty : TyY X.K H x t) : ∃ P : Heap → Prop, PySem.W.KitX X.K u t P ∧ P s.heap ∧ u ≠ .builtin "__main__.__loader__#opaque" := by
  cases ty with
  | of h => exact kit_of I rx h
  | @fT a ob kvs ea =>
    cases (show u = Value.ref a from rx)
    obtain ⟨_, _, _, xs, _, o, es, ep, h1, h2, _⟩ := (show ObjOk X.prog X.w H s.heap a (.frz ob (.dT kvs)) from I.hok a _ ea)
    exact ⟨_, PySem.W.kitx_dict, ⟨o, h1, h2.1⟩, fun z => nomatch z⟩
def rIsiY (K : PySem.W.Frag) : List V → Hp → VK → Prop := fun xs H Q => ∃ (x c : V) (t u : Value) (b : Bool), xs = [x, c] ∧ ClsV c u ∧ TyY K H x t ∧ PySem.W.kitOne K t u = some b ∧ Q (.bl b) H
theorem call_isiY {X : Cx} : CallR X (.builtin "isinstance") (rIsiY X.K) := by
  intro pins s σ H xs us Q I r h
  obtain ⟨x, c, t, u, b, rfl, k, ty, e, q⟩ := h
  obtain ⟨u1, u2, rfl, r1, r2⟩ := vals2 r
  have e2 := k.eq r2
  subst e2
  obtain ⟨P, Z, p, hx⟩ := kit_ofY I r1 ty
  exact PySem.W.kia_one Z I.kIn p e hx fun tk => ⟨.bl b, H, I.tok tk, rfl, q⟩
theorem Rp.ty {K : PySem.W.Frag} {P : Addr → Prop} {H : Hp} {v : V} {d : D} (h : Rp K (mask P H) v d) : TyY K H v (.type (tyD d)) := by
  cases h with
  | non => exact .of (.base .non)
  | bl b => exact .of (.base (.bl b))
  | int i => exact .of (.base (.int i))
  | str x => exact .of (.base (.str x))
  | lst h r => exact .of (.base (.lst (mask_le _ _ h)))
  | tup h r => exact .of (.base (.tup (mask_le _ _ h)))
  | pl h n r => exact .of (.fTuple (mask_le _ _ h))
  | dK h r =>
    rw [show tyD (.dict _) = "dict" by simp [tyD, r.notP]]
    rcases rd_grw mask_le h with z | ⟨o, z⟩
    · exact .of (.base (.dK z))
    · exact .of (.fDict z)
  | dT h r =>
    rw [show tyD (.dict _) = "dict" by simp [tyD, r.notP]]
    rcases rd_grw mask_le h with z | ⟨o, z⟩
    · exact .of (.base (.dT z))
    · exact .fT z
/-- isinstance(x, T) for a built-in T that is told: int, bool, str, list, tuple, dict -/
def isiT (T s : String) : Bool := s == T || (s == "bool" && T == "int")
def isiD (T : String) (d : D) : Bool := isiT T (tyD d)
theorem isi_ok {K : PySem.W.Frag} {T : String} (hT : T ∈ ["int", "bool", "str", "list", "tuple", "dict"]) (d : D) : PySem.W.kitOne K (.type (tyD d)) (.type T) = some (isiD T d) := by
  have h : ∀ a ∈ ["NoneType", "int", "bool", "str", "list", "tuple", "dict"], ∀ b ∈ ["int", "bool", "str", "list", "tuple", "dict"], kitB a b = some (isiT b a) := by decide +kernel
  refine kit_ty (h _ ?_ _ hT)
  cases d <;> simp [tyD]
end DL
namespace DL
open PySem PySem.Spec PyProof.Rows L2
/-! DL3: expressions and tests. -/
def bd {α β : Type} (m : M α) (f : α → M β) : M β := fun s => match m s with
  | some (a, s1) => f a s1
  | none => none
def rtn {α : Type} (a : α) : M α := fun s => some (a, s)
def lf {α : Type} (o : Option α) : M α := fun s => match o with
  | some a => some (a, s)
  | none => none
theorem bd_some {α β : Type} {m : M α} {f : α → M β} {s : S} {r : β × S} (h : bd m f s = some r) : ∃ a s1, m s = some (a, s1) ∧ f a s1 = some r := by
  unfold bd at h
  split at h
  · exact ⟨_, _, by assumption, h⟩
  · cases h
theorem lf_some {α : Type} {o : Option α} {s s' : S} {a : α} (h : lf o s = some (a, s')) : o = some a ∧ s' = s := by
  unfold lf at h
  split at h
  · cases h; exact ⟨rfl, rfl⟩
  · cases h
theorem rtn_some {α : Type} {a b : α} {s s' : S} (h : rtn a s = some (b, s')) : b = a ∧ s' = s := by
  unfold rtn at h; cases h; exact ⟨rfl, rfl⟩
section
variable {X : Cx} {K : PySem.W.Frag} {e a b c : Expr} {ta tb tc te : TE} {fa fb fc f : M D} {pos : Pos}
/-! ### names, constants -/
def eVar (i : Nat) : M D := fun s => match s.g[i]? with
  | some (some (.dat d)) => some (d, s)
  | _ => none
theorem eVar_some {i : Nat} {s s' : S} {d : D} (h : eVar i s = some (d, s')) : s.g[i]? = some (some (.dat d)) ∧ s' = s := by
  unfold eVar at h
  split at h
  · cases h; exact ⟨by assumption, rfl⟩
  · cases h
theorem ev_var {i : Nat} : EvE K (tVar i) (eVar i) := by
  intro A hid P s σ H d s' ok h Q q
  obtain ⟨h1, rfl⟩ := eVar_some h
  obtain ⟨v, e, r⟩ := ok.slot i _ h1
  exact ⟨v, e, q v P H ok Stp.refl r⟩
theorem de_var (i : Nat) {x : Str} {pos : Pos} (hN : X.N[i]? = some x := by rfl) (hv : Vis X.env.scope x := by first | exact Or.inl rfl | exact Or.inr (Or.inl rfl) | exact Or.inr (Or.inr rfl)) (hd : (x == ("__debug__" : Str)) = false := by decide)
    (hcd : (x == ("__classdict__" : Str)) = false := by decide) : DE X (.Name x pos) (tVar i) (eVar i) := ⟨pe_var hN hv hd hcd, ev_var⟩
def eC (d : D) : M D := rtn d
theorem ev_c {v : V} {d : D} (h : ∀ H, Rp K H v d) : EvE K (tC v) (eC d) := by
  intro A hid P s σ H d' s' ok e Q q
  obtain ⟨rfl, rfl⟩ := rtn_some e
  exact q v P H ok Stp.refl (h _)
theorem de_int {i : Int} {j pos} : DE X (.Constant (.int i) j pos) (tC (.int i)) (eC (.int i)) := ⟨pe_int, ev_c fun _ => .int i⟩
theorem de_bl {b : Bool} {j pos} : DE X (.Constant (.bool b) j pos) (tC (.bl b)) (eC (.bool b)) := ⟨pe_bl, ev_c fun _ => .bl b⟩
theorem de_non {j pos} : DE X (.Constant .none j pos) (tC .non) (eC .none) := ⟨pe_non, ev_c fun _ => .non⟩
theorem de_str {x : Str} {j pos} : DE X (.Constant (.str x) j pos) (tC (.str x)) (eC (.str x)) := ⟨pe_str, ev_c fun _ => .str x⟩
theorem de_glob {x : Str} {v : V} {u : Value} {d : D} (hg : Gl X x) (hm : X.mg x = some u) (r : RelV v u) (h : ∀ H, Rp X.K H v d) (hd : (x == ("__debug__" : Str)) = false := by decide) : DE X (.Name x pos) (tC v) (eC d) := ⟨pe_glob hg hm r hd, ev_c h⟩
/-! ### operators -/
def eOp2 (op : D → D → Option D) (fa fb : M D) : M D := bd fa fun x => bd fb fun y => lf (op x y)
theorem ev_op2 {r : R2} {op : D → D → Option D} (hr : DO2 K r op) (ha : EvE K ta fa) (hb : EvE K tb fb) : EvE K (tOp r ta tb) (eOp2 op fa fb) := by
  intro A hid P s σ H d s' ok h Q q
  obtain ⟨x, s1, h1, h⟩ := bd_some h
  obtain ⟨y, s2, h2, h⟩ := bd_some h
  obtain ⟨h3, rfl⟩ := lf_some h
  refine ha A hid P s σ H x s1 ok h1 _ fun v P1 H1 ok1 st1 r1 => ?_
  refine hb A hid P1 s1 σ H1 y _ ok1 h2 _ fun u P2 H2 ok2 st2 r2 => ?_
  refine hr P2 H2 v u x y d ok2.trk (st2.rp r1) r2 h3 _ fun z H3 g r3 => ?_
  exact q z P2 H3 (ok2.grw g) ((st1.trans st2).trans (Stp.grw g)) r3
theorem de_bin {op : Operator} {r : R2} {dop : D → D → Option D} (ho : OpR X (binaryOp op) r) (hr : DO2 X.K r dop) (ha : DE X a ta fa) (hb : DE X b tb fb) : DE X (.BinOp a op b pos) (tOp r ta tb) (eOp2 dop fa fb) :=
  ⟨pe_op ho ha.p hb.p, ev_op2 hr ha.v hb.v⟩
theorem de_cmp {op : CmpOp} {r : R2} {dop : D → D → Option D} (ho : OpR X (compareOp op) r) (hr : DO2 X.K r dop) (ha : DE X a ta fa) (hb : DE X b tb fb) (hm : behindInMarks op b = false) : DE X (.Compare a [op] [b] pos) (tOp r ta tb) (eOp2 dop fa fb) :=
  ⟨pe_cmpR ho ha.p hb.p hm, ev_op2 hr ha.v hb.v⟩
def eOp1 (op : D → Option D) (fa : M D) : M D := bd fa fun x => lf (op x)
def dNeg : D → Option D
  | .int i => some (.int (-i))
  | _ => none
theorem ev_op1 {r : V → Hp → VK → Prop} {op : D → Option D} (hr : DO1 K r op) (ha : EvE K ta fa) : EvE K (tUn r ta) (eOp1 op fa) := by
  intro A hid P s σ H d s' ok h Q q
  obtain ⟨x, s1, h1, h⟩ := bd_some h
  obtain ⟨h3, rfl⟩ := lf_some h
  refine ha A hid P s σ H x _ ok h1 _ fun v P1 H1 ok1 st1 r1 => ?_
  refine hr P1 H1 v x d ok1.trk r1 h3 _ fun z H3 g r3 => ?_
  exact q z P1 H3 (ok1.grw g) (st1.trans (Stp.grw g)) r3
theorem do_neg : DO1 K (rU fun i => .int (-i)) dNeg := by
  intro P H x dx d t hx e Q q
  unfold dNeg at e
  split at e
  · cases e; cases hx
    exact ⟨_, rfl, q _ H (Grw.refl H) (.int _)⟩
  · cases e
theorem de_neg (ha : DE X a ta fa) : DE X (.UnaryOp .USub a pos) (tUn (rU fun i => .int (-i)) ta) (eOp1 dNeg fa) := ⟨pe_un un_neg ha.p, ev_op1 do_neg ha.v⟩
/-! ### and, or, not, if: values -/
def eAnd (fa fb : M D) : M D := bd fa fun x => match x with
  | .bool true => fb
  | .bool false => rtn (.bool false)
  | _ => fun _ => none
def eOr (fa fb : M D) : M D := bd fa fun x => match x with
  | .bool true => rtn (.bool true)
  | .bool false => fb
  | _ => fun _ => none
def eNot (fa : M D) : M D := bd fa fun x => match x with
  | .bool b => rtn (.bool (!b))
  | _ => fun _ => none
theorem ev_and (ha : EvE K ta fa) (hb : EvE K tb fb) : EvE K (tAndV ta tb) (eAnd fa fb) := by
  intro A hid P s σ H d s' ok h Q q
  obtain ⟨x, s1, h1, h⟩ := bd_some h
  refine ha A hid P s σ H x _ ok h1 _ fun v P1 H1 ok1 st1 r1 => ?_
  split at h
  · cases r1
    refine ⟨true, rfl, iteT ?_⟩
    exact hb A hid P1 s1 σ H1 d s' ok1 h _ fun u P2 H2 ok2 st2 r2 => q u P2 H2 ok2 (st1.trans st2) r2
  · cases r1
    obtain ⟨rfl, rfl⟩ := rtn_some h
    exact ⟨false, rfl, iteF (q _ P1 H1 ok1 st1 (.bl false))⟩
  · cases h
theorem ev_not (ha : EvE K ta fa) : EvE K (tNotV ta) (eNot fa) := by
  intro A hid P s σ H d s' ok h Q q
  obtain ⟨x, s1, h1, h⟩ := bd_some h
  refine ha A hid P s σ H x _ ok h1 _ fun v P1 H1 ok1 st1 r1 => ?_
  split at h
  · cases r1
    obtain ⟨rfl, rfl⟩ := rtn_some h
    exact ⟨_, rfl, q _ P1 H1 ok1 st1 (.bl _)⟩
  · cases h
theorem de_one {op} (h : DE X a ta fa) : DE X (.BoolOp op [a] pos) ta fa := ⟨pe_one h.p, h.v⟩
variable {rest : List Expr}
theorem de_and (ha : DE X a ta fa) (hb : DE X (.BoolOp .And (b :: rest) pos) tb fb) : DE X (.BoolOp .And (a :: b :: rest) pos) (tAndV ta tb) (eAnd fa fb) := ⟨pe_and ha.p hb.p, ev_and ha.v hb.v⟩
theorem de_not (ha : DE X a ta fa) : DE X (.UnaryOp .Not a pos) (tNotV ta) (eNot fa) := ⟨pe_not ha.p, ev_not ha.v⟩
/-! ### tests -/
variable {tA tB' : TT} {gA gB : M Bool}
def tV (fa : M D) : M Bool := bd fa fun x => match x with
  | .bool b => rtn b
  | _ => fun _ => none
theorem ev_tV (ha : EvE K ta fa) : EvT K (tB ta) (tV fa) := by
  intro A hid P s σ H b s' ok h Q q
  obtain ⟨x, s1, h1, h⟩ := bd_some h
  refine ha A hid P s σ H x _ ok h1 _ fun v P1 H1 ok1 st1 r1 => ?_
  split at h
  · cases r1
    obtain ⟨rfl, rfl⟩ := rtn_some h
    exact ⟨_, rfl, q P1 H1 ok1 st1⟩
  · cases h
theorem ev_tT (ha : EvE K ta fa) : EvT K (tTest ta) (tV fa) := ev_tV ha
theorem dt_val (h : DE X e te f) (he : ∀ whole, isTrue e X.env whole = (do let v ← whole; standAt e.pos; holding [v] (truthy v)) := by intro _; rfl) : DT X e (tB te) (tV f) := ⟨pt_val h.p he, ev_tV h.v⟩
theorem dt_cmp {op : CmpOp} {r : R2} {dop : D → D → Option D} (ho : OpR X (compareOp op) r) (hr : DO2 X.K r dop) (ha : DE X a ta fa) (hb : DE X b tb fb) (hm : behindInMarks op b = false) : DT X (.Compare a [op] [b] pos) (tTest (tOp r ta tb)) (tV (eOp2 dop fa fb)) :=
  ⟨pt_cmpR ho ha.p hb.p hm, ev_tT (ev_op2 hr ha.v hb.v)⟩
def tAndM (fa fb : M Bool) : M Bool := bd fa fun x => if x = true then fb else rtn false
def tOrM (fa fb : M Bool) : M Bool := bd fa fun x => if x = true then rtn true else fb
def tNotM (fa : M Bool) : M Bool := bd fa fun x => rtn (!x)
theorem ev_tAnd (ha : EvT K tA gA) (hb : EvT K tB' gB) : EvT K (tAnd tA tB') (tAndM gA gB) := by
  intro A hid P s σ H b s' ok h Q q
  obtain ⟨x, s1, h1, h⟩ := bd_some h
  refine ha A hid P s σ H x _ ok h1 _ fun P1 H1 ok1 st1 => ?_
  cases x with
  | true =>
    rw [if_pos rfl] at h ⊢
    exact hb A hid P1 s1 σ H1 b s' ok1 h _ fun P2 H2 ok2 st2 => q P2 H2 ok2 (st1.trans st2)
  | false =>
    rw [if_neg Bool.false_ne_true] at h ⊢
    obtain ⟨rfl, rfl⟩ := rtn_some h
    exact q P1 H1 ok1 st1
theorem ev_tOr (ha : EvT K tA gA) (hb : EvT K tB' gB) : EvT K (tOr tA tB') (tOrM gA gB) := by
  intro A hid P s σ H b s' ok h Q q
  obtain ⟨x, s1, h1, h⟩ := bd_some h
  refine ha A hid P s σ H x _ ok h1 _ fun P1 H1 ok1 st1 => ?_
  cases x with
  | true =>
    rw [if_pos rfl] at h ⊢
    obtain ⟨rfl, rfl⟩ := rtn_some h
    exact q P1 H1 ok1 st1
  | false =>
    rw [if_neg Bool.false_ne_true] at h ⊢
    exact hb A hid P1 s1 σ H1 b s' ok1 h _ fun P2 H2 ok2 st2 => q P2 H2 ok2 (st1.trans st2)
theorem ev_tNot (ha : EvT K tA gA) : EvT K (tNot tA) (tNotM gA) := by
  intro A hid P s σ H b s' ok h Q q
  obtain ⟨x, s1, h1, h⟩ := bd_some h
  obtain ⟨rfl, rfl⟩ := rtn_some h
  exact ha A hid P s σ H x _ ok h1 _ fun P1 H1 ok1 st1 => q P1 H1 ok1 st1
theorem DW.pt (h : DW X e tA gA) : DT X e tA gA := ⟨h.p.pt, h.v⟩
theorem dw_and1 (ha : DT X a tA gA) : DW X (.BoolOp .And [a] pos) tA gA := ⟨pw_and1 ha.p, ha.v⟩
theorem dw_or1 (ha : DT X a tA gA) : DW X (.BoolOp .Or [a] pos) tA gA := ⟨pw_or1 ha.p, ha.v⟩
theorem dw_and (ha : DT X a tA gA) (hb : DW X (.BoolOp .And (b :: rest) pos) tB' gB) : DW X (.BoolOp .And (a :: b :: rest) pos) (tAnd tA tB') (tAndM gA gB) := ⟨pw_and ha.p hb.p, ev_tAnd ha.v hb.v⟩
theorem dw_or (ha : DT X a tA gA) (hb : DW X (.BoolOp .Or (b :: rest) pos) tB' gB) : DW X (.BoolOp .Or (a :: b :: rest) pos) (tOr tA tB') (tOrM gA gB) := ⟨pw_or ha.p hb.p, ev_tOr ha.v hb.v⟩
theorem dt_not (ha : DT X a tA gA) : DT X (.UnaryOp .Not a pos) (tNot tA) (tNotM gA) := ⟨pt_not ha.p, ev_tNot ha.v⟩
/-- a if t else b -/
def eIf (g : M Bool) (fa fb : M D) : M D := bd g fun x => if x = true then fa else fb
theorem ev_if (hg : EvT K tA gA) (ha : EvE K ta fa) (hb : EvE K tb fb) : EvE K (tIf tA ta tb) (eIf gA fa fb) := by
  intro A hid P s σ H d s' ok h Q q
  obtain ⟨x, s1, h1, h⟩ := bd_some h
  refine hg A hid P s σ H x _ ok h1 _ fun P1 H1 ok1 st1 => ?_
  cases x with
  | true =>
    rw [if_pos rfl] at h ⊢
    exact ha A hid P1 s1 σ H1 d s' ok1 h _ fun v P2 H2 ok2 st2 r => q v P2 H2 ok2 (st1.trans st2) r
  | false =>
    rw [if_neg Bool.false_ne_true] at h ⊢
    exact hb A hid P1 s1 σ H1 d s' ok1 h _ fun v P2 H2 ok2 st2 r => q v P2 H2 ok2 (st1.trans st2) r
theorem de_if (hc : DT X c tA gA) (ha : DE X a ta fa) (hb : DE X b tb fb) : DE X (.IfExp c a b pos) (tIf tA ta tb) (eIf gA fa fb) := ⟨pe_ifExp hc.p ha.p hb.p, ev_if hc.v ha.v hb.v⟩
/-- a <= b <= c -/
def eChain (op op' : D → D → Option D) (fa fb fc : M D) : M D := bd fa fun x => bd fb fun y => bd (lf (op x y)) fun z => match z with
  | .bool true => bd fc fun w => lf (op' y w)
  | .bool false => rtn (.bool false)
  | _ => fun _ => none
theorem ev_chain {r r' : R2} {op op' : D → D → Option D} (hr : DO2 K r op) (hr' : DO2 K r' op') (ha : EvE K ta fa) (hb : EvE K tb fb) (hc : EvE K tc fc) : EvE K (tChain r r' ta tb tc) (eChain op op' fa fb fc) := by
  intro A hid P s σ H d s' ok h Q q
  obtain ⟨x, s1, h1, h⟩ := bd_some h
  obtain ⟨y, s2, h2, h⟩ := bd_some h
  obtain ⟨z, s3, hz, hy⟩ := bd_some h
  obtain ⟨h3, e3⟩ := lf_some hz
  subst e3
  refine ha A hid P s σ H x s1 ok h1 _ fun v P1 H1 ok1 st1 r1 => ?_
  refine hb A hid P1 s1 σ H1 y _ ok1 h2 _ fun u P2 H2 ok2 st2 r2 => ?_
  refine hr P2 H2 v u x y z ok2.trk (st2.rp r1) r2 h3 _ fun k H3 g r3 => ?_
  have st3 : Stp hid P P2 H H3 := (st1.trans st2).trans (Stp.grw g)
  split at hy
  · cases r3
    refine ⟨true, rfl, iteT ?_⟩
    obtain ⟨w, s4, h4, hw⟩ := bd_some hy
    obtain ⟨h5, rfl⟩ := lf_some hw
    refine hc A hid P2 _ σ H3 w _ (ok2.grw g) h4 _ fun k P4 H4 ok4 st4 r4 => ?_
    refine hr' P4 H4 u k y w d ok4.trk (st4.rp ((Stp.grw (hid := hid) g).rp r2)) r4 h5 _ fun m H5 g5 r5 => ?_
    exact q m P4 H5 (ok4.grw g5) ((st3.trans st4).trans (Stp.grw g5)) r5
  · cases r3
    obtain ⟨rfl, rfl⟩ := rtn_some hy
    exact ⟨false, rfl, iteF (q _ P2 H3 (ok2.grw g) st3 (.bl false))⟩
  · cases hy
theorem de_chain {op op' : CmpOp} {r r' : R2} {dop dop' : D → D → Option D} (ho : OpR X (compareOp op) r) (ho' : OpR X (compareOp op') r') (hr : DO2 X.K r dop) (hr' : DO2 X.K r' dop') (ha : DE X a ta fa) (hb : DE X b tb fb) (hc : DE X c tc fc)
    (hm : lastMarks [op, op'] [b, c] = false := by with_unfolding_all rfl) : DE X (.Compare a [op, op'] [b, c] pos) (tChain r r' ta tb tc) (eChain dop dop' fa fb fc) := ⟨pe_chain ho ho' ha.p hb.p hc.p hm, ev_chain hr hr' ha.v hb.v hc.v⟩
theorem dt_chain {op op' : CmpOp} {r r' : R2} {dop dop' : D → D → Option D} (ho : OpR X (compareOp op) r) (ho' : OpR X (compareOp op') r') (hr : DO2 X.K r dop) (hr' : DO2 X.K r' dop') (ha : DE X a ta fa) (hb : DE X b tb fb) (hc : DE X c tc fc)
    (hm : lastMarks [op, op'] [b, c] = false := by with_unfolding_all rfl) : DT X (.Compare a [op, op'] [b, c] pos) (tTest (tChain r r' ta tb tc)) (tV (eChain dop dop' fa fb fc)) := ⟨pt_chain ho ho' ha.p hb.p hc.p hm, ev_tT (ev_chain hr hr' ha.v hb.v hc.v)⟩
/-! ### argument lists, displays -/
variable {es : List Expr} {tr : TA} {fr : M (List D)}
def aNil : M (List D) := rtn []
def aCons (f : M D) (fr : M (List D)) : M (List D) := bd f fun x => bd fr fun xs => rtn (x :: xs)
theorem ea_nil : EvA K tNil aNil := by
  intro A hid P s σ H ds s' ok h Q q
  obtain ⟨rfl, rfl⟩ := rtn_some h
  exact q [] P H ok Stp.refl .nil
theorem ea_cons (ha : EvE K ta fa) (hr : EvA K tr fr) : EvA K (tCons ta tr) (aCons fa fr) := by
  intro A hid P s σ H ds s' ok h Q q
  obtain ⟨x, s1, h1, h⟩ := bd_some h
  obtain ⟨xs, s2, h2, h⟩ := bd_some h
  obtain ⟨rfl, rfl⟩ := rtn_some h
  refine ha A hid P s σ H x s1 ok h1 _ fun v P1 H1 ok1 st1 r1 => ?_
  refine hr A hid P1 s1 σ H1 xs _ ok1 h2 _ fun vs P2 H2 ok2 st2 r2 => ?_
  exact q (v :: vs) P2 H2 ok2 (st1.trans st2) (.cons (st2.rp r1) r2)
theorem da_nil : DAr X [] tNil aNil := ⟨pa_nil, ea_nil⟩
theorem da_cons (ha : DE X e te f) (hr : DAr X es tr fr) (hs : starEach (e :: es) X.env = (false, eval e X.env) :: starEach es X.env := by rfl) : DAr X (e :: es) (tCons te tr) (aCons f fr) := ⟨pa_cons ha.p hr.p hs, ea_cons ha.v hr.v⟩
def eTup (fr : M (List D)) : M D := bd fr fun ds => if ds.length ≤ lim then rtn (.tuple ds) else fun _ => none
theorem ev_tup (hr : EvA K tr fr) : EvE K (tTup tr) (eTup fr) := by
  intro A hid P s σ H d s' ok h Q q
  obtain ⟨ds, s1, h1, h⟩ := bd_some h
  split at h
  · rename_i hl
    obtain ⟨rfl, rfl⟩ := rtn_some h
    refine hr A hid P s σ H ds _ ok h1 _ fun vs P1 H1 ok1 st1 r1 => ⟨by rw [r1.length]; exact lim_le hl, fun p hp => ?_⟩
    exact q _ P1 _ (ok1.grw (Grw.new hp)) (st1.trans (Stp.grw (Grw.new hp))) (rp_newT ok1.trk hp r1)
  · cases h
theorem de_tup {x1} (h : DAr X es tr fr) : DE X (.Tuple es x1 pos) (tTup tr) (eTup fr) := ⟨pe_tup h.p, ev_tup h.v⟩
/-! ### new lists -/
def EvN (K : PySem.W.Frag) (t : TE) (f : M (List D)) : Prop := ∀ (A : DA) (hid P : Addr → Prop) (s : S) (σ : St) (H : Hp) (ds : List D) (s' : S), SOk K A hid P s σ H → f s = some (ds, s') →
  ∀ Q : VK, (∀ vs P' H1 p, SOk K A hid P' s' σ H1 → Stp hid P P' H H1 → H1 p = none → RpA K (mask P' H1) vs ds → Q (.ref p) (upd H1 p (.lst vs))) → t σ H Q
structure DN (X : Cx) (e : Expr) (t : TE) (f : M (List D)) : Prop where
  p : PE X e t
  v : EvN X.K t f
def eL (f : M (List D)) : M D := bd f fun ds => rtn (.list ds)
theorem ev_N {g : M (List D)} (h : EvN K te g) : EvE K te (eL g) := by
  intro A hid P s σ H d s' ok e Q q
  obtain ⟨ds, s1, h1, e⟩ := bd_some e
  obtain ⟨rfl, rfl⟩ := rtn_some e
  refine h A hid P s σ H ds _ ok h1 _ fun vs P1 H1 p ok1 st1 hp r1 => ?_
  exact q _ P1 _ (ok1.grw (Grw.new hp)) (st1.trans (Stp.grw (Grw.new hp))) (rp_newL ok1.trk hp r1)
theorem DN.de {g : M (List D)} (h : DN X e te g) : DE X e te (eL g) := ⟨h.p, ev_N h.v⟩
def nLst (fr : M (List D)) : M (List D) := bd fr fun ds => if ds.length ≤ lim then rtn ds else fun _ => none
theorem en_lst (hr : EvA K tr fr) : EvN K (tLst tr) (nLst fr) := by
  intro A hid P s σ H d s' ok h Q q
  obtain ⟨ds, s1, h1, h⟩ := bd_some h
  split at h
  · rename_i hl
    obtain ⟨rfl, rfl⟩ := rtn_some h
    refine hr A hid P s σ H _ _ ok h1 _ fun vs P1 H1 ok1 st1 r1 => ⟨by rw [r1.length]; exact lim_le hl, fun p hp => ?_⟩
    exact q vs P1 H1 p ok1 st1 hp r1
  · cases h
theorem dn_lst (h : DAr X es tr fr) : DN X (.List es pos) (tLst tr) (nLst fr) := ⟨pe_lst h.p, en_lst h.v⟩
/-! ### built-ins by their names -/
def eCB (op : List D → Option D) (fr : M (List D)) : M D := bd fr fun ds => lf (op ds)
theorem ev_CB {r : List V → Hp → VK → Prop} {op : List D → Option D} (hr : DOC K r op) (ha : EvA K tr fr) : EvE K (tCB r tr) (eCB op fr) := by
  intro A hid P s σ H d s' ok h Q q
  obtain ⟨ds, s1, h1, h⟩ := bd_some h
  obtain ⟨h3, rfl⟩ := lf_some h
  refine ha A hid P s σ H ds _ ok h1 _ fun vs P1 H1 ok1 st1 r1 => ?_
  refine hr P1 H1 vs ds d ok1.trk r1 h3 _ fun z H3 g r3 => ?_
  exact q z P1 H3 (ok1.grw g) (st1.trans (Stp.grw g)) r3
theorem de_B {x : Str} {p : Pos} {id : String} {r : List V → Hp → VK → Prop} {op : List D → Option D} (hc : CallR X (.builtin id) r) (hr : DOC X.K r op) (hg : Gl X x) (hm : X.mg x = none) (hv : bootBuiltins x = some (.builtin id)) (ha : DAr X (e :: es) tr fr)
    (hn : x ≠ "__name__" := by decide) (hdb : (x == ("__debug__" : Str)) = false := by decide)
    (he : starEach (e :: es) X.env = (false, eval e X.env) :: starEach es X.env := by rfl) (hpl : (backTo pos (starEach es X.env)).any (·.1) = false := by rfl) : DE X (.Call (.Name x p) (e :: es) [] pos) (tCB r tr) (eCB op fr) :=
  ⟨pe_callB hc hg hm hv ha.p hn hdb he hpl, ev_CB hr ha.v⟩
theorem de_Ty {x : Str} {p : Pos} {T : String} {r : List V → Hp → VK → Prop} {op : List D → Option D} (hc : CallR X (.type T) r) (hr : DOC X.K r op) (hg : Gl X x) (hm : X.mg x = none) (hv : bootBuiltins x = some (.type T)) (ha : DAr X (e :: es) tr fr)
    (hn : x ≠ "__name__" := by decide) (hdb : (x == ("__debug__" : Str)) = false := by decide)
    (he : starEach (e :: es) X.env = (false, eval e X.env) :: starEach es X.env := by rfl) (hpl : (backTo pos (starEach es X.env)).any (·.1) = false := by rfl) : DE X (.Call (.Name x p) (e :: es) [] pos) (tCB r tr) (eCB op fr) :=
  ⟨pe_callTy hc hg hm hv ha.p hn hdb he hpl, ev_CB hr ha.v⟩
/-- isinstance(e, T), T a built-in type -/
def eIsi (T : String) (f : M D) : M D := bd f fun d => rtn (.bool (isiD T d))
theorem ev_isi {T : String} (hT : T ∈ ["int", "bool", "str", "list", "tuple", "dict"]) (h : EvE K te f) : EvE K (tCB (rIsiY K) (tCons te (tCons (tC (.ty T)) tNil))) (eIsi T f) := by
  intro A hid P s σ H d s' ok e Q q
  obtain ⟨x, s1, h1, e⟩ := bd_some e
  obtain ⟨rfl, rfl⟩ := rtn_some e
  refine h A hid P s σ H x _ ok h1 _ fun v P1 H1 ok1 st1 r1 => ?_
  exact ⟨v, .ty T, .type (tyD x), .type T, isiD T x, rfl, .ty T, r1.ty, isi_ok hT x, q _ P1 H1 ok1 st1 (.bl _)⟩
theorem de_isi (T : String) {x y : Str} {p p2 : Pos} (hT : T ∈ ["int", "bool", "str", "list", "tuple", "dict"]) (hg : Gl X x) (hm : X.mg x = none) (hv : bootBuiltins x = some (.builtin "isinstance")) (h : DE X e te f) (hg2 : Gl X y) (hm2 : X.mg y = none) (hv2 : bootBuiltins y = some (.type T))
    (hn : x ≠ "__name__" := by decide) (hdb : (x == ("__debug__" : Str)) = false := by decide) (hn2 : y ≠ "__name__" := by decide) (hdb2 : (y == ("__debug__" : Str)) = false := by decide)
    (hs : starEach [.Name y p2] X.env = [(false, eval (.Name y p2) X.env)] := by rfl)
    (he : starEach [e, .Name y p2] X.env = (false, eval e X.env) :: starEach [.Name y p2] X.env := by rfl) (hpl : (backTo pos (starEach [.Name y p2] X.env)).any (·.1) = false := by rfl) :
    DE X (.Call (.Name x p) [e, .Name y p2] [] pos) (tCB (rIsiY X.K) (tCons te (tCons (tC (.ty T)) tNil))) (eIsi T f) :=
  ⟨pe_callB call_isiY hg hm hv (pa_cons h.p (pa_cons (pe_bltn hg2 hm2 hv2 rfl hn2 hdb2) pa_nil hs) he) hn hdb he hpl, ev_isi hT h.v⟩
/-! ### x[i], x[a:b] -/
theorem de_ix (ha : DE X a ta fa) (hb : DE X b tb fb) (hs : PlainIx b) : DE X (.Subscript a b pos) (tOp (rIx X.K) ta tb) (eOp2 dIx fa fb) := ⟨pe_ix ix_seq ha.p hb.p hs, ev_op2 do_ix ha.v hb.v⟩
def EvO (K : PySem.W.Frag) (t : TO) (f : M (Option Int)) : Prop := ∀ (A : DA) (hid P : Addr → Prop) (s : S) (σ : St) (H : Hp) (o : Option Int) (s' : S), SOk K A hid P s σ H → f s = some (o, s') →
  ∀ Q : Option Int → Hp → Prop, (∀ P' H', SOk K A hid P' s' σ H' → Stp hid P P' H H' → Q o H') → t σ H Q
structure DO (X : Cx) (e : Option Expr) (t : TO) (f : M (Option Int)) : Prop where
  p : PO X e t
  v : EvO X.K t f
def oN : M (Option Int) := rtn none
def oS (f : M D) : M (Option Int) := bd f fun x => match x with
  | .int i => rtn (some i)
  | _ => fun _ => none
theorem eo_none : EvO K tNoPart oN := by
  intro A hid P s σ H o s' ok h Q q
  obtain ⟨rfl, rfl⟩ := rtn_some h
  exact q P H ok Stp.refl
theorem eo_some (h : EvE K te f) : EvO K (tPart te) (oS f) := by
  intro A hid P s σ H o s' ok e Q q
  obtain ⟨x, s1, h1, e⟩ := bd_some e
  refine h A hid P s σ H x _ ok h1 _ fun v P1 H1 ok1 st1 r1 => ?_
  split at e
  · cases r1
    obtain ⟨rfl, rfl⟩ := rtn_some e
    exact ⟨_, rfl, q P1 H1 ok1 st1⟩
  · cases e
theorem do_none : DO X none tNoPart oN := ⟨po_none, eo_none⟩
theorem do_some (h : DE X e te f) : DO X (some e) (tPart te) (oS f) := ⟨po_some h.p, eo_some h.v⟩
def cutG {α : Type} (xs : List α) (lo hi : Option Int) : List α := (xs.drop (HT.sIx xs.length 0 lo)).take (HT.sIx xs.length xs.length hi - HT.sIx xs.length 0 lo)
theorem RpA.cut {H : Hp} {vs : List V} {ds : List D} (r : RpA K H vs ds) (lo hi : Option Int) : RpA K H (cutV vs lo hi) (cutG ds lo hi) := by
  unfold cutV cutG
  rw [r.length]
  exact (r.drop _).take _
def dSl : D → Option Int → Option Int → Option D
  | .tuple a, lo, hi => some (.tuple (cutG a lo hi))
  | .list a, lo, hi => some (.list (cutG a lo hi))
  | _, _, _ => none
def eSl (f : M D) (l h : M (Option Int)) : M D := bd f fun x => bd l fun lo => bd h fun hi => lf (dSl x lo hi)
abbrev rSlD (K : PySem.W.Frag) : V → Option Int → Option Int → Hp → VK → Prop := fun x lo hi H Q => rSlA K x lo hi H Q ∨ rSlL K x lo hi H Q
variable {tl th : TO} {gl gh : M (Option Int)} {lo hi : Option Expr} {p2 : Pos}
theorem cutG_whole {α : Type} (xs : List α) (lo hi : Option Int) (h : HT.sIx xs.length 0 lo = 0 ∧ HT.sIx xs.length xs.length hi = xs.length) : cutG xs lo hi = xs := by
  unfold cutG
  rw [h.1, h.2]
  simp
theorem ev_sl (ha : EvE K te f) (hl : EvO K tl gl) (hh : EvO K th gh) : EvE K (tSl (rSlD K) te tl th) (eSl f gl gh) := by
  intro A hid P s σ H d s' ok e Q q
  obtain ⟨x, s1, h1, e⟩ := bd_some e
  obtain ⟨l, s2, h2, e⟩ := bd_some e
  obtain ⟨h, s3, h3, e⟩ := bd_some e
  obtain ⟨h4, rfl⟩ := lf_some e
  refine ha A hid P s σ H x _ ok h1 _ fun v P1 H1 ok1 st1 r1 => ?_
  refine hl A hid P1 _ σ H1 l _ ok1 h2 _ fun P2 H2 ok2 st2 => ?_
  refine hh A hid P2 _ σ H2 h _ ok2 h3 _ fun P3 H3 ok3 st3 => ?_
  have r3 := (st2.trans st3).rp r1
  have st := (st1.trans st2).trans st3
  unfold dSl at h4
  split at h4
  · cases h4
    obtain ⟨a, vs, rfl, hx, rr⟩ := r3.tup_inv
    refine .inl ⟨a, vs, rfl, sqT_le hx, fun hw => ?_, fun _ p hp => ?_⟩
    · refine q _ P3 H3 ok3 st ?_
      rw [rr.length] at hw
      rw [cutG_whole _ _ _ hw]
      exact r3
    · exact q _ P3 _ (ok3.grw (Grw.new hp)) (st.trans (Stp.grw (Grw.new hp))) (rp_newT ok3.trk hp (rr.cut l h))
  · cases h4
    obtain ⟨a, vs, rfl, hx, rr⟩ := r3.lst_inv
    refine .inr ⟨a, vs, rfl, SqL.of (mask_le _ _ hx), fun p hp => ?_⟩
    exact q _ P3 _ (ok3.grw (Grw.new hp)) (st.trans (Stp.grw (Grw.new hp))) (rp_newL ok3.trk hp (rr.cut l h))
  · cases h4
theorem de_sl (ha : DE X e te f) (hl : DO X lo tl gl) (hh : DO X hi th gh) : DE X (.Subscript e (.Slice lo hi none p2) pos) (tSl (rSlD X.K) te tl th) (eSl f gl gh) :=
  ⟨pe_slice (SlR.or sl_tupA sl_list) ha.p hl.p hh.p, ev_sl ha.v hl.v hh.v⟩
end
end DL
namespace DL
open PySem PySem.Spec PyProof.Rows L2
/-! DL4: targets, statements, loops, comprehensions. -/
section
variable {K : PySem.W.Frag} {A : DA} {hid P : Addr → Prop} {s : S} {σ : St} {H : Hp}
theorem get_set {α : Type} (l : List α) (i j : Nat) (x : α) : (l.set i x)[j]? = if i = j ∧ j < l.length then some x else l[j]? := by
  by_cases h : i = j
  · subst h
    by_cases hl : i < l.length
    · rw [List.getElem?_set_self hl, if_pos ⟨rfl, hl⟩]
    · rw [if_neg (fun z => hl z.2), List.set_eq_of_length_le (by omega)]
  · rw [List.getElem?_set_ne h, if_neg (fun z => h z.1)]
/-- a slot gets data -/
theorem SOk.set_dat {i : Nat} {v : V} {d : D} (ok : SOk K A hid P s σ H) (r : Rp K (mask P H) v d) : SOk K A hid P { s with g := s.g.set i (some (.dat d)) } (σ.set i (some v)) H := by
  have hl := ok.len
  refine ⟨ok.trk, ok.hp, ok.hd, by simpa using ok.len, fun j w e => ?_, fun j l w u a e1 e2 c1 c2 e3 e4 => ?_, ok.deck⟩
  · show SlotOk K A hid P H (σ.set i (some v))[j]? w
    have e : (s.g.set i (some (.dat d)))[j]? = some (some w) := e
    rw [get_set] at e ⊢
    rw [← hl]
    split at e
    · cases e
      rw [if_pos (by assumption)]
      exact ⟨v, rfl, r⟩
    · rw [if_neg (by assumption)]
      exact ok.slot j w e
  · have e1 : (s.g.set i (some (.dat d)))[j]? = some (some w) := e1
    have e2 : (s.g.set i (some (.dat d)))[l]? = some (some u) := e2
    rw [get_set] at e1 e2 e3 e4
    rw [← hl] at e3 e4
    split at e1
    · cases e1; cases c1
    · split at e2
      · cases e2; cases c2
      · rw [if_neg (by assumption)] at e3
        rw [if_neg (by assumption)] at e4
        exact ok.apart j l w u a e1 e2 c1 c2 e3 e4
/-- a slot is forgotten (its value may be anything) -/
theorem SOk.set_none {i : Nat} {v : Option V} (ok : SOk K A hid P s σ H) : SOk K A hid P { s with g := s.g.set i none } (σ.set i v) H := by
  have hl := ok.len
  refine ⟨ok.trk, ok.hp, ok.hd, by simpa using ok.len, fun j w e => ?_, fun j l w u a e1 e2 c1 c2 e3 e4 => ?_, ok.deck⟩
  · show SlotOk K A hid P H (σ.set i v)[j]? w
    have e : (s.g.set i none)[j]? = some (some w) := e
    rw [get_set] at e ⊢
    rw [← hl]
    split at e
    · cases e
    · rw [if_neg (by assumption)]
      exact ok.slot j w e
  · have e1 : (s.g.set i none)[j]? = some (some w) := e1
    have e2 : (s.g.set i none)[l]? = some (some u) := e2
    rw [get_set] at e1 e2 e3 e4
    rw [← hl] at e3 e4
    split at e1
    · cases e1
    · split at e2
      · cases e2
      · rw [if_neg (by assumption)] at e3
        rw [if_neg (by assumption)] at e4
        exact ok.apart j l w u a e1 e2 c1 c2 e3 e4
/-- something new is laid and reserved -/
theorem SOk.reserve {p : Addr} {o : HO} (ok : SOk K A hid P s σ H) (hp : H p = none) (no : NoT o := by exact trivial) : SOk K A hid (fun a => P a ∨ a = p) s σ (upd H p o) := by
  have g : Grw (mask P H) (mask (fun a => P a ∨ a = p) (upd H p o)) := mask_grw fun a u e c => ⟨fun z => z.elim c fun z => ne_of_none e hp z, by rw [upd_ne (ne_of_none e hp)]; exact e⟩
  have gH : Grw H (upd H p o) := Grw.new hp
  refine ⟨fun a z => ?_, fun a z => .inl (ok.hp a z), ok.hd, ok.len, fun i v e => ?_, ok.apart, ?_⟩
  · rcases z with z | z
    · obtain ⟨u, e, n⟩ := ok.trk a z
      exact ⟨u, gH _ _ e, n⟩
    · subst z; exact ⟨o, upd_same, no⟩
  · have q := ok.slot i v e
    cases v with
    | dat d => obtain ⟨u, e, r⟩ := q; exact ⟨u, e, r.mono g⟩
    | lst ds => obtain ⟨a, vs, e, h1, h2, h3, h4, r⟩ := q; exact ⟨a, vs, e, gH _ _ h1, .inl h2, h3, h4, r.mono g⟩
    | dct tt kvs =>
      obtain ⟨a, e, h2, h3, h4, r⟩ := q
      refine ⟨a, e, .inl h2, h3, h4, ?_⟩
      rcases r with ⟨ht, ks, h1, r⟩ | ⟨ht, ks, h1, r⟩
      · exact .inl ⟨ht, ks, gH _ _ h1, r.mono g⟩
      · exact .inr ⟨ht, ks, gH _ _ h1, r.mono g⟩
    | deck => exact q
    | obj o => obtain ⟨y, h1, h2, h3⟩ := q; exact ⟨y, h1, h2, h3.move g fun a _ u e => gH _ _ e⟩
    | fn _ => exact q
    | gst es =>
      obtain ⟨b, us, z1, z2, z3, z4, z5⟩ := q
      exact ⟨b, us, z1, z2, gH _ _ z3, z4.mono g, z5⟩
  · have d := ok.deck
    exact ⟨gH _ _ d.ho, gH _ _ d.hg, gH _ _ d.hc, fun a z => .inl (d.rs a z), d.og, d.oc, d.gc, tabs_ext d.tb gH, d.tk⟩
theorem Stp.reserve {p : Addr} {o : HO} (hp : H p = none) : Stp hid P (fun a => P a ∨ a = p) H (upd H p o) :=
  ⟨fun a u e _ => by rw [upd_ne (ne_of_none e hp)]; exact e, fun a u e c z => z.elim c fun z => ne_of_none e hp z⟩
/-- a slot becomes a cell: the list that was just laid at p -/
theorem SOk.set_cell {i : Nat} {p : Addr} {vs : List V} {ds : List D} (ok : SOk K A hid P s σ H) (hp : H p = none) (r : RpA K (mask P H) vs ds) :
    SOk K A hid (fun a => P a ∨ a = p) { s with g := s.g.set i (some (.lst ds)) } (σ.set i (some (.ref p))) (upd H p (.lst vs)) := by
  have ok1 : SOk K A hid (fun a => P a ∨ a = p) s σ (upd H p (.lst vs)) := ok.reserve hp
  have hl := ok.len
  have g : Grw (mask P H) (mask (fun a => P a ∨ a = p) (upd H p (.lst vs))) := mask_grw fun a u e c => ⟨fun z => z.elim c fun z => ne_of_none e hp z, by rw [upd_ne (ne_of_none e hp)]; exact e⟩
  have cellNe : ∀ (j : Nat) (w : Val) (a : Addr), s.g[j]? = some (some w) → isCell w = true → σ[j]? = some (some (.ref a)) → a ≠ p := fun j w a e c e3 z => by
    subst z
    have q := ok.slot j w e
    cases w with
    | dat d => cases c
    | deck => cases c
    | obj o => cases c
    | fn _ => cases c
    | gst _ => cases c
    | lst es =>
      obtain ⟨b, us, e5, h1, _⟩ := q
      rw [e3] at e5; cases e5
      rw [hp] at h1; cases h1
    | dct tt es =>
      obtain ⟨b, e5, _, _, _, h1⟩ := q
      rw [e3] at e5; cases e5
      rcases h1 with ⟨_, _, h1, _⟩ | ⟨_, _, h1, _⟩ <;> (rw [hp] at h1; cases h1)
  refine ⟨ok1.trk, ok1.hp, ok1.hd, by simpa using ok.len, fun j w e => ?_, fun j l w u a e1 e2 c1 c2 e3 e4 => ?_, ok1.deck⟩
  · show SlotOk K A hid _ _ (σ.set i (some (.ref p)))[j]? w
    have e : (s.g.set i (some (.lst ds)))[j]? = some (some w) := e
    rw [get_set] at e ⊢
    rw [← hl]
    split at e
    · cases e
      rw [if_pos (by assumption)]
      refine ⟨p, vs, rfl, upd_same, .inr rfl, fun z => ok.free hp (ok.hp _ z), fun z => ok.free hp (ok.deck.rs _ z), r.mono g⟩
    · rw [if_neg (by assumption)]
      exact ok1.slot j w e
  · have e1 : (s.g.set i (some (.lst ds)))[j]? = some (some w) := e1
    have e2 : (s.g.set i (some (.lst ds)))[l]? = some (some u) := e2
    rw [get_set] at e1 e2 e3 e4
    rw [← hl] at e3 e4
    by_cases k1 : i = j ∧ j < s.g.length
    · rw [if_pos k1] at e1 e3
      cases e3
      by_cases k2 : i = l ∧ l < s.g.length
      · exact k1.1.symm.trans k2.1
      · rw [if_neg k2] at e2 e4
        exact absurd rfl (cellNe l u _ e2 c2 e4)
    · rw [if_neg k1] at e1 e3
      by_cases k2 : i = l ∧ l < s.g.length
      · rw [if_pos k2] at e2 e4
        cases e4
        exact absurd rfl (cellNe j w _ e1 c1 e3)
      · rw [if_neg k2] at e2 e4
        exact ok.apart j l w u a e1 e2 c1 c2 e3 e4
/-- a cell's list is changed -/
theorem SOk.put_cell {i : Nat} {a : Addr} {ds ds' : List D} {vs' : List V} (ok : SOk K A hid P s σ H) (hi : s.g[i]? = some (some (.lst ds))) (ha : σ[i]? = some (some (.ref a))) (r : RpA K (mask P H) vs' ds') :
    SOk K A hid P { s with g := s.g.set i (some (.lst ds')) } σ (upd H a (.lst vs')) ∧ Stp hid P P H (upd H a (.lst vs')) := by
  obtain ⟨b, vs, e, h1, h2, h3, h4, _⟩ := ok.slot i _ hi
  rw [ha] at e; cases e
  have hil : i < s.g.length := (List.getElem?_eq_some_iff.mp hi).1
  have g : Grw (mask P H) (mask P (upd H a (.lst vs'))) := mask_grw fun b u e c => ⟨c, by rw [upd_ne (show b ≠ a from fun z => c (by rw [z]; exact h2))]; exact e⟩
  have nA : ∀ b, A.is b → b ≠ a := fun b z w => h4 (w ▸ z)
  have oth : ∀ (j : Nat) (w : Val) (b : Addr), j ≠ i → s.g[j]? = some (some w) → isCell w = true → σ[j]? = some (some (.ref b)) → b ≠ a := fun j w b hj e c e3 z => by
    subst z
    exact hj (ok.apart j i w _ _ e hi c rfl e3 ha)
  refine ⟨⟨fun b z => ?_, ok.hp, ok.hd, by simpa using ok.len, fun j w e => ?_, fun j l w u b e1 e2 c1 c2 e3 e4 => ?_, ?_⟩, ⟨fun b o e c => ?_, fun _ _ _ c => c⟩⟩
  · by_cases hb : b = a
    · subst hb; exact ⟨_, upd_same, trivial⟩
    · obtain ⟨o, e, n⟩ := ok.trk b z
      exact ⟨o, by rw [upd_ne hb]; exact e, n⟩
  · show SlotOk K A hid P (upd H a (.lst vs')) σ[j]? w
    have e : (s.g.set i (some (.lst ds')))[j]? = some (some w) := e
    rw [get_set] at e
    by_cases k1 : i = j ∧ j < s.g.length
    · rw [if_pos k1] at e
      cases e
      refine ⟨a, vs', by rw [← k1.1]; exact ha, upd_same, h2, h3, h4, r.mono g⟩
    · rw [if_neg k1] at e
      have hj : j ≠ i := fun z => k1 ⟨z.symm, by rw [z]; exact hil⟩
      have q := ok.slot j w e
      cases w with
      | dat d => obtain ⟨u, e5, r⟩ := q; exact ⟨u, e5, r.mono g⟩
      | lst es => obtain ⟨b, us, e5, k1, k2, k3, k4, r⟩ := q; exact ⟨b, us, e5, by rw [upd_ne (oth j _ b hj e rfl e5)]; exact k1, k2, k3, k4, r.mono g⟩
      | dct tt es =>
        obtain ⟨b, e5, k2, k3, k4, r⟩ := q
        refine ⟨b, e5, k2, k3, k4, ?_⟩
        rcases r with ⟨ht, ks, k1, r⟩ | ⟨ht, ks, k1, r⟩
        · exact .inl ⟨ht, ks, by rw [upd_ne (oth j _ b hj e rfl e5)]; exact k1, r.mono g⟩
        · exact .inr ⟨ht, ks, by rw [upd_ne (oth j _ b hj e rfl e5)]; exact k1, r.mono g⟩
      | deck => exact q
      | obj o =>
        obtain ⟨y, h1, h2, h3⟩ := q
        exact ⟨y, h1, h2, h3.move g fun b hb u e => by rw [upd_ne (nA b (.inr (.inr (.inr (.inl ⟨y, h1, hb⟩)))))]; exact e⟩
      | fn _ => exact q
      | gst es =>
        obtain ⟨b, us, z1, z2, z3, z4, z5⟩ := q
        exact ⟨b, us, z1, z2, by rw [upd_ne (nA b (.inr (.inr (.inr (.inr (.inr z1))))))]; exact z3, z4.mono g, z5⟩
  · have e1 : (s.g.set i (some (.lst ds')))[j]? = some (some w) := e1
    have e2 : (s.g.set i (some (.lst ds')))[l]? = some (some u) := e2
    rw [get_set] at e1 e2
    have back : ∀ (j : Nat) (w : Val), (if i = j ∧ j < s.g.length then some (some (Val.lst ds')) else s.g[j]?) = some (some w) → isCell w = true → ∃ w', s.g[j]? = some (some w') ∧ isCell w' = true := fun j w e c => by
      by_cases k : i = j ∧ j < s.g.length
      · exact ⟨_, by rw [← k.1]; exact hi, rfl⟩
      · rw [if_neg k] at e; exact ⟨w, e, c⟩
    obtain ⟨w', f1, g1⟩ := back j w e1 c1
    obtain ⟨u', f2, g2⟩ := back l u e2 c2
    exact ok.apart j l w' u' b f1 f2 g1 g2 e3 e4
  · have d := ok.deck
    exact ⟨by rw [upd_ne (nA _ (.inl rfl))]; exact d.ho, by rw [upd_ne (nA _ (.inr (.inl rfl)))]; exact d.hg, by rw [upd_ne (nA _ (.inr (.inr (.inl rfl))))]; exact d.hc, d.rs, d.og, d.oc, d.gc, ok.tabs_off h2 nA (fun _ hb => upd_ne hb), d.tk⟩
  · rw [upd_ne]
    · exact e
    · intro z
      subst z
      rcases c with c | c
      · exact h3 c
      · exact c h2
end
/-! ### targets -/
/-- slots js may change -/
def OutSame (js : List Nat) (σ σ' : St) : Prop := σ'.length = σ.length ∧ ∀ i : Nat, i ∉ js → σ'[i]? = σ[i]?
theorem OutSame.refl {js : List Nat} {σ : St} : OutSame js σ σ := ⟨rfl, fun _ _ => rfl⟩
theorem OutSame.trans {js : List Nat} {σ σ1 σ2 : St} (a : OutSame js σ σ1) (b : OutSame js σ1 σ2) : OutSame js σ σ2 := ⟨b.1.trans a.1, fun i h => (b.2 i h).trans (a.2 i h)⟩
theorem OutSame.mono {js ks : List Nat} {σ σ1 : St} (a : OutSame js σ σ1) (h : ∀ i ∈ js, i ∈ ks) : OutSame ks σ σ1 := ⟨a.1, fun i z => a.2 i fun w => z (h i w)⟩
def EvG (K : PySem.W.Frag) (js : List Nat) (g : TG) (f : D → M Unit) : Prop := ∀ (A : DA) (hid P : Addr → Prop) (s : S) (σ : St) (H : Hp) (v : V) (d : D) (s' : S), SOk K A hid P s σ H → Rp K (mask P H) v d → f d s = some ((), s') →
  ∀ Q : St → Hp → Prop, (∀ σ' P' H', SOk K A hid P' s' σ' H' → Stp hid P P' H H' → OutSame js σ σ' → Q σ' H') → g v σ H Q
def EvGs (K : PySem.W.Frag) (js : List Nat) (g : TGs) (f : List D → M Unit) : Prop := ∀ (A : DA) (hid P : Addr → Prop) (s : S) (σ : St) (H : Hp) (v : List V) (d : List D) (s' : S), SOk K A hid P s σ H → RpA K (mask P H) v d → f d s = some ((), s') →
  ∀ Q : St → Hp → Prop, (∀ σ' P' H', SOk K A hid P' s' σ' H' → Stp hid P P' H H' → OutSame js σ σ' → Q σ' H') → g v σ H Q
structure DG (X : Cx) (e : Expr) (js : List Nat) (g : TG) (f : D → M Unit) : Prop where
  p : PG X e g
  v : EvG X.K js g f
structure DGs (X : Cx) (e : List Expr) (js : List Nat) (g : TGs) (f : List D → M Unit) : Prop where
  p : PGs X e g
  v : EvGs X.K js g f
def gN (i : Nat) : D → M Unit := fun d s => some ((), { s with g := s.g.set i (some (.dat d)) })
section
variable {X : Cx} {K : PySem.W.Frag} {pos : Pos}
theorem eg_name {i : Nat} : EvG K [i] (gName i) (gN i) := by
  intro A hid P s σ H v d s' ok r e Q q
  unfold gN at e
  cases e
  exact q _ P H (ok.set_dat r) Stp.refl ⟨by simp, fun j h => by rw [List.getElem?_set_ne (fun z => h (by simp [z]))]⟩
theorem dg_name (i : Nat) {x : Str} (hN : X.N.Nodup) (hi : X.N[i]? = some x := by rfl) (hx : Loc X.env.scope x := by first | exact Or.inl rfl | exact Or.inr rfl) (hf : X.fn x = true ∨ X.env.scope.names.lookup x = some .local := by first | exact .inl rfl | exact .inr rfl | assumption) :
    DG X (.Name x pos) [i] (gName i) (gN i) := ⟨pg_name hN hi hx hf, eg_name⟩
def gNl : List D → M Unit := fun ds s => match ds with
  | [] => some ((), s)
  | _ => none
def gCn (f : D → M Unit) (g : List D → M Unit) : List D → M Unit := fun ds => match ds with
  | d :: r => bd (f d) fun _ => g r
  | [] => fun _ => none
theorem eg_nil : EvGs K [] gNil gNl := by
  intro A hid P s σ H v d s' ok r e Q q
  cases r with
  | nil => unfold gNl at e; cases e; exact ⟨rfl, q σ P H ok Stp.refl OutSame.refl⟩
  | cons _ _ => unfold gNl at e; cases e
theorem eg_cons {js ks : List Nat} {t : TG} {u : TGs} {f : D → M Unit} {g : List D → M Unit} (h1 : EvG K js t f) (h2 : EvGs K ks u g) : EvGs K (js ++ ks) (gCons t u) (gCn f g) := by
  intro A hid P s σ H v d s' ok r e Q q
  cases r with
  | nil => unfold gCn at e; cases e
  | cons r rr =>
    unfold gCn at e
    obtain ⟨_, s1, e1, e⟩ := bd_some e
    refine ⟨_, _, rfl, h1 A hid P s σ H _ _ s1 ok r e1 _ fun σ1 P1 H1 ok1 st1 o1 => ?_⟩
    refine h2 A hid P1 s1 σ1 H1 _ _ s' ok1 (st1.rpA rr) e _ fun σ2 P2 H2 ok2 st2 o2 => ?_
    exact q σ2 P2 H2 ok2 (st1.trans st2) ((o1.mono fun i h => List.mem_append_left _ h).trans (o2.mono fun i h => List.mem_append_right _ h))
theorem dgs_nil : DGs X [] [] gNil gNl := ⟨pgs_nil, eg_nil⟩
theorem dgs_cons {e : Expr} {es : List Expr} {js ks : List Nat} {t : TG} {u : TGs} {f : D → M Unit} {g : List D → M Unit} (h1 : DG X e js t f) (h2 : DGs X es ks u g)
    (hs : (assignEach (e :: es) X.env).map (·.2) = assign e X.env :: (assignEach es X.env).map (·.2) := by rfl) : DGs X (e :: es) (js ++ ks) (gCons t u) (gCn f g) := ⟨pgs_cons h1.p h2.p hs, eg_cons h1.v h2.v⟩
def gTp (n : Nat) (g : List D → M Unit) : D → M Unit := fun d => match d with
  | .tuple ds => if ds.length = n then g ds else fun _ => none
  | _ => fun _ => none
theorem eg_tup {js : List Nat} {n : Nat} {t : TGs} {g : List D → M Unit} (h : EvGs K js t g) : EvG K js (gTup K n t) (gTp n g) := by
  intro A hid P s σ H v d s' ok r e Q q
  unfold gTp at e
  split at e
  · split at e
    · rename_i hn
      obtain ⟨a, vs, rfl, hx, rr⟩ := r.tup_inv
      exact ⟨a, vs, rfl, sqT_le hx, by rw [rr.length]; exact hn, h A hid P s σ H vs _ s' ok rr e Q q⟩
    · cases e
  · cases e
theorem dg_tup {es : List Expr} {k : Nat} {js : List Nat} {t : TGs} {g : List D → M Unit} {n : Nat} (hc : X.calm = true) (h : DGs X es js t g)
    (hn : (assignEach es X.env).length = n := by rfl) (hst : (assignEach es X.env).findIdx? (·.1) = none := by rfl) : DG X (.Tuple es k pos) js (gTup X.K n t) (gTp n g) := ⟨pg_tup hc h.p hn hst, eg_tup h.v⟩
end
/-! ### statements -/
section
variable {X : Cx} {K : PySem.W.Frag} {e a b c : Expr} {te ta tb : TE} {f fa fb : M D} {pos : Pos} {t u : TS} {m n : M Fl} {st : Stmt} {rest : List Stmt}
def sNx : M Fl := rtn .nx
def sSeq (m n : M Fl) : M Fl := bd m fun fl => match fl with
  | .nx => n
  | fl => rtn fl
theorem es_seq (h1 : EvS K t m) (h2 : EvS K u n) : EvS K (tSeq t u) (sSeq m n) := by
  intro A hid P s σ H fl s' ok e D q
  obtain ⟨f1, s1, e1, e⟩ := bd_some e
  refine h1 A hid P s σ H f1 s1 ok e1 _ ?_
  cases f1 with
  | nx => exact fun σ1 P1 H1 ok1 st1 => h2 A hid P1 s1 σ1 H1 fl s' ok1 e D (q.back st1)
  | rt d => obtain ⟨rfl, rfl⟩ := rtn_some e; exact q
  | bk => obtain ⟨rfl, rfl⟩ := rtn_some e; exact q
  | ct => obtain ⟨rfl, rfl⟩ := rtn_some e; exact q
theorem dss_nil : DSs X [] tNext sNx := ⟨pss_nil, by
  intro A hid P s σ H fl s' ok e D q
  obtain ⟨rfl, rfl⟩ := rtn_some e
  exact q σ P H ok Stp.refl⟩
theorem dss_cons (h1 : DS X st t m) (h2 : DSs X rest u n) : DSs X (st :: rest) (tSeq t u) (sSeq m n) := ⟨pss_cons h1.p h2.p, es_seq h1.v h2.v⟩
theorem dss_one (h1 : DS X st t m) : DSs X [st] t m := ⟨pss_one h1.p, h1.v⟩
def sRet (f : M D) : M Fl := bd f fun d => rtn (.rt d)
theorem ds_ret (h : DE X e te f) : DS X (.Return (some e) pos) (tRet te) (sRet f) := ⟨ps_ret h.p, by
  intro A hid P s σ H fl s' ok e D q
  obtain ⟨d, s1, h1, e⟩ := bd_some e
  obtain ⟨rfl, rfl⟩ := rtn_some e
  exact h.v A hid P s σ H d _ ok h1 _ fun v P1 H1 ok1 st1 r => q v σ P1 H1 ok1 st1 r⟩
def sIf (c : M Bool) (m n : M Fl) : M Fl := bd c fun b => if b = true then m else n
theorem ds_if {tc : TT} {g : M Bool} {p q : List Stmt} (hc : DT X c tc g) (ha : DSs X p t m) (hb : DSs X q u n) : DS X (.If c p q pos) (tIfS tc t u) (sIf g m n) := ⟨ps_if hc.p ha.p hb.p, by
  intro A hid P s σ H fl s' ok e D q
  obtain ⟨d, s1, h1, e⟩ := bd_some e
  refine hc.v A hid P s σ H d _ ok h1 _ fun P1 H1 ok1 st1 => ?_
  cases d with
  | true => rw [if_pos rfl] at e ⊢; exact ha.v A hid P1 s1 σ H1 fl s' ok1 e D (q.back st1)
  | false => rw [if_neg Bool.false_ne_true] at e ⊢; exact hb.v A hid P1 s1 σ H1 fl s' ok1 e D (q.back st1)⟩
def sDrop (f : M D) : M Fl := bd f fun _ => rtn .nx
def sAsg (f : M D) (g : D → M Unit) : M Fl := bd f fun d => bd (g d) fun _ => rtn .nx
theorem es_asg {js : List Nat} {g : TG} {fg : D → M Unit} (h : EvE K te f) (hg : EvG K js g fg) : EvS K (tAsg te g) (sAsg f fg) := by
  intro A hid P s σ H fl s' ok e D q
  obtain ⟨d, s1, h1, e⟩ := bd_some e
  obtain ⟨_, s2, h2, e⟩ := bd_some e
  obtain ⟨rfl, rfl⟩ := rtn_some e
  refine h A hid P s σ H d _ ok h1 _ fun v P1 H1 ok1 st1 r => ?_
  exact hg A hid P1 s1 σ H1 v d _ ok1 r h2 _ fun σ2 P2 H2 ok2 st2 _ => q σ2 P2 H2 ok2 (st1.trans st2)
theorem ds_asg {tg : Expr} {js : List Nat} {g : TG} {fg : D → M Unit} (h : DE X e te f) (hg : DG X tg js g fg) (hs : swapsWithSole [tg] e pos.line X.env = pure false := by rfl) (hw : swappedStores [tg] e X.env = pure none := by rfl)
    (h1 : (assignEach [tg] X.env).map (·.2) = [assign tg X.env] := by rfl) : DS X (.Assign [tg] e pos) (tAsg te g) (sAsg f fg) := ⟨ps_asg h.p hg.p hs hw h1, es_asg h.v hg.v⟩
/-- x = a new list, x a cell -/
def sNew (i : Nat) (f : M (List D)) : M Fl := bd f fun ds => fun s => some (.nx, { s with g := s.g.set i (some (.lst ds)) })
theorem es_new {i : Nat} {g : M (List D)} (h : EvN K te g) : EvS K (tAsg te (gName i)) (sNew i g) := by
  intro A hid P s σ H fl s' ok e D q
  obtain ⟨ds, s1, h1, e⟩ := bd_some e
  cases e
  refine h A hid P s σ H ds _ ok h1 _ fun vs P1 H1 p ok1 st1 hp r => ?_
  exact q _ _ _ (ok1.set_cell hp r) (st1.trans (Stp.reserve hp))
theorem ds_new (i : Nat) {x : Str} {px : Pos} {g : M (List D)} (h : DN X e te g) (hN : X.N.Nodup) (hi : X.N[i]? = some x := by rfl) (hx : Loc X.env.scope x := by first | exact Or.inl rfl | exact Or.inr rfl) (hf : X.fn x = true ∨ X.env.scope.names.lookup x = some .local := by first | exact .inl rfl | exact .inr rfl | assumption)
    (hs : swapsWithSole [.Name x px] e pos.line X.env = pure false := by rfl) (hw : swappedStores [.Name x px] e X.env = pure none := by rfl)
    (h1 : (assignEach [.Name x px] X.env).map (·.2) = [assign (.Name x px) X.env] := by rfl) : DS X (.Assign [.Name x px] e pos) (tAsg te (gName i)) (sNew i g) := ⟨ps_asg h.p (pg_name hN hi hx hf) hs hw h1, es_new h.v⟩
/-- x.append(e), x a cell -/
def sApp (i : Nat) (f : M D) : M Fl := fun s => match s.g[i]? with
  | some (some (.lst _)) => (bd f fun d => fun s1 => match s1.g[i]? with
    | some (some (.lst ds)) => if ds.length ≤ lim then some (.nx, { s1 with g := s1.g.set i (some (.lst (ds ++ [d]))) }) else none
    | _ => none) s
  | _ => none
theorem es_app {i : Nat} (h : EvE K te f) : EvS K (tDrop (tBM K "list" rAppend (tVar i) (tCons te tNil))) (sApp i f) := by
  intro A hid P s σ H fl s' ok e D q
  unfold sApp at e
  split at e
  · rename_i ds0 hg0
    obtain ⟨d, s1, h1, e⟩ := bd_some e
    obtain ⟨a, vs0, ea, k1, _⟩ := ok.slot i _ hg0
    refine ⟨.ref a, ea, .inl ⟨rfl, vs0, SqL.of k1⟩, ?_⟩
    refine h A hid P s σ H d s1 ok h1 _ fun v P1 H1 ok1 st1 r => ?_
    split at e
    · rename_i ds hg
      split at e
      · rename_i hl
        cases e
        obtain ⟨b, vs, eb, m1, m2, m3, m4, mr⟩ := ok1.slot i _ hg
        rw [ea] at eb; cases eb
        obtain ⟨ok2, st2⟩ := ok1.put_cell hg ea (mr.append (.cons r .nil))
        refine ⟨a, vs, v, rfl, rfl, m1, by rw [mr.length]; exact lim_lt hl, ?_⟩
        exact q σ P1 _ ok2 (st1.trans st2)
      · cases e
    · cases e
  · cases e
theorem ds_app (i : Nat) {x : Str} {px pa pe : Pos} (h : DE X e te f) (hN : X.N[i]? = some x := by rfl) (hv : Vis X.env.scope x := by first | exact Or.inl rfl | exact Or.inr (Or.inl rfl) | exact Or.inr (Or.inr rfl))
    (hd : (x == ("__debug__" : Str)) = false := by decide) (hcd : (x == ("__classdict__" : Str)) = false := by decide)
    (hp : PE X (.Call (.Attribute (.Name x px) "append" pa) [e] [] pe) (tBM X.K "list" rAppend (tVar i) (tCons te tNil)))
    (hs : swapsWith (.Call (.Attribute (.Name x px) "append" pa) [e] [] pe) none pos.line X.env = pure false := by rfl) : DS X (.Expr (.Call (.Attribute (.Name x px) "append" pa) [e] [] pe) pos) (tDrop (tBM X.K "list" rAppend (tVar i) (tCons te tNil))) (sApp i f) := ⟨ps_expr hp hs, es_app h.v⟩
end
end DL
namespace DL
open PySem PySem.Spec PyProof.Rows L2
/-! DL5: what is walked; for; comprehensions. -/
/-- J walks the data ds while G stands; G stays on the way -/
structure WalkD (K : PySem.W.Frag) (J : It) (G : (Addr → Prop) → Hp → Prop) (ds : List D) : Prop where
  goes : ∀ P i H, i < ds.length → G P H → J.go i H
  stops : ∀ P H, G P H → J.stop ds.length H
  yields : ∀ P i H x H', i < ds.length → Trk P H → G P H → J.yld i H x H' → Grw H H' ∧ ∃ d, ds[i]? = some d ∧ Rp K (mask P H') x d
  stay : ∀ P P' H H', Grw (mask P H) (mask P' H') → G P H → G P' H'
def EvI (K : PySem.W.Frag) (wi : TI) (f : M (List D)) : Prop := ∀ (A : DA) (hid P : Addr → Prop) (s : S) (σ : St) (H : Hp) (ds : List D) (s' : S), SOk K A hid P s σ H → f s = some (ds, s') →
  ∀ R : It → Hp → Prop, (∀ J G P' H', SOk K A hid P' s' σ H' → Stp hid P P' H H' → WalkD K J G ds → G P' H' → R J H') → wi σ H R
/-- the same at one state -/
def EvIa (K : PySem.W.Frag) (wi : TI) (f : M (List D)) (A : DA) (hid P : Addr → Prop) (s : S) (σ : St) (H : Hp) : Prop := ∀ (ds : List D) (s' : S), SOk K A hid P s σ H → f s = some (ds, s') →
  ∀ R : It → Hp → Prop, (∀ J G P' H', SOk K A hid P' s' σ H' → Stp hid P P' H H' → WalkD K J G ds → G P' H' → R J H') → wi σ H R
structure DI (X : Cx) (tg iter : Expr) (wi : TI) (f : M (List D)) : Prop where
  p : PI X tg iter wi
  v : EvI X.K wi f
section
variable {X : Cx} {K : PySem.W.Frag} {tg e : Expr} {te : TE} {f : M D} {pos p : Pos} {tr : TA} {fr : M (List D)}
theorem walkL {a : Addr} {vs : List V} {ds : List D} (n : vs.length = ds.length) : WalkD K (Itl K a) (fun P H => mask P H a = some (.lst vs) ∧ RpA K (mask P H) vs ds) ds := by
  refine ⟨fun P i H hi g => ⟨vs, vs[i]'(by omega), SqL.of (mask_le _ _ g.1), by simp⟩, fun P H g => ⟨vs, SqL.of (mask_le _ _ g.1), by omega⟩, fun P i H x H' hi t g y => ?_, fun P P' H H' q g => ⟨q _ _ g.1, g.2.mono q⟩⟩
  obtain ⟨rfl, y⟩ := y
  have h := y vs (SqL.of (mask_le _ _ g.1))
  obtain ⟨d, h1, h2⟩ := g.2.getv h
  exact ⟨Grw.refl _, d, h1, h2⟩
theorem walkT {a : Addr} {vs : List V} {ds : List D} (n : vs.length = ds.length) : WalkD K (Itt K a) (fun P H => SqT K (mask P H) a vs ∧ RpA K (mask P H) vs ds) ds := by
  refine ⟨fun P i H hi g => ⟨vs, vs[i]'(by omega), sqT_le g.1, by simp⟩, fun P H g => ⟨vs, sqT_le g.1, by omega⟩, fun P i H x H' hi t g y => ?_, fun P P' H H' q g => ⟨SqT.grw q g.1, g.2.mono q⟩⟩
  obtain ⟨rfl, y⟩ := y
  have h := y vs (sqT_le g.1)
  obtain ⟨d, h1, h2⟩ := g.2.getv h
  exact ⟨Grw.refl _, d, h1, h2⟩
/-- range(n), range(a, b) -/
def rngD (lo : Int) (n : Nat) : List D := (List.range n).map fun i => .int (lo + (i : Nat))
theorem walkR {lo : Int} {n : Nat} : WalkD K (Itr lo n) (fun _ _ => True) (rngD lo n) := by
  have hl : (rngD lo n).length = n := by simp [rngD]
  refine ⟨fun P i H hi g => by rw [hl] at hi; exact hi, fun P H g => by rw [hl]; exact Nat.le_refl _, fun P i H x H' hi t g y => ?_, fun _ _ _ _ _ g => g⟩
  obtain ⟨rfl, rfl⟩ := y
  rw [hl] at hi
  exact ⟨Grw.refl _, .int (lo + (i : Nat)), by simp [rngD, hi], .int _⟩
def rg1 (fr : M (List D)) : M (List D) := bd fr fun ds => match ds with
  | [.int j] => if -(2 ^ 62) ≤ j ∧ j < 2 ^ 62 then rtn (rngD 0 j.toNat) else fun _ => none
  | _ => fun _ => none
def rg2 (fr : M (List D)) : M (List D) := bd fr fun ds => match ds with
  | [.int i, .int j] => if -(2 ^ 62) ≤ i ∧ i < 2 ^ 62 ∧ -(2 ^ 62) ≤ j ∧ j < 2 ^ 62 then rtn (rngD i (j - i).toNat) else fun _ => none
  | _ => fun _ => none
theorem ei_rg1 (h : EvA K tr fr) : EvI K (iRng1 tr) (rg1 fr) := by
  intro A hid P s σ H ds s' ok e R q
  obtain ⟨xs, s1, h1, e⟩ := bd_some e
  refine h A hid P s σ H xs s1 ok h1 _ fun vs P1 H1 ok1 st1 r => ?_
  split at e
  · split at e
    · rename_i hb
      obtain ⟨rfl, rfl⟩ := rtn_some e
      obtain ⟨v, rfl, r1⟩ := r.one
      cases r1
      exact ⟨_, rfl, hb.1, hb.2, q _ _ P1 H1 ok1 st1 walkR True.intro⟩
    · cases e
  · cases e
theorem di_rg1 {a : Expr} (hg : Gl X "range") (hm : X.mg "range" = none) (ha : DAr X [a] tr fr) (hs : starEach [a] X.env = [(false, eval a X.env)] := by rfl) : DI X tg (.Call (.Name "range" p) [a] [] pos) (iRng1 tr) (rg1 fr) := ⟨pi_range1 hg hm ha.p hs, ei_rg1 ha.v⟩
end
/-! ### for -/
def loop (asg : D → M Unit) (body : M Fl) : List D → M Fl
  | [] => rtn .nx
  | x :: r => bd (asg x) fun _ => bd body fun fl => match fl with
    | .nx => loop asg body r
    | .ct => loop asg body r
    | .bk => rtn .nx
    | .rt d => rtn (.rt d)
def sFor (it : M (List D)) (asg : D → M Unit) (body : M Fl) : M Fl := bd it fun ds => loop asg body ds
section
variable {X : Cx} {K : PySem.W.Frag} {tg iter : Expr} {wi : TI} {it : M (List D)} {js : List Nat} {g : TG} {fg : D → M Unit} {body : List Stmt} {tb : TS} {m : M Fl} {pos : Pos}
theorem for_at {A : DA} {hid P : Addr → Prop} {s : S} {σ : St} {H : Hp} {fl : Fl} {s' : S} (hi : EvIa K wi it A hid P s σ H) (hg : EvG K js g fg) (hb : EvS K tb m) (ok : SOk K A hid P s σ H) (e : sFor it fg m s = some (fl, s')) (D : Ends) (q : FlOk K A hid P H s' D fl) : tFor wi g tb D σ H := by
  obtain ⟨ds, s1, h1, e⟩ := bd_some e
  refine hi ds s1 ok h1 _ fun J G P1 H1 ok1 st1 w g1 => ?_
  -- the word: either the rest of the loop is still to come, or it has been left
  refine ⟨fun i n σ' H' => n = ds.length - i ∧ i ≤ ds.length ∧ ∃ P' s2, SOk K A hid P' s2 σ' H' ∧ Stp hid P P' H H' ∧ G P' H' ∧ loop fg m (ds.drop i) s2 = some (fl, s'),
    ⟨ds.length, by omega, Nat.zero_le _, P1, s1, ok1, st1, g1, e⟩, ?_⟩
  rintro i n σ' H' ⟨rfl, hle, P', s2, ok2, st2, g2, e2⟩
  by_cases hlt : i < ds.length
  · refine .inr ⟨w.goes P' i H' hlt g2, fun σ3 H3 => ∃ P3 s3, SOk K A hid P3 s3 σ3 H3 ∧ Stp hid P P3 H H3 ∧ G P3 H3 ∧ loop fg m (ds.drop (i + 1)) s3 = some (fl, s'), fun σ3 H3 ⟨P3, s3, a1, a2, a3, a4⟩ => ⟨ds.length - (i + 1), by omega, rfl, hlt, P3, s3, a1, a2, a3, a4⟩, fun x H3 y => ?_⟩
    obtain ⟨gr, d, hd, rx⟩ := w.yields P' i H' x H3 hlt ok2.trk g2 y
    have ok3 := ok2.grw gr
    have st3 : Stp hid P P' H H3 := st2.trans (Stp.grw gr)
    have g3 : G P' H3 := w.stay P' P' H' H3 (grw_mask gr) g2
    rw [List.drop_eq_getElem_cons hlt] at e2
    have hd' : ds[i] = d := by rw [List.getElem?_eq_getElem hlt] at hd; exact Option.some.inj hd
    rw [hd'] at e2
    obtain ⟨_, s4, e4, e5⟩ := bd_some e2
    refine hg A hid P' s2 σ' H3 x d s4 ok3 rx e4 _ fun σ4 P4 H4 ok4 st4 _ => ?_
    obtain ⟨fl5, s5, e6, e7⟩ := bd_some e5
    refine hb A hid P4 s4 σ4 H4 fl5 s5 ok4 e6 _ ?_
    have fwd : ∀ (σ6 : St) (P6 : Addr → Prop) (H6 : Hp), SOk K A hid P6 s5 σ6 H6 → Stp hid P4 P6 H4 H6 → loop fg m (ds.drop (i + 1)) s5 = some (fl, s') →
        ∃ P3 s3, SOk K A hid P3 s3 σ6 H6 ∧ Stp hid P P3 H H6 ∧ G P3 H6 ∧ loop fg m (ds.drop (i + 1)) s3 = some (fl, s') :=
      fun σ6 P6 H6 ok6 st6 e8 => ⟨P6, s5, ok6, (st3.trans st4).trans st6, w.stay P' P6 H3 H6 (st4.trans st6).mg g3, e8⟩
    cases fl5 with
    | nx => exact fun σ6 P6 H6 ok6 st6 => fwd σ6 P6 H6 ok6 st6 e7
    | ct => exact fun σ6 P6 H6 ok6 st6 => fwd σ6 P6 H6 ok6 st6 e7
    | bk =>
      obtain ⟨rfl, rfl⟩ := rtn_some e7
      exact fun σ6 P6 H6 ok6 st6 => q σ6 P6 H6 ok6 ((st3.trans st4).trans st6)
    | rt r =>
      obtain ⟨rfl, rfl⟩ := rtn_some e7
      exact fun v σ6 P6 H6 ok6 st6 rr => q v σ6 P6 H6 ok6 ((st3.trans st4).trans st6) rr
  · have hi : i = ds.length := by omega
    subst hi
    rw [List.drop_length] at e2
    obtain ⟨rfl, rfl⟩ := rtn_some e2
    exact .inl ⟨w.stops P' H' g2, q σ' P' H' ok2 st2⟩
theorem es_for (hi : EvI K wi it) (hg : EvG K js g fg) (hb : EvS K tb m) : EvS K (tFor wi g tb) (sFor it fg m) := fun A hid P s σ H _ _ ok e D q => for_at (hi A hid P s σ H) hg hb ok e D q
theorem ds_for (hp : PassesOwn (model X.prog X.w) X.A X.env X.xe) (hc : X.calm = true) (hi : DI X tg iter wi it) (hg : DG X tg js g fg) (hb : DSs X body tb m) (hs : ∀ x, foldedSetIterable iter X.env x = pure x := by intro _; rfl) :
    DS X (.For tg iter body [] pos) (tFor wi g tb) (sFor it fg m) := ⟨ps_for hp hc hi.p hg.p hb.p hs, es_for hi.v hg.v hb.v⟩
end
/-! ### comprehensions -/
def wipeL (g : List (Option Val)) : List Nat → List (Option Val)
  | [] => g
  | v :: vs => (wipeL g vs).set v none
def wipeS (s : S) (vs : List Nat) : S := { s with g := wipeL s.g vs }
theorem SOk.wiped {K : PySem.W.Frag} {A : DA} {hid P : Addr → Prop} {s : S} {σ : St} {H : Hp} (ok : SOk K A hid P s σ H) : ∀ vs : List Nat, SOk K A hid P (wipeS s vs) (wipe σ vs) H
  | [] => ok
  | v :: vs => (SOk.wiped ok vs).set_none (i := v) (v := none)
theorem wipe_get (σ : St) : ∀ (vs : List Nat) (i : Nat), (wipe σ vs)[i]? = if i ∈ vs ∧ i < σ.length then some none else σ[i]?
  | [], i => by simp [wipe]
  | v :: vs, i => by
    show ((wipe σ vs).set v none)[i]? = _
    rw [get_set, wipe_get σ vs i, wipe_length]
    by_cases h1 : v = i
    · subst h1
      by_cases h2 : v < σ.length
      · simp [h2]
      · simp [h2]
    · simp [h1, Ne.symm h1]
theorem wipe_same {σ σ' : St} {vs : List Nat} (h : OutSame vs σ σ') : wipe σ' vs = wipe σ vs := by
  apply List.ext_getElem?
  intro i
  rw [wipe_get, wipe_get, h.1]
  by_cases k : i ∈ vs ∧ i < σ.length
  · rw [if_pos k, if_pos k]
  · rw [if_neg k, if_neg k]
    by_cases m : i ∈ vs
    · have hl : ¬ i < σ.length := fun z => k ⟨m, z⟩
      have h1 := h.1
      rw [List.getElem?_eq_none (show σ'.length ≤ i by omega), List.getElem?_eq_none (show σ.length ≤ i by omega)]
    · exact h.2 i m
theorem wipe_wipe (σ : St) (vs : List Nat) : wipe (wipe σ vs) vs = wipe σ vs := by
  apply List.ext_getElem?
  intro i
  rw [wipe_get, wipe_length]
  by_cases k : i ∈ vs ∧ i < σ.length
  · rw [if_pos k, wipe_get, if_pos k]
  · rw [if_neg k]
/-- the block's own slots hold nothing known outside -/
theorem SOk.unwipe {K : PySem.W.Frag} {A : DA} {hid P : Addr → Prop} {s : S} {σ σ' : St} {H : Hp} {vs : List Nat} (ok : SOk K A hid P s σ' H) (h : OutSame vs σ σ') : SOk K A hid P (wipeS s vs) σ H := by
  have okw := ok.wiped vs
  have hs : ∀ (i : Nat) (v : Val), (wipeS s vs).g[i]? = some (some v) → i ∉ vs ∧ s.g[i]? = some (some v) := by
    have key : ∀ (ws : List Nat) (i : Nat) (v : Val), (wipeL s.g ws)[i]? = some (some v) → i ∉ ws ∧ s.g[i]? = some (some v) := by
      intro ws
      induction ws with
      | nil => intro i v e; exact ⟨by simp, e⟩
      | cons w ws ih =>
        intro i v e
        have e : ((wipeL s.g ws).set w none)[i]? = some (some v) := e
        rw [get_set] at e
        split at e
        · cases e
        · rename_i hn
          obtain ⟨h1, h2⟩ := ih i v e
          refine ⟨fun z => ?_, h2⟩
          rcases List.mem_cons.mp z with z | z
          · refine hn ⟨z.symm, ?_⟩
            exact (List.getElem?_eq_some_iff.mp e).1
          · exact h1 z
    exact key vs
  refine ⟨okw.trk, okw.hp, okw.hd, ?_, fun i v e => ?_, fun i j v w a e1 e2 c1 c2 e3 e4 => ?_, okw.deck⟩
  · rw [okw.len, wipe_length, h.1]
  · obtain ⟨h1, h2⟩ := hs i v e
    have q := ok.slot i v h2
    rw [h.2 i h1] at q
    exact q
  · obtain ⟨h1, h2⟩ := hs i v e1
    obtain ⟨h3, h4⟩ := hs j w e2
    exact ok.apart i j v w a h2 h4 c1 c2 (by rw [h.2 i h1]; exact e3) (by rw [h.2 j h3]; exact e4)
def lcLoop (own : List Nat) (asg : D → M Unit) (test : M Bool) (elt : M D) : List D → List D → M (List D)
  | [], acc => rtn acc
  | x :: r, acc => fun s => (bd (asg x) fun _ => bd test fun b => if b = true then bd elt fun d => if acc.length ≤ lim then fun s1 => lcLoop own asg test elt r (acc ++ [d]) (wipeS s1 own) else fun _ => none
      else fun s1 => lcLoop own asg test elt r acc (wipeS s1 own)) s
def nLc (own : List Nat) (it : M (List D)) (asg : D → M Unit) (test : M Bool) (elt : M D) : M (List D) := bd it fun ds => fun s => lcLoop own asg test elt ds [] (wipeS s own)
/-- the heap without one object -/
def rmv (p : Addr) (H : Hp) : Hp := fun a => if a = p then none else H a
theorem rmv_ne {p a : Addr} {H : Hp} (h : a ≠ p) : rmv p H a = H a := by unfold rmv; rw [if_neg h]
theorem rmv_same {p : Addr} {H : Hp} : rmv p H p = none := by unfold rmv; rw [if_pos rfl]
theorem upd_rmv {p : Addr} {H : Hp} {o : HO} : upd (rmv p H) p o = upd H p o := by
  funext a
  unfold upd rmv
  by_cases ha : a = p
  · rw [if_pos ha, if_pos ha]
  · rw [if_neg ha, if_neg ha, if_neg ha]
section
variable {K : PySem.W.Frag} {A : DA} {hid P : Addr → Prop} {s : S} {σ : St} {H : Hp} {p : Addr} {o : HO}
theorem SOk.hide (ok : SOk K A hid P s σ H) (hp : H p = none) (no : NoT o := by exact trivial) : SOk K A (fun a => hid a ∨ a = p) (fun a => P a ∨ a = p) s σ (upd H p o) := by
  have r : SOk K A hid (fun a => P a ∨ a = p) s σ (upd H p o) := ok.reserve hp no
  have np : ¬ P p := ok.free hp
  refine ⟨r.trk, fun a z => z.imp (ok.hp a) fun z => z, fun a z => ?_, r.len, fun i v e => ?_, r.apart, r.deck⟩
  · rcases z with z | z
    · exact ok.hd a z
    · subst z; exact fun y => np (ok.deck.rs _ y)
  · have q := r.slot i v e
    have q0 := ok.slot i v e
    cases v with
    | dat d => exact q
    | deck => exact q
    | obj o => exact q
    | fn _ => exact q
    | gst _ => exact q
    | lst ds =>
      obtain ⟨a, vs, e5, h1, h2, h3, h4, rr⟩ := q
      obtain ⟨b, us, e6, k1, k2, _⟩ := q0
      rw [e5] at e6; cases e6
      exact ⟨a, vs, e5, h1, h2, fun z => z.elim h3 fun z => np (z ▸ k2), h4, rr⟩
    | dct tt ds =>
      obtain ⟨a, e5, h2, h3, h4, rr⟩ := q
      obtain ⟨b, e6, k2, _⟩ := q0
      rw [e5] at e6; cases e6
      exact ⟨a, e5, h2, fun z => z.elim h3 fun z => np (z ▸ k2), h4, rr⟩
theorem Stp.hide (hp : H p = none) : Stp hid P (fun a => P a ∨ a = p) H (upd H p o) := Stp.reserve hp
theorem unhide_grw (hp : P p) : Grw (mask P H) (mask (fun a => P a ∧ a ≠ p) (rmv p H)) := mask_grw fun a u e c => ⟨fun z => c z.1, by rw [rmv_ne (show a ≠ p from fun z => c (by rw [z]; exact hp))]; exact e⟩
theorem SOk.unhide (ok : SOk K A (fun a => hid a ∨ a = p) P s σ H) (nh : ¬ hid p) : SOk K A hid (fun a => P a ∧ a ≠ p) s σ (rmv p H) := by
  have hp : P p := ok.hp p (.inr rfl)
  have g := unhide_grw (H := H) hp
  have nA : ∀ a, A.is a → a ≠ p := fun a z w => ok.hd p (.inr rfl) (w ▸ z)
  refine ⟨fun a z => ?_, fun a z => ⟨ok.hp a (.inl z), fun w => nh (w ▸ z)⟩, fun a z => ok.hd a (.inl z), ok.len, fun i v e => ?_, ok.apart, ?_⟩
  · obtain ⟨u, e, n⟩ := ok.trk a z.1
    exact ⟨u, by rw [rmv_ne z.2]; exact e, n⟩
  · have q := ok.slot i v e
    cases v with
    | dat d => obtain ⟨u, e5, r⟩ := q; exact ⟨u, e5, r.mono g⟩
    | deck => exact q
    | obj o =>
      obtain ⟨y, h1, h2, h3⟩ := q
      exact ⟨y, h1, h2, h3.move g fun b hb u e => by rw [rmv_ne (nA b (.inr (.inr (.inr (.inl ⟨y, h1, hb⟩)))))]; exact e⟩
    | fn _ => exact q
    | gst es =>
      obtain ⟨b, us, z1, z2, z3, z4, z5⟩ := q
      exact ⟨b, us, z1, z2, by rw [rmv_ne (nA b (.inr (.inr (.inr (.inr (.inr z1))))))]; exact z3, z4.mono g, z5⟩
    | lst ds =>
      obtain ⟨a, vs, e5, h1, h2, h3, h4, rr⟩ := q
      have ha : a ≠ p := fun z => h3 (.inr z)
      exact ⟨a, vs, e5, by rw [rmv_ne ha]; exact h1, ⟨h2, ha⟩, fun z => h3 (.inl z), h4, rr.mono g⟩
    | dct tt ds =>
      obtain ⟨a, e5, h2, h3, h4, rr⟩ := q
      have ha : a ≠ p := fun z => h3 (.inr z)
      refine ⟨a, e5, ⟨h2, ha⟩, fun z => h3 (.inl z), h4, ?_⟩
      rcases rr with ⟨ht, ks, h1, rr⟩ | ⟨ht, ks, h1, rr⟩
      · exact .inl ⟨ht, ks, by rw [rmv_ne ha]; exact h1, rr.mono g⟩
      · exact .inr ⟨ht, ks, by rw [rmv_ne ha]; exact h1, rr.mono g⟩
  · have d := ok.deck
    exact ⟨by rw [rmv_ne (nA _ (.inl rfl))]; exact d.ho, by rw [rmv_ne (nA _ (.inr (.inl rfl)))]; exact d.hg, by rw [rmv_ne (nA _ (.inr (.inr (.inl rfl))))]; exact d.hc, fun a z => ⟨d.rs a z, nA a z⟩, d.og, d.oc, d.gc, ok.tabs_off hp nA (fun _ hb => rmv_ne hb), d.tk⟩
theorem Stp.unhide {P' : Addr → Prop} {H' : Hp} (hp : H p = none) (st : Stp (fun a => hid a ∨ a = p) (fun a => P a ∨ a = p) P' (upd H p o) H') : Stp hid P (fun a => P' a ∧ a ≠ p) H (rmv p H') ∧ H' p = some o := by
  refine ⟨⟨fun a u e c => ?_, fun a u e c z => ?_⟩, st.keep p o upd_same (.inl (.inr rfl))⟩
  · have ha : a ≠ p := ne_of_none e hp
    rw [rmv_ne ha]
    exact st.keep a u (by rw [upd_ne ha]; exact e) (c.imp (fun z => .inl z) fun z w => w.elim z ha)
  · have ha : a ≠ p := ne_of_none e hp
    exact st.vis a u (by rw [upd_ne ha]; exact e) (fun w => w.elim c ha) z.1
end
theorem lc_at {K : PySem.W.Frag} {wi : TI} {it : M (List D)} {js : List Nat} {g : TG} {fg : D → M Unit} {tt : TT} {gt : M Bool} {te : TE} {fe : M D} {own : List Nat} {A : DA} {hid P : Addr → Prop} {s : S} {σ : St} {H : Hp} (hi : EvIa K wi it A hid P s σ H) (hg : EvG K js g fg) (hj : ∀ i ∈ js, i ∈ own) (ht : EvT K tt gt) (he : EvE K te fe)
    {dsF : List D} {s' : S} (ok : SOk K A hid P s σ H) (e : nLc own it fg gt fe s = some (dsF, s')) (Q : VK) (q : ∀ vs P' H' p, SOk K A hid P' s' σ H' → Stp hid P P' H H' → H' p = none → RpA K (mask P' H') vs dsF → Q (.ref p) (upd H' p (.lst vs))) : tLc wi g tt te own σ H Q := by
  obtain ⟨ds, s1, h1, e⟩ := bd_some e
  refine hi ds s1 ok h1 _ fun J G P1 H1 ok1 st1 w g1 Dl hD => ?_
  let Wd : Nat → Hp → Prop := fun i H' => ∃ (P' : Addr → Prop) (s2 : S) (H2 : Hp) (acc : List D) (vs : List V), SOk K A hid P' s2 (wipe σ own) H2 ∧ SOk K A hid P' s2 σ H2 ∧ Stp hid P P' H H2 ∧ G P' H2 ∧ H2 Dl = none ∧ H' = upd H2 Dl (.lst vs) ∧ RpA K (mask P' H2) vs acc ∧ lcLoop own fg gt fe (ds.drop i) acc s2 = some (dsF, s')
  refine ⟨fun i n H' => n = ds.length - i ∧ i ≤ ds.length ∧ Wd i H', ⟨ds.length, by omega, Nat.zero_le _, P1, wipeS s1 own, H1, [], [], ok1.wiped own, (ok1.unwipe OutSame.refl), st1, g1, hD, rfl, .nil, e⟩, ?_⟩
  rintro i n H' ⟨rfl, hle, P', s2, H2, acc, vs, okw, ok2, st2, g2, hn, rfl, ra, e2⟩
  have nhd : ¬ hid Dl := fun z => okw.free hn (okw.hp _ z)
  by_cases hlt : i < ds.length
  · have okR : SOk K A (fun a => hid a ∨ a = Dl) (fun a => P' a ∨ a = Dl) s2 (wipe σ own) (upd H2 Dl (.lst vs)) := okw.hide hn
    have gR : G (fun a => P' a ∨ a = Dl) (upd H2 Dl (.lst vs)) := w.stay _ _ _ _ (Stp.hide (hid := hid) (o := .lst vs) hn).mg g2
    refine .inr ⟨w.goes _ i _ hlt gR, Wd (i + 1), fun H' h => ⟨ds.length - (i + 1), by omega, rfl, hlt, h⟩, fun x H3 y => ?_⟩
    obtain ⟨gr, d, hd, rx⟩ := w.yields _ i _ x H3 hlt okR.trk gR y
    rw [List.drop_eq_getElem_cons hlt] at e2
    have hd' : ds[i] = d := by rw [List.getElem?_eq_getElem hlt] at hd; exact Option.some.inj hd
    rw [hd'] at e2
    unfold lcLoop at e2
    obtain ⟨_, s4, e4, e5⟩ := bd_some e2
    have g3 : G (fun a => P' a ∨ a = Dl) H3 := w.stay _ _ _ _ (grw_mask gr) gR
    refine hg A _ _ s2 (wipe σ own) H3 x d s4 (okR.grw gr) rx e4 _ fun σ4 P4 H4 ok4 st4 o4 => ?_
    have o4' : OutSame own (wipe σ own) σ4 := o4.mono hj
    refine ⟨by rw [wipe_same o4', wipe_wipe], ?_⟩
    obtain ⟨bb, s5, e6, e7⟩ := bd_some e5
    refine ht A _ P4 s4 σ4 H4 bb s5 ok4 e6 _ fun P5 H5 ok5 st5 => ?_
    have o5 : OutSame own σ σ4 := by
      have k1 : OutSame own σ (wipe σ own) := ⟨wipe_length _ _, fun j hj => by rw [wipe_get, if_neg (fun z => hj z.1)]⟩
      exact k1.trans o4'
    have st45 : Stp (fun a => hid a ∨ a = Dl) (fun a => P' a ∨ a = Dl) P5 (upd H2 Dl (.lst vs)) H5 := ((Stp.grw gr).trans st4).trans st5
    -- back to the state without the list
    have fin : ∀ (Pn : Addr → Prop) (Hn : Hp) (sn : S) (acc' : List D) (us : List V), SOk K A (fun a => hid a ∨ a = Dl) Pn sn σ4 Hn → Stp (fun a => hid a ∨ a = Dl) (fun a => P' a ∨ a = Dl) Pn (upd H2 Dl (.lst vs)) Hn → G Pn Hn →
        RpA K (mask Pn Hn) us acc' → lcLoop own fg gt fe (ds.drop (i + 1)) acc' (wipeS sn own) = some (dsF, s') → Wd (i + 1) (upd Hn Dl (.lst us)) := by
      intro Pn Hn sn acc' us okn stn gn rus en
      have hPn : Pn Dl := okn.hp Dl (.inr rfl)
      have oku := okn.unhide nhd
      have gu := unhide_grw (H := Hn) hPn
      refine ⟨_, wipeS sn own, rmv Dl Hn, acc', us, ?_, oku.unwipe o5, st2.trans (stn.unhide hn).1, w.stay _ _ _ _ gu gn, rmv_same, upd_rmv.symm, rus.mono gu, en⟩
      have e9 : wipe σ4 own = wipe σ own := wipe_same o5
      have := oku.wiped own
      rw [e9] at this
      exact this
    have g5 : G P5 H5 := w.stay _ _ _ _ (st4.trans st5).mg g3
    cases bb with
    | true =>
      rw [if_pos rfl] at e7 ⊢
      obtain ⟨d6, s6, e8, e9⟩ := bd_some e7
      refine he A _ P5 s5 σ4 H5 d6 s6 ok5 e8 _ fun v P6 H6 ok6 st6 r6 => ?_
      have st46 := st45.trans st6
      split at e9
      · rename_i hl
        refine ⟨vs, (st46.unhide hn).2, by rw [ra.length]; exact lim_lt hl, ?_⟩
        refine fin P6 H6 s6 (acc ++ [d6]) (vs ++ [v]) ok6 st46 (w.stay _ _ _ _ st6.mg g5) ?_ e9
        have r1 : RpA K (mask (fun a => P' a ∨ a = Dl) (upd H2 Dl (.lst vs))) vs acc := ra.mono (Stp.hide (hid := hid) (o := .lst vs) hn).mg
        exact (r1.mono st46.mg).append (.cons r6 .nil)
      · cases e9
    | false =>
      rw [if_neg Bool.false_ne_true] at e7 ⊢
      have r1 : RpA K (mask (fun a => P' a ∨ a = Dl) (upd H2 Dl (.lst vs))) vs acc := ra.mono (Stp.hide (hid := hid) (o := .lst vs) hn).mg
      have hf := fin P5 H5 s5 acc vs ok5 st45 g5 (r1.mono st45.mg) e7
      have hD5 : H5 Dl = some (.lst vs) := (st45.unhide hn).2
      have e10 : upd H5 Dl (.lst vs) = H5 := by
        funext a
        by_cases ha : a = Dl
        · rw [ha, upd_same, hD5]
        · rw [upd_ne ha]
      rw [e10] at hf
      exact hf
  · have hi : i = ds.length := by omega
    subst hi
    rw [List.drop_length] at e2
    obtain ⟨rfl, rfl⟩ := rtn_some e2
    refine .inl ⟨?_, ?_⟩
    · exact w.stops _ _ (w.stay P' (fun a => P' a ∨ a = Dl) H2 _ (Stp.hide (hid := hid) (o := .lst vs) hn).mg g2)
    · exact q vs P' H2 Dl ok2 st2 hn ra
theorem en_lc {K : PySem.W.Frag} {wi : TI} {it : M (List D)} {js : List Nat} {g : TG} {fg : D → M Unit} {tt : TT} {gt : M Bool} {te : TE} {fe : M D} {own : List Nat} (hi : EvI K wi it) (hg : EvG K js g fg) (hj : ∀ i ∈ js, i ∈ own) (ht : EvT K tt gt) (he : EvE K te fe) :
    EvN K (tLc wi g tt te own) (nLc own it fg gt fe) := fun A hid P s σ H _ _ ok e Q q => lc_at (hi A hid P s σ H) hg hj ht he ok e Q q
structure DTs (X : Cx) (ifs : List Expr) (t : TT) (f : M Bool) : Prop where
  p : PTs X ifs t
  v : EvT X.K t f
theorem dts_nil {X : Cx} : DTs X [] tYes (rtn true) := ⟨pts_nil, by
  intro A hid P s σ H b s' ok h Q q
  obtain ⟨rfl, rfl⟩ := rtn_some h
  exact q P H ok Stp.refl⟩
theorem dts_one {X : Cx} {c : Expr} {t : TT} {f : M Bool} (h : DT X c t f) : DTs X [c] t f := ⟨pts_one h.p, h.v⟩
section
variable {X : Cx}
theorem dn_lc {elt tg iter : Expr} {ifs : List Expr} {scope : Scope} {own : List (Str × Nat)} {pos : Pos} {wi : TI} {g : TG} {tt : TT} {te : TE} {it : M (List D)} {js : List Nat} {fg : D → M Unit} {gt : M Bool} {fe : M D} (hc : X.calm = true) (hN : X.N.Nodup) (hi : DI X tg iter wi it) (ok : BlkOk X.N X.env.scope scope own)
    (hg : ∀ (s : Shared) (H : Hp) (C : Addr) (cl : List (Str × Addr)) (fp : List Addr), DG (X.blk s H scope (compEnvC scope cl C X.env) fp) tg js g fg) (hj : ∀ i ∈ js, i ∈ own.map (·.2)) (ht : ∀ (s : Shared) (H : Hp) (C : Addr) (cl : List (Str × Addr)) (fp : List Addr), DTs (X.blk s H scope (compEnvC scope cl C X.env) fp) ifs tt gt)
    (he : ∀ (s : Shared) (H : Hp) (C : Addr) (cl : List (Str × Addr)) (fp : List Addr), DE (X.blk s H scope (compEnvC scope cl C X.env) fp) elt te fe) (hs : ∀ x, foldedSetIterable iter X.env x = pure x := by intro _; rfl) :
    DN X (.ListComp elt [⟨tg, iter, ifs, 0⟩] scope pos) (tLc wi g tt te (own.map (·.2))) (nLc (own.map (·.2)) it fg gt fe) := by
  refine ⟨pe_lc hc hN hi.p ok (fun s H C cl fp => (hg s H C cl fp).p) (fun s H C cl fp => (ht s H C cl fp).p) (fun s H C cl fp => (he s H C cl fp).p) hs, ?_⟩
  exact en_lc hi.v (hg X.s_0 X.H_0 0 [] []).v hj (ht X.s_0 X.H_0 0 [] []).v (he X.s_0 X.H_0 0 [] []).v
end
end DL
namespace DL
open PySem PySem.Spec PyProof.Rows L2
/-! DL6: calls of the text's own defs; a def by its body. -/
abbrev FS := List Val → Dk → Option (D × Dk)
def ArgOk (K : PySem.W.Frag) (A : DA) (P : Addr → Prop) (H : Hp) (v : V) : Val → Prop
  | .dat d => Rp K (mask P H) v d
  | .deck => v = .ref A.o
  | .obj o => ∃ y, A.x = some y ∧ v = .ref y.p ∧ ObOk K y A P H o
  | .gst ds => ∃ l vs, A.gs = some l ∧ v = .ref l ∧ H l = some (.lst vs) ∧ RpA K (mask P H) vs ds ∧ l ≠ A.o ∧ l ≠ A.g ∧ l ≠ A.c ∧ ∀ y, A.x = some y → l ∉ y.ls
  | _ => False
def ArgsOk (K : PySem.W.Frag) (A : DA) (P : Addr → Prop) (H : Hp) : List V → List Val → Prop
  | [], [] => True
  | v :: vs, x :: xs => ArgOk K A P H v x ∧ ArgsOk K A P H vs xs
  | _, _ => False
theorem ArgsOk.length {K : PySem.W.Frag} {A : DA} {P : Addr → Prop} {H : Hp} : ∀ {vs : List V} {xs : List Val}, ArgsOk K A P H vs xs → vs.length = xs.length
  | [], [], _ => rfl
  | _ :: _, _ :: _, h => by simp [ArgsOk.length h.2]
  | [], _ :: _, h => h.elim
  | _ :: _, [], h => h.elim
theorem ArgsOk.get {K : PySem.W.Frag} {A : DA} {P : Addr → Prop} {H : Hp} : ∀ {vs : List V} {xs : List Val} {i : Nat} {x : Val}, ArgsOk K A P H vs xs → xs[i]? = some x → ∃ v, vs[i]? = some v ∧ ArgOk K A P H v x
  | [], [], _, _, _, e => by simp at e
  | v :: _, _ :: _, 0, _, h, e => by simp at e; subst e; exact ⟨v, rfl, h.1⟩
  | _ :: vs, _ :: xs, i + 1, x, h, e => by
    obtain ⟨v, h1, h2⟩ := ArgsOk.get (i := i) h.2 (by simpa using e)
    exact ⟨v, by simpa using h1, h2⟩
  | [], _ :: _, _, _, h, _ => h.elim
  | _ :: _, [], _, _, h, _ => h.elim
/-- a def's promise by a pure function -/
def spD (K : PySem.W.Frag) (sem : FS) : Sp := fun vs H Q _ => ∃ (A : DA) (P : Addr → Prop) (xs : List Val) (k : Dk) (d : D) (k' : Dk), A.x = none ∧ Trk P H ∧ DkOk K A P H k ∧ ArgsOk K A P H vs xs ∧ sem xs k = some (d, k') ∧
  ∀ v H', (∀ a o, H a = some o → ¬ A.is a → H' a = some o) → DkOk K A P H' k' → Rp K (mask P H') v d → Q v H'
def semOf (np n : Nat) (m : M Fl) : FS := fun xs k => if xs.length = np then (match m ⟨xs.map some ++ List.replicate (n - xs.length) none, k⟩ with
  | some (.rt d, s') => some (d, s'.k)
  | some (.nx, s') => some (.none, s'.k)
  | _ => none) else none
section
variable {P : Program} {w : World} {K : PySem.W.Frag} {mg : Str → Option Value} {base : Heap}
theorem sok_start {A : DA} {R : Addr → Prop} {H : Hp} {vs : List V} {xs : List Val} {k : Dk} {N : List Str} (t : Trk R H) (dk : DkOk K A R H k) (ar : ArgsOk K A R H vs xs) :
    SOk K A (fun a => R a ∧ ¬ A.is a) R ⟨xs.map some ++ List.replicate (N.length - xs.length) none, k⟩ (L2.start N vs) H := by
  have hl := ar.length
  have hs : ∀ (i : Nat) (v : Val), (xs.map some ++ List.replicate (N.length - xs.length) none)[i]? = some (some v) → xs[i]? = some v := fun i v e => by
    by_cases h : i < xs.length
    · rw [List.getElem?_append_left (by simpa using h), List.getElem?_map] at e
      cases q : xs[i]? with
      | none => rw [q] at e; cases e
      | some x => rw [q] at e; cases e; rfl
    · rw [List.getElem?_append_right (by simpa using h), List.getElem?_replicate] at e
      split at e <;> cases e
  have hv : ∀ (i : Nat) (v : V), vs[i]? = some v → (L2.start N vs)[i]? = some (some v) := fun i v e => by
    have h : i < vs.length := (List.getElem?_eq_some_iff.mp e).1
    unfold L2.start
    rw [List.getElem?_append_left (by simpa using h), List.getElem?_map, e]; rfl
  refine ⟨t, fun a z => z.1, fun a z => z.2, ?_, fun i v e => ?_, fun i j v u a e1 e2 c1 c2 _ _ => ?_, dk⟩
  · unfold L2.start
    simp only [List.length_append, List.length_map, List.length_replicate]
    omega
  · obtain ⟨x, h1, h2⟩ := ar.get (hs i v e)
    have h3 := hv i x h1
    cases v with
    | dat d => exact ⟨x, h3, h2⟩
    | deck => show (L2.start N vs)[i]? = _; rw [h3]; cases h2; rfl
    | obj o =>
      obtain ⟨y, z1, z2, z3⟩ := h2
      subst z2
      exact ⟨y, z1, h3, z3⟩
    | fn _ => exact h2.elim
    | gst es =>
      obtain ⟨b, us, z1, z2, z3⟩ := h2
      subst z2
      exact ⟨b, us, z1, h3, z3⟩
    | lst _ => exact h2.elim
    | dct _ _ => exact h2.elim
  · obtain ⟨x, h1, h2⟩ := ar.get (hs i v e1)
    cases v with
    | dat d => cases c1
    | deck => cases c1
    | obj o => cases c1
    | fn _ => cases c1
    | gst _ => cases c1
    | lst _ => exact h2.elim
    | dct _ _ => exact h2.elim
theorem fnD_of {x qual : Str} {st : Stmt} {f : Addr} {fd : FuncData} {N ps : List Str} {k : Nat} {m : M Fl} (F : Fun K x qual st f fd) (Sc : FnScope N ps (defScope st))
    (body : ∀ (cdv : Value) (A : Around) (outer : List Env) (s : Shared) (H : Hp) (E : XK), Room k (A.deeper (envOfC qual (defScope st) s.heap.objs.size f cdv)) →
      ∃ t, DSs (cxOf CX0 P w K mg base N qual (defScope st) f cdv A outer s H E).nox (defBody st) t m) : FnOk P w K mg base CX0 (k + 1) f fd ps (spD K (semOf ps.length N.length m)) := by
  refine F.ok Sc (fun vs H Q E h => ?_) (fun cdv A outer s H vs Q E hr h => ?_)
  · obtain ⟨A, R, xs, k, d, k', _, t, dk, ar, e, _⟩ := h
    unfold semOf at e
    split at e
    · rename_i hl; rw [ar.length]; exact hl
    · cases e
  · obtain ⟨A0, R, xs, k0, d, k', _, t, dk, ar, e, q⟩ := h
    obtain ⟨tt, hD⟩ := body cdv A outer s H E hr
    refine ⟨tt, hD.p, ?_⟩
    unfold semOf at e
    split at e
    · have ok := sok_start (N := N) t dk ar
      have done : ∀ (P' : Addr → Prop) (H' : Hp) (s' : S) (σ' : St), SOk K A0 (fun a => R a ∧ ¬ A0.is a) P' s' σ' H' → Stp (fun a => R a ∧ ¬ A0.is a) R P' H H' →
          (∀ a o, H a = some o → ¬ A0.is a → H' a = some o) ∧ DkOk K A0 R H' s'.k ∧ Grw (mask P' H') (mask R H') := fun P' H' s' σ' ok' st' => by
        refine ⟨fun a o ha na => st'.keep a o ha ?_, ⟨ok'.deck.ho, ok'.deck.hg, ok'.deck.hc, dk.rs, dk.og, dk.oc, dk.gc, ok'.deck.tb, ok'.deck.tk⟩, mask_grw fun a o ha na => ⟨fun z => na ?_, ha⟩⟩
        · by_cases hR : R a
          · exact .inl ⟨hR, na⟩
          · exact .inr hR
        · by_cases hA : A0.is a
          · exact ok'.deck.rs a hA
          · exact ok'.hp a ⟨z, hA⟩
      cases hm : m ⟨xs.map some ++ List.replicate (N.length - xs.length) none, k0⟩ with
      | none => rw [hm] at e; cases e
      | some r =>
        obtain ⟨fl, s'⟩ := r
        rw [hm] at e
        refine hD.v A0 _ R _ _ H fl s' ok hm _ ?_
        cases fl with
        | nx =>
          cases e
          intro σ' P' H' ok' st'
          obtain ⟨h1, h2, _⟩ := done P' H' s' σ' ok' st'
          exact q .non H' h1 h2 .non
        | rt d2 =>
          cases e
          intro v σ' P' H' ok' st' r
          obtain ⟨h1, h2, h3⟩ := done P' H' s' σ' ok' st'
          exact q v H' h1 h2 (r.mono h3)
        | bk => cases e
        | ct => cases e
    · cases e
end
/-! ### argument lists of such calls -/
inductive AV where
  | dat (d : D) | deck | bor (i : Nat)
/-- a borrowed slot's addresses are seen -/
def Pb (P : Addr → Prop) (σ : St) (B : List Nat) : Addr → Prop := fun a => P a ∧ ∀ i ∈ B, σ[i]? ≠ some (some (.ref a))
def AVOk (K : PySem.W.Frag) (A : DA) (P : Addr → Prop) (σ : St) (B : List Nat) (H : Hp) (v : V) : AV → Prop
  | .dat d => Rp K (mask P H) v d
  | .deck => v = .ref A.o
  | .bor i => σ[i]? = some (some v) ∧ i ∈ B
def AVsOk (K : PySem.W.Frag) (A : DA) (P : Addr → Prop) (σ : St) (B : List Nat) (H : Hp) : List V → List AV → Prop
  | [], [] => True
  | v :: vs, x :: xs => AVOk K A P σ B H v x ∧ AVsOk K A P σ B H vs xs
  | _, _ => False
def EvV (K : PySem.W.Frag) (B : List Nat) (t : TA) (f : M (List AV)) : Prop := ∀ (A : DA) (hid P : Addr → Prop) (s : S) (σ : St) (H : Hp) (xs : List AV) (s' : S), SOk K A hid P s σ H → f s = some (xs, s') →
  ∀ Q : List V → Hp → Prop, (∀ vs P' H', SOk K A hid P' s' σ H' → Stp hid P P' H H' → AVsOk K A P' σ B H' vs xs → Q vs H') → t σ H Q
structure DV (X : Cx) (es : List Expr) (B : List Nat) (t : TA) (f : M (List AV)) : Prop where
  p : PA X es t
  v : EvV X.K B t f
section
variable {X : Cx} {K : PySem.W.Frag} {B : List Nat} {e : Expr} {es : List Expr} {te : TE} {f : M D} {tr : TA} {fr : M (List AV)} {pos : Pos}
def vNil : M (List AV) := rtn []
def vDat (f : M D) (fr : M (List AV)) : M (List AV) := bd f fun x => bd fr fun xs => rtn (.dat x :: xs)
def vDeck (i : Nat) (fr : M (List AV)) : M (List AV) := fun s => match s.g[i]? with
  | some (some .deck) => (bd fr fun xs => rtn (.deck :: xs)) s
  | _ => none
def vBor (i : Nat) (fr : M (List AV)) : M (List AV) := fun s => match s.g[i]? with
  | some (some (.lst _)) => (bd fr fun xs => rtn (.bor i :: xs)) s
  | some (some (.dct _ _)) => (bd fr fun xs => rtn (.bor i :: xs)) s
  | _ => none
theorem ev_vnil : EvV K B tNil vNil := by
  intro A hid P s σ H ds s' ok h Q q
  obtain ⟨rfl, rfl⟩ := rtn_some h
  exact q [] P H ok Stp.refl True.intro
theorem ev_vdat (ha : EvE K te f) (hr : EvV K B tr fr) : EvV K B (tCons te tr) (vDat f fr) := by
  intro A hid P s σ H ds s' ok h Q q
  obtain ⟨x, s1, h1, h⟩ := bd_some h
  obtain ⟨xs, s2, h2, h⟩ := bd_some h
  obtain ⟨rfl, rfl⟩ := rtn_some h
  refine ha A hid P s σ H x s1 ok h1 _ fun v P1 H1 ok1 st1 r1 => ?_
  refine hr A hid P1 s1 σ H1 xs _ ok1 h2 _ fun vs P2 H2 ok2 st2 r2 => ?_
  exact q (v :: vs) P2 H2 ok2 (st1.trans st2) ⟨st2.rp r1, r2⟩
theorem ev_vdeck {i : Nat} (hr : EvV K B tr fr) : EvV K B (tCons (tVar i) tr) (vDeck i fr) := by
  intro A hid P s σ H ds s' ok h Q q
  unfold vDeck at h
  split at h
  · rename_i hi
    obtain ⟨xs, s2, h2, h⟩ := bd_some h
    obtain ⟨rfl, rfl⟩ := rtn_some h
    have e : σ[i]? = some (some (.ref A.o)) := ok.slot i _ hi
    refine ⟨_, e, hr A hid P s σ H xs _ ok h2 _ fun vs P2 H2 ok2 st2 r2 => ?_⟩
    exact q (_ :: vs) P2 H2 ok2 st2 ⟨rfl, r2⟩
  · cases h
theorem ev_vbor {i : Nat} (hB : i ∈ B) (hr : EvV K B tr fr) : EvV K B (tCons (tVar i) tr) (vBor i fr) := by
  intro A hid P s σ H ds s' ok h Q q
  unfold vBor at h
  split at h
  · rename_i hi
    obtain ⟨xs, s2, h2, h⟩ := bd_some h
    obtain ⟨rfl, rfl⟩ := rtn_some h
    obtain ⟨a, vs, e, _⟩ := ok.slot i _ hi
    refine ⟨_, e, hr A hid P s σ H xs _ ok h2 _ fun vs P2 H2 ok2 st2 r2 => ?_⟩
    exact q (_ :: vs) P2 H2 ok2 st2 ⟨⟨e, hB⟩, r2⟩
  · rename_i hi
    obtain ⟨xs, s2, h2, h⟩ := bd_some h
    obtain ⟨rfl, rfl⟩ := rtn_some h
    obtain ⟨a, e, _⟩ := ok.slot i _ hi
    refine ⟨_, e, hr A hid P s σ H xs _ ok h2 _ fun vs P2 H2 ok2 st2 r2 => ?_⟩
    exact q (_ :: vs) P2 H2 ok2 st2 ⟨⟨e, hB⟩, r2⟩
  · cases h
theorem dv_nil : DV X [] B tNil vNil := ⟨pa_nil, ev_vnil⟩
theorem dv_dat (ha : DE X e te f) (hr : DV X es B tr fr) (hs : starEach (e :: es) X.env = (false, eval e X.env) :: starEach es X.env := by rfl) : DV X (e :: es) B (tCons te tr) (vDat f fr) := ⟨pa_cons ha.p hr.p hs, ev_vdat ha.v hr.v⟩
theorem dv_deck (i : Nat) {x : Str} {p : Pos} (hr : DV X es B tr fr) (hN : X.N[i]? = some x := by rfl) (hv : Vis X.env.scope x := by first | exact Or.inl rfl | exact Or.inr (Or.inl rfl) | exact Or.inr (Or.inr rfl)) (hd : (x == ("__debug__" : Str)) = false := by decide)
    (hcd : (x == ("__classdict__" : Str)) = false := by decide) (hs : starEach (.Name x p :: es) X.env = (false, eval (.Name x p) X.env) :: starEach es X.env := by rfl) : DV X (.Name x p :: es) B (tCons (tVar i) tr) (vDeck i fr) := ⟨pa_cons (pe_var hN hv hd hcd) hr.p hs, ev_vdeck hr.v⟩
theorem dv_bor (i : Nat) {x : Str} {p : Pos} (hB : i ∈ B) (hr : DV X es B tr fr) (hN : X.N[i]? = some x := by rfl) (hv : Vis X.env.scope x := by first | exact Or.inl rfl | exact Or.inr (Or.inl rfl) | exact Or.inr (Or.inr rfl)) (hd : (x == ("__debug__" : Str)) = false := by decide)
    (hcd : (x == ("__classdict__" : Str)) = false := by decide) (hs : starEach (.Name x p :: es) X.env = (false, eval (.Name x p) X.env) :: starEach es X.env := by rfl) : DV X (.Name x p :: es) B (tCons (tVar i) tr) (vBor i fr) := ⟨pa_cons (pe_var hN hv hd hcd) hr.p hs, ev_vbor hB hr.v⟩
end
def resB (x : Option (Option Val)) : Option Val := match x with
  | some (some (.lst ds)) => some (.dat (.list ds))
  | some (some (.dct _ ds)) => some (.dat (.dict ds))
  | _ => none
def res (s : S) : AV → Option Val
  | .dat d => some (.dat d)
  | .deck => some .deck
  | .bor i => resB s.g[i]?
mutual
def noMut : D → Bool
  | .list _ => false
  | .dict [(.none, .tuple xs)] => noMutA xs
  | .dict _ => false
  | .tuple xs => noMutA xs
  | _ => true
def noMutA : List D → Bool
  | [] => true
  | x :: r => noMut x && noMutA r
end
/-- a tuple's record -/
def TupO : HO → Prop
  | .tup _ => True
  | .frz _ (.tup _) => True
  | _ => False
theorem noMut_dict {ds : List (D × D)} (h : noMut (.dict ds) = true) : isP ds = true := by
  unfold noMut at h
  split at h
  · cases ‹PyData.dict ds = _›
  · cases ‹PyData.dict ds = _›; rfl
  · cases h
  · cases ‹PyData.dict ds = _›
  · rename_i h1 h2 h3
    exact absurd rfl (h2 ds)
mutual
theorem Rp.tupsOnly {K : PySem.W.Frag} {H H' : Hp} (h : ∀ a o, TupO o → H a = some o → H' a = some o) : ∀ {v : V} {d : D}, Rp K H v d → noMut d = true → Rp K H' v d
  | _, _, .non, _ => .non
  | _, _, .bl b, _ => .bl b
  | _, _, .int i, _ => .int i
  | _, _, .str x, _ => .str x
  | _, _, .lst _ _, e => by simp [noMut] at e
  | _, _, .tup q r, e => .tup (h _ _ trivial q) (RpA.tupsOnly h r (by simpa [noMut] using e))
  | _, _, .dK _ r, e => by have z := noMut_dict e; rw [r.notP] at z; cases z
  | _, _, .dT _ r, e => by have z := noMut_dict e; rw [r.notP] at z; cases z
  | _, _, .pl q n r, e => .pl (h _ _ trivial q) n (RpA.tupsOnly h r (by simpa [noMut] using e))
theorem RpA.tupsOnly {K : PySem.W.Frag} {H H' : Hp} (h : ∀ a o, TupO o → H a = some o → H' a = some o) : ∀ {v : List V} {d : List D}, RpA K H v d → noMutA d = true → RpA K H' v d
  | _, _, .nil, _ => .nil
  | _, _, .cons a b, e => by
    rw [noMutA, Bool.and_eq_true] at e
    exact .cons (Rp.tupsOnly h a e.1) (RpA.tupsOnly h b e.2)
end
section
variable {X : Cx} {K : PySem.W.Frag} {B : List Nat}
theorem avs_args {A : DA} {hid P : Addr → Prop} {s : S} {σ : St} {H : Hp} (ok : SOk K A hid P s σ H) : ∀ {vs : List V} {avs : List AV} {xs : List Val}, AVsOk K A P σ B H vs avs → avs.mapM (res s) = some xs → ArgsOk K A.no (Pb P σ B) H vs xs
  | [], [], xs, _, e => by cases e; exact True.intro
  | v :: vs, x :: avs, xs, h, e => by
    rw [List.mapM_cons] at e
    cases e1 : res s x with
    | none => rw [e1] at e; cases e
    | some y =>
      rw [e1] at e
      cases e2 : avs.mapM (res s) with
      | none => rw [e2] at e; cases e
      | some ys =>
        rw [e2] at e; cases e
        refine ⟨?_, avs_args ok h.2 e2⟩
        have g : Grw (mask P H) (mask (Pb P σ B) H) := mask_grw fun a o ha na => ⟨fun z => na z.1, ha⟩
        have h1 := h.1
        cases x with
        | dat d => cases e1; exact Rp.mono g h1
        | deck => cases e1; exact h1
        | bor i =>
          obtain ⟨ei, iB⟩ := h1
          have e1 : resB s.g[i]? = some y := e1
          unfold resB at e1
          split at e1
          · cases e1
            rename_i hi
            obtain ⟨a, us, e5, k1, k2, k3, k4, rr⟩ := ok.slot i _ hi
            rw [ei] at e5; cases e5
            exact .lst (mask_some.mpr ⟨fun z => z.2 i iB ei, k1⟩) (rr.mono g)
          · cases e1
            rename_i hi
            obtain ⟨a, e5, k2, k3, k4, rr⟩ := ok.slot i _ hi
            rw [ei] at e5; cases e5
            rcases rr with ⟨ht, ks, k1, rr⟩ | ⟨ht, ks, k1, rr⟩
            · exact .dK (.inl (mask_some.mpr ⟨fun z => z.2 i iB ei, k1⟩)) (rr.mono g)
            · exact .dT (.inl (mask_some.mpr ⟨fun z => z.2 i iB ei, k1⟩)) (rr.mono g)
          · cases e1
  | [], _ :: _, _, h, _ => h.elim
  | _ :: _, [], _, h, _ => h.elim
/-- behind a call -/
theorem sok_after {A : DA} {hid P : Addr → Prop} {s : S} {σ : St} {H H' : Hp} {k' : Dk} {R : Addr → Prop} (ok : SOk K A hid P s σ H) (hk : ∀ a o, H a = some o → ¬ A.no.is a → H' a = some o) (dk : DkOk K A.no R H' k') :
    SOk K A hid P { s with k := k' } σ H' ∧ Stp hid P P H H' := by
  have nA : ∀ a, ¬ P a → ¬ A.no.is a := fun a n z => n (ok.deck.rs a (DA.no_is z))
  have g : Grw (mask P H) (mask P H') := mask_grw fun a o e c => ⟨c, hk a o e (nA a c)⟩
  refine ⟨⟨fun a z => ?_, ok.hp, ok.hd, ok.len, fun i v e => ?_, ok.apart, ⟨dk.ho, dk.hg, dk.hc, ok.deck.rs, dk.og, dk.oc, dk.gc, dk.tb, ok.deck.tk⟩⟩, ⟨fun a o e c => hk a o e ?_, fun _ _ _ c => c⟩⟩
  · by_cases hA : A.no.is a
    · rcases hA with rfl | rfl | rfl | ⟨_, z, _⟩ | ⟨p, hp, rfl⟩ | z
      · exact ⟨_, dk.ho, trivial⟩
      · exact ⟨_, dk.hg, trivial⟩
      · exact ⟨_, dk.hc, trivial⟩
      · cases z
      · obtain ⟨ps, e, _⟩ := dk.tb p hp
        exact ⟨_, e, trivial⟩
      · cases z
    · obtain ⟨o, e, n⟩ := ok.trk a z
      exact ⟨o, hk a o e hA, n⟩
  · have q := ok.slot i v e
    cases v with
    | dat d => obtain ⟨u, e5, r⟩ := q; exact ⟨u, e5, r.mono g⟩
    | deck => exact q
    | obj o =>
      obtain ⟨y, h1, h2, fs, h3, h4, h5, h6, h7, h8, h9⟩ := q
      refine ⟨y, h1, h2, ObOk.move ⟨fs, h3, h4, h5, h6, h7, h8, h9⟩ g fun b hb u e => hk b u e fun z => ?_⟩
      rcases z with z | z | z | ⟨_, z, _⟩ | ⟨p, hp, z⟩ | z
      · rcases hb with hb | hb | hb
        · exact ne_of h3 ok.deck.ho (fun w => nomatch w) (hb.symm.trans z)
        · exact ne_of h4 ok.deck.ho (fun w => nomatch w) (hb.symm.trans z)
        · exact (h8 b hb).1 z
      · rcases hb with hb | hb | hb
        · exact ne_of h3 ok.deck.hg (fun w => nomatch w) (hb.symm.trans z)
        · exact ne_of h4 ok.deck.hg (fun w => nomatch w) (hb.symm.trans z)
        · exact (h8 b hb).2.1 z
      · rcases hb with hb | hb | hb
        · exact ne_of h3 ok.deck.hc (fun w => nomatch w) (hb.symm.trans z)
        · exact ne_of h4 ok.deck.hc (fun w => nomatch w) (hb.symm.trans z)
        · exact (h8 b hb).2.2 z
      · cases z
      · obtain ⟨ps, et, _⟩ := ok.deck.tb p hp
        have ob := ObOk.thereL ⟨fs, h3, h4, h5, h6, h7, h8, h9⟩ b hb
        rw [z, et] at ob
        obtain ⟨w, ew, _, nw⟩ := ob
        cases ew
        exact nw _ rfl
      · cases z
    | fn _ => exact q
    | gst es =>
      obtain ⟨b, us, z1, z2, z3, z4, z5, z6, z7, z8⟩ := q
      refine ⟨b, us, z1, z2, hk b _ z3 fun z => ?_, z4.mono g, z5, z6, z7, z8⟩
      rcases z with z | z | z | ⟨_, z, _⟩ | ⟨p, hp, z⟩ | z
      · exact z5 z
      · exact z6 z
      · exact z7 z
      · cases z
      · obtain ⟨ps, et, _⟩ := ok.deck.tb p hp
        rw [z, et] at z3; cases z3
      · cases z
    | lst ds => obtain ⟨a, vs, e5, h1, h2, h3, h4, rr⟩ := q; exact ⟨a, vs, e5, hk _ _ h1 (fun z => h4 (DA.no_is z)), h2, h3, h4, rr.mono g⟩
    | dct tt ds =>
      obtain ⟨a, e5, h2, h3, h4, rr⟩ := q
      refine ⟨a, e5, h2, h3, h4, ?_⟩
      rcases rr with ⟨ht, ks, h1, rr⟩ | ⟨ht, ks, h1, rr⟩
      · exact .inl ⟨ht, ks, hk _ _ h1 (fun z => h4 (DA.no_is z)), rr.mono g⟩
      · exact .inr ⟨ht, ks, hk _ _ h1 (fun z => h4 (DA.no_is z)), rr.mono g⟩
  · rcases c with c | c
    · exact fun z => ok.hd a c (DA.no_is z)
    · exact nA a c
theorem sq_cell {A : DA} {hid P : Addr → Prop} {s : S} {σ : St} {H : Hp} (ok : SOk K A hid P s σ H) (hB : ∀ i ∈ B, ∃ v, s.g[i]? = some (some v) ∧ isCell v = true) {a : Addr} {o : HO} (to : TupO o) (h : mask (Pb P σ B) H a = some o) : mask P H a = some o := by
  have key : ∀ o, mask (Pb P σ B) H a = some o → (∀ vs, o ≠ .lst vs) → (∀ ks, o ≠ .dK ks) → (∀ ks, o ≠ .dT ks) → mask P H a = some o := by
    intro o e n1 n2 n3
    obtain ⟨h1, h2⟩ := mask_some.mp e
    refine mask_some.mpr ⟨fun z => h1 ⟨z, fun i iB ei => ?_⟩, h2⟩
    obtain ⟨v, hv, c⟩ := hB i iB
    have q := ok.slot i v hv
    cases v with
    | dat d => cases c
    | deck => cases c
    | lst ds =>
      obtain ⟨b, us, e5, k1, _⟩ := q
      rw [ei] at e5; cases e5
      rw [h2] at k1; cases k1
      exact n1 _ rfl
    | obj o => cases c
    | fn _ => cases c
    | gst _ => cases c
    | dct tt ds =>
      obtain ⟨b, e5, _, _, _, rr⟩ := q
      rw [ei] at e5; cases e5
      rcases rr with ⟨_, ks, k1, _⟩ | ⟨_, ks, k1, _⟩
      · rw [h2] at k1; cases k1; exact n2 _ rfl
      · rw [h2] at k1; cases k1; exact n3 _ rfl
  exact key _ h (fun _ z => by subst z; exact to) (fun _ z => by subst z; exact to) (fun _ z => by subst z; exact to)
/-- the borrowed slots are cells -/
def BorOk (B : List Nat) (s : S) : Prop := ∀ i ∈ B, ∃ v, s.g[i]? = some (some v) ∧ isCell v = true
def cellsB (B : List Nat) (s : S) : Bool := B.all fun i => match s.g[i]? with
  | some (some v) => isCell v
  | _ => false
theorem cellsB_ok {s : S} (h : cellsB B s = true) : BorOk B s := fun i hi => by
  unfold cellsB at h
  have := List.all_eq_true.mp h i hi
  split at this
  · rename_i v e; exact ⟨v, e, this⟩
  · cases this
def eCallB (B : List Nat) (sem : FS) (fr : M (List AV)) : M D := bd fr fun avs => fun s => if cellsB B s = true then (match avs.mapM (res s) with
  | some xs => match sem xs s.k with
    | some (d, k') => if (B.isEmpty || noMut d) = true then some (d, { s with k := k' }) else none
    | none => none
  | none => none) else none
theorem ev_call {tr : TA} {fr : M (List AV)} {sem : FS} (h : EvV K B tr fr) : EvE K (tCall (spD K sem) [] E0 tr) (eCallB B sem fr) := by
  intro A hid P s σ H d s' ok e Q q
  obtain ⟨avs, s1, h1, e⟩ := bd_some e
  split at e
  · rename_i hc
    split at e
    · rename_i xs hx
      split at e
      · rename_i d' k' hs
        split at e
        · rename_i hm
          cases e
          refine h A hid P s σ H avs s1 ok h1 _ fun vs P1 H1 ok1 st1 r1 => ?_
          have ar := avs_args ok1 r1 hx
          show spD K sem (vs ++ []) H1 Q E0
          rw [List.append_nil]
          have hB := cellsB_ok hc
          have nB0 : ∀ a, A.is a → Pb P1 σ B a := fun a z => ⟨ok1.deck.rs a z, fun i iB ei => by
            obtain ⟨v, hv, c⟩ := hB i iB
            have qq := ok1.slot i v hv
            cases v with
            | dat d => cases c
            | deck => cases c
            | obj o => cases c
            | fn _ => cases c
            | gst _ => cases c
            | lst ds => obtain ⟨b, us, e5, _, _, _, k4, _⟩ := qq; rw [ei] at e5; cases e5; exact k4 z
            | dct tt ds => obtain ⟨b, e5, _, _, k4, _⟩ := qq; rw [ei] at e5; cases e5; exact k4 z⟩
          have nB : ∀ a, A.no.is a → Pb P1 σ B a := fun a z => nB0 a (DA.no_is z)
          refine ⟨A.no, Pb P1 σ B, xs, s1.k, d, k', rfl, fun a z => ok1.trk a z.1, ⟨ok1.deck.ho, ok1.deck.hg, ok1.deck.hc, nB, ok1.deck.og, ok1.deck.oc, ok1.deck.gc, ok1.deck.tb, ok1.deck.tk⟩, ar, hs, fun v H' hk dk r => ?_⟩
          obtain ⟨ok2, st2⟩ := sok_after ok1 hk dk
          refine q v P1 H' ok2 (st1.trans st2) ?_
          rw [Bool.or_eq_true] at hm
          rcases hm with hm | hm
          · have hB0 : B = [] := by simpa using hm
            subst hB0
            exact r.mono (mask_grw fun a o ha na => ⟨fun z => na ⟨z, fun i iB => by simp at iB⟩, ha⟩)
          · exact r.tupsOnly (fun a xs to hq => sq_cell ok2 hB to hq) hm
        · cases e
      · cases e
    · cases e
  · cases e
end
/-! ### the defs of the text, as one fact -/
def permL {α : Type} (pm : List Nat) (l : List α) : List α := pm.filterMap fun i => l[i]?
/-- keywords alone, as many as there are parameters, put in their order -/
def gK {α : Type} (pm : List Nat) (us ws : List α) : List α := if us.length = 0 ∧ ws.length = pm.length then permL pm ws else []
structure FnD (P : Program) (w : World) (K : PySem.W.Frag) (mg : Str → Option Value) (base : Heap) (k : Nat) (x : Str) (ps : List Str) (kws : List (List Str × List Nat)) (sem : FS) : Prop where
  ex : ∃ (f : Addr) (fd : FuncData), FnOk P w K mg base CX0 k f fd ps (spD K sem) ∧ mg x = some (.ref f) ∧ PySem.W.keepIn K (.ref f) = true ∧ Binds K fd ps [] ∧
    ∀ q ∈ kws, KBinds K fd ps q.1 (gK q.2) (gK q.2)
section
variable {X : Cx} {B : List Nat} {x : Str} {p pos : Pos} {e : Expr} {es : List Expr} {tr : TA} {fr : M (List AV)} {k : Nat} {ps : List Str} {kws : List (List Str × List Nat)} {sem : FS}
theorem de_call (F : FnD X.prog X.w X.K X.mg X.base k x ps kws sem) (hr : Room k X.A) (hg : Gl X x) (ha : DV X (e :: es) B tr fr) (hdb : (x == ("__debug__" : Str)) = false := by decide) (he : starEach (e :: es) X.env = (false, eval e X.env) :: starEach es X.env := by rfl)
    (hpl : (backTo pos (starEach es X.env)).any (·.1) = false := by rfl) : DE X (.Call (.Name x p) (e :: es) [] pos) (tCall (spD X.K sem) [] E0 tr) (eCallB B sem fr) := by
  obtain ⟨f, fd, F1, hm, hk, hb, _⟩ := F.ex
  exact ⟨pe_call F1 hr hg hm hk hb .nil pass0 ha.p hdb he hpl, ev_call ha.v⟩
/-! keywords alone -/
def vPerm (pm : List Nat) (fr : M (List AV)) : M (List AV) := bd fr fun xs => if xs.length = pm.length ∧ (pm.all fun i => decide (i < xs.length)) = true then rtn (permL pm xs) else fun _ => none
theorem AVsOk.get {K : PySem.W.Frag} {A : DA} {P : Addr → Prop} {σ : St} {H : Hp} : ∀ {vs : List V} {xs : List AV} (i : Nat), AVsOk K A P σ B H vs xs → i < xs.length → ∃ v a, vs[i]? = some v ∧ xs[i]? = some a ∧ AVOk K A P σ B H v a
  | [], [], _, _, e => by simp at e
  | v :: _, x :: _, 0, h, e => ⟨v, x, rfl, rfl, h.1⟩
  | _ :: vs, _ :: xs, i + 1, h, e => by
    obtain ⟨v, a, h1, h2, h3⟩ := AVsOk.get i h.2 (by simpa using e)
    exact ⟨v, a, by simpa using h1, by simpa using h2, h3⟩
  | [], _ :: _, _, h, _ => h.elim
  | _ :: _, [], _, h, _ => h.elim
theorem AVsOk.length {K : PySem.W.Frag} {A : DA} {P : Addr → Prop} {σ : St} {H : Hp} : ∀ {vs : List V} {xs : List AV}, AVsOk K A P σ B H vs xs → vs.length = xs.length
  | [], [], _ => rfl
  | _ :: _, _ :: _, h => by simp [AVsOk.length h.2]
  | [], _ :: _, h => h.elim
  | _ :: _, [], h => h.elim
end
end DL
namespace DL
open PySem PySem.Spec PyProof.Rows L2
/-! DL7: repr. -/
mutual
/-- every dict within is empty -/
def dict0 : D → Bool
  | .list xs | .tuple xs => dict0A xs
  | .dict [] => true
  | .dict _ => false
  | _ => true
def dict0A : List D → Bool
  | [] => true
  | x :: r => dict0 x && dict0A r
end
mutual
/-- an int within has less than 4300 digits -/
def shw : D → Bool
  | .int i => decide (i.natAbs.log2 < 14190)
  | .list xs | .tuple xs => shwA xs
  | _ => true
def shwA : List D → Bool
  | [] => true
  | x :: r => shw x && shwA r
end
/-- the statics hold no limit of digits -/
def NoDig (K : PySem.W.Frag) : Prop := PySem.W.nsIn K cStatics "sys.int_max_str_digits" = some none
theorem unheld {K : PySem.W.Frag} {h : Heap} {at_ : Addr} {mc : Str → Option Value} {n : Str} (hK : K.In h) (G : h.Ns at_ mc) : PySem.W.nsIn K at_ n = some none → mc n = none := by
  obtain ⟨ob, en, k, hob, hda, _, all⟩ := G
  intro e
  rw [PySem.W.nsIn.eq_def] at e
  cases hl : K.lookup at_ with
  | none => rw [hl] at e; cases e
  | some o2 =>
    have q := hK _ _ hl
    rw [hob, Option.some.injEq] at q
    subst q
    obtain ⟨c1, c2, c3, c4⟩ := ob
    cases (show c3 = _ from hda)
    rw [hl] at e
    dsimp only at e
    cases hf : en.toList.find? (·.key.isStr n) with
    | some y => rw [hf] at e; cases e
    | none =>
      rw [← all, nsFind, findBy, ← Array.find?_toList, hf]
      rfl
theorem noDig_in {K : PySem.W.Frag} {h : Heap} (z : NoDig K) (hK : K.In h) (l : h.NoLimit) : h.NoDigits := by
  obtain ⟨mc, a, _⟩ := l
  exact ⟨mc, a, unheld hK a z⟩
theorem pow_hi : 2 ^ 14190 ≤ 10 ^ 4300 := by
  have h : (2 ^ 33) ^ 430 ≤ (10 ^ 10) ^ 430 := Nat.pow_le_pow_left (by decide) 430
  rw [← Nat.pow_mul, ← Nat.pow_mul] at h
  exact h
theorem big_lt {i : Int} (h : i.natAbs.log2 < 14190) : i.natAbs < 10 ^ 4300 := Nat.lt_of_lt_of_le (lt_of_log2 h) pow_hi
theorem gives_big {i : Int} {t : Tok} (h : i.natAbs < 10 ^ 4300) : GivesAt (fun s => s.heap.NoDigits) (Builtin.«int.__repr__» ⟨[.int i t], []⟩) (.str (toString i)) := by
  intro pr w A R s hn q
  unfold Builtin.«int.__repr__»
  refine wpAny_bind (m := Builtin.overDigitLimit? i) (overDigitLimit_any hn (fun _ => wpAny_bind (wpAny_mkStr (wpAny_pure q.2) q.1)) fun hge => ?_)
  exact absurd h (Nat.not_lt.mpr hge)
theorem reprK_big {pr : Program} {w : World} {as : List Addr} {h : Heap} {d : Nat} {i : Int} (t : Tok) (hn : h.NoDigits) (hi : i.natAbs.log2 < 14190) : ReprK pr w as h d (.int i t) (toString i) := by
  intro bs hb A g E s Q _ _ hu hk q
  rw [pyReprUnder_leaf (by omega) (by intro _ e; cases e)]
  refine wpAny_bind (wpAny_pyReprObj_slot (by omega) (typeIs_int s i t) F.slot_int_repr.toG ?_)
  refine call_givesAt F.slot_int_repr (typeIs_int s i t) F.entry_int_repr (F.args_int_repr_1 _) (gives_big (big_lt hi)) (hn.keeps hk) ⟨int_text_fits10 (big_lt hi), ?_⟩
  exact ⟨_, _, rfl, wpAny_pure (q s.heap _ fun _ _ e => e)⟩
section
variable {X : Cx} {pins : List (Addr × Obj)} {σ : St} {H : Hp} {s : Shared}
theorem dict_empty_at {a : Addr} {d : List (D × D)} (I : Inv X pins σ H s) (h : (∃ ks, Rd H a (.dK ks) ∧ RpK X.K H ks d) ∨ ∃ ks, Rd H a (.dT ks) ∧ RpT X.K H ks d) (e : d = []) :
    ∃ o n, s.heap.get? a = some o ∧ o.cls = .type "dict" ∧ o.data = .dict #[] n ∧ (a == sysModules) = false := by
  subst e
  rcases h with ⟨ks, h, r⟩ | ⟨ks, h, r⟩
  · cases r
    obtain ⟨_, hs, vs, kv, o, es, ep, g1, g2, g3, _, g5, _⟩ := h.ok I.hok
    cases kv
    refine ⟨o, ep, g1, g2.1, ?_, hs⟩
    have : es.toList = [] := by cases g5' : es.toList with
      | nil => rfl
      | cons x y => rw [g5'] at g5; cases g5
    rw [g3]; congr 1
    exact Array.toList_inj.mp this
  · cases r
    obtain ⟨_, hs, xs, kv, o, es, ep, g1, g2, g3, g4, _⟩ := h.ok I.hok
    cases kv
    refine ⟨o, ep, g1, g2.1, ?_, hs⟩
    rw [g3]; congr 1
    exact Array.toList_inj.mp g4
mutual
theorem Rp.sh (I : Inv X pins σ H s) (zd : s.heap.NoDigits) : ∀ {v : V} {d : D} {u : Value}, Rp X.K H v d → RelV v u → shw d = true → dict0 d = true → d.shown.length ≤ sizeLine →
    ∃ as bs, Reads s.heap u d as ∧ ReadAtMost s.heap d.depth bs ∧ ReprK X.prog X.w bs s.heap d.depth u d.shown
  | _, _, u, .non, r, _, _, _ => by
    cases (show u = Value.none from r)
    exact ⟨[], [], .none, (fun _ h => nomatch h), by simp only [PyData.shown]; exact .of_is ReprIs.none _ _ _⟩
  | _, _, u, .bl b, r, _, _, _ => by
    cases (show u = Value.bool b from r)
    exact ⟨[], [], .bool b, (fun _ h => nomatch h), by simp only [PyData.shown]; exact .of_is (ReprIs.bool b) _ _ _⟩
  | _, _, u, .int i, r, hs, _, _ => by
    obtain ⟨t, q⟩ := (show ∃ t, u = Value.int i t from r); cases q
    exact ⟨[], [], .int i t, (fun _ h => nomatch h), by simp only [PyData.shown]; exact reprK_big t zd (by simpa [shw] using hs)⟩
  | _, _, u, .str x, r, _, _, hz => by
    obtain ⟨t, q⟩ := (show ∃ t, u = Value.str x t from r); cases q
    exact ⟨[], [], .str x t, (fun _ h => nomatch h), by simp only [PyData.shown]; exact .of_is (ReprIs.str x t (by simpa only [PyData.shown] using hz)) _ _ _⟩
  | _, _, u, @Rp.lst _ _ a vs ds h rr, r, hs, h0, hz => by
    cases (show u = Value.ref a from r)
    have zz : (listText (PyData.shownAll ds)).length ≤ sizeLine := by simpa only [PyData.shown] using hz
    obtain ⟨its, rv, ⟨o, n, g1, g2, _, g4⟩, _⟩ := I.list (SqL.of h)
    obtain ⟨as, bs, q, hb, hk⟩ := RpA.sh I zd rr rv (by simpa [shw] using hs) (by simpa [dict0] using h0) (fun t ht => Nat.le_trans (listText_mem_le ht) zz)
    have rd : Reads s.heap (.ref a) (.list ds) (a :: as) := .list g1 g2 g4 (by simpa using q)
    have nm : a ∉ bs := not_mem_of_deeper rd (by simp only [PyData.depth]; omega) hb
    refine ⟨_, a :: bs, rd, ReadAtMost.cons rd (by simp only [PyData.depth]; omega) hb, ?_⟩
    simp only [PyData.depth, PyData.shown]
    cases its with
    | nil => cases q; simp only [PyData.shownAll, listText_nil]; exact ReprK.listEmpty g1 g2 g4
    | cons x l => exact ReprK.list g1 g2 g4 nm (by simpa using hk.length_eq) (fun i y e => hk.item i y (by simpa using e))
  | _, _, u, @Rp.tup _ _ a vs ds h rr, r, hs, h0, hz => by
    cases (show u = Value.ref a from r)
    have zz : (tupleText (PyData.shownAll ds)).length ≤ sizeLine := by simpa only [PyData.shown] using hz
    obtain ⟨its, rv, ⟨o, g1, g2, n, g4⟩, _⟩ := I.tuple (SqT.of h)
    obtain ⟨as, bs, q, hb, hk⟩ := RpA.sh I zd rr rv (by simpa [shw] using hs) (by simpa [dict0] using h0) (fun t ht => Nat.le_trans (tupleText_mem_le ht) zz)
    have rd : Reads s.heap (.ref a) (.tuple ds) as := .tuple g1 g2 g4 (by simpa using q)
    have nm : a ∉ bs := not_mem_of_deeper rd (by simp only [PyData.depth]; omega) hb
    refine ⟨_, a :: bs, rd, ReadAtMost.cons rd (by simp only [PyData.depth]; omega) hb, ?_⟩
    simp only [PyData.depth, PyData.shown]
    exact ReprK.tuple g1 g2 g4 nm (by simpa using hk)
  | _, _, u, @Rp.dK _ _ a ks ds h rr, r, _, h0, hz => by
    cases (show u = Value.ref a from r)
    cases ds with
    | cons x y => cases h0
    | nil =>
      obtain ⟨o, n, g1, g2, g3, g4⟩ := dict_empty_at I (.inl ⟨ks, h, rr⟩) rfl
      have rd : Reads s.heap (.ref a) (.dict []) (a :: [] ++ []) := .dict g1 g2 g3 .nil .nil
      refine ⟨_, [a], rd, ReadAtMost.cons rd (n := 0) (by omega) (fun _ h => nomatch h), ?_⟩
      simp only [PyData.depth, PyData.shown, PyData.shownKv]
      exact (ReprK.dict (d := 0) g1 g2 g3 g4 (by simp) .nil).level_le (by simp only [PyData.depthKv]; omega)
  | _, _, u, @Rp.dT _ _ a ks ds h rr, r, _, h0, hz => by
    cases (show u = Value.ref a from r)
    cases ds with
    | cons x y => cases h0
    | nil =>
      obtain ⟨o, n, g1, g2, g3, g4⟩ := dict_empty_at I (.inr ⟨ks, h, rr⟩) rfl
      have rd : Reads s.heap (.ref a) (.dict []) (a :: [] ++ []) := .dict g1 g2 g3 .nil .nil
      refine ⟨_, [a], rd, ReadAtMost.cons rd (n := 0) (by omega) (fun _ h => nomatch h), ?_⟩
      simp only [PyData.depth, PyData.shown, PyData.shownKv]
      exact (ReprK.dict (d := 0) g1 g2 g3 g4 (by simp) .nil).level_le (by simp only [PyData.depthKv]; omega)
  | _, _, u, .pl _ _ _, _, _, h0, _ => by simp [dict0] at h0
theorem RpA.sh (I : Inv X pins σ H s) (zd : s.heap.NoDigits) : ∀ {vs : List V} {ds : List D} {us : List Value}, RpA X.K H vs ds → Vals vs us → shwA ds = true → dict0A ds = true → (∀ t ∈ PyData.shownAll ds, t.length ≤ sizeLine) →
    ∃ as bs, ReadsAll s.heap us ds as ∧ ReadAtMost s.heap (PyData.depthAll ds) bs ∧ ReprAllK X.prog X.w bs s.heap (PyData.depthAll ds) us (PyData.shownAll ds)
  | _, _, _, .nil, .nil, _, _, _ => ⟨[], [], .nil, (fun _ h => nomatch h), by simp only [PyData.shownAll]; exact .nil⟩
  | _, _, _, @RpA.cons _ _ v vs d ds a b, .cons ra rb, hs, h0, hz => by
    rw [shwA, Bool.and_eq_true] at hs
    rw [dict0A, Bool.and_eq_true] at h0
    obtain ⟨a1, b1, q1, m1, k1⟩ := Rp.sh I zd a ra hs.1 h0.1 (hz _ (by simp only [PyData.shownAll]; exact List.mem_cons_self ..))
    obtain ⟨a2, b2, q2, m2, k2⟩ := RpA.sh I zd b rb hs.2 h0.2 (fun t ht => hz t (by simp only [PyData.shownAll]; exact List.mem_cons_of_mem _ ht))
    refine ⟨_, b1 ++ b2, .cons q1 q2, fun x hx => ?_, ?_⟩
    · simp only [PyData.depthAll]
      rcases List.mem_append.mp hx with hx | hx
      · obtain ⟨d', as', r', hd'⟩ := m1 x hx
        exact ⟨d', as', r', Nat.le_trans hd' (Nat.le_max_left _ _)⟩
      · obtain ⟨d', as', r', hd'⟩ := m2 x hx
        exact ⟨d', as', r', Nat.le_trans hd' (Nat.le_max_right _ _)⟩
    · simp only [PyData.depthAll, PyData.shownAll]
      exact .cons ((k1.more fun x hx => List.mem_append_left _ hx).level_le (Nat.le_max_left _ _)) (k2.more_le (fun x hx => List.mem_append_right _ hx) (Nat.le_max_right _ _))
end
/-- repr(x) of data -/
def rRepr (K : PySem.W.Frag) : List V → Hp → VK → Prop := fun xs H Q => ∃ x d, xs = [x] ∧ Rp K H x d ∧ shw d = true ∧ dict0 d = true ∧ d.shown.length ≤ sizeLine ∧ d.depth ≤ 60 ∧ Q (.str d.shown) H
theorem call_reprD (hz : NoDig X.K) (hg : X.A.guards = some []) (hu : X.A.units + 100 < cLine) : CallR X (.builtin "repr") (rRepr X.K) := by
  intro pins s σ H xs us Q I r h
  have zd := noDig_in hz I.kIn I.nolimit
  obtain ⟨x, d, rfl, rx, hs, h0, hz, hd, q⟩ := h
  obtain ⟨u, rfl, ru⟩ := Vals.one r
  have fin : ∀ (h' : Heap) (u : Tok) (tk : Nat), (∀ b o, s.heap.get? b = some o → h'.get? b = some o) → EP X pins σ Q (.str d.shown u) { s with heap := h', toks := tk } :=
    fun h' u tk hk => ⟨.str d.shown, H, I.kept (t' := tk) hk, ⟨u, rfl⟩, q⟩
  have fin0 : ∀ (u : Tok) (tk : Nat), EP X pins σ Q (.str d.shown u) { s with toks := tk } := fun u tk => ⟨.str d.shown, H, I.tok tk, ⟨u, rfl⟩, q⟩
  cases rx with
  | non => cases (show u = Value.none from ru); simp only [PyData.shown] at fin0; exact PySem.P.repr_of_none (fin0 _ _)
  | bl b => cases (show u = Value.bool b from ru); simp only [PyData.shown] at fin0; exact PySem.P.repr_of_bool (fin0 _ _)
  | int i => obtain ⟨t, e⟩ := (show ∃ t, u = Value.int i t from ru); cases e; simp only [PyData.shown] at fin0; have lt := big_lt (by simpa [shw] using hs); exact call_repr_slot (by omega) (typeIs_int s i t) F.slot_int_repr.toG (call_givesAt F.slot_int_repr (typeIs_int s i t) F.entry_int_repr (F.args_int_repr_1 _) (gives_big lt) zd ⟨int_text_fits10 lt, _, _, rfl, fin0 _ _⟩)
  | str y => obtain ⟨t, e⟩ := (show ∃ t, u = Value.str y t from ru); cases e; simp only [PyData.shown] at fin0 hz; exact PySem.P.repr_of_str (fin0 _ _) hz
  | @lst a vs ds h rr =>
    cases (show u = Value.ref a from ru)
    have zz : (listText (PyData.shownAll ds)).length ≤ sizeLine := by simpa only [PyData.shown] using hz
    obtain ⟨its, rv, ⟨o, n, g1, g2, _, g4⟩, _⟩ := I.list (SqL.of h)
    obtain ⟨as, bs, qq, hb, hk⟩ := RpA.sh I zd rr rv (by simpa [shw] using hs) (by simpa [dict0] using h0) (fun t ht => Nat.le_trans (listText_mem_le ht) zz)
    have rd : Reads s.heap (.ref a) (.list ds) (a :: as) := .list g1 g2 g4 (by simpa using qq)
    have nm : a ∉ bs := not_mem_of_deeper rd (by simp only [PyData.depth]; omega) hb
    simp only [PyData.depth] at hd
    simp only [PyData.shown] at fin fin0
    refine call_repr_slot (by omega) ⟨o, g1, g2⟩ F.slot_list_repr.toG ?_
    cases its with
    | nil =>
      cases qq
      simp only [PyData.shownAll, listText_nil] at fin0
      exact call_list_repr_empty ⟨o, g1, g2⟩ g1 g4 ⟨_, _, rfl, fin0 _ _⟩
    | cons x l => exact call_list_reprK g1 g2 g4 nm (by simpa using hk.length_eq) (fun i y e => hk.item i y (by simpa using e)) (g := []) hg (fun b _ => Clear.nil b) (by show X.A.units + 1 + _ < _; omega) (fun _ _ e => e) (fun h' u tk k => ⟨_, _, rfl, fin h' u tk k⟩) zz
  | @tup a vs ds h rr =>
    cases (show u = Value.ref a from ru)
    have zz : (tupleText (PyData.shownAll ds)).length ≤ sizeLine := by simpa only [PyData.shown] using hz
    obtain ⟨its, rv, ⟨o, g1, g2, n, g4⟩, _⟩ := I.tuple (SqT.of h)
    obtain ⟨as, bs, qq, hb, hk⟩ := RpA.sh I zd rr rv (by simpa [shw] using hs) (by simpa [dict0] using h0) (fun t ht => Nat.le_trans (tupleText_mem_le ht) zz)
    have rd : Reads s.heap (.ref a) (.tuple ds) as := .tuple g1 g2 g4 (by simpa using qq)
    have nm : a ∉ bs := not_mem_of_deeper rd (by simp only [PyData.depth]; omega) hb
    simp only [PyData.depth] at hd
    simp only [PyData.shown] at fin
    refine call_repr_slot (by omega) ⟨o, g1, g2⟩ F.slot_tuple_repr ?_
    exact call_tuple_reprK g1 g2 g4 nm (by simpa using hk) (g := []) hg (fun b _ => Clear.nil b) (by show X.A.units + 1 + _ < _; omega) (fun _ _ e => e) (fun h' u tk k => ⟨_, _, rfl, fin h' u tk k⟩) zz
  | @pl a oo vs ds h n rr => simp [dict0] at h0
  | @dK a ks ds h rr =>
    cases (show u = Value.ref a from ru)
    cases ds with
    | cons x y => cases h0
    | nil =>
      obtain ⟨o, n, g1, g2, g3, g4⟩ := dict_empty_at I (.inl ⟨ks, h, rr⟩) rfl
      simp only [PyData.shown, PyData.shownKv] at fin hz
      refine call_repr_slot (by omega) ⟨o, g1, g2⟩ F.slot_dict_repr ?_
      exact call_dict_reprK (d := 0) (as := []) g1 g2 g3 g4 (by simp) .nil (g := []) hg (fun b _ => Clear.nil b) (by show X.A.units + 1 + _ < _; omega) (fun _ _ e => e) (fun h' u tk k => ⟨_, _, rfl, fin h' u tk k⟩) hz
  | @dT a ks ds h rr =>
    cases (show u = Value.ref a from ru)
    cases ds with
    | cons x y => cases h0
    | nil =>
      obtain ⟨o, n, g1, g2, g3, g4⟩ := dict_empty_at I (.inr ⟨ks, h, rr⟩) rfl
      simp only [PyData.shown, PyData.shownKv] at fin hz
      refine call_repr_slot (by omega) ⟨o, g1, g2⟩ F.slot_dict_repr ?_
      exact call_dict_reprK (d := 0) (as := []) g1 g2 g3 g4 (by simp) .nil (g := []) hg (fun b _ => Clear.nil b) (by show X.A.units + 1 + _ < _; omega) (fun _ _ e => e) (fun h' u tk k => ⟨_, _, rfl, fin h' u tk k⟩) hz
end
def okR (d : D) : Bool := shw d && dict0 d && decide (d.shown.length ≤ lim) && decide (d.depth ≤ 60)
def dRepr : List D → Option D
  | [d] => if okR d = true then some (.str d.shown) else none
  | _ => none
theorem do_repr {K : PySem.W.Frag} : DOC K (rRepr K) dRepr := by
  intro P H xs ds d t r e Q q
  unfold dRepr at e
  split at e
  · split at e
    · rename_i h; cases e
      simp only [okR, Bool.and_eq_true, decide_eq_true_eq] at h
      obtain ⟨v, rfl, hx⟩ := r.one
      exact ⟨v, _, rfl, hx.mono mask_le, h.1.1.1, h.1.1.2, lim_le h.1.2, h.2, q _ H (Grw.refl H) (.str _)⟩
    · cases e
  · cases e
end DL
namespace DL
open PySem PySem.Spec PyProof.Rows L2
/-! DL8: products, turned sequences. -/
def dMul : D → D → Option D
  | .int i, .int j => if i.natAbs.log2 + j.natAbs.log2 < 1000000 then some (.int (i * j)) else none
  | .tuple a, .int k => if -(2 ^ 62) < k ∧ k ≤ 1000 ∧ a.length ≤ 1000 then some (.tuple (List.replicate k.toNat a).flatten) else none
  | .list a, .int k => if -(2 ^ 62) < k ∧ k < 2 ^ 62 ∧ a.length * k.toNat ≤ lim then some (.list (List.replicate k.toNat a).flatten) else none
  | _, _ => none
/-! ### x[::-1] -/
end DL
namespace DL
open PySem PySem.Spec PyProof.Rows L2
/-! DL9: a def that is called where no object is being shown; the law's end. -/
structure FnG (P : Program) (w : World) (K : PySem.W.Frag) (mg : Str → Option Value) (base : Heap) (k : Nat) (f : Addr) (fd : FuncData) (ps : List Str) (sp : Sp) : Prop where
  len : ∀ vs H Q E, sp vs H Q E → vs.length = ps.length
  run : ∀ (A : Around) (outer : List Env) (s : Shared) (H : Hp) (args : Args) (us : List Value) (vs : List V) (Q : VK) (E : XK), A.guards = some [] → Room k A → Env0 P w K mg base A outer s H →
    BindsTo s fd args (ps.zip us) → Vals vs us → sp vs H Q E → codeAny (model P w) A (.call (.ref f) args) (CR CX0 outer P w H s Q E) s
section
variable {P : Program} {w : World} {K : PySem.W.Frag} {mg : Str → Option Value} {base : Heap}
/-- the code of the def that stands at f -/
def LookC (K : PySem.W.Frag) (f : Addr) (cdv : Value) : Prop := ∃ (oc : Value) (od : Option Addr) (fd : FuncData) (osl : Array (Option Value)), K.lookup f = some ⟨oc, od, .func fd, osl⟩ ∧ fd.code = cdv
theorem fnG_ofC {x qual : Str} {st : Stmt} {f : Addr} {fd : FuncData} {N ps : List Str} {k : Nat} {sp : Sp} (F : Fun K x qual st f fd) (Sc : FnScope N ps (defScope st)) (len : ∀ vs H Q E, sp vs H Q E → vs.length = ps.length)
    (body : ∀ (cdv : Value) (A : Around) (outer : List Env) (s : Shared) (H : Hp) (vs : List V) (Q : VK) (E : XK), LookC K f cdv → (A.deeper (envOfC qual (defScope st) s.heap.objs.size f cdv)).guards = some [] → Room k (A.deeper (envOfC qual (defScope st) s.heap.objs.size f cdv)) → sp vs H Q E →
      ∃ t, PSs (cxOf CX0 P w K mg base N qual (defScope st) f cdv A outer s H E).nox (defBody st) t ∧ t { nx := fun _ H' => Q .non H', rt := Q } (L2.start N vs) H) : FnG P w K mg base (k + 1) f fd ps sp := by
  obtain ⟨oc, od, kV, doc, pm, an, cdv, ct, osl, rfl, lk, hcd⟩ := F.ex
  refine ⟨len, fun A outer s H args us vs Q E hG hr e0 hb rv hsp => ?_⟩
  have hlen := len _ _ _ _ hsp
  have kin : K.In s.heap := e0.mod.kin.keeps fun b o e => (e0.bs b o e).1
  have nol : s.heap.NoLimit := e0.mod.nolimit.keeps fun b o e => (e0.bs b o e).1
  have kinds : ∀ y ∈ ps.zip us, (defScope st).names.lookup y.1 = some .local ∨ ((defScope st).names.lookup y.1 = some .cell ∧ ((cellsFrom (s.heap.objs.size + 1) (defScope st).names []).lookup y.1).isSome = true) := by
    rintro ⟨nm, val⟩ hy
    rcases Sc.par nm (List.of_mem_zip hy).1 with q | q
    · exact .inl q
    · exact .inr ⟨q, PySem.W.cellsFrom_some _ _ _ (.inl q)⟩
  refine codeAny_call_function hr.depth (kin _ _ lk) rfl Sc.co Sc.gen rfl (PySem.W.codeRec_of kin hcd) (hb _ _ _ _ ?_)
  refine wpAny_newFunctionEnv_cells Sc.kind kinds fun env he s1 inC => ?_
  subst he
  refine ⟨nol.keeps inC.toInCall.keep, codeAny_func ?_⟩
  obtain ⟨t, ht, hq⟩ := body cdv A outer s H vs Q E ⟨_, _, _, _, lk, rfl⟩ (by show A.guards = some []; exact hG) (hr.deeper _) hsp
  have I0 : Inv (cxOf CX0 P w K mg base N qual (defScope st) f cdv A outer s H E) [] (L2.start N vs) H s1 := inv_start Sc hr.hd e0 hlen rv inC
  refine wpAny_mono (ht.nox.run [] s1 (L2.start N vs) H _ I0 hq) (fun fl s' hs => ?_) fun e s' hs => hs
  have close : ∀ {σ' : St} {H' : Hp} {v : V} {u : Value}, Inv (cxOf CX0 P w K mg base N qual (defScope st) f cdv A outer s H E) [] σ' H' s' → RelV v u → Q v H' → CE outer P w H s Q u s' :=
    fun {_ H' v _} J ru qv => ⟨v, H', J.os, J.bare, J.base, J.hok, ru, qv⟩
  cases fl with
  | ret u => obtain ⟨v, _, H', J, ru, qv⟩ := hs; exact close J ru qv
  | next => obtain ⟨_, H', J, qv⟩ := hs; exact close (v := V.non) (u := Value.none) J rfl qv
  | brk => obtain ⟨_, _, _, qv⟩ := hs; exact qv.elim
  | cont => obtain ⟨_, _, _, qv⟩ := hs; exact qv.elim
end
end DL
namespace DL
open PySem PySem.Spec PyProof.Rows L2
/-! DL10: the deck. -/
def Dk.drw (k : Dk) (m : Int) : Option (Int × Dk) := match k.great with
  | g :: r => some (g.fmod m, { k with great := if g / m = 0 then r else (g / m) :: r })
  | [] => match k.cells[((k.n + 1).fmod (k.cells.length : Int)).toNat]? with
    | some c =>
      let a := (c.fmod 4294966297 + 1640531527 * (k.n + 1)).fmod 4294966297
      let b := (a * a + 122949823 * (k.n + 1)).fmod 4294966237
      some (((b * b).fmod 4294966187 / 1024).fmod m, { k with n := k.n + 1 })
    | none => none
def drawSem : FS := fun xs k => match xs with
  | [.deck, .dat (.int m)] => if 0 < m ∧ m < 1000000000 then (match k.drw m with
    | some (r, k') => some (.int r, k')
    | none => none) else none
  | _ => none
def DkV (k : Dk) : Prop := k.cells ≠ []
theorem fmod_lt {a m : Int} (h : 0 < m) : 0 ≤ a.fmod m ∧ a.fmod m < m := ⟨Int.fmod_nonneg_of_pos a h, Int.fmod_lt_of_pos a h⟩
theorem drw_ok {k : Dk} {m : Int} (hk : DkV k) (h : 0 < m) : ∃ r k', k.drw m = some (r, k') ∧ 0 ≤ r ∧ r < m ∧ DkV k' := by
  unfold Dk.drw
  split
  · exact ⟨_, _, rfl, (fmod_lt h).1, (fmod_lt h).2, hk⟩
  · have hl : 0 < k.cells.length := by
      cases e : k.cells with
      | nil => exact absurd e hk
      | cons => simp
    have hb := fmod_lt (a := k.n + 1) (m := (k.cells.length : Int)) (by omega)
    have hi : ((k.n + 1).fmod (k.cells.length : Int)).toNat < k.cells.length := by omega
    rw [List.getElem?_eq_getElem hi]
    exact ⟨_, _, rfl, (fmod_lt h).1, (fmod_lt h).2, hk⟩
/-- the deck behind a change of its greats, of its number -/
theorem DkOk.putG {K : PySem.W.Frag} {A : DA} {P : Addr → Prop} {H : Hp} {k : Dk} {gs : List Int} (h : DkOk K A P H k) : DkOk K A P (upd H A.g (.lst (gs.map V.int))) { k with great := gs } :=
  ⟨by rw [upd_ne h.og]; exact h.ho, upd_same, by rw [upd_ne h.gc.symm]; exact h.hc, h.rs, h.og, h.oc, h.gc, tabs_upd h.tb h.hg trivial (fun _ z => nomatch z), h.tk⟩
theorem DkOk.putN {K : PySem.W.Frag} {A : DA} {P : Addr → Prop} {H : Hp} {k : Dk} {n : Int} (h : DkOk K A P H k) : DkOk K A P (upd H A.o (.lst [.ref A.g, .ref A.c, .int n])) { k with n := n } :=
  ⟨upd_same, by rw [upd_ne h.og.symm]; exact h.hg, by rw [upd_ne h.oc.symm]; exact h.hc, h.rs, h.og, h.oc, h.gc, tabs_upd h.tb h.ho trivial (fun _ z => nomatch z), h.tk⟩
theorem keepG {A : DA} {H : Hp} {o : HO} {b : Addr} (hb : A.is b) : ∀ a u, H a = some u → ¬ A.is a → upd H b o a = some u := fun a u e n => by
  rw [upd_ne (show a ≠ b from fun z => n (z ▸ hb))]; exact e
/-- a new deck -/
def spDeck (K : PySem.W.Frag) : Sp := fun vs H Q _ => ∃ (a : Addr) (ns : List Int), vs = [.ref a] ∧ SqL K H a (ns.map V.int) ∧ ns.length ≤ 1000 ∧
  ∀ (A : DA) (k : Dk) (H' : Hp), A.x = none → Grw H H' → DkB A A.is H' k → (∀ b, A.is b → H b = none) → DkV k → Q (.ref A.o) H'
end DL
namespace DL
open PySem PySem.Spec PyProof.Rows L2
/-! DL11: a cell given up; {}; several names at once; name = [..]; defs without a promise. -/
section
variable {K : PySem.W.Frag} {A : DA} {hid P : Addr → Prop} {s : S} {σ : St} {H : Hp}
/-- a cell is given up: its list is data from now on -/
theorem SOk.give {i : Nat} {ds : List D} (ok : SOk K A hid P s σ H) (hi : s.g[i]? = some (some (.lst ds))) : ∃ a, σ[i]? = some (some (.ref a)) ∧ SOk K A hid (fun b => P b ∧ b ≠ a) { s with g := s.g.set i (some (.dat (.list ds))) } σ H ∧ Stp hid P (fun b => P b ∧ b ≠ a) H H ∧ Rp K (mask (fun b => P b ∧ b ≠ a) H) (.ref a) (.list ds) := by
  obtain ⟨a, vs, ea, h1, h2, h3, h4, rr⟩ := ok.slot i _ hi
  have hil : i < s.g.length := (List.getElem?_eq_some_iff.mp hi).1
  have g : Grw (mask P H) (mask (fun b => P b ∧ b ≠ a) H) := mask_grw fun b o e c => ⟨fun z => c z.1, e⟩
  have r : Rp K (mask (fun b => P b ∧ b ≠ a) H) (.ref a) (.list ds) := .lst (mask_some.mpr ⟨fun z => z.2 rfl, h1⟩) (rr.mono g)
  have oth : ∀ (j : Nat) (w : Val) (b : Addr), j ≠ i → s.g[j]? = some (some w) → isCell w = true → σ[j]? = some (some (.ref b)) → b ≠ a := fun j w b hj e c e3 z => by
    subst z
    exact hj (ok.apart j i w _ _ e hi c rfl e3 ea)
  refine ⟨a, ea, ⟨fun b z => ok.trk b z.1, fun b z => ⟨ok.hp b z, fun w => h3 (w ▸ z)⟩, ok.hd, by simpa using ok.len, fun j w e => ?_, fun j l w u b e1 e2 c1 c2 e3 e4 => ?_, ?_⟩, ⟨fun b o e _ => e, fun b o e c z => c z.1⟩, r⟩
  · have e : (s.g.set i (some (.dat (.list ds))))[j]? = some (some w) := e
    rw [get_set] at e
    by_cases k1 : i = j ∧ j < s.g.length
    · rw [if_pos k1] at e
      cases e
      exact ⟨.ref a, by rw [← k1.1]; exact ea, r⟩
    · rw [if_neg k1] at e
      have hj : j ≠ i := fun z => k1 ⟨z.symm, by rw [z]; exact hil⟩
      have q := ok.slot j w e
      cases w with
      | dat d => obtain ⟨u, e5, r⟩ := q; exact ⟨u, e5, r.mono g⟩
      | lst es => obtain ⟨b, us, e5, k1, k2, k3, k4, r⟩ := q; exact ⟨b, us, e5, k1, ⟨k2, oth j _ b hj e rfl e5⟩, k3, k4, r.mono g⟩
      | obj o =>
        obtain ⟨y, z1, z2, z3⟩ := q
        exact ⟨y, z1, z2, z3.move g fun _ _ _ e => e⟩
      | fn _ => exact q
      | gst es =>
        obtain ⟨b, us, z1, z2, z3, z4, z5⟩ := q
        exact ⟨b, us, z1, z2, z3, z4.mono g, z5⟩
      | dct tt es =>
        obtain ⟨b, e5, k2, k3, k4, r⟩ := q
        refine ⟨b, e5, ⟨k2, oth j _ b hj e rfl e5⟩, k3, k4, ?_⟩
        rcases r with ⟨ht, ks, k1, r⟩ | ⟨ht, ks, k1, r⟩
        · exact .inl ⟨ht, ks, k1, r.mono g⟩
        · exact .inr ⟨ht, ks, k1, r.mono g⟩
      | deck => exact q
  · have e1 : (s.g.set i (some (.dat (.list ds))))[j]? = some (some w) := e1
    have e2 : (s.g.set i (some (.dat (.list ds))))[l]? = some (some u) := e2
    rw [get_set] at e1 e2
    split at e1
    · cases e1; cases c1
    · split at e2
      · cases e2; cases c2
      · exact ok.apart j l w u b e1 e2 c1 c2 e3 e4
  · have d := ok.deck
    exact ⟨d.ho, d.hg, d.hc, fun b z => ⟨d.rs b z, fun w => h4 (w ▸ z)⟩, d.og, d.oc, d.gc, d.tb, d.tk⟩
end
section
variable {X : Cx} {K : PySem.W.Frag} {pos : Pos}
/-- a name whose cell is not changed any more -/
def eGive (i : Nat) : M D := fun s => match s.g[i]? with
  | some (some (.dat d)) => some (d, s)
  | some (some (.lst ds)) => some (.list ds, { s with g := s.g.set i (some (.dat (.list ds))) })
  | _ => none
theorem ev_give {i : Nat} : EvE K (tVar i) (eGive i) := by
  intro A hid P s σ H d s' ok h Q q
  unfold eGive at h
  split at h
  · cases h
    rename_i h1
    obtain ⟨v, e, r⟩ := ok.slot i _ h1
    exact ⟨v, e, q v P H ok Stp.refl r⟩
  · cases h
    rename_i h1
    obtain ⟨a, e, ok2, st, r⟩ := ok.give h1
    exact ⟨.ref a, e, q _ _ H ok2 st r⟩
  · cases h
theorem de_give (i : Nat) {x : Str} {pos : Pos} (hN : X.N[i]? = some x := by rfl) (hv : Vis X.env.scope x := by first | exact Or.inl rfl | exact Or.inr (Or.inl rfl) | exact Or.inr (Or.inr rfl)) (hd : (x == ("__debug__" : Str)) = false := by decide)
    (hcd : (x == ("__classdict__" : Str)) = false := by decide) : DE X (.Name x pos) (tVar i) (eGive i) := ⟨pe_var hN hv hd hcd, ev_give⟩
/-- {} -/
theorem ev_dnew : EvE K tDNewK (eC (.dict [])) := by
  intro A hid P s σ H d s' ok h Q q p hp
  obtain ⟨rfl, rfl⟩ := rtn_some h
  exact q _ P _ (ok.grw (Grw.new hp)) (Stp.grw (Grw.new hp)) (.dK (.inl (mask_new (ok.free hp))) .nil)
theorem de_dnew : DE X (.Dict [] [] pos) tDNewK (eC (.dict [])) := ⟨pe_dnewK, ev_dnew⟩
/-! ### values for several names: data, or new lists that become cells -/
inductive PV where
  | dat (d : D) | new (ds : List D) | dct (t : Bool)
/-- the new lists stand in L, in order -/
inductive PVs (K : PySem.W.Frag) (P : Addr → Prop) (H : Hp) : List Addr → List V → List PV → Prop
  | nil : PVs K P H [] [] []
  | dat {L : List Addr} {v : V} {vs : List V} {d : D} {xs : List PV} : Rp K (mask P H) v d → PVs K P H L vs xs → PVs K P H L (v :: vs) (.dat d :: xs)
  | new {L : List Addr} {a : Addr} {us vs : List V} {ds : List D} {xs : List PV} : H a = some (.lst us) → RpA K (mask P H) us ds → PVs K P H L vs xs → PVs K P H (a :: L) (.ref a :: vs) (.new ds :: xs)
  | dct {L : List Addr} {a : Addr} {vs : List V} {t : Bool} {xs : List PV} : H a = some (if t = true then .dT [] else .dK []) → PVs K P H L vs xs → PVs K P H (a :: L) (.ref a :: vs) (.dct t :: xs)
theorem PVs.mono {P P' : Addr → Prop} {H H' : Hp} {L : List Addr} {vs : List V} {xs : List PV} (g : Grw (mask P H) (mask P' H')) (k : ∀ a ∈ L, ∀ o, H a = some o → H' a = some o) (h : PVs K P H L vs xs) : PVs K P' H' L vs xs := by
  induction h with
  | nil => exact .nil
  | dat r _ ih => exact .dat (r.mono g) (ih k)
  | new e r _ ih => exact .new (k _ (List.mem_cons_self ..) _ e) (r.mono g) (ih fun a ha => k a (List.mem_cons_of_mem _ ha))
  | dct e _ ih => exact .dct (k _ (List.mem_cons_self ..) _ e) (ih fun a ha => k a (List.mem_cons_of_mem _ ha))
def EvP (K : PySem.W.Frag) (t : TA) (f : M (List PV)) : Prop := ∀ (A : DA) (hid P : Addr → Prop) (s : S) (σ : St) (H : Hp) (xs : List PV) (s' : S), SOk K A hid P s σ H → f s = some (xs, s') →
  ∀ Q : List V → Hp → Prop, (∀ vs L P' H', SOk K A (fun a => hid a ∨ a ∈ L) P' s' σ H' → Stp hid P P' H H' → L.Nodup → (∀ a ∈ L, ¬ hid a) → PVs K P' H' L vs xs → Q vs H') → t σ H Q
structure DP (X : Cx) (es : List Expr) (t : TA) (f : M (List PV)) : Prop where
  p : PA X es t
  v : EvP X.K t f
def pNil : M (List PV) := rtn []
def pDat (f : M D) (fr : M (List PV)) : M (List PV) := bd f fun x => bd fr fun xs => rtn (.dat x :: xs)
def pNew (f : M (List D)) (fr : M (List PV)) : M (List PV) := bd f fun x => bd fr fun xs => rtn (.new x :: xs)
variable {e : Expr} {es : List Expr} {te : TE} {f : M D} {g : M (List D)} {tr : TA} {fr : M (List PV)}
theorem SOk.hidEq {A : DA} {hid hid' P : Addr → Prop} {s : S} {σ : St} {H : Hp} (ok : SOk K A hid P s σ H) (h : ∀ a, hid a ↔ hid' a) : SOk K A hid' P s σ H := by
  have : hid = hid' := funext fun a => propext (h a)
  subst this; exact ok
theorem ep_nil : EvP K tNil pNil := by
  intro A hid P s σ H xs s' ok h Q q
  obtain ⟨rfl, rfl⟩ := rtn_some h
  exact q [] [] P H (ok.hidEq fun a => by simp) Stp.refl List.nodup_nil (by simp) .nil
theorem ep_dat (ha : EvE K te f) (hr : EvP K tr fr) : EvP K (tCons te tr) (pDat f fr) := by
  intro A hid P s σ H ds s' ok h Q q
  obtain ⟨x, s1, h1, h⟩ := bd_some h
  obtain ⟨xs, s2, h2, h⟩ := bd_some h
  obtain ⟨rfl, rfl⟩ := rtn_some h
  refine ha A hid P s σ H x s1 ok h1 _ fun v P1 H1 ok1 st1 r1 => ?_
  refine hr A hid P1 s1 σ H1 xs _ ok1 h2 _ fun vs L P2 H2 ok2 st2 nd nh r2 => ?_
  exact q (v :: vs) L P2 H2 ok2 (st1.trans st2) nd nh (.dat (st2.rp r1) r2)
theorem ep_new (ha : EvN K te g) (hr : EvP K tr fr) : EvP K (tCons te tr) (pNew g fr) := by
  intro A hid P s σ H ds s' ok h Q q
  obtain ⟨x, s1, h1, h⟩ := bd_some h
  obtain ⟨xs, s2, h2, h⟩ := bd_some h
  obtain ⟨rfl, rfl⟩ := rtn_some h
  refine ha A hid P s σ H x s1 ok h1 _ fun us P1 H1 p ok1 st1 hp r1 => ?_
  have okh : SOk K A (fun a => hid a ∨ a = p) (fun a => P1 a ∨ a = p) s1 σ (upd H1 p (.lst us)) := ok1.hide hp
  refine hr A _ _ s1 σ _ xs _ okh h2 _ fun vs L P2 H2 ok2 st2 nd nh r2 => ?_
  have np : p ∉ L := fun z => nh p z (.inr rfl)
  have hp2 : H2 p = some (.lst us) := st2.keep p _ upd_same (.inl (.inr rfl))
  have stW : Stp hid P1 P2 H1 H2 := by
    refine ⟨fun a o e c => ?_, fun a o e c => ?_⟩
    · have ha : a ≠ p := ne_of_none e hp
      exact st2.keep a o (by rw [upd_ne ha]; exact e) (c.imp (fun z => .inl z) fun z w => w.elim z ha)
    · have ha : a ≠ p := ne_of_none e hp
      exact st2.vis a o (by rw [upd_ne ha]; exact e) fun w => w.elim c ha
  refine q (.ref p :: vs) (p :: L) P2 H2 (ok2.hidEq fun a => ?_) (st1.trans stW) (List.nodup_cons.mpr ⟨np, nd⟩) (fun a ha => ?_) (.new hp2 (r1.mono stW.mg) r2)
  · rw [List.mem_cons]; exact or_assoc
  · rcases List.mem_cons.mp ha with rfl | ha
    · exact fun z => ok1.free hp (ok1.hp _ z)
    · exact fun z => nh a ha (.inl z)
/-- {} that becomes a cell -/
def pDctN (t : Bool) (fr : M (List PV)) : M (List PV) := bd fr fun xs => rtn (.dct t :: xs)
theorem dp_nil : DP X [] tNil pNil := ⟨pa_nil, ep_nil⟩
theorem dp_dat (ha : DE X e te f) (hr : DP X es tr fr) (hs : starEach (e :: es) X.env = (false, eval e X.env) :: starEach es X.env := by rfl) : DP X (e :: es) (tCons te tr) (pDat f fr) := ⟨pa_cons ha.p hr.p hs, ep_dat ha.v hr.v⟩
theorem dp_new (ha : DN X e te g) (hr : DP X es tr fr) (hs : starEach (e :: es) X.env = (false, eval e X.env) :: starEach es X.env := by rfl) : DP X (e :: es) (tCons te tr) (pNew g fr) := ⟨pa_cons ha.p hr.p hs, ep_new ha.v hr.v⟩
/-- a hidden list becomes a slot's cell -/
theorem SOk.adopt {A : DA} {hid P : Addr → Prop} {s : S} {σ : St} {H : Hp} {L : List Addr} {i : Nat} {p : Addr} {us : List V} {ds : List D} (ok : SOk K A (fun a => hid a ∨ a ∈ p :: L) P s σ H) (nh : ¬ hid p) (nL : p ∉ L) (hp : H p = some (.lst us)) (r : RpA K (mask P H) us ds) :
    SOk K A (fun a => hid a ∨ a ∈ L) P { s with g := s.g.set i (some (.lst ds)) } (σ.set i (some (.ref p))) H := by
  have hl := ok.len
  have hh : hid p ∨ p ∈ p :: L := .inr (List.mem_cons_self ..)
  have le : ∀ a, (hid a ∨ a ∈ L) → hid a ∨ a ∈ p :: L := fun a z => z.imp (fun z => z) fun z => List.mem_cons_of_mem _ z
  have cellNe : ∀ (j : Nat) (w : Val) (a : Addr), s.g[j]? = some (some w) → isCell w = true → σ[j]? = some (some (.ref a)) → a ≠ p := fun j w a e c e3 z => by
    subst z
    have q := ok.slot j w e
    cases w with
    | dat d => cases c
    | obj o => cases c
    | fn _ => cases c
    | gst _ => cases c
    | deck => cases c
    | lst es => obtain ⟨b, us, e5, _, _, h3, _⟩ := q; rw [e3] at e5; cases e5; exact h3 hh
    | dct tt es => obtain ⟨b, e5, _, h3, _⟩ := q; rw [e3] at e5; cases e5; exact h3 hh
  refine ⟨ok.trk, fun a z => ok.hp a (le a z), fun a z => ok.hd a (le a z), by simpa using ok.len, fun j w e => ?_, fun j l w u a e1 e2 c1 c2 e3 e4 => ?_, ok.deck⟩
  · show SlotOk K A _ _ _ (σ.set i (some (.ref p)))[j]? w
    have e : (s.g.set i (some (.lst ds)))[j]? = some (some w) := e
    rw [get_set] at e ⊢
    rw [← hl]
    split at e
    · cases e
      rw [if_pos (by assumption)]
      exact ⟨p, us, rfl, hp, ok.hp p hh, fun z => z.elim nh nL, ok.hd p hh, r⟩
    · rw [if_neg (by assumption)]
      have q := ok.slot j w e
      cases w with
      | dat d => exact q
      | obj o => exact q
      | fn _ => exact q
      | gst _ => exact q
      | deck => exact q
      | lst es => obtain ⟨b, us, e5, h1, h2, h3, h4⟩ := q; exact ⟨b, us, e5, h1, h2, fun z => h3 (le b z), h4⟩
      | dct tt es => obtain ⟨b, e5, h2, h3, h4⟩ := q; exact ⟨b, e5, h2, fun z => h3 (le b z), h4⟩
  · have e1 : (s.g.set i (some (.lst ds)))[j]? = some (some w) := e1
    have e2 : (s.g.set i (some (.lst ds)))[l]? = some (some u) := e2
    rw [get_set] at e1 e2 e3 e4
    rw [← hl] at e3 e4
    by_cases k1 : i = j ∧ j < s.g.length
    · rw [if_pos k1] at e1 e3
      cases e3
      by_cases k2 : i = l ∧ l < s.g.length
      · exact k1.1.symm.trans k2.1
      · rw [if_neg k2] at e2 e4
        exact absurd rfl (cellNe l u _ e2 c2 e4)
    · rw [if_neg k1] at e1 e3
      by_cases k2 : i = l ∧ l < s.g.length
      · rw [if_pos k2] at e2 e4
        cases e4
        exact absurd rfl (cellNe j w _ e1 c1 e3)
      · rw [if_neg k2] at e2 e4
        exact ok.apart j l w u a e1 e2 c1 c2 e3 e4
/-- a hidden dict becomes a slot's cell -/
theorem SOk.adoptD {A : DA} {hid P : Addr → Prop} {s : S} {σ : St} {H : Hp} {L : List Addr} {i : Nat} {p : Addr} {t : Bool} (ok : SOk K A (fun a => hid a ∨ a ∈ p :: L) P s σ H) (nh : ¬ hid p) (nL : p ∉ L) (hp : H p = some (if t = true then .dT [] else .dK [])) :
    SOk K A (fun a => hid a ∨ a ∈ L) P { s with g := s.g.set i (some (.dct t [])) } (σ.set i (some (.ref p))) H := by
  have hl := ok.len
  have hh : hid p ∨ p ∈ p :: L := .inr (List.mem_cons_self ..)
  have le : ∀ a, (hid a ∨ a ∈ L) → hid a ∨ a ∈ p :: L := fun a z => z.imp (fun z => z) fun z => List.mem_cons_of_mem _ z
  have cellNe : ∀ (j : Nat) (w : Val) (a : Addr), s.g[j]? = some (some w) → isCell w = true → σ[j]? = some (some (.ref a)) → a ≠ p := fun j w a e c e3 z => by
    subst z
    have q := ok.slot j w e
    cases w with
    | dat d => cases c
    | obj o => cases c
    | fn _ => cases c
    | gst _ => cases c
    | deck => cases c
    | lst es => obtain ⟨b, us, e5, _, _, h3, _⟩ := q; rw [e3] at e5; cases e5; exact h3 hh
    | dct tt es => obtain ⟨b, e5, _, h3, _⟩ := q; rw [e3] at e5; cases e5; exact h3 hh
  refine ⟨ok.trk, fun a z => ok.hp a (le a z), fun a z => ok.hd a (le a z), by simpa using ok.len, fun j w e => ?_, fun j l w u a e1 e2 c1 c2 e3 e4 => ?_, ok.deck⟩
  · show SlotOk K A _ _ _ (σ.set i (some (.ref p)))[j]? w
    have e : (s.g.set i (some (.dct t [])))[j]? = some (some w) := e
    rw [get_set] at e ⊢
    rw [← hl]
    split at e
    · cases e
      rw [if_pos (by assumption)]
      refine ⟨p, rfl, ok.hp p hh, fun z => z.elim nh nL, ok.hd p hh, ?_⟩
      cases t with
      | false => exact .inl ⟨rfl, [], hp, .nil⟩
      | true => exact .inr ⟨rfl, [], hp, .nil⟩
    · rw [if_neg (by assumption)]
      have q := ok.slot j w e
      cases w with
      | dat d => exact q
      | obj o => exact q
      | fn _ => exact q
      | gst _ => exact q
      | deck => exact q
      | lst es => obtain ⟨b, us, e5, h1, h2, h3, h4⟩ := q; exact ⟨b, us, e5, h1, h2, fun z => h3 (le b z), h4⟩
      | dct tt es => obtain ⟨b, e5, h2, h3, h4⟩ := q; exact ⟨b, e5, h2, fun z => h3 (le b z), h4⟩
  · have e1 : (s.g.set i (some (.dct t [])))[j]? = some (some w) := e1
    have e2 : (s.g.set i (some (.dct t [])))[l]? = some (some u) := e2
    rw [get_set] at e1 e2 e3 e4
    rw [← hl] at e3 e4
    by_cases k1 : i = j ∧ j < s.g.length
    · rw [if_pos k1] at e1 e3
      cases e3
      by_cases k2 : i = l ∧ l < s.g.length
      · exact k1.1.symm.trans k2.1
      · rw [if_neg k2] at e2 e4
        exact absurd rfl (cellNe l u _ e2 c2 e4)
    · rw [if_neg k1] at e1 e3
      by_cases k2 : i = l ∧ l < s.g.length
      · rw [if_pos k2] at e2 e4
        cases e4
        exact absurd rfl (cellNe j w _ e1 c1 e3)
      · rw [if_neg k2] at e2 e4
        exact ok.apart j l w u a e1 e2 c1 c2 e3 e4
def putP (i : Nat) (x : PV) (s : S) : S := { s with g := s.g.set i (some (match x with
  | .dat d => .dat d
  | .new ds => .lst ds
  | .dct t => .dct t [])) }
/-- one of the values goes to its slot -/
theorem SOk.putP {A : DA} {hid P : Addr → Prop} {s : S} {σ : St} {H : Hp} {L : List Addr} {i : Nat} {v : V} {vs : List V} {x : PV} {xs : List PV} (ok : SOk K A (fun a => hid a ∨ a ∈ L) P s σ H) (nd : L.Nodup) (nh : ∀ a ∈ L, ¬ hid a) (h : PVs K P H L (v :: vs) (x :: xs)) :
    ∃ L', SOk K A (fun a => hid a ∨ a ∈ L') P (DL.putP i x s) (σ.set i (some v)) H ∧ L'.Nodup ∧ (∀ a ∈ L', ¬ hid a) ∧ PVs K P H L' vs xs := by
  cases h with
  | dat r h => exact ⟨L, ok.set_dat r, nd, nh, h⟩
  | @new L' a us _ ds _ e r h =>
    have n := List.nodup_cons.mp nd
    exact ⟨L', ok.adopt (nh a (List.mem_cons_self ..)) n.1 e r, n.2, fun b hb => nh b (List.mem_cons_of_mem _ hb), h⟩
  | @dct L' a _ t _ e h =>
    have n := List.nodup_cons.mp nd
    exact ⟨L', ok.adoptD (nh a (List.mem_cons_self ..)) n.1 e, n.2, fun b hb => nh b (List.mem_cons_of_mem _ hb), h⟩
theorem PVs.length {P : Addr → Prop} {H : Hp} {L : List Addr} {vs : List V} {xs : List PV} (h : PVs K P H L vs xs) : vs.length = xs.length := by
  induction h with
  | nil => rfl
  | dat _ _ ih => simp [ih]
  | new _ _ _ ih => simp [ih]
  | dct _ _ ih => simp [ih]
def sPar (i j : Nat) (fr : M (List PV)) : M Fl := bd fr fun xs => match xs with
  | [x, y] => fun s => some (.nx, putP j y (putP i x s))
  | _ => fun _ => none
theorem es_par {i j : Nat} (h : EvP K tr fr) : EvS K (tPar i j tr) (sPar i j fr) := by
  intro A hid P s σ H fl s' ok e D q
  obtain ⟨xs, s1, h1, e⟩ := bd_some e
  refine h A hid P s σ H xs s1 ok h1 _ fun vs L P1 H1 ok1 st1 nd nh r => ?_
  split at e
  · cases e
    match vs, r with
    | [v, w], r =>
      refine ⟨v, w, rfl, ?_⟩
      obtain ⟨L1, ok2, nd2, nh2, r2⟩ := ok1.putP (i := i) nd nh r
      obtain ⟨L2, ok3, nd3, nh3, r3⟩ := ok2.putP (i := j) nd2 nh2 r2
      cases r3
      exact q _ P1 H1 (ok3.hidEq fun a => by simp) st1
    | [], r => exact absurd r.length (by simp)
    | [_], r => exact absurd r.length (by simp)
    | _ :: _ :: _ :: _, r => exact absurd r.length (by simp)
  · cases e
def sPar3 (i j l : Nat) (fr : M (List PV)) : M Fl := bd fr fun xs => match xs with
  | [x, y, z] => fun s => some (.nx, putP l z (putP j y (putP i x s)))
  | _ => fun _ => none
theorem es_par3 {i j l : Nat} (h : EvP K tr fr) : EvS K (tPar3 i j l tr) (sPar3 i j l fr) := by
  intro A hid P s σ H fl s' ok e D q
  obtain ⟨xs, s1, h1, e⟩ := bd_some e
  refine h A hid P s σ H xs s1 ok h1 _ fun vs L P1 H1 ok1 st1 nd nh r => ?_
  split at e
  · cases e
    have hl := r.length
    match vs, r, hl with
    | [v, w, u], r, _ =>
      refine ⟨v, w, u, rfl, ?_⟩
      obtain ⟨L1, ok2, nd2, nh2, r2⟩ := ok1.putP (i := i) nd nh r
      obtain ⟨L2, ok3, nd3, nh3, r3⟩ := ok2.putP (i := j) nd2 nh2 r2
      obtain ⟨L3, ok4, nd4, nh4, r4⟩ := ok3.putP (i := l) nd3 nh3 r3
      cases r4
      exact q _ P1 H1 (ok4.hidEq fun a => by simp) st1
    | [], _, h => simp at h
    | [_], _, h => simp at h
    | [_, _], _, h => simp at h
    | _ :: _ :: _ :: _ :: _, _, h => simp at h
  · cases e
theorem ds_par (i j : Nat) {x y : Str} {a b : Expr} {px py pt : Pos} {kt k2 pt2} (hc : X.calm = true) (hN : X.N.Nodup) (ha : DP X [a, b] tr fr) (hi : X.N[i]? = some x := by rfl) (hj : X.N[j]? = some y := by rfl) (hij : i ≠ j := by decide)
    (hx : X.env.scope.names.lookup x = some .local := by rfl) (hy : X.env.scope.names.lookup y = some .local := by rfl)
    (hw : swappedStores [.Tuple [.Name x px, .Name y py] kt pt] (.Tuple [a, b] k2 pt2) X.env = pure (some [x, y]) := by rfl)
    (hs : swapsWithSole [.Tuple [.Name x px, .Name y py] kt pt] (.Tuple [a, b] k2 pt2) pos.line X.env = pure false := by rfl) :
    DS X (.Assign [.Tuple [.Name x px, .Name y py] kt pt] (.Tuple [a, b] k2 pt2) pos) (tPar i j tr) (sPar i j fr) := ⟨ps_par hc hN hi hj hij hx hy ha.p hw hs, es_par ha.v⟩
theorem ds_par3 (i j l : Nat) {x y z : Str} {a b c : Expr} {px py pz pt : Pos} {kt k2 pt2} (hc : X.calm = true) (hN : X.N.Nodup) (ha : DP X [a, b, c] tr fr) (hi : X.N[i]? = some x := by rfl) (hj : X.N[j]? = some y := by rfl) (hl : X.N[l]? = some z := by rfl) (hij : i ≠ j := by decide) (hil : i ≠ l := by decide) (hjl : j ≠ l := by decide)
    (hx : X.env.scope.names.lookup x = some .local := by rfl) (hy : X.env.scope.names.lookup y = some .local := by rfl) (hz : X.env.scope.names.lookup z = some .local := by rfl)
    (hw : swappedStores [.Tuple [.Name x px, .Name y py, .Name z pz] kt pt] (.Tuple [a, b, c] k2 pt2) X.env = pure (some [x, y, z]) := by rfl)
    (hs : swapsWithSole [.Tuple [.Name x px, .Name y py, .Name z pz] kt pt] (.Tuple [a, b, c] k2 pt2) pos.line X.env = pure false := by rfl) :
    DS X (.Assign [.Tuple [.Name x px, .Name y py, .Name z pz] kt pt] (.Tuple [a, b, c] k2 pt2) pos) (tPar3 i j l tr) (sPar3 i j l fr) := ⟨ps_par3 hc hN hi hj hl hij hil hjl hx hy hz ha.p hw hs, es_par3 ha.v⟩
end
section
variable {X : Cx}
/-- name = [..] on one line, the name a local: data or a cell -/
theorem ps_lcn {i : Nat} {y : Str} {py spos : Pos} {elt tg iter : Expr} {ifs : List Expr} {scope : Scope} {own : List (Str × Nat)} {pos : Pos} {wi : TI} {g : TG} {tt : TT} {te : TE} {it : M (List D)} {js : List Nat} {fg : D → M Unit} {gt : M Bool} {fe : M D} (hc : X.calm = true) (hN : X.N.Nodup) (hi : DI X tg iter wi it) (ok : BlkOk X.N X.env.scope scope own)
    (hg : ∀ (s : Shared) (H : Hp) (C : Addr) (cl : List (Str × Addr)) (fp : List Addr), DG (X.blk s H scope (compEnvC scope cl C X.env) fp) tg js g fg) (hj : ∀ i ∈ js, i ∈ own.map (·.2)) (ht : ∀ (s : Shared) (H : Hp) (C : Addr) (cl : List (Str × Addr)) (fp : List Addr), DTs (X.blk s H scope (compEnvC scope cl C X.env) fp) ifs tt gt)
    (he : ∀ (s : Shared) (H : Hp) (C : Addr) (cl : List (Str × Addr)) (fp : List Addr), DE (X.blk s H scope (compEnvC scope cl C X.env) fp) elt te fe) (hy : X.N[i]? = some y) (hyl : X.env.scope.names.lookup y = some .local)
    (hsw : swapsWith (.ListComp elt [⟨tg, iter, ifs, 0⟩] scope pos) (some (.Name y py)) spos.line X.env = pure true) (hs : ∀ x, foldedSetIterable iter X.env x = pure x) :
    PS X (.Assign [.Name y py] (.ListComp elt [⟨tg, iter, ifs, 0⟩] scope pos) spos) (tAsg (tLc wi g tt te (own.map (·.2))) (gName i)) ∧ EvN X.K (tLc wi g tt te (own.map (·.2))) (nLc (own.map (·.2)) it fg gt fe) :=
  ⟨ps_setLc hc hN hy hyl hsw hi.p ok (fun s H C cl fp => (hg s H C cl fp).p) (fun s H C cl fp => (ht s H C cl fp).p) (fun s H C cl fp => (he s H C cl fp).p) hs,
    en_lc hi.v (hg X.s_0 X.H_0 0 [] []).v hj (ht X.s_0 X.H_0 0 [] []).v (he X.s_0 X.H_0 0 [] []).v⟩
theorem ds_lcD (i : Nat) {y : Str} {py spos : Pos} {elt tg iter : Expr} {ifs : List Expr} {scope : Scope} {own : List (Str × Nat)} {pos : Pos} {wi : TI} {g : TG} {tt : TT} {te : TE} {it : M (List D)} {js : List Nat} {fg : D → M Unit} {gt : M Bool} {fe : M D} (hc : X.calm = true) (hN : X.N.Nodup) (hi : DI X tg iter wi it) (ok : BlkOk X.N X.env.scope scope own)
    (hg : ∀ (s : Shared) (H : Hp) (C : Addr) (cl : List (Str × Addr)) (fp : List Addr), DG (X.blk s H scope (compEnvC scope cl C X.env) fp) tg js g fg) (hj : ∀ i ∈ js, i ∈ own.map (·.2)) (ht : ∀ (s : Shared) (H : Hp) (C : Addr) (cl : List (Str × Addr)) (fp : List Addr), DTs (X.blk s H scope (compEnvC scope cl C X.env) fp) ifs tt gt)
    (he : ∀ (s : Shared) (H : Hp) (C : Addr) (cl : List (Str × Addr)) (fp : List Addr), DE (X.blk s H scope (compEnvC scope cl C X.env) fp) elt te fe)
    (hsw : swapsWith (.ListComp elt [⟨tg, iter, ifs, 0⟩] scope pos) (some (.Name y py)) spos.line X.env = pure true) (hy : X.N[i]? = some y := by rfl) (hyl : X.env.scope.names.lookup y = some .local := by rfl) (hs : ∀ x, foldedSetIterable iter X.env x = pure x := by intro _; rfl) :
    DS X (.Assign [.Name y py] (.ListComp elt [⟨tg, iter, ifs, 0⟩] scope pos) spos) (tAsg (tLc wi g tt te (own.map (·.2))) (gName i)) (sAsg (eL (nLc (own.map (·.2)) it fg gt fe)) (gN i)) := by
  obtain ⟨h1, h2⟩ := ps_lcn (spos := spos) hc hN hi ok hg hj ht he hy hyl hsw hs
  exact ⟨h1, es_asg (ev_N h2) eg_name⟩
end
end DL
namespace DL
open PySem PySem.Spec PyProof.Rows L2
/-! DL12: a list or a tuple walked. -/
def iSeq (K : PySem.W.Frag) (tl : TE) : TI := fun σ H R => tl σ H fun x H1 => ∃ a, x = .ref a ∧ (((∃ xs, SqL K H1 a xs) ∧ R (Itl K a) H1) ∨ ((∃ xs, SqT K H1 a xs) ∧ R (Itt K a) H1))
theorem pi_seq {X : Cx} {tg l : Expr} {tl : TE} (hl : PE X l tl) : PI X tg l (iSeq X.K tl) := by
  refine ⟨fun pins s σ H R I0 h => thn (hl.run pins s σ H _ I0 h) fun v s2 ⟨x, H2, I2, r2, ⟨a, ea, q2⟩⟩ => ?_⟩
  subst ea
  cases r2
  have nw : ∀ (hp : Heap) (b : Addr), b ∈ [s2.heap.objs.size] → FpOk X pins H2 b := fun _ b hb => by
    obtain rfl : b = s2.heap.objs.size := by simpa using hb
    exact I2.fpOk (Nat.le_refl _) (I2.hok.fresh (Nat.le_refl _))
  rcases q2 with ⟨⟨xs, hx⟩, qq⟩ | ⟨⟨xs, hx⟩, qq⟩
  · obtain ⟨its, rv, pl, _⟩ := I2.list hx
    exact wpAny_pyIter_list pl.isList ⟨_, [s2.heap.objs.size], _, _, H2, rfl, I2.kept (t' := s2.toks) (fun b o e => Heap.get?_push_of_some _ e), turn_list a _, ⟨_, Heap.get?_push_size _ rfl, rfl, rfl⟩, nw s2.heap, qq⟩
  · obtain ⟨its, rv, pt, _⟩ := I2.tuple hx
    have pt : s2.heap.IsTuple a its.toArray := pt
    exact wpAny_pyIter_tuple pt ⟨_, [s2.heap.objs.size], _, _, H2, rfl, I2.kept (t' := s2.toks) (fun b o e => Heap.get?_push_of_some _ e), turn_tuple a _, ⟨_, Heap.get?_push_size _ rfl, rfl, rfl⟩, nw s2.heap, qq⟩
def asQ (f : M D) : M (List D) := bd f fun x => match x with
  | .list ds => rtn ds
  | .tuple ds => rtn ds
  | .dict [(.none, .tuple ds)] => rtn ds
  | _ => fun _ => none
theorem ei_seq {K : PySem.W.Frag} {te : TE} {f : M D} (h : EvE K te f) : EvI K (iSeq K te) (asQ f) := by
  intro A hid P s σ H ds s' ok e R q
  obtain ⟨x, s1, h1, e⟩ := bd_some e
  refine h A hid P s σ H x s1 ok h1 _ fun v P1 H1 ok1 st1 r => ?_
  split at e
  · obtain ⟨rfl, rfl⟩ := rtn_some e
    obtain ⟨a, vs, rfl, hx, rr⟩ := r.lst_inv
    exact ⟨a, rfl, .inl ⟨⟨vs, SqL.of (mask_le _ _ hx)⟩, q _ _ P1 H1 ok1 st1 (walkL rr.length) ⟨hx, rr⟩⟩⟩
  · obtain ⟨rfl, rfl⟩ := rtn_some e
    obtain ⟨a, vs, rfl, hx, rr⟩ := r.tup_inv
    exact ⟨a, rfl, .inr ⟨⟨vs, sqT_le hx⟩, q _ _ P1 H1 ok1 st1 (walkT rr.length) ⟨hx, rr⟩⟩⟩
  · obtain ⟨rfl, rfl⟩ := rtn_some e
    obtain ⟨a, vs, o, rfl, hx, _, rr⟩ := r.pln_inv
    exact ⟨a, rfl, .inr ⟨⟨vs, sqT_le (SqT.frz hx)⟩, q _ _ P1 H1 ok1 st1 (walkT rr.length) ⟨SqT.frz hx, rr⟩⟩⟩
  · cases e
theorem di_seq {X : Cx} {tg e : Expr} {te : TE} {f : M D} (h : DE X e te f) : DI X tg e (iSeq X.K te) (asQ f) := ⟨pi_seq h.p, ei_seq h.v⟩
/-- x.append(e), x a cell -/
theorem ds_append {X : Cx} {e : Expr} {te : TE} {f : M D} {pos : Pos} (i : Nat) {x : Str} {px pa pe : Pos} (h : DE X e te f) (hN : X.N[i]? = some x := by rfl) (hv : Vis X.env.scope x := by first | exact Or.inl rfl | exact Or.inr (Or.inl rfl) | exact Or.inr (Or.inr rfl))
    (hd : (x == ("__debug__" : Str)) = false := by decide) (hcd : (x == ("__classdict__" : Str)) = false := by decide) (hst : starEach [e] X.env = (false, eval e X.env) :: starEach [] X.env := by rfl)
    (hbase : attributeBase (.Name x px) "append" X.env (eval (.Name x px) X.env) = eval (.Name x px) X.env := by rfl)
    (hfew : ((backTo pe (starEach [e] X.env)).all (fun x => !x.1) && (backToKw pe (keywordEach [] X.env)).all (fun x => x.1.isSome) && decide ([e].length + ([] : List Keyword).length + (if ([] : List Keyword).isEmpty then 0 else 1) < 30)) = true := by rfl)
    (hline : (pa.endLine == pe.line) = true := by rfl) (hplain : (backTo pe (starEach [] X.env)).any (·.1) = false := by rfl)
    (hs : swapsWith (.Call (.Attribute (.Name x px) "append" pa) [e] [] pe) none pos.line X.env = pure false := by rfl) : DS X (.Expr (.Call (.Attribute (.Name x px) "append" pa) [e] [] pe) pos) (tDrop (tBM X.K "list" rAppend (tVar i) (tCons te tNil))) (sApp i f) :=
  ds_app i h hN hv hd hcd (pe_bm PySem.F.plainAttrs_list PySem.F.slot_list_append PySem.F.type_list_append mt_append (pe_var hN hv hd hcd) (pa_cons h.p pa_nil hst) hbase hfew hline hst hplain) hs
end DL
namespace DL
open PySem PySem.Spec PyProof.Rows L2
/-! DL13: keywords of a def; a law by its deck and its pure rest. -/
/-! statements, the readings hidden -/
def XS (X : Cx) (sts : List Stmt) (m : M Fl) : Prop := ∃ t, DSs X sts t m
def X1 (X : Cx) (st : Stmt) (m : M Fl) : Prop := ∃ t, DS X st t m
section
variable {X : Cx} {st : Stmt} {rest p q : List Stmt} {m n : M Fl} {pos : Pos}
theorem xs_nil : XS X [] sNx := ⟨_, dss_nil⟩
theorem xs_one (h : X1 X st m) : XS X [st] m := let ⟨_, h⟩ := h; ⟨_, dss_one h⟩
theorem xs_cons (h : X1 X st m) (hr : XS X rest n) : XS X (st :: rest) (sSeq m n) := let ⟨_, h⟩ := h; let ⟨_, hr⟩ := hr; ⟨_, dss_cons h hr⟩
theorem x_lf {t : TS} (h : DS X st t m) : X1 X st m := ⟨_, h⟩
theorem x_if {c : Expr} {tc : TT} {g : M Bool} (hc : DT X c tc g) (ha : XS X p m) (hb : XS X q n) : X1 X (.If c p q pos) (sIf g m n) := let ⟨_, ha⟩ := ha; let ⟨_, hb⟩ := hb; ⟨_, ds_if hc ha hb⟩
theorem x_for {tg iter : Expr} {wi : TI} {it : M (List D)} {js : List Nat} {g : TG} {fg : D → M Unit} (hi : DI X tg iter wi it) (hg : DG X tg js g fg) (hb : XS X p m) (hp : PassesOwn (model X.prog X.w) X.A X.env X.xe := by exact PassesOwn.never) (hc : X.calm = true := by rfl) (hs : ∀ x, foldedSetIterable iter X.env x = pure x := by intro _; rfl) :
    X1 X (.For tg iter p [] pos) (sFor it fg m) := let ⟨_, hb⟩ := hb; ⟨_, ds_for hp hc hi hg hb hs⟩
end
def spLaw (K : PySem.W.Frag) : Sp := fun vs H Q _ => ∃ (a : Addr) (ns : List Int), vs = [.ref a] ∧ SqL K H a (ns.map V.int) ∧ ns.length ≤ 63 ∧ LamX.Tabs (tbsOf K) H ∧ ∀ H', Q (.bl true) H'
/-- the state behind the deck's making -/
def st0 (n : Nat) (k : Dk) : S := ⟨none :: some .deck :: List.replicate (n - 2) none, k⟩
/-- the table of the code objects that law itself makes -/
structure LawTab (K : PySem.W.Frag) (mg : Str → Option Value) (base : Heap) (cdv : Value) : Prop where
  ex : ∃ c P : Addr, (P, ("law.<locals>.<lambda>" : Str)) ∈ tbsOf K ∧ cdv = .ref c ∧ LamX.TabB base mg c P
theorem sok_law {K : PySem.W.Frag} {A : DA} {H : Hp} {k : Dk} {v : Option V} {n : Nat} (hx : A.x = none) (hg : A.gs = none) (dk : DkOk K A A.is H k) : SOk K A (fun _ => False) A.is (st0 n k) (v :: some (.ref A.o) :: List.replicate (n - 2) none) H := by
  have hs : ∀ (i : Nat) (w : Val), (st0 n k).g[i]? = some (some w) → i = 1 ∧ w = .deck := fun i w e => by
    match i with
    | 0 => cases e
    | 1 => cases e; exact ⟨rfl, rfl⟩
    | i + 2 =>
      have e : (List.replicate (n - 2) (none : Option Val))[i]? = some (some w) := e
      rw [List.getElem?_replicate] at e
      split at e <;> cases e
  refine ⟨fun a z => ?_, fun a z => z.elim, fun a z => z.elim, by simp [st0], fun i w e => ?_, fun i j w u a e1 e2 c1 _ _ _ => ?_, dk⟩
  · rcases z with rfl | rfl | rfl | ⟨y, z, _⟩ | ⟨p, hp, rfl⟩ | z
    · exact ⟨_, dk.ho, trivial⟩
    · exact ⟨_, dk.hg, trivial⟩
    · exact ⟨_, dk.hc, trivial⟩
    · rw [hx] at z; cases z
    · obtain ⟨ps, e, _⟩ := dk.tb p hp
      exact ⟨_, e, trivial⟩
    · rw [hg] at z; cases z
  · obtain ⟨rfl, rfl⟩ := hs i w e
    rfl
  · obtain ⟨rfl, rfl⟩ := hs i w e1
    cases c1
theorem law_of {P : Program} {w : World} {K : PySem.W.Frag} {mg : Str → Option Value} {base : Heap} {st s1 : Stmt} {rest : List Stmt} {f : Addr} {fd : FuncData} {N : List Str} {k : Nat} {m : M Fl} {x : Str} (F : Fun K "law" "law" st f fd) (Sc : FnScope (x :: N) [x] (defScope st)) (hN : 1 ≤ N.length)
    (hb : defBody st = s1 :: rest) (tb : ∀ cdv, LookC K f cdv → LawTab K mg base cdv)
    (h1 : ∀ (cdv : Value) (A : Around) (outer : List Env) (s : Shared) (H : Hp) (E : XK), Room k (A.deeper (envOfC "law" (defScope st) s.heap.objs.size f cdv)) → PS (cxOf CX0 P w K mg base (x :: N) "law" (defScope st) f cdv A outer s H E).nox s1 (tAsg (tCall (spDeck K) [] E0 (tCons (tVar 0) tNil)) (gName 1)))
    (h2 : ∀ (cdv : Value) (A : Around) (outer : List Env) (s : Shared) (H : Hp) (E : XK), LawTab K mg base cdv → (A.deeper (envOfC "law" (defScope st) s.heap.objs.size f cdv)).guards = some [] → Room k (A.deeper (envOfC "law" (defScope st) s.heap.objs.size f cdv)) → ∃ t, DSs (cxOf CX0 P w K mg base (x :: N) "law" (defScope st) f cdv A outer s H E).nox rest t m)
    (hm : ∀ k0, DkV k0 → ∃ s', m (st0 (x :: N).length k0) = some (.rt (.bool true), s')) : FnG P w K mg base (k + 1) f fd [x] (spLaw K) := by
  refine fnG_ofC F Sc (fun vs H Q E h => by obtain ⟨a, ns, rfl, _⟩ := h; rfl) fun cdv A outer s H vs Q E hC hG hr h => ?_
  obtain ⟨a, ns, rfl, hS, hl, hT, q⟩ := h
  obtain ⟨t, hD⟩ := h2 cdv A outer s H E (tb cdv hC) hG hr
  refine ⟨_, hb ▸ pss_cons (h1 cdv A outer s H E hr) hD.p, ?_⟩
  · refine ⟨.ref a, rfl, a, ns, rfl, hS, Nat.le_trans hl (by decide), fun A1 k0 H1 hx g dk nn dv => ?_⟩
    obtain ⟨s', e⟩ := hm k0 dv
    have hst : (L2.start (x :: N) [V.ref a]).set 1 (some (.ref A1.o)) = some (.ref a) :: some (.ref A1.o) :: List.replicate (N.length + 1 - 2) none := by
      unfold L2.start
      match N, hN with
      | y :: N, _ => simp [List.replicate_succ]
    show t _ ((L2.start (x :: N) [V.ref a]).set 1 (some (.ref A1.o))) H1
    rw [hst]
    have dk2 : DkOk K ⟨A1.o, A1.g, A1.c, none, tbsOf K, none⟩ (DA.is ⟨A1.o, A1.g, A1.c, none, tbsOf K, none⟩) H1 k0 := ⟨dk.ho, dk.hg, dk.hc, fun a z => z, dk.og, dk.oc, dk.gc, hT.ext g, rfl⟩
    refine hD.v ⟨A1.o, A1.g, A1.c, none, tbsOf K, none⟩ _ _ _ _ H1 _ s' (sok_law (A := ⟨A1.o, A1.g, A1.c, none, tbsOf K, none⟩) (n := N.length + 1) rfl rfl dk2) e _ ?_
    intro v σ' P' H' ok' st' r
    cases r
    exact q H'
end DL
namespace DL
open PySem PySem.Spec PyProof.Rows L2
/-! DL14: the rules with the frozen part by its own name (for the blocks of comprehensions). -/
theorem _root_.L2.Room.u100 {k : Nat} {A : Around} (r : Room k A) : A.units + 100 < cLine := by have := r.un; omega
section
variable {X : Cx} {K : PySem.W.Frag} {e a b c : Expr} {ta tb te : TE} {fa fb f : M D} {pos p2 p : Pos}
theorem k_add (hK : X.K = K := by rfl) : OpR X (binaryOp .Add) (rAddD K) := hK ▸ op_addD
theorem k_eq (hu : X.A.units + 64 < cLine) (hK : X.K = K := by rfl) : OpR X (compareOp .Eq) (rEqS K) := hK ▸ op_or op_eq (op_eqD hu)
theorem k_ne (hu : X.A.units + 64 < cLine) (hK : X.K = K := by rfl) : OpR X (compareOp .NotEq) (rNeS K) := hK ▸ op_or op_ne (op_neD hu)
theorem k_lt (hu : X.A.units + 64 < cLine) (hK : X.K = K := by rfl) : OpR X (compareOp .Lt) (rCmpS K (fun i j => decide (i < j)) fun x y => PySem.W.dataLt x y) := hK ▸ op_ltS hu
theorem k_le (hu : X.A.units + 64 < cLine) (hK : X.K = K := by rfl) : OpR X (compareOp .LtE) (rCmpS K (fun i j => decide (i ≤ j)) fun x y => !PySem.W.dataLt y x) := hK ▸ op_leS hu
theorem k_gt (hu : X.A.units + 64 < cLine) (hK : X.K = K := by rfl) : OpR X (compareOp .Gt) (rCmpS K (fun i j => decide (j < i)) fun x y => PySem.W.dataLt y x) := hK ▸ op_gtS hu
theorem k_in (hK : X.K = K := by rfl) : OpR X (compareOp .In) (rIn K false) := hK ▸ op_in_seq
theorem k_notIn (hK : X.K = K := by rfl) : OpR X (compareOp .NotIn) (rIn K true) := hK ▸ op_notIn_seq
theorem k_len (hK : X.K = K := by rfl) : CallR X (.builtin "len") (rOrC (rLenQ K) rLenZ) := hK ▸ DL.call_lenD
theorem k_tupleOf (hK : X.K = K := by rfl) : CallR X (.type "tuple") (rTupleOf K) := hK ▸ call_tuple_of
theorem k_repr (hz : NoDig K) (hg : X.A.guards = some []) (hu : X.A.units + 100 < cLine) (hK : X.K = K := by rfl) : CallR X (.builtin "repr") (rRepr K) := by subst hK; exact call_reprD hz hg hu
theorem k_ix (ha : DE X a ta fa) (hb : DE X b tb fb) (hK : X.K = K := by rfl) (hs : PlainIx b := by exact fun _ _ => rfl) : DE X (.Subscript a b pos) (tOp (rIx K) ta tb) (eOp2 dIx fa fb) := hK ▸ de_ix ha hb hs
variable {lo hi : Option Expr} {tl th : TO} {gl gh : M (Option Int)}
theorem k_sl (ha : DE X e te f) (hl : DO X lo tl gl) (hh : DO X hi th gh) (hK : X.K = K := by rfl) : DE X (.Subscript e (.Slice lo hi none p2) pos) (tSl (rSlD K) te tl th) (eSl f gl gh) := hK ▸ de_sl ha hl hh
theorem k_isi (T : String) {x y : Str} {p3 : Pos} (hT : T ∈ ["int", "bool", "str", "list", "tuple", "dict"]) (hg : Gl X x) (hm : X.mg x = none) (hv : bootBuiltins x = some (.builtin "isinstance")) (h : DE X e te f) (hg2 : Gl X y) (hm2 : X.mg y = none) (hv2 : bootBuiltins y = some (.type T)) (hK : X.K = K := by rfl)
    (hn : x ≠ "__name__" := by decide) (hdb : (x == ("__debug__" : Str)) = false := by decide) (hn2 : y ≠ "__name__" := by decide) (hdb2 : (y == ("__debug__" : Str)) = false := by decide)
    (hs : starEach [.Name y p3] X.env = [(false, eval (.Name y p3) X.env)] := by rfl)
    (he : starEach [e, .Name y p3] X.env = (false, eval e X.env) :: starEach [.Name y p3] X.env := by rfl) (hpl : (backTo pos (starEach [.Name y p3] X.env)).any (·.1) = false := by rfl) :
    DE X (.Call (.Name x p) [e, .Name y p3] [] pos) (tCB (rIsiY K) (tCons te (tCons (tC (.ty T)) tNil))) (eIsi T f) := hK ▸ de_isi T hT hg hm hv h hg2 hm2 hv2 hn hdb hn2 hdb2 hs he hpl
variable {x : Str} {es : List Expr} {B : List Nat} {tr : TA} {fr : M (List AV)} {k : Nat} {ps : List Str} {kws : List (List Str × List Nat)} {sem : FS}
theorem k_call (F : FnD X.prog X.w X.K X.mg X.base k x ps kws sem) (hr : Room k X.A) (hg : Gl X x) (ha : DV X (e :: es) B tr fr) (hK : X.K = K := by rfl) (hdb : (x == ("__debug__" : Str)) = false := by decide) (he : starEach (e :: es) X.env = (false, eval e X.env) :: starEach es X.env := by rfl)
    (hpl : (backTo pos (starEach es X.env)).any (·.1) = false := by rfl) : DE X (.Call (.Name x p) (e :: es) [] pos) (tCall (spD K sem) [] E0 tr) (eCallB B sem fr) := hK ▸ de_call F hr hg ha hdb he hpl
theorem k_gtup {js : List Nat} {t : TGs} {g : List D → M Unit} {n kk : Nat} (h : DGs X es js t g) (hK : X.K = K := by rfl) (hc : X.calm = true := by rfl)
    (hn : (assignEach es X.env).length = n := by rfl) (hst : (assignEach es X.env).findIdx? (·.1) = none := by rfl) : DG X (.Tuple es kk pos) js (gTup K n t) (gTp n g) := hK ▸ dg_tup hc h hn hst
theorem k_seq {tg : Expr} (h : DE X e te f) (hK : X.K = K := by rfl) : DI X tg e (iSeq K te) (asQ f) := hK ▸ di_seq h
end
end DL
namespace DL
open PySem PySem.Spec PyProof.Rows L2
/-! DL18: enumerate of a list or a tuple. -/
theorem meets_enum1 {v : Value} {o : Obj} {H : Heap → Prop} (B : Begins v o H) :
    Meets (Builtin.«enumerate.__new__» ⟨[.type "enumerate", v], []⟩) (fun _ R s => H s.heap ∧
      R (.ok (.ret (.ref (s.heap.push o).objs.size))) { s with heap := (s.heap.push o).push { cls := .type "enumerate", data := .fields #[.none, .bool false, .ref s.heap.objs.size, rawInt 0, .none, .none] } }) :=
  .of_wp fun prog w A R s h => by
    obtain ⟨hp, g, d, tk, os⟩ := s; obtain ⟨h1, h⟩ := h
    have hsub := sub_enumerate
    have q1 : ∀ {A' : Around} {E : Value → Shared → Prop} {Q : Value → Shared → Prop}, Q (.ref hp.objs.size) ⟨hp.push o, g, d, tk, os⟩ → wpAny (model prog w) A' (pyIter v) Q E ⟨hp, g, d, tk, os⟩ :=
      fun q => B.iter prog w _ _ ⟨hp, g, d, tk, os⟩ _ h1 q
    wp_walk using q1
    refine wpAny_stack_any fun st => wpAny_pure ?_
    split
    · rename_i c _ _ _ _ _
      cases (c == Value.type "enumerate")
      · wp_walk using q1
        exact ⟨_, rfl, h⟩
      · wp_walk using q1
        exact ⟨_, rfl, h⟩
    · wp_walk using q1
      exact ⟨_, rfl, h⟩
theorem enum1 {prog : Program} {w : World} {A : Around} {E : Value → Shared → Prop} {s : Shared} {v : Value} {o : Obj} {H : Heap → Prop} {Q : Value → Shared → Prop} (B : Begins v o H) (h1 : H s.heap)
    (h : ∀ h', IsEnum h' (s.heap.objs.size + 1) s.heap.objs.size 0 .none → h'.get? s.heap.objs.size = some o → h'.objs.size = s.heap.objs.size + 2 →
      (∀ b o, s.heap.get? b = some o → h'.get? b = some o) → Q (.ref (s.heap.objs.size + 1)) { s with heap := h' }) :
    wpAny (model prog w) A (call (.type "enumerate") [v]) Q E s := by
  refine callType_new F.called_enumerate (by decide) (F.typeCall_enumerate_1 _) (F.newCall_enumerate_1 _) (fun obj => F.args_object_init_2 obj _) F.entry_enumerate_new
    (meets_enum1 B) ⟨h1, ?_⟩
  have hz : (s.heap.push o).objs.size = s.heap.objs.size + 1 := Heap.size_push ..
  show _ ∧ _
  rw [hz]
  have he : IsEnum ((s.heap.push o).push { cls := .type "enumerate", data := .fields #[.none, .bool false, .ref s.heap.objs.size, rawInt 0, .none, .none] }) (s.heap.objs.size + 1) s.heap.objs.size 0 .none := by
    have := Heap.get?_push_size (s.heap.push o) (o := { cls := .type "enumerate", data := .fields #[.none, .bool false, .ref s.heap.objs.size, rawInt 0, .none, .none] }) rfl
    rw [hz] at this; exact this
  refine ⟨⟨_, he, rfl⟩, h _ he (Heap.get?_push_of_some _ (Heap.get?_push_size _ B.free)) (by rw [Heap.size_push, hz]) fun b o x => Heap.get?_push_of_some _ (Heap.get?_push_of_some _ x)⟩
/-- the tuple at a, each item in a new pair -/
def IteT (K : PySem.W.Frag) (a : Addr) : It :=
  ⟨fun i H => ∃ (xs : List V) (x : V), SqT K H a xs ∧ xs[i]? = some x, fun i H v H' => ∃ T x, v = .ref T ∧ H T = none ∧ H' = upd H T (.tup [.int (i : Nat), x]) ∧ ∀ xs, SqT K H a xs → xs[i]? = some x, fun i H => ∃ xs : List V, SqT K H a xs ∧ xs.length ≤ i⟩
theorem turn_enumT {P : Program} {w : World} {K : PySem.W.Frag} {elts : List Expr} {kk : Nat} {tpos : Pos} (a e it : Addr) :
    Turn P w K (.Tuple elts kk tpos) (IteT K a) [e, it] e (fun i h => (∃ old, IsEnum h e it ((i : Nat) : Int) old) ∧ h.IsTupleIter it a i ∧ e ≠ it ∧ a ≠ it ∧ e ≠ a) where
  mem := by simp
  obj := fun i h st b hb => by
    obtain ⟨⟨old, he⟩, ⟨o, ho, hc, hd⟩, _⟩ := st
    have e' : b = e ∨ b = it := by simpa using hb
    rcases e' with z | z
    · rw [z]; exact ⟨_, he, fun v q => nomatch q⟩
    · rw [z]; exact ⟨o, ho, fun v q => by rw [hd] at q; cases q⟩
  keep := fun i h h' st k => let ⟨⟨old, he⟩, hi, hne⟩ := st; ⟨⟨old, k e (by simp) _ he⟩, hi.at fun o q => k it (by simp) o q, hne⟩
  item := by
    intro X hP hw hK hc i pins s σ H E I hf st hg
    subst hP hw hK
    obtain ⟨⟨old, he⟩, hit, hne, hai, hea⟩ := st
    obtain ⟨xs, x, hq, hx⟩ := hg
    obtain ⟨its, rv, p, hz⟩ := I.tuple hq
    have p : s.heap.IsTuple a its.toArray := p
    obtain ⟨u, hu, ru⟩ := rv.get hx
    have hel : e < s.heap.objs.size := Heap.lt_size he
    have hil : it < s.heap.objs.size := by obtain ⟨_, q, _⟩ := hit; exact Heap.lt_size q
    have hlt : i < its.toArray.size := by
      have : i < its.length := by
        rcases Nat.lt_or_ge i its.length with h | h
        · exact h
        · rw [List.getElem?_eq_none h] at hu; cases hu
      simpa using this
    refine wpAny_pyNext_enum_itemD (Draws.tuple (A := X.A.in1) (I.ok.hd hc) it a hai its.toArray) he ⟨hit, p⟩ hlt hne (by simp; exact ⟨hne, hea⟩) fun x' h' tk hx' ho hit' hT hsz hk => ?_
    have ex' : x' = u := by
      have h2 : its[i]? = some x' := by simpa using hx'
      rw [hu] at h2; exact (Option.some.inj h2).symm
    subst ex'
    refine ⟨_, rfl, wpAny_letOwnedTupleGo_enum (s := { s with heap := h', toks := tk + 1 }) ho fun h'' he' sb => ?_⟩
    have hT2 : h''.get? s.heap.objs.size = some { cls := .type "tuple", data := .seq #[.int i tk, x'] } := (sb.2 _ (Nat.ne_of_gt hel)).trans hT
    have new : ObjOk X.prog X.w (upd H s.heap.objs.size (.tup [.int (i : Nat), x])) h'' s.heap.objs.size (.tup [.int (i : Nat), x]) :=
      ⟨by show 2 ≤ sizeLine; decide, [.int i tk, x'], .cons ⟨_, rfl⟩ (.cons ru .nil), ⟨_, hT2, rfl, _, rfl⟩⟩
    have I1 : Inv X pins σ (upd H s.heap.objs.size (.tup [.int (i : Nat), x])) { s with heap := h'', toks := tk + 1 } :=
      I.turnedNew (ch := [e, it]) (fun b ob hb q => (sb.2 b (fun z => hb (by simp [z]))).trans (hk b ob (fun z => hb (by simp [z])) (fun z => hb (by simp [z])) q)) hf (Nat.le_refl _) new
    refine ⟨.ref s.heap.objs.size, _, I1, rfl, ⟨_, x, rfl, I.hok.fresh (Nat.le_refl _), rfl, fun ys hy => by rw [I.tuple_inj hy hq]; exact hx⟩, ⟨⟨x', ?_⟩, hit'.1.at fun o q => (sb.2 it (Ne.symm hne)).trans q, hne, hai, hea⟩, fun b hb => ?_⟩
    · have e1 : ((i + 1 : Nat) : Int) = (i : Int) + 1 := by omega
      rw [e1]; exact he'
    · have hb' : b < s.heap.objs.size := by
        have e' : b = e ∨ b = it := by simpa using hb
        rcases e' with z | z
        · rw [z]; exact hel
        · rw [z]; exact hil
      rw [upd_ne (Nat.ne_of_lt hb')]
      exact (hf b hb).1
  done := by
    intro X hP hw hK hc i pins s σ H E I hf st hg
    subst hP hw hK
    obtain ⟨⟨old, he⟩, hit, hne, hai, hea⟩ := st
    obtain ⟨xs, hq, hx⟩ := hg
    obtain ⟨its, rv, p, hz⟩ := I.tuple hq
    have p : s.heap.IsTuple a its.toArray := p
    obtain ⟨f0, f1, f2, f3, f4, f5⟩ := hf it (by simp)
    have hl := rv.length
    have hT : s.TypeIs (.ref e) "enumerate" := ⟨_, he, rfl⟩
    unfold pyNext
    refine wpAny_bind (wpAny_attempt (wpAny_callSpecial?_slot (name := Str.ofString "__next__") hT F.slot_enumerate_next
      (wpAny_call_entry F.slot_enumerate_next hT F.entry_enumerate_next ?_ (F.args_enumerate_next_1 _))))
    show wpAny _ _ (field (.ref e) 2 >>= _) _ _ _
    refine wpAny_bind (wpAny_field he rfl (x := .ref it) rfl ?_)
    refine wpAny_bind (RZ.nextOf_tuple_end (A := X.A.in1) (I.ok.hd hc) hit p (by simp; omega) fun h' x he' hx' => ?_)
    obtain ⟨o, ho, hc'⟩ := hx'
    refine wpAny_bind (wpAny_isInstance (T := "StopIteration") (b := true) ⟨o, ho, hc'⟩ isSubtype_stop ?_)
    exact wpAny_pure ⟨rfl, I.turned (t' := s.toks) (fun b o hb q => he' b o hb q) f0 f1 f3 f4 f5⟩
  self := fun A i s Q E st h => let ⟨⟨_, he⟩, _⟩ := st; wpAny_pyIter_enum he h
def iEnumQ (K : PySem.W.Frag) (ta : TA) : TI := fun σ H R => ta σ H fun vs H1 => ∃ a, vs = [.ref a] ∧ (((∃ xs, SqL K H1 a xs) ∧ R (Ite K a) H1) ∨ ((∃ xs, SqT K H1 a xs) ∧ R (IteT K a) H1))
theorem pi_enumQ {X : Cx} {e : Expr} {ta : TA} {p pos tpos : Pos} {elts : List Expr} {kk : Nat} (hg : Gl X "enumerate") (hm : X.mg "enumerate" = none) (ha : PA X [e] ta) (hs : starEach [e] X.env = [(false, eval e X.env)] := by rfl) :
    PI X (.Tuple elts kk tpos) (.Call (.Name "enumerate" p) [e] [] pos) (iEnumQ X.K ta) := by
  refine ⟨fun pins s σ H R I h => ?_⟩
  refine Call_ (ld_blt I hg hm boot_enumerate (PyProof.Rows.callWith_type1 (thn (ha.run pos pins s σ H _ I h) fun us s1 ⟨vs, H1, I1, r1, q1⟩ => ?_) hs rfl))
  obtain ⟨a, ex, q⟩ := q1
  subst ex
  cases r1 with
  | cons r rr =>
    cases rr
    cases r
    have fp : ∀ b ∈ [s1.heap.objs.size + 1, s1.heap.objs.size], FpOk X pins H1 b := fun b hb => by
      have e' : b = s1.heap.objs.size + 1 ∨ b = s1.heap.objs.size := by simpa using hb
      have hle : s1.heap.objs.size ≤ b := by
        rcases e' with z | z
        · rw [z]; exact Nat.le_add_right _ _
        · rw [z]; exact Nat.le_refl _
      exact I1.fpOk hle (I1.hok.fresh hle)
    rcases q with ⟨⟨xs, hq⟩, q⟩ | ⟨⟨xs, hq⟩, q⟩
    · obtain ⟨its, rv, p', hz⟩ := I1.list hq
      refine call_enumerate_list p'.isList fun h' he hit hsz hk => wpAny_pyIter_enum he ?_
      have I2 : Inv X pins σ H1 { s1 with heap := h' } := I1.kept (t' := s1.toks) hk
      exact ⟨s1.heap.objs.size + 1, [s1.heap.objs.size + 1, s1.heap.objs.size], _, _, H1, rfl, I2, turn_enum a (s1.heap.objs.size + 1) s1.heap.objs.size, ⟨⟨.none, he⟩, hit, Nat.succ_ne_self _⟩, fp, q⟩
    · obtain ⟨its, rv, p', hz⟩ := I1.tuple hq
      have p' : s1.heap.IsTuple a its.toArray := p'
      have hal : a < s1.heap.objs.size := by obtain ⟨_, q, _⟩ := p'; exact Heap.lt_size q
      refine enum1 (begins_tuple a its.toArray) p' fun h' he hit hsz hk => wpAny_pyIter_enum he ?_
      have I2 : Inv X pins σ H1 { s1 with heap := h' } := I1.kept (t' := s1.toks) hk
      exact ⟨s1.heap.objs.size + 1, [s1.heap.objs.size + 1, s1.heap.objs.size], _, _, H1, rfl, I2, turn_enumT a (s1.heap.objs.size + 1) s1.heap.objs.size, ⟨⟨.none, he⟩, ⟨_, hit, rfl, rfl⟩, Nat.succ_ne_self _, Nat.ne_of_lt hal, Nat.ne_of_gt (Nat.lt_succ_of_lt hal)⟩, fp, q⟩
/-! what is walked -/
def enmD (ds : List D) : List D := (List.range ds.length).map fun i => .tuple [.int (i : Nat), ds.getD i .none]
theorem enmD_len (ds : List D) : (enmD ds).length = ds.length := by simp [enmD]
theorem enmD_get {ds : List D} {i : Nat} {d : D} (h : ds[i]? = some d) : (enmD ds)[i]? = some (.tuple [.int (i : Nat), d]) := by
  have hi : i < ds.length := by
    rcases Nat.lt_or_ge i ds.length with h' | h'
    · exact h'
    · rw [List.getElem?_eq_none h'] at h; cases h
  rw [List.getElem?_eq_getElem hi] at h
  simp [enmD, hi, Option.some.inj h]
theorem rp_pair {K : PySem.W.Frag} {P : Addr → Prop} {H : Hp} {T : Addr} {i : Nat} {x : V} {d : D} (t : Trk P H) (hT : H T = none) (r : Rp K (mask P H) x d) : Rp K (mask P (upd H T (.tup [.int (i : Nat), x]))) (.ref T) (.tuple [.int (i : Nat), d]) :=
  rp_newT t hT (.cons (.int _) (.cons r .nil))
theorem walkEL {K : PySem.W.Frag} {a : Addr} {vs : List V} {ds : List D} (n : vs.length = ds.length) : WalkD K (Ite K a) (fun P H => mask P H a = some (.lst vs) ∧ RpA K (mask P H) vs ds) (enmD ds) := by
  refine ⟨fun P i H hi g => ⟨vs, vs[i]'(by rw [enmD_len] at hi; omega), SqL.of (mask_le _ _ g.1), by simp⟩, fun P H g => ⟨vs, SqL.of (mask_le _ _ g.1), by rw [enmD_len]; omega⟩, fun P i H x H' hi t g y => ?_, fun P P' H H' q g => ⟨q _ _ g.1, g.2.mono q⟩⟩
  obtain ⟨T, x, rfl, hT, rfl, y⟩ := y
  have h := y vs (SqL.of (mask_le _ _ g.1))
  obtain ⟨d, h1, h2⟩ := g.2.getv h
  exact ⟨Grw.new hT, _, enmD_get h1, rp_pair t hT h2⟩
theorem walkET {K : PySem.W.Frag} {a : Addr} {vs : List V} {ds : List D} (n : vs.length = ds.length) : WalkD K (IteT K a) (fun P H => SqT K (mask P H) a vs ∧ RpA K (mask P H) vs ds) (enmD ds) := by
  refine ⟨fun P i H hi g => ⟨vs, vs[i]'(by rw [enmD_len] at hi; omega), sqT_le g.1, by simp⟩, fun P H g => ⟨vs, sqT_le g.1, by rw [enmD_len]; omega⟩, fun P i H x H' hi t g y => ?_, fun P P' H H' q g => ⟨SqT.grw q g.1, g.2.mono q⟩⟩
  obtain ⟨T, x, rfl, hT, rfl, y⟩ := y
  have h := y vs (sqT_le g.1)
  obtain ⟨d, h1, h2⟩ := g.2.getv h
  exact ⟨Grw.new hT, _, enmD_get h1, rp_pair t hT h2⟩
def asE (f : M (List D)) : M (List D) := bd f fun x => match x with
  | [.list ds] => rtn (enmD ds)
  | [.tuple ds] => rtn (enmD ds)
  | _ => fun _ => none
theorem ei_enum {K : PySem.W.Frag} {ta : TA} {f : M (List D)} (h : EvA K ta f) : EvI K (iEnumQ K ta) (asE f) := by
  intro A hid P s σ H ds s' ok e R q
  obtain ⟨x, s1, h1, e⟩ := bd_some e
  refine h A hid P s σ H x s1 ok h1 _ fun v P1 H1 ok1 st1 r => ?_
  split at e
  · obtain ⟨rfl, rfl⟩ := rtn_some e
    obtain ⟨v, rfl, r0⟩ := r.one
    obtain ⟨a, vs, rfl, hx, rr⟩ := r0.lst_inv
    exact ⟨a, rfl, .inl ⟨⟨vs, SqL.of (mask_le _ _ hx)⟩, q _ _ P1 H1 ok1 st1 (walkEL rr.length) ⟨hx, rr⟩⟩⟩
  · obtain ⟨rfl, rfl⟩ := rtn_some e
    obtain ⟨v, rfl, r0⟩ := r.one
    obtain ⟨a, vs, rfl, hx, rr⟩ := r0.tup_inv
    exact ⟨a, rfl, .inr ⟨⟨vs, sqT_le hx⟩, q _ _ P1 H1 ok1 st1 (walkET rr.length) ⟨hx, rr⟩⟩⟩
  · cases e
theorem k_enum {K : PySem.W.Frag} {X : Cx} {e : Expr} {ta : TA} {f : M (List D)} {p pos tpos : Pos} {elts : List Expr} {kk : Nat} (hg : Gl X "enumerate") (hm : X.mg "enumerate" = none) (ha : DAr X [e] ta f) (hs : starEach [e] X.env = [(false, eval e X.env)] := by rfl) (hK : X.K = K := by rfl) :
    DI X (.Tuple elts kk tpos) (.Call (.Name "enumerate" p) [e] [] pos) (iEnumQ K ta) (asE f) := hK ▸ ⟨pi_enumQ hg hm ha.p hs, ei_enum ha.v⟩
end DL
namespace DL
open PySem PySem.Spec PyProof.Rows L2
/-! DL19: dicts with keys ints and texts, as data: displays, [], in; all of a list of bools. -/
def kD : D → Option Key
  | .int i => some (.inl i)
  | .str x => some (.inr x)
  | _ => none
theorem kD_keyD (k : Key) : kD (keyD k) = some k := by cases k <;> rfl
theorem kD_some {d : D} {k : Key} (h : kD d = some k) : d = keyD k := by
  cases d <;> simp [kD] at h <;> subst h <;> rfl
theorem Rp.key {K : PySem.W.Frag} {H : Hp} {v : V} {k : Key} (h : Rp K H v (keyD k)) : v = kV k := by
  cases k <;> cases h <;> rfl
def sameK (a b : D) : Bool := (kD a).isSome && decide (kD a = kD b)
theorem sameK_key (a b : Key) : sameK (keyD a) (keyD b) = decide (a = b) := by
  unfold sameK
  rw [kD_keyD, kD_keyD]
  by_cases h : a = b <;> simp [h]
def lookD (ds : List (D × D)) (y : D) : Option D := (ds.find? fun p => sameK p.1 y).map (·.2)
theorem RpK.look {K : PySem.W.Frag} {H : Hp} {k : Key} : ∀ {kvs : List (Key × V)} {ds : List (D × D)}, RpK K H kvs ds → (∃ v d, valV kvs k = some v ∧ lookD ds (keyD k) = some d ∧ Rp K H v d) ∨ (valV kvs k = none ∧ lookD ds (keyD k) = none)
  | _, _, .nil => .inr ⟨rfl, rfl⟩
  | (k', v) :: r, (_, d) :: ds, .cons h t => by
    by_cases e : k' = k
    · subst e
      refine .inl ⟨v, d, by rw [valV_pos rfl], ?_, h⟩
      unfold lookD
      rw [List.find?_cons_of_pos (by show sameK (keyD k') (keyD k') = true; rw [sameK_key]; simp)]
      rfl
    · have e2 : lookD ((keyD k', d) :: ds) (keyD k) = lookD ds (keyD k) := by
        unfold lookD
        rw [List.find?_cons_of_neg (by show ¬ sameK (keyD k') (keyD k) = true; rw [sameK_key]; simp [e])]
      rw [valV_neg (show ¬ (k', v).1 = k from e), e2]
      exact RpK.look t
def putD (ds : List (D × D)) (k v : D) : List (D × D) := if (ds.any fun p => sameK p.1 k) = true then ds.map (fun p => if sameK p.1 k = true then (p.1, v) else p) else ds ++ [(k, v)]
theorem RpK.anyk {K : PySem.W.Frag} {H : Hp} {k : Key} : ∀ {kvs : List (Key × V)} {ds : List (D × D)}, RpK K H kvs ds → (kvs.any fun kv => decide (kv.1 = k)) = ds.any fun p => sameK p.1 (keyD k)
  | _, _, .nil => rfl
  | _, _, .cons h t => by rw [List.any_cons, List.any_cons, sameK_key, RpK.anyk t]
theorem RpK.app {K : PySem.W.Frag} {H : Hp} {k : Key} {v : V} {d : D} (hv : Rp K H v d) : ∀ {kvs : List (Key × V)} {ds : List (D × D)}, RpK K H kvs ds → RpK K H (kvs ++ [(k, v)]) (ds ++ [(keyD k, d)])
  | _, _, .nil => .cons hv .nil
  | _, _, .cons h t => .cons h (RpK.app hv t)
theorem RpK.upd {K : PySem.W.Frag} {H : Hp} {k : Key} {v : V} {d : D} (hv : Rp K H v d) : ∀ {kvs : List (Key × V)} {ds : List (D × D)}, RpK K H kvs ds →
    RpK K H (kvs.map fun kv => if kv.1 = k then (kv.1, v) else kv) (ds.map fun p => if sameK p.1 (keyD k) = true then (p.1, d) else p)
  | _, _, .nil => .nil
  | (k', u) :: r, (_, e) :: ds, .cons h t => by
    rw [List.map_cons, List.map_cons]
    have e1 : (if sameK (keyD k', e).1 (keyD k) = true then ((keyD k', e).1, d) else (keyD k', e)) = (keyD k', if k' = k then d else e) := by
      show (if sameK (keyD k') (keyD k) = true then _ else _) = _
      rw [sameK_key]
      by_cases q : k' = k <;> simp [q]
    have e2 : (if (k', u).1 = k then ((k', u).1, v) else (k', u)) = (k', if k' = k then v else u) := by
      by_cases q : k' = k <;> simp [q]
    rw [e1, e2]
    refine .cons ?_ (RpK.upd hv t)
    by_cases q : k' = k
    · rw [if_pos q, if_pos q]; exact hv
    · rw [if_neg q, if_neg q]; exact h
theorem RpK.put {K : PySem.W.Frag} {H : Hp} {k : Key} {v : V} {d : D} {kvs : List (Key × V)} {ds : List (D × D)} (r : RpK K H kvs ds) (hv : Rp K H v d) : RpK K H (putK kvs k v) (putD ds (keyD k) d) := by
  unfold putK putD
  rw [r.anyk (k := k)]
  split
  · exact r.upd hv
  · exact r.app hv
theorem RpK.length {K : PySem.W.Frag} {H : Hp} : ∀ {kvs : List (Key × V)} {ds : List (D × D)}, RpK K H kvs ds → kvs.length = ds.length
  | _, _, .nil => rfl
  | _, _, .cons _ t => by rw [List.length_cons, List.length_cons, RpK.length t]
def mergeD : List (D × D) → List (D × D) → List (D × D)
  | ds, [] => ds
  | ds, p :: r => mergeD (putD ds p.1 p.2) r
theorem RpK.merge {K : PySem.W.Frag} {H : Hp} : ∀ {more : List (Key × V)} {es : List (D × D)} {kvs : List (Key × V)} {ds : List (D × D)}, RpK K H more es → RpK K H kvs ds → RpK K H (mergeK kvs more) (mergeD ds es)
  | _, _, _, _, .nil, r => r
  | (k, v) :: more, (_, d) :: es, kvs, ds, .cons h t, r => by
    show RpK K H (mergeK (putK kvs k v) more) (mergeD (putD ds (keyD k) d) es)
    exact RpK.merge t (r.put h)
theorem Rp.dict_inv {K : PySem.W.Frag} {H : Hp} {v : V} {ds : List (D × D)} (h : Rp K H v (.dict ds)) (np : isP ds = false) : ∃ a, v = .ref a ∧ ((∃ kvs, Rd H a (.dK kvs) ∧ RpK K H kvs ds) ∨ ∃ kvs, Rd H a (.dT kvs) ∧ RpT K H kvs ds) := by
  cases h with
  | dK h r => exact ⟨_, rfl, .inl ⟨_, h, r⟩⟩
  | dT h r => exact ⟨_, rfl, .inr ⟨_, h, r⟩⟩
  | pl h n r => cases np
/-- flat keys, at least one -/
def flatKs : List (D × D) → Bool
  | [] => false
  | p :: _ => (kD p.1).isSome
theorem Rp.dictK {K : PySem.W.Frag} {H : Hp} {v : V} {ds : List (D × D)} (h : Rp K H v (.dict ds)) (f : flatKs ds = true) : ∃ a kvs, v = .ref a ∧ Rd H a (.dK kvs) ∧ RpK K H kvs ds := by
  obtain ⟨a, rfl, ⟨kvs, h1, r⟩ | ⟨kvs, h1, r⟩⟩ := h.dict_inv (by cases z : isP ds with | false => rfl | true => obtain ⟨es, rfl⟩ := isP_inv z; cases f)
  · exact ⟨a, kvs, rfl, h1, r⟩
  · cases r with
    | nil => cases f
    | cons h t => cases f
/-! ### d[k], k in d -/
def dDGet (x y : D) : Option D := match x with
  | .dict ds => if flatKs ds && (kD y).isSome then lookD ds y else none
  | _ => none
def dDIn (y x : D) : Option D := match x with
  | .dict ds => if flatKs ds && (kD y).isSome then some (.bool (lookD ds y).isSome) else none
  | _ => none
def dDNotIn (y x : D) : Option D := match x with
  | .dict ds => if flatKs ds && (kD y).isSome then some (.bool (!(lookD ds y).isSome)) else none
  | _ => none
section
variable {X : Cx} {K : PySem.W.Frag} {a b : Expr} {ta tb : TE} {fa fb : M D} {pos : Pos}
theorem ev_dget (h : EvE K ta fa) (h' : EvE K tb fb) : EvE K (tDGet ta tb) (eOp2 dDGet fa fb) := by
  intro A hid P s σ H d s' ok e Q q
  obtain ⟨x, s1, e1, e⟩ := bd_some e
  obtain ⟨y, s2, e2, e⟩ := bd_some e
  refine h A hid P s σ H x s1 ok e1 _ fun v P1 H1 ok1 st1 r1 => ?_
  refine h' A hid P1 s1 σ H1 y s2 ok1 e2 _ fun u P2 H2 ok2 st2 r2 => ?_
  obtain ⟨e, rfl⟩ := lf_some e
  unfold dDGet at e
  split at e
  · split at e
    · rename_i ds hh
      rw [Bool.and_eq_true] at hh
      obtain ⟨a, kvs, rfl, h1, r⟩ := (st2.rp r1).dictK hh.1
      obtain ⟨k, hk⟩ := Option.isSome_iff_exists.mp hh.2
      have ek := kD_some hk
      subst ek
      have := r2.key
      subst this
      rcases r.look (k := k) with ⟨v', d', q1, q2, q3⟩ | ⟨q1, q2⟩
      · rw [q2] at e
        cases e
        exact ⟨a, v', rfl, .inl ⟨kvs, k, rd_grw mask_le h1, rfl, q1.symm⟩, q _ _ _ ok2 (st1.trans st2) q3⟩
      · rw [q2] at e; cases e
    · cases e
  · cases e
theorem ev_din (h : EvE K tb fb) (h' : EvE K ta fa) : EvE K (tDIn tb ta) (eOp2 dDIn fb fa) := by
  intro A hid P s σ H d s' ok e Q q
  obtain ⟨y, s1, e1, e⟩ := bd_some e
  obtain ⟨x, s2, e2, e⟩ := bd_some e
  refine h A hid P s σ H y s1 ok e1 _ fun u P1 H1 ok1 st1 r1 => ?_
  refine h' A hid P1 s1 σ H1 x s2 ok1 e2 _ fun v P2 H2 ok2 st2 r2 => ?_
  obtain ⟨e, rfl⟩ := lf_some e
  unfold dDIn at e
  split at e
  · split at e
    · rename_i ds hh
      rw [Bool.and_eq_true] at hh
      cases e
      obtain ⟨a, kvs, rfl, h1, r⟩ := r2.dictK hh.1
      obtain ⟨k, hk⟩ := Option.isSome_iff_exists.mp hh.2
      have ek := kD_some hk
      subst ek
      have := (st2.rp r1).key
      subst this
      refine ⟨a, valV kvs k, rfl, .inl ⟨kvs, k, rd_grw mask_le h1, rfl, rfl⟩, ?_⟩
      rcases r.look (k := k) with ⟨v', d', q1, q2, q3⟩ | ⟨q1, q2⟩
      · rw [q2] at q; rw [q1]; exact q _ _ _ ok2 (st1.trans st2) (.bl _)
      · rw [q2] at q; rw [q1]; exact q _ _ _ ok2 (st1.trans st2) (.bl _)
    · cases e
  · cases e
theorem ev_dnotIn (h : EvE K tb fb) (h' : EvE K ta fa) : EvE K (tDNotIn tb ta) (eOp2 dDNotIn fb fa) := by
  intro A hid P s σ H d s' ok e Q q
  obtain ⟨y, s1, e1, e⟩ := bd_some e
  obtain ⟨x, s2, e2, e⟩ := bd_some e
  refine h A hid P s σ H y s1 ok e1 _ fun u P1 H1 ok1 st1 r1 => ?_
  refine h' A hid P1 s1 σ H1 x s2 ok1 e2 _ fun v P2 H2 ok2 st2 r2 => ?_
  obtain ⟨e, rfl⟩ := lf_some e
  unfold dDNotIn at e
  split at e
  · split at e
    · rename_i ds hh
      rw [Bool.and_eq_true] at hh
      cases e
      obtain ⟨a, kvs, rfl, h1, r⟩ := r2.dictK hh.1
      obtain ⟨k, hk⟩ := Option.isSome_iff_exists.mp hh.2
      have ek := kD_some hk
      subst ek
      have := (st2.rp r1).key
      subst this
      refine ⟨a, valV kvs k, rfl, .inl ⟨kvs, k, rd_grw mask_le h1, rfl, rfl⟩, ?_⟩
      rcases r.look (k := k) with ⟨v', d', q1, q2, q3⟩ | ⟨q1, q2⟩
      · rw [q2] at q; rw [q1]; exact q _ _ _ ok2 (st1.trans st2) (.bl _)
      · rw [q2] at q; rw [q1]; exact q _ _ _ ok2 (st1.trans st2) (.bl _)
    · cases e
  · cases e
theorem de_dget (hu : X.A.units + 1 < cLine) (ha : DE X a ta fa) (hb : DE X b tb fb) (hs : NoSl b := by exact fun _ _ => rfl) : DE X (.Subscript a b pos) (tDGet ta tb) (eOp2 dDGet fa fb) := ⟨pe_dget hu ha.p hb.p hs, ev_dget ha.v hb.v⟩
end
end DL
namespace DL
open PySem PySem.Spec PyProof.Rows L2
/-! DL20: k in d; displays; all. -/
section
variable {X : Cx} {K : PySem.W.Frag} {a b : Expr} {ta tb : TE} {fa fb : M D} {pos : Pos}
theorem de_din (hu : X.A.units + 1 < cLine) (ha : DE X a ta fa) (hb : DE X b tb fb) (hm : behindInMarks .In b = false) : DE X (.Compare a [.In] [b] pos) (tDIn ta tb) (eOp2 dDIn fa fb) := ⟨pe_cmp (pc_din hu ha.p hb.p) hm, ev_din ha.v hb.v⟩
theorem dt_dnotIn (hu : X.A.units + 1 < cLine) (ha : DE X a ta fa) (hb : DE X b tb fb) (hm : behindInMarks .NotIn b = false) : DT X (.Compare a [.NotIn] [b] pos) (tB (tDNotIn ta tb)) (tV (eOp2 dDNotIn fa fb)) := ⟨pt_cmp (pc_dnotin hu ha.p hb.p) hm, ev_tV (ev_dnotIn ha.v hb.v)⟩
/-! ### all([..]) -/
def bsD : List D → Option (List Bool)
  | [] => some []
  | .bool b :: r => (bsD r).map (b :: ·)
  | _ :: _ => none
def dAll : List D → Option D
  | [.list ds] => (bsD ds).map fun bs => .bool (bs.all id)
  | _ => none
theorem RpA.bools {K : PySem.W.Frag} {H : Hp} : ∀ {vs : List V} {ds : List D} {bs : List Bool}, RpA K H vs ds → bsD ds = some bs → vs = bs.map V.bl
  | _, _, bs, .nil, e => by cases e; rfl
  | _, _, bs, .cons (d := d) h t, e => by
    cases d <;> simp [bsD] at e
    obtain ⟨bs', e1, rfl⟩ := e
    cases h
    rw [List.map_cons, RpA.bools t e1]
theorem do_all : DOC K (rAll K) dAll := by
  intro P H xs ds d t r e Q q
  unfold dAll at e
  split at e
  · rename_i ds
    cases hb : bsD ds with
    | none => rw [hb] at e; cases e
    | some bs =>
      rw [hb] at e; cases e
      obtain ⟨v, rfl, h⟩ := r.one
      obtain ⟨a, vs, rfl, h1, r1⟩ := h.lst_inv
      have := r1.bools hb
      subst this
      exact ⟨a, bs, rfl, SqL.of (mask_le _ _ h1), q _ H (Grw.refl H) (.bl _)⟩
  · cases e
theorem k_all (hc : X.calm = true := by rfl) (hK : X.K = K := by rfl) : CallR X (.builtin "all") (rAll K) := hK ▸ cr_all hc
end
/-! ### {k: v, ..} -/
abbrev RpP (K : PySem.W.Frag) (H : Hp) (vs : List (V × V)) (ds : List (D × D)) : Prop := Paired (fun v d => Rp K H v.1 d.1 ∧ Rp K H v.2 d.2) vs ds
theorem RpP.mono {K : PySem.W.Frag} {H H' : Hp} (g : Grw H H') {vs : List (V × V)} {ds : List (D × D)} (h : RpP K H vs ds) : RpP K H' vs ds := by
  induction h with
  | nil => exact .nil
  | cons h _ ih => exact .cons ⟨h.1.mono g, h.2.mono g⟩ ih
def EvPr (K : PySem.W.Frag) (trs : List (TE × TE)) (f : M (List (D × D))) : Prop := ∀ (A : DA) (hid P : Addr → Prop) (s : S) (σ : St) (H : Hp) (ds : List (D × D)) (s' : S), SOk K A hid P s σ H → f s = some (ds, s') →
  ∀ Q : List (V × V) → Hp → Prop, (∀ vs P' H', SOk K A hid P' s' σ H' → Stp hid P P' H H' → RpP K (mask P' H') vs ds → Q vs H') → tPairs trs σ H Q
structure DPr (X : Cx) (pos : Pos) (keys : List (Option Expr)) (values : List Expr) (trs : List (TE × TE)) (f : M (List (D × D))) : Prop where
  p : PPs X pos keys values trs
  v : EvPr X.K trs f
def prNil : M (List (D × D)) := rtn []
def prCons (fk fv : M D) (fr : M (List (D × D))) : M (List (D × D)) := bd fk fun k => bd fv fun v => bd fr fun r => rtn ((k, v) :: r)
section
variable {X : Cx} {K : PySem.W.Frag} {pos : Pos}
theorem dpr_nil : DPr X pos [] [] [] prNil := ⟨pps_nil, by
  intro A hid P s σ H ds s' ok e Q q
  obtain ⟨rfl, rfl⟩ := rtn_some e
  exact q [] P H ok Stp.refl .nil⟩
theorem dpr_cons {k v : Expr} {ks : List (Option Expr)} {vs : List Expr} {tk tv : TE} {trs : List (TE × TE)} {fk fv : M D} {fr : M (List (D × D))} (hk : DE X k tk fk) (hv : DE X v tv fv) (hr : DPr X pos ks vs trs fr) :
    DPr X pos (some k :: ks) (v :: vs) ((tk, tv) :: trs) (prCons fk fv fr) := ⟨pps_cons hk.p hv.p hr.p, by
  intro A hid P s σ H ds s' ok e Q q
  obtain ⟨x, s1, e1, e⟩ := bd_some e
  obtain ⟨y, s2, e2, e⟩ := bd_some e
  obtain ⟨r, s3, e3, e⟩ := bd_some e
  obtain ⟨rfl, rfl⟩ := rtn_some e
  refine hk.v A hid P s σ H x s1 ok e1 _ fun u P1 H1 ok1 st1 r1 => ?_
  refine hv.v A hid P1 s1 σ H1 y s2 ok1 e2 _ fun w P2 H2 ok2 st2 r2 => ?_
  refine hr.v A hid P2 s2 σ H2 r _ ok2 e3 _ fun ps P3 H3 ok3 st3 r3 => ?_
  exact q _ P3 H3 ok3 ((st1.trans st2).trans st3) (.cons ⟨(st2.trans st3).rp r1, st3.rp r2⟩ r3)⟩
theorem RpP.keys {H : Hp} : ∀ {vs : List (V × V)} {ds : List (D × D)}, RpP K H vs ds → (ds.all fun p => (kD p.1).isSome) = true → ∃ kvs : List (Key × V), vs = kvs.map (fun kv => (kV kv.1, kv.2)) ∧ RpK K H kvs ds
  | _, _, .nil, _ => ⟨[], rfl, .nil⟩
  | _ :: _, (dk, dv) :: _, .cons h t, f => by
    rw [List.all_cons, Bool.and_eq_true] at f
    obtain ⟨kvs, e, r⟩ := RpP.keys t f.2
    obtain ⟨k, hk⟩ := Option.isSome_iff_exists.mp f.1
    have ek : dk = keyD k := kD_some hk
    subst ek
    refine ⟨(k, _) :: kvs, ?_, .cons h.2 r⟩
    rw [List.map_cons, e]
    have : _ = kV k := h.1.key
    rw [← this]
theorem RpP.len {H : Hp} : ∀ {vs : List (V × V)} {ds : List (D × D)}, RpP K H vs ds → vs.length = ds.length
  | _, _, .nil => rfl
  | _, _, .cons _ t => by rw [List.length_cons, List.length_cons, RpP.len t]
def dDisp (ds : List (D × D)) : Option D := if ds.length ≤ 15 ∧ (ds.all fun p => (kD p.1).isSome) = true then some (.dict (mergeD [] ds)) else none
def eDisp (f : M (List (D × D))) : M D := bd f fun ds => lf (dDisp ds)
theorem de_disp {keys : List (Option Expr)} {values : List Expr} {trs : List (TE × TE)} {f : M (List (D × D))} (h : DPr X pos keys values trs f) (hall : keys.all (·.isSome) = true := by rfl) (hl : keys.length = values.length := by rfl) (h0 : keys ≠ [] := by simp) (h15 : keys.length ≤ 15 := by decide) :
    DE X (.Dict keys values pos) (tDisp trs) (eDisp f) := ⟨pe_disp h.p hall hl h0 h15, by
  intro A hid P s σ H d s' ok e Q q p hp
  obtain ⟨ds, s1, e1, e⟩ := bd_some e
  obtain ⟨e, rfl⟩ := lf_some e
  unfold dDisp at e
  split at e
  · rename_i hh
    cases e
    have nP : ¬ P p := ok.free hp
    have nh : ¬ hid p := fun z => nP (ok.hp _ z)
    refine h.v A _ _ s σ (upd H p (.dK [])) ds _ (ok.hide hp) e1 _ fun vs P1 H1 ok1 st1 r1 => ?_
    obtain ⟨st2, hp1⟩ := Stp.unhide hp st1
    obtain ⟨kvs, rfl, rk⟩ := r1.keys hh.2
    have hPp : P1 p := ok1.hp p (.inr rfl)
    have ok2 := ok1.unhide nh
    have gu := unhide_grw (H := H1) hPp
    refine ⟨hp1, kvs, rfl, by rw [rk.length]; exact hh.1, ?_⟩
    rw [← upd_rmv]
    have hn : rmv p H1 p = none := rmv_same
    refine q _ _ _ (ok2.grw (Grw.new hn)) (st2.trans (Stp.grw (Grw.new hn))) ?_
    exact .dK (.inl (mask_new (fun z => z.2 rfl))) (((RpK.merge (rk.mono gu) .nil)).mono (grw_mask (Grw.new hn)))
  · cases e⟩
end
end DL
namespace DL
open PySem PySem.Spec PyProof.Rows L2
/-! DL21: a cell looked at while it stays a cell: x[i], len(x), y in x, x == y. -/
/-- what stands in a slot, cell or data -/
def peek (i : Nat) (s : S) : Option D := match s.g[i]? with
  | some (some (.lst ds)) => some (.list ds)
  | some (some (.dat d)) => some d
  | _ => none
section
variable {X : Cx} {K : PySem.W.Frag} {A : DA} {hid P : Addr → Prop} {s : S} {σ : St} {H : Hp} {pos : Pos}
/-- the value in the slot stands for its data once its own address is shown -/
theorem SOk.peek {i : Nat} {d : D} (ok : SOk K A hid P s σ H) (e : peek i s = some d) : ∃ (v : V) (P1 : Addr → Prop), σ[i]? = some (some v) ∧ Rp K (mask P1 H) v d ∧ (∀ a, P1 a → P a) ∧ (∀ a, P a → ¬ P1 a → ∃ vs, H a = some (.lst vs)) := by
  unfold DL.peek at e
  split at e
  · rename_i ds hi
    cases e
    obtain ⟨a, vs, ea, h1, h2, h3, h4, rr⟩ := ok.slot i _ hi
    have g : Grw (mask P H) (mask (fun b => P b ∧ b ≠ a) H) := mask_grw fun b o e c => ⟨fun z => c z.1, e⟩
    refine ⟨.ref a, fun b => P b ∧ b ≠ a, ea, .lst (mask_some.mpr ⟨fun z => z.2 rfl, h1⟩) (rr.mono g), fun b z => z.1, fun b z1 z2 => ?_⟩
    have : b = a := Classical.byContradiction fun z => z2 ⟨z1, z⟩
    exact ⟨vs, this ▸ h1⟩
  · rename_i d' hi
    cases e
    obtain ⟨v, e, r⟩ := ok.slot i _ hi
    exact ⟨v, P, e, r, fun _ z => z, fun _ z1 z2 => absurd z1 z2⟩
  · cases e
theorem unpeek {P1 : Addr → Prop} {H1 : Hp} {z : V} {d : D} (h : ∀ a, P a → ¬ P1 a → ∃ vs, H1 a = some (.lst vs)) (r : Rp K (mask P1 H1) z d) (n : noMut d = true) : Rp K (mask P H1) z d := by
  refine r.tupsOnly (fun a o to q => ?_) n
  obtain ⟨q1, q2⟩ := mask_some.mp q
  refine mask_some.mpr ⟨fun z => ?_, q2⟩
  obtain ⟨vs, q3⟩ := h a z q1
  rw [q2] at q3; cases q3; exact to
variable {a b : Expr} {ta tb : TE} {fa fb : M D}
/-- an operator, its first side a cell -/
def eB1 (op : D → D → Option D) (i : Nat) (fb : M D) : M D := fun s => if (peek i s).isSome = true then bd fb (fun y s1 => match peek i s1 with
  | some x => match op x y with
    | some d => if noMut d = true then some (d, s1) else none
    | none => none
  | none => none) s else none
def eB2 (op : D → D → Option D) (fb : M D) (i : Nat) : M D := bd fb (fun y s1 => match peek i s1 with
  | some x => match op y x with
    | some d => if noMut d = true then some (d, s1) else none
    | none => none
  | none => none)
/-- a built-in of one argument, a cell -/
def eBC (op : List D → Option D) (i : Nat) : M D := fun s => match peek i s with
  | some x => match op [x] with
    | some d => if noMut d = true then some (d, s) else none
    | none => none
  | none => none
theorem ev_bc {r : List V → Hp → VK → Prop} {op : List D → Option D} {i : Nat} (hr : DOC K r op) : EvE K (tCB r (tCons (tVar i) tNil)) (eBC op i) := by
  intro A hid P s σ H d s' ok e Q q
  unfold eBC at e
  split at e
  · rename_i x hx
    obtain ⟨v, P2, ev, rv, hs, hl⟩ := ok.peek hx
    split at e
    · rename_i d' ho
      split at e
      · rename_i hn
        cases e
        refine ⟨v, ev, ?_⟩
        refine hr P2 H [v] [x] _ (fun a z => ok.trk a (hs a z)) (.cons rv .nil) ho _ fun z H3 g r3 => ?_
        refine q z P H3 (ok.grw g) (Stp.grw g) (unpeek (fun a z1 z2 => ?_) r3 hn)
        obtain ⟨vs, q3⟩ := hl a z1 z2
        exact ⟨vs, g _ _ q3⟩
      · cases e
    · cases e
  · cases e
/-- x[e], x a cell: the item may be anything -/
def eIxC (i : Nat) (fb : M D) : M D := fun s => if (peek i s).isSome = true then bd fb (fun y s1 => match s1.g[i]? with
  | some (some (.lst ds)) => (match y with
    | .int j => (match atI ds j with
      | some d => some (d, s1)
      | none => none)
    | _ => none)
  | some (some (.dat x)) => (match dIx x y with
    | some d => some (d, s1)
    | none => none)
  | _ => none) s else none
theorem ev_ixC {i : Nat} (hb : EvE K tb fb) : EvE K (tOp (rIx K) (tVar i) tb) (eIxC i fb) := by
  intro A hid P s σ H d s' ok e Q q
  unfold eIxC at e
  split at e
  · rename_i hp
    obtain ⟨x0, hx0⟩ := Option.isSome_iff_exists.mp hp
    obtain ⟨v, _, ev, _⟩ := ok.peek hx0
    obtain ⟨y, s1, e1, e⟩ := bd_some e
    refine ⟨v, ev, hb A hid P s σ H y s1 ok e1 _ fun u P1 H1 ok1 st1 r1 => ?_⟩
    split at e
    · rename_i ds hi
      split at e
      · rename_i j
        split at e
        · rename_i d' hd
          cases e
          obtain ⟨a, vs, ea, h1, h2, h3, h4, rr⟩ := ok1.slot i _ hi
          rw [ev] at ea; cases ea
          cases r1
          obtain ⟨v', q1, q2⟩ := rr.atI hd
          exact .inl ⟨a, vs, j, v', rfl, rfl, SqL.of h1, q1, q v' P1 H1 ok1 st1 q2⟩
        · cases e
      · cases e
    · rename_i x hi
      split at e
      · rename_i d' hd
        cases e
        obtain ⟨v', ev', rv⟩ := ok1.slot i _ hi
        rw [ev] at ev'; cases ev'
        exact do_ix P1 H1 v u x y _ ok1.trk rv r1 hd _ fun z H3 g r3 => q z P1 H3 (ok1.grw g) (st1.trans (Stp.grw g)) r3
      · cases e
    · cases e
  · cases e
variable (i : Nat) {x : Str} {px : Pos}
theorem k_ixC (hb : DE X b tb fb) (hK : X.K = K := by rfl) (hs : PlainIx b := by exact fun _ _ => rfl) (hN : X.N[i]? = some x := by rfl) (hv : Vis X.env.scope x := by first | exact Or.inl rfl | exact Or.inr (Or.inl rfl) | exact Or.inr (Or.inr rfl)) (hd : (x == ("__debug__" : Str)) = false := by decide) (hcd : (x == ("__classdict__" : Str)) = false := by decide) :
    DE X (.Subscript (.Name x px) b pos) (tOp (rIx K) (tVar i) tb) (eIxC i fb) := hK ▸ ⟨pe_ix ix_seq (pe_var hN hv hd hcd) hb.p hs, ev_ixC hb.v⟩
theorem de_bc {f : Str} {p : Pos} {id : String} {r : List V → Hp → VK → Prop} {op : List D → Option D} (hc : CallR X (.builtin id) r) (hr : DOC X.K r op) (hg : Gl X f) (hm : X.mg f = none) (hbb : bootBuiltins f = some (.builtin id)) (hN : X.N[i]? = some x := by rfl) (hv : Vis X.env.scope x := by first | exact Or.inl rfl | exact Or.inr (Or.inl rfl) | exact Or.inr (Or.inr rfl)) (hd : (x == ("__debug__" : Str)) = false := by decide) (hcd : (x == ("__classdict__" : Str)) = false := by decide)
    (hn : f ≠ "__name__" := by decide) (hdb : (f == ("__debug__" : Str)) = false := by decide)
    (he : starEach [.Name x px] X.env = (false, eval (.Name x px) X.env) :: starEach [] X.env := by rfl) (hpl : (backTo pos (starEach [] X.env)).any (·.1) = false := by rfl) : DE X (.Call (.Name f p) [.Name x px] [] pos) (tCB r (tCons (tVar i) tNil)) (eBC op i) :=
  ⟨pe_callB hc hg hm hbb (pa_cons (pe_var hN hv hd hcd) pa_nil he) hn hdb he hpl, ev_bc hr⟩
end
end DL
namespace DL
open PySem PySem.Spec PyProof.Rows L2
/-! DL22: a, b = x, y where a name is read in a comprehension (a tuple is made and taken apart). -/
section
variable {X : Cx} {K : PySem.W.Frag} {tr : TA} {fr : M (List PV)} {pos : Pos}
theorem PVs.len {P : Addr → Prop} {H : Hp} {L : List Addr} {vs : List V} {xs : List PV} (h : PVs K P H L vs xs) : vs.length = xs.length := by
  induction h with
  | nil => rfl
  | dat _ _ ih => simp [ih]
  | new _ _ _ ih => simp [ih]
  | dct _ _ ih => simp [ih]
theorem es_parT {i j : Nat} (h : EvP K tr fr) : EvS K (tAsg (tTup tr) (gTup K 2 (gCons (gName i) (gCons (gName j) gNil)))) (sPar i j fr) := by
  intro A hid P s σ H fl s' ok e D q
  obtain ⟨xs, s1, h1, e⟩ := bd_some e
  refine h A hid P s σ H xs s1 ok h1 _ fun vs L P1 H1 ok1 st1 nd nh r => ?_
  split at e
  · cases e
    match vs, r with
    | [v, w], r =>
      refine ⟨by show 2 ≤ sizeLine; decide, fun p hp => ?_⟩
      have g := Grw.new (o := HO.tup [v, w]) hp
      refine ⟨p, [v, w], rfl, .inl (.inl upd_same), rfl, v, [w], rfl, w, [], rfl, rfl, ?_⟩
      have ok1' := ok1.grw g
      have r' := r.mono (grw_mask g) (fun a _ o e => g a o e)
      obtain ⟨L1, ok2, nd2, nh2, r2⟩ := ok1'.putP (i := i) nd nh r'
      obtain ⟨L2, ok3, nd3, nh3, r3⟩ := ok2.putP (i := j) nd2 nh2 r2
      cases r3
      exact q _ P1 _ (ok3.hidEq fun a => by simp) (st1.trans (Stp.grw g))
    | [], r => cases r
    | [_], r => exact absurd r.len (by simp)
    | _ :: _ :: _ :: _, r => exact absurd r.len (by simp)
  · cases e
theorem k_parT (i j : Nat) {x y : Str} {a b : Expr} {px py pt : Pos} {kt k2 pt2} (hN : X.N.Nodup) (ha : DP X [a, b] tr fr) (hK : X.K = K := by rfl) (hc : X.calm = true := by rfl) (hi : X.N[i]? = some x := by rfl) (hj : X.N[j]? = some y := by rfl)
    (hx : Loc X.env.scope x := by first | exact Or.inl rfl | exact Or.inr rfl) (hy : Loc X.env.scope y := by first | exact Or.inl rfl | exact Or.inr rfl)
    (hf : X.fn x = true ∨ X.env.scope.names.lookup x = some .local := by first | exact .inl rfl | exact .inr rfl | assumption) (hf2 : X.fn y = true ∨ X.env.scope.names.lookup y = some .local := by first | exact .inl rfl | exact .inr rfl | assumption)
    (hs : swapsWithSole [.Tuple [.Name x px, .Name y py] kt pt] (.Tuple [a, b] k2 pt2) pos.line X.env = pure false := by rfl) (hw : swappedStores [.Tuple [.Name x px, .Name y py] kt pt] (.Tuple [a, b] k2 pt2) X.env = pure none := by rfl)
    (h1 : (assignEach [.Tuple [.Name x px, .Name y py] kt pt] X.env).map (·.2) = [assign (.Tuple [.Name x px, .Name y py] kt pt) X.env] := by rfl)
    (q1 : (assignEach [.Name x px, .Name y py] X.env).map (·.2) = assign (.Name x px) X.env :: (assignEach [.Name y py] X.env).map (·.2) := by rfl) (q2 : (assignEach [.Name y py] X.env).map (·.2) = assign (.Name y py) X.env :: (assignEach [] X.env).map (·.2) := by rfl)
    (hn : (assignEach [.Name x px, .Name y py] X.env).length = 2 := by rfl) (hst : (assignEach [.Name x px, .Name y py] X.env).findIdx? (·.1) = none := by rfl) :
    DS X (.Assign [.Tuple [.Name x px, .Name y py] kt pt] (.Tuple [a, b] k2 pt2) pos) (tAsg (tTup tr) (gTup K 2 (gCons (gName i) (gCons (gName j) gNil)))) (sPar i j fr) :=
  hK ▸ ⟨ps_asg (pe_tup ha.p) (pg_tup hc (pgs_cons (pg_name hN hi hx hf) (pgs_cons (pg_name hN hj hy hf2) pgs_nil q2) q1) hn hst) hs hw h1, es_parT ha.v⟩
end
end DL
namespace DL
open PySem PySem.Spec PyProof.Rows L2
/-! DL23: new lists by x + y, list(x). -/
theorem un1 {n c : Nat} (h : n + 64 < c) : n + 1 < c := by omega
section
variable {X : Cx} {K : PySem.W.Frag} {ta tb : TE} {fa fb : M D} {a b : Expr} {pos : Pos} {tr : TA} {fr : M (List D)}
def nAdd (fa fb : M D) : M (List D) := bd fa fun x => bd fb fun y => match x, y with
  | .list xs, .list ys => if xs.length + ys.length ≤ lim then rtn (xs ++ ys) else fun _ => none
  | _, _ => fun _ => none
/-- x + e, x a cell that stays one -/
def nAddC (i : Nat) (fb : M D) : M (List D) := fun s => if (peek i s).isSome = true then bd fb (fun y s1 => match peek i s1, y with
  | some (.list xs), .list ys => if xs.length + ys.length ≤ lim then some (xs ++ ys, s1) else none
  | _, _ => none) s else none
def nListOf (fr : M (List D)) : M (List D) := bd fr fun ds => match ds with
  | [.list a] => rtn a
  | [.tuple a] => rtn a
  | _ => fun _ => none
end
end DL
namespace DL
open PySem PySem.Spec PyProof.Rows L2
/-! DL25: sum, max, min, sorted of a list of ints; zip; range of three. -/
section
variable {X : Cx} {K : PySem.W.Frag}
/-! ### zip -/
def zipD (xs ys : List D) : List D := (xs.zip ys).map fun p => .tuple [p.1, p.2]
def asZ (f : M (List D)) : M (List D) := bd f fun x => match x with
  | [.list ds, .list es] => rtn (zipD ds es)
  | [.tuple ds, .tuple es] => rtn (zipD ds es)
  | _ => fun _ => none
/-! ### range(a, b, -1) -/
def rg3 (fr : M (List D)) : M (List D) := bd fr fun ds => match ds with
  | [.int i, .int j, .int c] => if c = -1 ∧ (-(2 ^ 62) ≤ i ∧ i < 2 ^ 62) ∧ -(2 ^ 62) ≤ j ∧ j < 2 ^ 62 then rtn ((List.range (i - j).toNat).map fun n => .int (i - (n : Nat))) else fun _ => none
  | _ => fun _ => none
variable {e e2 a b c : Expr} {ta : TA} {f : M (List D)} {p pos tpos : Pos} {elts : List Expr} {kk : Nat} {tg : Expr}
end
end DL
namespace DL
open PySem PySem.Spec PyProof.Rows L2
/-! DL26: x.extend(e); while. -/
section
variable {X : Cx} {K : PySem.W.Frag} {e : Expr} {te : TE} {f : M D} {pos : Pos}
def sExt (i : Nat) (f : M D) : M Fl := fun s => match s.g[i]? with
  | some (some (.lst _)) => (bd f fun d => fun s1 => match s1.g[i]?, d with
    | some (some (.lst ds)), .list es => if ds.length + es.length ≤ lim then some (.nx, { s1 with g := s1.g.set i (some (.lst (ds ++ es))) }) else none
    | _, _ => none) s
  | _ => none
/-! ### while -/
end
end DL
namespace DL
open PySem PySem.Spec PyProof.Rows L2
/-! DL28: range(a, b) of any ints. -/
theorem turn_long {P : Program} {w : World} {K : PySem.W.Frag} {tg : Expr} (it : Addr) (lo : Int) (n : Nat) : Turn P w K tg (Itr lo n) [it] it (fun i h => IsLongIter h it (lo + (i : Nat) * 1) ((n : Int) - (i : Nat)) 1) where
  mem := by simp
  obj := fun i h st b hb => by
    have e : b = it := by simpa using hb
    subst e
    exact ⟨_, st, fun v z => by
      have z' : Data.fields _ = Data.cell v := z
      cases z'⟩
  keep := fun i h h' st k => k it (by simp) _ st
  item := by
    intro X hP hw hK hc i pins s σ H E I hf st hg
    subst hP hw hK
    obtain ⟨f0, f1, f2, f3, f4, f5⟩ := hf it (by simp)
    have W := Walks.longrange (prog := X.prog) (w := X.w) (I.ok.hd hc) it lo 1 n
    refine W.item i s _ _ hg st fun v h' tk hv st' kk => ?_
    obtain ⟨t, rfl⟩ := hv
    have I1 : Inv X pins σ H { s with heap := h', toks := tk } := I.turned (fun b o hb e => kk b o (by simpa using hb) e) f0 f1 f3 f4 f5
    refine ⟨_, rfl, go_of (s := { s with heap := h', toks := tk }) (n := "longrange_iterator") st' rfl rfl (by decide) ⟨.int (lo + i), H, I1, ⟨t, ?_⟩, ⟨rfl, rfl⟩, st', fun b hb => (hf b hb).1⟩⟩
    rw [Int.mul_one]
  done := by
    intro X hP hw hK hc i pins s σ H E I hf st hg
    subst hP hw hK
    obtain ⟨f0, f1, f2, f3, f4, f5⟩ := hf it (by simp)
    exact wpAny_pyNext_long_end (I.ok.hd hc) st (by have : n ≤ i := hg; omega) fun h' eb => ⟨rfl, I.turned (t' := s.toks) (fun b o hb e => eb b o hb e) f0 f1 f3 f4 f5⟩
  self := fun _ _ _ _ _ st h => wpAny_pyIter_longiter st h
section
variable {X : Cx} {tg : Expr} {K : PySem.W.Frag}
theorem range_any {pins : List (Addr × Obj)} {σ : St} {H : Hp} {s : Shared} {R : It → Hp → Prop} {E : Value → Shared → Prop} {lo hi : Int} {t u v : Tok} {tk : Nat} (I : Inv X pins σ H s)
    (q : R (Itr lo (hi - lo).toNat) H) : wpAny (model X.prog X.w) X.A (pyIter (.ref s.heap.objs.size)) (PIE X pins σ tg R) E { s with heap := s.heap.push { cls := .type "range", data := .fields #[.int lo t, .int hi u, .int 1 v] }, toks := tk } := by
  have I1 : Inv X pins σ H { s with heap := s.heap.push { cls := .type "range", data := .fields #[.int lo t, .int hi u, .int 1 v] }, toks := tk } := I.kept fun b o e => Heap.get?_push_of_some _ e
  have e1 : lo + ((0 : Nat) : Int) * 1 = lo := by simp
  have e2 : (((hi - lo).toNat : Nat) : Int) - ((0 : Nat) : Int) = Builtin.Range.rangeSize lo hi 1 := by rw [rangeSize_one]; split <;> omega
  have hf : ∀ b ∈ [(s.heap.push { cls := .type "range", data := .fields #[.int lo t, .int hi u, .int 1 v] }).objs.size], FpOk X pins H b := fun b hb => by
    have e : b = (s.heap.push { cls := .type "range", data := .fields #[.int lo t, .int hi u, .int 1 v] }).objs.size := by simpa using hb
    subst e
    exact I1.fpOk (Nat.le_refl _) (I1.hok.fresh (Nat.le_refl _))
  cases hs : Builtin.Range.small lo hi 1 with
  | true =>
    refine wpAny_pyIter_range (IsRange.new ..) hs ?_
    refine ⟨(s.heap.push { cls := .type "range", data := .fields #[.int lo t, .int hi u, .int 1 v] }).objs.size, [(s.heap.push { cls := .type "range", data := .fields #[.int lo t, .int hi u, .int 1 v] }).objs.size], _, _, H, rfl,
      I1.kept (t' := tk) fun b o e => Heap.get?_push_of_some _ e, turn_range _ lo (hi - lo).toNat, ?_, hf, q⟩
    show IsRangeIter _ _ (lo + ((0 : Nat) : Int) * 1) ((((hi - lo).toNat : Nat) : Int) - ((0 : Nat) : Int)) 1
    rw [e1, e2]
    exact Heap.get?_push_size _ rfl
  | false =>
    refine wpAny_pyIter_longrange (IsRange.new ..) hs ?_
    refine ⟨(s.heap.push { cls := .type "range", data := .fields #[.int lo t, .int hi u, .int 1 v] }).objs.size, [(s.heap.push { cls := .type "range", data := .fields #[.int lo t, .int hi u, .int 1 v] }).objs.size], _, _, H, rfl,
      I1.kept (t' := tk) fun b o e => Heap.get?_push_of_some _ e, turn_long _ lo (hi - lo).toNat, ?_, hf, q⟩
    show IsLongIter _ _ (lo + ((0 : Nat) : Int) * 1) ((((hi - lo).toNat : Nat) : Int) - ((0 : Nat) : Int)) 1
    rw [e1, e2]
    exact Heap.get?_push_size _ rfl
def iRngW (ta : TA) : TI := fun σ H R => ta σ H fun vs H1 => ∃ i j : Int, vs = [.int i, .int j] ∧ R (Itr i (j - i).toNat) H1
theorem pi_rangeW {a b : Expr} {ta : TA} {p pos : Pos} (hg : Gl X "range") (hm : X.mg "range" = none) (ha : PA X [a, b] ta) (hs : starEach [a, b] X.env = [(false, eval a X.env), (false, eval b X.env)] := by rfl) (hs2 : starEach [b] X.env = [(false, eval b X.env)] := by rfl) :
    PI X tg (.Call (.Name "range" p) [a, b] [] pos) (iRngW ta) := by
  refine ⟨fun pins s σ H R I h => ?_⟩
  refine Call_ (ld_blt I hg hm boot_range (PyProof.Rows.callWith_type1 (thn (ha.run pos pins s σ H _ I h) fun us s1 ⟨vs, H1, I1, r1, q1⟩ => ?_) (by rw [hs, hs2]) (by rw [hs2]; rfl)))
  obtain ⟨i, j, e, q⟩ := q1
  subst e
  cases r1 with
  | cons r rr =>
    cases rr with
    | cons r' rr =>
      cases rr
      obtain ⟨t, rfl⟩ := r
      obtain ⟨t', rfl⟩ := r'
      exact call_range_2 (range_any I1 q)
def rgW (fr : M (List D)) : M (List D) := bd fr fun ds => match ds with
  | [.int i, .int j] => rtn (rngD i (j - i).toNat)
  | _ => fun _ => none
theorem ei_rgW {tr : TA} {fr : M (List D)} (h : EvA K tr fr) : EvI K (iRngW tr) (rgW fr) := by
  intro A hid P s σ H ds s' ok e R q
  obtain ⟨x, s1, h1, e⟩ := bd_some e
  refine h A hid P s σ H x s1 ok h1 _ fun v P1 H1 ok1 st1 r => ?_
  split at e
  · rename_i i j
    obtain ⟨rfl, rfl⟩ := rtn_some e
    obtain ⟨v, u, rfl, r0, r1⟩ := r.two
    cases r0; cases r1
    exact ⟨i, j, rfl, q _ _ P1 H1 ok1 st1 walkR trivial⟩
  · cases e
theorem k_rgW {a b : Expr} {ta : TA} {f : M (List D)} {p pos : Pos} (hg : Gl X "range") (hm : X.mg "range" = none) (ha : DAr X [a, b] ta f) (hs : starEach [a, b] X.env = [(false, eval a X.env), (false, eval b X.env)] := by rfl) (hs2 : starEach [b] X.env = [(false, eval b X.env)] := by rfl) :
    DI X tg (.Call (.Name "range" p) [a, b] [] pos) (iRngW ta) (rgW f) := ⟨pi_rangeW hg hm ha.p hs hs2, ei_rgW ha.v⟩
end
end DL
namespace DL
open PySem PySem.Spec PyProof.Rows L2
/-! DL15: the pure side: what a pure body comes to. -/
def wp {α : Type} (m : M α) (s : S) (Q : α → S → Prop) : Prop := ∃ a s', m s = some (a, s') ∧ Q a s'
section
variable {α β : Type} {m : M α} {s : S} {Q Q' : α → S → Prop}
theorem wp_mono (h : wp m s Q) (hq : ∀ a s', Q a s' → Q' a s') : wp m s Q' := let ⟨a, s', e, q⟩ := h; ⟨a, s', e, hq _ _ q⟩
@[simp ↓] theorem wp_bd {f : α → M β} {Q : β → S → Prop} : wp (bd m f) s Q ↔ wp m s fun a s1 => wp (f a) s1 Q := by
  constructor
  · rintro ⟨b, s', e, q⟩
    obtain ⟨a, s1, e1, e2⟩ := bd_some e
    exact ⟨a, s1, e1, b, s', e2, q⟩
  · rintro ⟨a, s1, e1, b, s', e2, q⟩
    exact ⟨b, s', by unfold bd; rw [e1]; exact e2, q⟩
@[simp ↓] theorem wp_rtn {a : α} : wp (rtn a) s Q ↔ Q a s := ⟨fun ⟨_, _, e, q⟩ => by obtain ⟨rfl, rfl⟩ := rtn_some e; exact q, fun q => ⟨_, _, rfl, q⟩⟩
@[simp ↓] theorem wp_lf {o : Option α} : wp (lf o) s Q ↔ ∃ a, o = some a ∧ Q a s := ⟨fun ⟨_, _, e, q⟩ => by obtain ⟨h, rfl⟩ := lf_some e; exact ⟨_, h, q⟩, fun ⟨a, h, q⟩ => ⟨a, s, by rw [h]; rfl, q⟩⟩
@[simp ↓] theorem wp_no : wp (fun _ => none : M α) s Q ↔ False := ⟨fun ⟨_, _, e, _⟩ => (by cases e), False.elim⟩
theorem wp_ite {c : Prop} [Decidable c] {n : M α} : wp (if c then m else n) s Q ↔ if c then wp m s Q else wp n s Q := by split <;> rfl
end
section
variable {s : S} {Q : D → S → Prop}
@[simp ↓] theorem wp_eVar {i : Nat} : wp (eVar i) s Q ↔ ∃ d, s.g[i]? = some (some (.dat d)) ∧ Q d s := ⟨fun ⟨_, _, e, q⟩ => by obtain ⟨h, rfl⟩ := eVar_some e; exact ⟨_, h, q⟩, fun ⟨d, h, q⟩ => ⟨d, s, by unfold eVar; rw [h], q⟩⟩
@[simp ↓] theorem wp_eC {d : D} : wp (eC d) s Q ↔ Q d s := wp_rtn
@[simp ↓] theorem wp_gN {i : Nat} {d : D} {Q : Unit → S → Prop} : wp (gN i d) s Q ↔ Q () ⟨s.g.set i (some (.dat d)), s.k⟩ := ⟨fun ⟨_, _, e, q⟩ => by cases e; exact q, fun q => ⟨_, _, rfl, q⟩⟩
@[simp ↓] theorem wp_gNl {Q : Unit → S → Prop} : wp (gNl []) s Q ↔ Q () s := ⟨fun ⟨_, _, e, q⟩ => by cases e; exact q, fun q => ⟨_, _, rfl, q⟩⟩
@[simp ↓] theorem wp_gCn {f : D → M Unit} {g : List D → M Unit} {d : D} {r : List D} {Q : Unit → S → Prop} : wp (gCn f g (d :: r)) s Q ↔ wp (f d) s fun _ s1 => wp (g r) s1 Q := wp_bd
theorem wp_gTp {n : Nat} {g : List D → M Unit} {ds : List D} {Q : Unit → S → Prop} (h : ds.length = n) : wp (gTp n g (.tuple ds)) s Q ↔ wp (g ds) s Q := by
  show wp (if ds.length = n then g ds else fun _ => none) s Q ↔ _
  rw [if_pos h]
@[simp ↓] theorem wp_eOp2 {op : D → D → Option D} {fa fb : M D} : wp (eOp2 op fa fb) s Q ↔ wp fa s fun x s1 => wp fb s1 fun y s2 => ∃ d, op x y = some d ∧ Q d s2 := by
  unfold eOp2; simp only [wp_bd, wp_lf]
@[simp ↓] theorem wp_eOp1 {op : D → Option D} {fa : M D} : wp (eOp1 op fa) s Q ↔ wp fa s fun x s1 => ∃ d, op x = some d ∧ Q d s1 := by
  unfold eOp1; simp only [wp_bd, wp_lf]
@[simp ↓] theorem wp_eCB {op : List D → Option D} {fr : M (List D)} : wp (eCB op fr) s Q ↔ wp fr s fun x s1 => ∃ d, op x = some d ∧ Q d s1 := by
  unfold eCB; simp only [wp_bd, wp_lf]
@[simp ↓] theorem wp_aNil {Q : List D → S → Prop} : wp aNil s Q ↔ Q [] s := wp_rtn
@[simp ↓] theorem wp_aCons {f : M D} {fr : M (List D)} {Q : List D → S → Prop} : wp (aCons f fr) s Q ↔ wp f s fun x s1 => wp fr s1 fun xs s2 => Q (x :: xs) s2 := by
  unfold aCons; simp only [wp_bd, wp_rtn]
@[simp ↓] theorem wp_eTup {fr : M (List D)} : wp (eTup fr) s Q ↔ wp fr s fun ds s1 => ds.length ≤ lim ∧ Q (.tuple ds) s1 := by
  unfold eTup; simp only [wp_bd]
  constructor <;> intro h <;> refine wp_mono h fun a s' q => ?_
  · by_cases hl : a.length ≤ lim
    · rw [if_pos hl, wp_rtn] at q; exact ⟨hl, q⟩
    · rw [if_neg hl, wp_no] at q; exact q.elim
  · rw [if_pos q.1, wp_rtn]; exact q.2
@[simp ↓] theorem wp_nLst {fr : M (List D)} {Q : List D → S → Prop} : wp (nLst fr) s Q ↔ wp fr s fun ds s1 => ds.length ≤ lim ∧ Q ds s1 := by
  unfold nLst; simp only [wp_bd]
  constructor <;> intro h <;> refine wp_mono h fun a s' q => ?_
  · by_cases hl : a.length ≤ lim
    · rw [if_pos hl, wp_rtn] at q; exact ⟨hl, q⟩
    · rw [if_neg hl, wp_no] at q; exact q.elim
  · rw [if_pos q.1, wp_rtn]; exact q.2
@[simp ↓] theorem wp_eL {f : M (List D)} : wp (eL f) s Q ↔ wp f s fun ds s1 => Q (.list ds) s1 := by unfold eL; simp only [wp_bd, wp_rtn]
@[simp ↓] theorem wp_eIsi {T : String} {f : M D} : wp (eIsi T f) s Q ↔ wp f s fun d s1 => Q (.bool (isiD T d)) s1 := by unfold eIsi; simp only [wp_bd, wp_rtn]
@[simp ↓] theorem wp_eIf {g : M Bool} {fa fb : M D} : wp (eIf g fa fb) s Q ↔ wp g s fun b s1 => if b = true then wp fa s1 Q else wp fb s1 Q := by
  unfold eIf; simp only [wp_bd, wp_ite]
theorem wp_tV {f : M D} {Q : Bool → S → Prop} (h : wp f s fun d s1 => ∃ b, d = .bool b ∧ Q b s1) : wp (tV f) s Q := by
  unfold tV; rw [wp_bd]; refine wp_mono h fun d s1 ⟨b, e, q⟩ => ?_
  subst e; exact wp_rtn.mpr q
@[simp ↓] theorem wp_tV' {f : M D} {Q : Bool → S → Prop} : wp (tV f) s Q ↔ wp f s fun d s1 => ∃ b, d = .bool b ∧ Q b s1 := by
  refine ⟨fun h => ?_, wp_tV⟩
  unfold tV at h; rw [wp_bd] at h; refine wp_mono h fun d s1 q => ?_
  cases d with
  | bool b => exact ⟨b, rfl, wp_rtn.mp q⟩
  | _ => exact (wp_no.mp q).elim
@[simp ↓] theorem wp_tNot {g : M Bool} {Q : Bool → S → Prop} : wp (tNotM g) s Q ↔ wp g s fun b s1 => Q (!b) s1 := by unfold tNotM; simp only [wp_bd, wp_rtn]
@[simp ↓] theorem wp_tAnd {g h : M Bool} {Q : Bool → S → Prop} : wp (tAndM g h) s Q ↔ wp g s fun b s1 => if b = true then wp h s1 Q else Q false s1 := by unfold tAndM; simp only [wp_bd, wp_ite, wp_rtn]
@[simp ↓] theorem wp_tOr {g h : M Bool} {Q : Bool → S → Prop} : wp (tOrM g h) s Q ↔ wp g s fun b s1 => if b = true then Q true s1 else wp h s1 Q := by unfold tOrM; simp only [wp_bd, wp_ite, wp_rtn]
@[simp ↓] theorem wp_eAnd {fa fb : M D} : wp (eAnd fa fb) s Q ↔ wp fa s fun d s1 => ∃ b, d = .bool b ∧ if b = true then wp fb s1 Q else Q (.bool false) s1 := by
  unfold eAnd; rw [wp_bd]
  constructor <;> intro h <;> refine wp_mono h fun d s1 q => ?_
  · match d, q with
    | .bool true, q => exact ⟨true, rfl, by simpa using q⟩
    | .bool false, q => exact ⟨false, rfl, by simpa using wp_rtn.mp q⟩
    | .none, q => exact (wp_no.mp q).elim
    | .int _, q => exact (wp_no.mp q).elim
    | .str _, q => exact (wp_no.mp q).elim
    | .list _, q => exact (wp_no.mp q).elim
    | .tuple _, q => exact (wp_no.mp q).elim
    | .dict _, q => exact (wp_no.mp q).elim
  · obtain ⟨b, rfl, q⟩ := q
    cases b
    · exact wp_rtn.mpr (by simpa using q)
    · simpa using q
@[simp ↓] theorem wp_eOr {fa fb : M D} : wp (eOr fa fb) s Q ↔ wp fa s fun d s1 => ∃ b, d = .bool b ∧ if b = true then Q (.bool true) s1 else wp fb s1 Q := by
  unfold eOr; rw [wp_bd]
  constructor <;> intro h <;> refine wp_mono h fun d s1 q => ?_
  · match d, q with
    | .bool true, q => exact ⟨true, rfl, by simpa using wp_rtn.mp q⟩
    | .bool false, q => exact ⟨false, rfl, by simpa using q⟩
    | .none, q => exact (wp_no.mp q).elim
    | .int _, q => exact (wp_no.mp q).elim
    | .str _, q => exact (wp_no.mp q).elim
    | .list _, q => exact (wp_no.mp q).elim
    | .tuple _, q => exact (wp_no.mp q).elim
    | .dict _, q => exact (wp_no.mp q).elim
  · obtain ⟨b, rfl, q⟩ := q
    cases b
    · simpa using q
    · exact wp_rtn.mpr (by simpa using q)
@[simp ↓] theorem wp_eNot {f : M D} : wp (eNot f) s Q ↔ wp f s fun d s1 => ∃ b, d = .bool b ∧ Q (.bool (!b)) s1 := by
  unfold eNot; rw [wp_bd]
  constructor <;> intro h <;> refine wp_mono h fun d s1 q => ?_
  · cases d with
    | bool b => exact ⟨b, rfl, wp_rtn.mp q⟩
    | _ => exact (wp_no.mp q).elim
  · obtain ⟨b, rfl, q⟩ := q
    exact wp_rtn.mpr q
@[simp ↓] theorem wp_eChain {op op' : D → D → Option D} {fa fb fc : M D} : wp (eChain op op' fa fb fc) s Q ↔ wp fa s fun x s1 => wp fb s1 fun y s2 => ∃ b, op x y = some (.bool b) ∧ if b = true then wp fc s2 fun w s3 => ∃ d, op' y w = some d ∧ Q d s3 else Q (.bool false) s2 := by
  unfold eChain; simp only [wp_bd, wp_lf]
  constructor <;> intro h <;> refine wp_mono h fun x s1 h => ?_ <;> refine wp_mono h fun y s2 h => ?_
  · obtain ⟨d, e, q⟩ := h
    match d, e, q with
    | .bool true, e, q => exact ⟨true, e, by simpa [wp_bd, wp_lf] using q⟩
    | .bool false, e, q => exact ⟨false, e, by simpa using wp_rtn.mp q⟩
    | .none, _, q => exact (wp_no.mp q).elim
    | .int _, _, q => exact (wp_no.mp q).elim
    | .str _, _, q => exact (wp_no.mp q).elim
    | .list _, _, q => exact (wp_no.mp q).elim
    | .tuple _, _, q => exact (wp_no.mp q).elim
    | .dict _, _, q => exact (wp_no.mp q).elim
  · obtain ⟨b, e, q⟩ := h
    refine ⟨_, e, ?_⟩
    cases b
    · exact wp_rtn.mpr (by simpa using q)
    · simpa [wp_bd, wp_lf] using q
@[simp ↓] theorem wp_oN {Q : Option Int → S → Prop} : wp oN s Q ↔ Q none s := wp_rtn
@[simp ↓] theorem wp_oS {f : M D} {Q : Option Int → S → Prop} : wp (oS f) s Q ↔ wp f s fun d s1 => ∃ i, d = .int i ∧ Q (some i) s1 := by
  unfold oS; rw [wp_bd]
  constructor <;> intro h <;> refine wp_mono h fun d s1 q => ?_
  · cases d with
    | int i => exact ⟨i, rfl, wp_rtn.mp q⟩
    | _ => exact (wp_no.mp q).elim
  · obtain ⟨i, rfl, q⟩ := q
    exact wp_rtn.mpr q
@[simp ↓] theorem wp_eSl {f : M D} {l h : M (Option Int)} : wp (eSl f l h) s Q ↔ wp f s fun x s1 => wp l s1 fun lo s2 => wp h s2 fun hi s3 => ∃ d, dSl x lo hi = some d ∧ Q d s3 := by
  unfold eSl; simp only [wp_bd, wp_lf]
@[simp ↓] theorem wp_asQ {f : M D} {Q : List D → S → Prop} : wp (asQ f) s Q ↔ wp f s fun d s1 => ∃ ds, (d = .list ds ∨ d = .tuple ds ∨ d = .dict [(.none, .tuple ds)]) ∧ Q ds s1 := by
  unfold asQ; rw [wp_bd]
  constructor <;> intro h <;> refine wp_mono h fun d s1 q => ?_
  · split at q
    · exact ⟨_, .inl rfl, wp_rtn.mp q⟩
    · exact ⟨_, .inr (.inl rfl), wp_rtn.mp q⟩
    · exact ⟨_, .inr (.inr rfl), wp_rtn.mp q⟩
    · exact (wp_no.mp q).elim
  · obtain ⟨ds, rfl | rfl | rfl, q⟩ := q <;> exact wp_rtn.mpr q
@[simp ↓] theorem wp_rg1 {f : M D} {Q : List D → S → Prop} : wp (rg1 (aCons f aNil)) s Q ↔ wp f s fun d s1 => ∃ j : Int, d = .int j ∧ (-(2 ^ 62) ≤ j ∧ j < 2 ^ 62) ∧ Q (rngD 0 j.toNat) s1 := by
  unfold rg1; simp only [wp_bd, wp_aCons, wp_aNil]
  constructor <;> intro h <;> refine wp_mono h fun d s1 q => ?_
  · cases d with
    | int j =>
      refine ⟨j, rfl, ?_⟩
      by_cases hj : -(2 ^ 62) ≤ j ∧ j < 2 ^ 62
      · simp only [if_pos hj, wp_rtn] at q; exact ⟨hj, q⟩
      · simp only [if_neg hj, wp_no] at q
    | _ => exact (wp_no.mp q).elim
  · obtain ⟨j, rfl, hj, q⟩ := q
    simp only [if_pos hj, wp_rtn]; exact q
/-! statements -/
variable {Z : Fl → S → Prop}
@[simp ↓] theorem wp_sNx : wp sNx s Z ↔ Z .nx s := wp_rtn
@[simp ↓] theorem wp_sSeq {m n : M Fl} : wp (sSeq m n) s Z ↔ wp m s fun fl s1 => match fl with
    | .nx => wp n s1 Z
    | fl => Z fl s1 := by
  unfold sSeq; rw [wp_bd]
  constructor <;> intro h <;> refine wp_mono h fun fl s1 q => ?_ <;> cases fl <;> first | exact q | exact wp_rtn.mp q | exact wp_rtn.mpr q
@[simp ↓] theorem wp_sRet {f : M D} : wp (sRet f) s Z ↔ wp f s fun d s1 => Z (.rt d) s1 := by unfold sRet; simp only [wp_bd, wp_rtn]
@[simp ↓] theorem wp_sIf {c : M Bool} {m n : M Fl} : wp (sIf c m n) s Z ↔ wp c s fun b s1 => if b = true then wp m s1 Z else wp n s1 Z := by unfold sIf; simp only [wp_bd, wp_ite]
@[simp ↓] theorem wp_sDrop {f : M D} : wp (sDrop f) s Z ↔ wp f s fun _ s1 => Z .nx s1 := by unfold sDrop; simp only [wp_bd, wp_rtn]
@[simp ↓] theorem wp_sAsg {f : M D} {g : D → M Unit} : wp (sAsg f g) s Z ↔ wp f s fun d s1 => wp (g d) s1 fun _ s2 => Z .nx s2 := by unfold sAsg; simp only [wp_bd, wp_rtn]
@[simp ↓] theorem wp_sNew {i : Nat} {f : M (List D)} : wp (sNew i f) s Z ↔ wp f s fun ds s1 => Z .nx ⟨s1.g.set i (some (.lst ds)), s1.k⟩ := by
  unfold sNew; rw [wp_bd]
  constructor <;> intro h <;> refine wp_mono h fun ds s1 q => ?_
  · obtain ⟨_, _, e, q⟩ := q; cases e; exact q
  · exact ⟨_, _, rfl, q⟩
@[simp ↓] theorem wp_sFor {it : M (List D)} {asg : D → M Unit} {b : M Fl} : wp (sFor it asg b) s Z ↔ wp it s fun ds s1 => wp (loop asg b ds) s1 Z := wp_bd
/-- a loop by what stands ahead of the rest -/
theorem wp_loop {asg : D → M Unit} {b : M Fl} (I : List D → S → Prop) (step : ∀ x r s, I (x :: r) s → wp (asg x) s fun _ s1 => wp b s1 fun fl s2 => match fl with
    | .nx => I r s2
    | .ct => I r s2
    | .bk => Z .nx s2
    | .rt d => Z (.rt d) s2) (fin : ∀ s, I [] s → Z .nx s) : ∀ (ds : List D) (s : S), I ds s → wp (loop asg b ds) s Z
  | [], s, h => wp_rtn.mpr (fin s h)
  | x :: r, s, h => by
    unfold loop
    rw [wp_bd]
    refine wp_mono (step x r s h) fun _ s1 q => ?_
    rw [wp_bd]
    refine wp_mono q fun fl s2 q => ?_
    cases fl with
    | nx => exact wp_loop I step fin r s2 q
    | ct => exact wp_loop I step fin r s2 q
    | bk => exact wp_rtn.mpr q
    | rt d => exact wp_rtn.mpr q
@[simp ↓] theorem wp_nLc {own : List Nat} {it : M (List D)} {asg : D → M Unit} {t : M Bool} {e : M D} {Q : List D → S → Prop} : wp (nLc own it asg t e) s Q ↔ wp it s fun ds s1 => wp (lcLoop own asg t e ds []) (wipeS s1 own) Q := by
  unfold nLc; rw [wp_bd]; rfl
theorem wp_lc {own : List Nat} {asg : D → M Unit} {t : M Bool} {e : M D} {Q : List D → S → Prop} (I : List D → List D → S → Prop)
    (step : ∀ x r acc s, I (x :: r) acc s → wp (asg x) s fun _ s1 => wp t s1 fun b s2 => if b = true then wp e s2 fun d s3 => acc.length ≤ lim ∧ I r (acc ++ [d]) (wipeS s3 own) else I r acc (wipeS s2 own)) (fin : ∀ acc s, I [] acc s → Q acc s) :
    ∀ (ds acc : List D) (s : S), I ds acc s → wp (lcLoop own asg t e ds acc) s Q
  | [], acc, s, h => wp_rtn.mpr (fin acc s h)
  | x :: r, acc, s, h => by
    show wp (bd (asg x) fun _ => bd t fun b => if b = true then bd e fun d => if acc.length ≤ lim then fun s1 => lcLoop own asg t e r (acc ++ [d]) (wipeS s1 own) else fun _ => none else fun s1 => lcLoop own asg t e r acc (wipeS s1 own)) s Q
    rw [wp_bd]
    refine wp_mono (step x r acc s h) fun _ s1 q => ?_
    rw [wp_bd]
    refine wp_mono q fun b s2 q => ?_
    cases b with
    | true =>
      rw [if_pos rfl] at q ⊢
      rw [wp_bd]
      refine wp_mono q fun d s3 ⟨hl, q⟩ => ?_
      rw [if_pos hl]
      exact wp_lc I step fin r (acc ++ [d]) (wipeS s3 own) q
    | false =>
      rw [if_neg Bool.false_ne_true] at q ⊢
      exact wp_lc I step fin r acc (wipeS s2 own) q
/-! calls -/
def fp (sem : FS) (xs : List Val) (k : Dk) (Q : D → Dk → Prop) : Prop := ∃ d k', sem xs k = some (d, k') ∧ Q d k'
@[simp ↓] theorem wp_vNil {Q : List AV → S → Prop} : wp vNil s Q ↔ Q [] s := wp_rtn
@[simp ↓] theorem wp_vDat {f : M D} {fr : M (List AV)} {Q : List AV → S → Prop} : wp (vDat f fr) s Q ↔ wp f s fun x s1 => wp fr s1 fun xs s2 => Q (.dat x :: xs) s2 := by unfold vDat; simp only [wp_bd, wp_rtn]
@[simp ↓] theorem wp_vDeck {i : Nat} {fr : M (List AV)} {Q : List AV → S → Prop} : wp (vDeck i fr) s Q ↔ s.g[i]? = some (some .deck) ∧ wp fr s fun xs s2 => Q (.deck :: xs) s2 := by
  constructor
  · rintro ⟨a, s', e, q⟩
    unfold vDeck at e
    split at e
    · rename_i h
      obtain ⟨xs, s2, e1, e2⟩ := bd_some e
      obtain ⟨rfl, rfl⟩ := rtn_some e2
      exact ⟨h, xs, _, e1, q⟩
    · cases e
  · rintro ⟨h, xs, s2, e, q⟩
    refine ⟨_, s2, ?_, q⟩
    unfold vDeck
    rw [h]
    show bd fr _ s = _
    unfold bd
    rw [e]; rfl
theorem wp_vPerm {pm : List Nat} {fr : M (List AV)} {Q : List AV → S → Prop} (h : wp fr s fun xs s1 => (xs.length = pm.length ∧ (pm.all fun i => decide (i < xs.length)) = true) ∧ Q (permL pm xs) s1) : wp (vPerm pm fr) s Q := by
  unfold vPerm
  rw [wp_bd]
  refine wp_mono h fun xs s1 ⟨hc, q⟩ => ?_
  rw [if_pos hc]; exact wp_rtn.mpr q
/-- a def by its body -/
theorem fp_of {np n : Nat} {m : M Fl} {xs : List Val} {k : Dk} {Q : D → Dk → Prop} (hl : xs.length = np) (h : wp m ⟨xs.map some ++ List.replicate (n - xs.length) none, k⟩ fun fl s' => ∃ d, fl = .rt d ∧ Q d s'.k) : fp (semOf np n m) xs k Q := by
  obtain ⟨fl, s', e, d, rfl, q⟩ := h
  refine ⟨d, s'.k, ?_, q⟩
  unfold semOf
  rw [if_pos hl, e]
theorem fp_draw {k : Dk} {m : Int} {Q : D → Dk → Prop} (hk : DkV k) (h0 : 0 < m) (h1 : m < 1000000000) (h : ∀ r k', 0 ≤ r → r < m → DkV k' → Q (.int r) k') : fp drawSem [.deck, .dat (.int m)] k Q := by
  obtain ⟨r, k', e, a, b, c⟩ := drw_ok hk h0
  refine ⟨.int r, k', ?_, h r k' a b c⟩
  unfold drawSem
  simp only [h0, h1, and_self, if_true, e]
end
end DL
namespace DL
open PySem PySem.Spec PyProof.Rows L2
/-! DL16: what the operations on data come to, for simp. -/
@[simp] theorem isi_int_none : isiD "int" .none = false := by simp [isiD, isiT, tyD]
@[simp] theorem isi_int_bool {b : Bool} : isiD "int" (.bool b) = true := by simp [isiD, isiT, tyD]
@[simp] theorem isi_int_int {i : Int} : isiD "int" (.int i) = true := by simp [isiD, isiT, tyD]
@[simp] theorem isi_int_str {x : Str} : isiD "int" (.str x) = false := by simp [isiD, isiT, tyD]
@[simp] theorem isi_int_list {l : List D} : isiD "int" (.list l) = false := by simp [isiD, isiT, tyD]
@[simp] theorem isi_int_tuple {l : List D} : isiD "int" (.tuple l) = false := by simp [isiD, isiT, tyD]
@[simp] theorem isi_int_dict {q : List (D × D)} : isiD "int" (.dict q) = false := by cases h : isP q <;> simp [isiD, isiT, tyD, h]
@[simp] theorem isi_bool_none : isiD "bool" .none = false := by simp [isiD, isiT, tyD]
@[simp] theorem isi_bool_bool {b : Bool} : isiD "bool" (.bool b) = true := by simp [isiD, isiT, tyD]
@[simp] theorem isi_bool_int {i : Int} : isiD "bool" (.int i) = false := by simp [isiD, isiT, tyD]
@[simp] theorem isi_bool_str {x : Str} : isiD "bool" (.str x) = false := by simp [isiD, isiT, tyD]
@[simp] theorem isi_bool_list {l : List D} : isiD "bool" (.list l) = false := by simp [isiD, isiT, tyD]
@[simp] theorem isi_bool_tuple {l : List D} : isiD "bool" (.tuple l) = false := by simp [isiD, isiT, tyD]
@[simp] theorem isi_bool_dict {q : List (D × D)} : isiD "bool" (.dict q) = false := by cases h : isP q <;> simp [isiD, isiT, tyD, h]
@[simp] theorem isi_str_none : isiD "str" .none = false := by simp [isiD, isiT, tyD]
@[simp] theorem isi_str_bool {b : Bool} : isiD "str" (.bool b) = false := by simp [isiD, isiT, tyD]
@[simp] theorem isi_str_int {i : Int} : isiD "str" (.int i) = false := by simp [isiD, isiT, tyD]
@[simp] theorem isi_str_str {x : Str} : isiD "str" (.str x) = true := by simp [isiD, isiT, tyD]
@[simp] theorem isi_str_list {l : List D} : isiD "str" (.list l) = false := by simp [isiD, isiT, tyD]
@[simp] theorem isi_str_tuple {l : List D} : isiD "str" (.tuple l) = false := by simp [isiD, isiT, tyD]
@[simp] theorem isi_str_dict {q : List (D × D)} : isiD "str" (.dict q) = false := by cases h : isP q <;> simp [isiD, isiT, tyD, h]
@[simp] theorem isi_list_none : isiD "list" .none = false := by simp [isiD, isiT, tyD]
@[simp] theorem isi_list_bool {b : Bool} : isiD "list" (.bool b) = false := by simp [isiD, isiT, tyD]
@[simp] theorem isi_list_int {i : Int} : isiD "list" (.int i) = false := by simp [isiD, isiT, tyD]
@[simp] theorem isi_list_str {x : Str} : isiD "list" (.str x) = false := by simp [isiD, isiT, tyD]
@[simp] theorem isi_list_list {l : List D} : isiD "list" (.list l) = true := by simp [isiD, isiT, tyD]
@[simp] theorem isi_list_tuple {l : List D} : isiD "list" (.tuple l) = false := by simp [isiD, isiT, tyD]
@[simp] theorem isi_list_dict {q : List (D × D)} : isiD "list" (.dict q) = false := by cases h : isP q <;> simp [isiD, isiT, tyD, h]
@[simp] theorem isi_tuple_none : isiD "tuple" .none = false := by simp [isiD, isiT, tyD]
@[simp] theorem isi_tuple_bool {b : Bool} : isiD "tuple" (.bool b) = false := by simp [isiD, isiT, tyD]
@[simp] theorem isi_tuple_int {i : Int} : isiD "tuple" (.int i) = false := by simp [isiD, isiT, tyD]
@[simp] theorem isi_tuple_str {x : Str} : isiD "tuple" (.str x) = false := by simp [isiD, isiT, tyD]
@[simp] theorem isi_tuple_list {l : List D} : isiD "tuple" (.list l) = false := by simp [isiD, isiT, tyD]
@[simp] theorem isi_tuple_tuple {l : List D} : isiD "tuple" (.tuple l) = true := by simp [isiD, isiT, tyD]
@[simp] theorem isi_tuple_dict {q : List (D × D)} : isiD "tuple" (.dict q) = isP q := by cases h : isP q <;> simp [isiD, isiT, tyD, h]
@[simp] theorem isi_dict_none : isiD "dict" .none = false := by simp [isiD, isiT, tyD]
@[simp] theorem isi_dict_bool {b : Bool} : isiD "dict" (.bool b) = false := by simp [isiD, isiT, tyD]
@[simp] theorem isi_dict_int {i : Int} : isiD "dict" (.int i) = false := by simp [isiD, isiT, tyD]
@[simp] theorem isi_dict_str {x : Str} : isiD "dict" (.str x) = false := by simp [isiD, isiT, tyD]
@[simp] theorem isi_dict_list {l : List D} : isiD "dict" (.list l) = false := by simp [isiD, isiT, tyD]
@[simp] theorem isi_dict_tuple {l : List D} : isiD "dict" (.tuple l) = false := by simp [isiD, isiT, tyD]
@[simp] theorem isi_dict_dict {q : List (D × D)} : isiD "dict" (.dict q) = !isP q := by cases h : isP q <;> simp [isiD, isiT, tyD, h]
section
variable {i j : Int} {a b l : List D} {x y : Str}
@[simp] theorem dAdd_int : dAdd (.int i) (.int j) = some (.int (i + j)) := rfl
@[simp] theorem dAdd_tup : dAdd (.tuple a) (.tuple b) = if a.length + b.length ≤ lim then some (.tuple (a ++ b)) else none := rfl
@[simp] theorem dAdd_lst : dAdd (.list a) (.list b) = if a.length + b.length ≤ lim then some (.list (a ++ b)) else none := rfl
@[simp] theorem dAdd_str : dAdd (.str x) (.str y) = if x.length + y.length ≤ lim then some (.str (x ++ y)) else none := rfl
@[simp] theorem dSub_int : dSub (.int i) (.int j) = some (.int (i - j)) := rfl
@[simp] theorem dMul_int : dMul (.int i) (.int j) = if i.natAbs.log2 + j.natAbs.log2 < 1000000 then some (.int (i * j)) else none := rfl
@[simp] theorem dMul_tup : dMul (.tuple a) (.int j) = if -(2 ^ 62) < j ∧ j ≤ 1000 ∧ a.length ≤ 1000 then some (.tuple (List.replicate j.toNat a).flatten) else none := rfl
@[simp] theorem dPow_int : dPow (.int i) (.int j) = if 0 ≤ j ∧ j ≤ 1000 ∧ i.natAbs < 1000000 then some (.int (i ^ j.toNat)) else none := rfl
@[simp] theorem dLt_int : dLt (.int i) (.int j) = some (.bool (decide (i < j))) := rfl
@[simp] theorem dLe_int : dLe (.int i) (.int j) = some (.bool (decide (i ≤ j))) := rfl
@[simp] theorem dGt_int : dGt (.int i) (.int j) = some (.bool (decide (j < i))) := rfl
@[simp] theorem dNeg_int : dNeg (.int i) = some (.int (-i)) := rfl
theorem dEq_sh {u v : D} (hu : SeqAt.shaped u = true) (hv : SeqAt.shaped v = true) (h : ∀ x, u ≠ .str x) : dEq u v = some (.bool (PyData.eqv u v)) := by
  unfold dEq
  split
  · rename_i a b; exact absurd rfl (h a)
  · rw [if_pos ⟨hu, hv⟩]
theorem dNe_sh {u v : D} (hu : SeqAt.shaped u = true) (hv : SeqAt.shaped v = true) (h : ∀ x, u ≠ .str x) : dNe u v = some (.bool (!PyData.eqv u v)) := by
  unfold dNe
  split
  · rename_i a b; exact absurd rfl (h a)
  · rw [if_pos ⟨hu, hv⟩]
@[simp] theorem dEq_int : dEq (.int i) (.int j) = some (.bool (decide (i = j))) := dEq_sh rfl rfl fun _ z => nomatch z
@[simp] theorem dNe_int : dNe (.int i) (.int j) = some (.bool (!decide (i = j))) := dNe_sh rfl rfl fun _ z => nomatch z
@[simp] theorem dEq_str : dEq (.str x) (.str y) = some (.bool (x == y)) := rfl
@[simp] theorem dNe_str : dNe (.str x) (.str y) = some (.bool (!(x == y))) := rfl
@[simp] theorem dIx_tup : dIx (.tuple a) (.int i) = atI a i := rfl
@[simp] theorem dIx_lst : dIx (.list a) (.int i) = atI a i := rfl
theorem atI_of {α : Type} {xs : List α} {n : Nat} (h : n < xs.length) : atI xs (n : Int) = some xs[n] := atI_nat (j := n) (by rw [List.getElem?_eq_getElem h])
theorem atI_int {α : Type} {xs : List α} {i : Int} (h0 : 0 ≤ i) (h : i < xs.length) : atI xs i = some (xs[i.toNat]'(by omega)) := by
  have h2 := atI_of (xs := xs) (n := i.toNat) (by omega)
  have e : ((i.toNat : Nat) : Int) = i := by omega
  rw [e] at h2; exact h2
@[simp] theorem atI_c0 {α : Type} {u : α} {r : List α} : atI (u :: r) 0 = some u := atI_nat (j := 0) rfl
@[simp] theorem atI_c1 {α : Type} {u v : α} {r : List α} : atI (u :: v :: r) 1 = some v := atI_nat (j := 1) rfl
@[simp] theorem atI_c2 {α : Type} {u v w : α} {r : List α} : atI (u :: v :: w :: r) 2 = some w := atI_nat (j := 2) rfl
@[simp] theorem dLen_tup : dLen [.tuple a] = some (.int a.length) := rfl
@[simp] theorem dLen_lst : dLen [.list a] = some (.int a.length) := rfl
@[simp] theorem dLen_str : dLen [.str x] = if x.length ≤ lim then some (.int x.length) else none := rfl
@[simp] theorem dInt_int : dInt [.int i] = some (.int i) := rfl
@[simp] theorem dInt_bool {c : Bool} : dInt [.bool c] = some (.int (if c then 1 else 0)) := rfl
@[simp] theorem dStr_int : dStr [.int i] = if i.natAbs.log2 < 1920 then some (.str (toString i : Str)) else none := rfl
@[simp] theorem dMin2_int : dMin2 [.int i, .int j] = some (.int (if j < i then j else i)) := rfl
@[simp] theorem dMax2_int : dMax2 [.int i, .int j] = some (.int (if j > i then j else i)) := rfl
@[simp] theorem dTupleOf_l : dTupleOf [.list a] = some (.tuple a) := rfl
@[simp] theorem dTupleOf_t : dTupleOf [.tuple a] = some (.tuple a) := rfl
@[simp] theorem dSl_t {lo hi : Option Int} : dSl (.tuple a) lo hi = some (.tuple (cutG a lo hi)) := rfl
@[simp] theorem dSl_l {lo hi : Option Int} : dSl (.list a) lo hi = some (.list (cutG a lo hi)) := rfl
@[simp] theorem dRepr_1 {d : D} : dRepr [d] = if okR d = true then some (.str d.shown) else none := rfl
theorem cutG_from {α : Type} {xs : List α} {i : Int} (h : 0 ≤ i) : cutG xs (some i) none = xs.drop i.toNat := by
  unfold cutG
  have e : HT.sIx xs.length 0 (some i) = min i.toNat xs.length := by
    have := HT.sIx_nat xs.length 0 i.toNat
    rwa [show ((i.toNat : Nat) : Int) = i by omega] at this
  rw [e, HT.sIx_none]
  by_cases hl : i.toNat ≤ xs.length
  · rw [Nat.min_eq_left hl, List.take_of_length_le (by rw [List.length_drop]; omega)]
  · rw [Nat.min_eq_right (by omega), List.drop_of_length_le (Nat.le_refl _), List.drop_of_length_le (by omega)]; simp
theorem cutG_to {α : Type} {xs : List α} {i : Int} (h : 0 ≤ i) : cutG xs none (some i) = xs.take i.toNat := by
  unfold cutG
  have e : HT.sIx xs.length xs.length (some i) = min i.toNat xs.length := by
    have := HT.sIx_nat xs.length xs.length i.toNat
    rwa [show ((i.toNat : Nat) : Int) = i by omega] at this
  rw [e, HT.sIx_none, List.drop_zero, Nat.sub_zero]
  by_cases hl : i.toNat ≤ xs.length
  · rw [Nat.min_eq_left hl]
  · rw [Nat.min_eq_right (by omega), List.take_length, List.take_of_length_le (by omega)]
theorem canLay_ofInts : ∀ {l : List D}, (∀ d ∈ l, ∃ i, d = .int i) → PyData.canLayAll0 l = true ∧ PyData.depthAll l = 0
  | [], _ => ⟨by simp [PyData.canLayAll0], by simp [PyData.depthAll]⟩
  | d :: r, h => by
    obtain ⟨i, rfl⟩ := h _ (List.mem_cons_self ..)
    obtain ⟨h1, h2⟩ := canLay_ofInts (l := r) fun d hd => h d (List.mem_cons_of_mem _ hd)
    exact ⟨by simp [PyData.canLayAll0, PyData.canLay0, h1], by simp [PyData.depthAll, PyData.depth, h2]⟩
theorem shaped_ofInts {l : List D} (h : ∀ d ∈ l, ∃ i, d = .int i) : SeqAt.shaped (.list l) = true := by
  obtain ⟨h1, h2⟩ := canLay_ofInts h
  simp [SeqAt.shaped, PyData.canLay0, PyData.depth, h1, h2]
theorem eqv_nil {l : List D} : PyData.eqv (.list l) (.list []) = l.isEmpty := by cases l <;> simp [PyData.eqv, PyData.eqvAll]
theorem eqv_nilT {l : List D} : PyData.eqv (.tuple l) (.tuple []) = l.isEmpty := by cases l <;> simp [PyData.eqv, PyData.eqvAll]
theorem dNe_nilT {l : List D} (h : SeqAt.shaped (.tuple l) = true) : dNe (.tuple l) (.tuple []) = some (.bool (!l.isEmpty)) := by rw [dNe_sh h rfl (fun _ z => nomatch z), eqv_nilT]
@[simp] theorem ex_cx {α : Type} {c : Prop} {u : α} {P : α → Prop} : (∃ d, (c ∧ u = d) ∧ P d) ↔ c ∧ P u := ⟨fun ⟨_, ⟨hc, e⟩, q⟩ => ⟨hc, e ▸ q⟩, fun ⟨hc, q⟩ => ⟨_, ⟨hc, rfl⟩, q⟩⟩
@[simp] theorem res_dat {s : S} {d : D} : res s (.dat d) = some (.dat d) := rfl
@[simp] theorem res_deck {s : S} : res s .deck = some .deck := rfl
@[simp ↓] theorem wp_callE {s : S} {sem : FS} {fr : M (List AV)} {Q : D → S → Prop} : wp (eCallB [] sem fr) s Q ↔ wp fr s fun avs s1 => ∃ xs, avs.mapM (res s1) = some xs ∧ fp sem xs s1.k fun d k' => Q d ⟨s1.g, k'⟩ := by
  unfold eCallB
  rw [wp_bd]
  constructor <;> intro h <;> refine wp_mono h fun avs s1 q => ?_
  · obtain ⟨d, s', e, q⟩ := q
    have h0 : cellsB [] s1 = true := rfl
    simp only [h0, if_true] at e
    split at e
    · rename_i xs hx
      split at e
      · rename_i d' k' hs
        have hm : (([] : List Nat).isEmpty || noMut d') = true := rfl
        simp only [hm, if_true] at e
        cases e
        exact ⟨xs, hx, _, _, hs, q⟩
      · cases e
    · cases e
  · obtain ⟨xs, e, d, k', e2, q⟩ := q
    exact ⟨d, ⟨s1.g, k'⟩, by simp [cellsB, e, e2], q⟩
@[simp ↓] theorem wp_eGive {i : Nat} {s : S} {Q : D → S → Prop} : wp (eGive i) s Q ↔ match s.g[i]? with
    | some (some (.dat d)) => Q d s
    | some (some (.lst ds)) => Q (.list ds) ⟨s.g.set i (some (.dat (.list ds))), s.k⟩
    | _ => False := by
  unfold wp eGive
  generalize s.g[i]? = o
  rcases o with _ | (_ | v)
  · exact ⟨fun ⟨_, _, e, q⟩ => (by cases e), fun h => h.elim⟩
  · exact ⟨fun ⟨_, _, e, q⟩ => (by cases e), fun h => h.elim⟩
  · cases v with
    | dat d => exact ⟨fun ⟨_, _, e, q⟩ => by cases e; exact q, fun q => ⟨_, _, rfl, q⟩⟩
    | lst d => exact ⟨fun ⟨_, _, e, q⟩ => by cases e; exact q, fun q => ⟨_, _, rfl, q⟩⟩
    | dct _ d => exact ⟨fun ⟨_, _, e, q⟩ => (by cases e), fun h => h.elim⟩
    | obj d => exact ⟨fun ⟨_, _, e, q⟩ => (by cases e), fun h => h.elim⟩
    | fn _ => exact ⟨fun ⟨_, _, e, q⟩ => (by cases e), fun h => h.elim⟩
    | gst _ => exact ⟨fun ⟨_, _, e, q⟩ => (by cases e), fun h => h.elim⟩
    | deck => exact ⟨fun ⟨_, _, e, q⟩ => (by cases e), fun h => h.elim⟩
@[simp ↓] theorem wp_sApp {i : Nat} {f : M D} {s : S} {Z : Fl → S → Prop} : wp (sApp i f) s Z ↔ (∃ l0, s.g[i]? = some (some (.lst l0))) ∧ wp f s fun d s1 => ∃ ds, s1.g[i]? = some (some (.lst ds)) ∧ ds.length ≤ lim ∧ Z .nx ⟨s1.g.set i (some (.lst (ds ++ [d]))), s1.k⟩ := by
  constructor
  · rintro ⟨fl, s', e, q⟩
    unfold sApp at e
    split at e
    · rename_i l0 h0
      obtain ⟨d, s1, e1, e2⟩ := bd_some e
      refine ⟨⟨l0, h0⟩, d, s1, e1, ?_⟩
      split at e2
      · rename_i ds h1
        split at e2
        · rename_i hl; cases e2; exact ⟨ds, h1, hl, q⟩
        · cases e2
      · cases e2
    · cases e
  · rintro ⟨⟨l0, h0⟩, d, s1, e1, ds, h1, hl, q⟩
    refine ⟨_, _, ?_, q⟩
    unfold sApp
    rw [h0]
    show bd f _ s = _
    unfold bd
    rw [e1]
    show (match s1.g[i]? with
      | some (some (.lst ds)) => if ds.length ≤ lim then some (Fl.nx, { s1 with g := s1.g.set i (some (.lst (ds ++ [d]))) }) else none
      | _ => none) = _
    rw [h1]
    show (if ds.length ≤ lim then _ else _) = _
    rw [if_pos hl]
@[simp ↓] theorem wp_gTp1 {g : List D → M Unit} {u : D} {s : S} {Q : Unit → S → Prop} : wp (gTp 1 g (.tuple [u])) s Q ↔ wp (g [u]) s Q := wp_gTp rfl
@[simp ↓] theorem wp_gTp2 {g : List D → M Unit} {u v : D} {s : S} {Q : Unit → S → Prop} : wp (gTp 2 g (.tuple [u, v])) s Q ↔ wp (g [u, v]) s Q := wp_gTp rfl
@[simp ↓] theorem wp_gTp3 {g : List D → M Unit} {u v w : D} {s : S} {Q : Unit → S → Prop} : wp (gTp 3 g (.tuple [u, v, w])) s Q ↔ wp (g [u, v, w]) s Q := wp_gTp rfl
@[simp ↓] theorem wp_pNil {s : S} {Q : List PV → S → Prop} : wp pNil s Q ↔ Q [] s := wp_rtn
@[simp ↓] theorem wp_pDat {f : M D} {fr : M (List PV)} {s : S} {Q : List PV → S → Prop} : wp (pDat f fr) s Q ↔ wp f s fun u s1 => wp fr s1 fun us s2 => Q (.dat u :: us) s2 := by unfold pDat; simp only [wp_bd, wp_rtn]
@[simp ↓] theorem wp_pDctN {t : Bool} {fr : M (List PV)} {s : S} {Q : List PV → S → Prop} : wp (pDctN t fr) s Q ↔ wp fr s fun us s2 => Q (.dct t :: us) s2 := by unfold pDctN; simp only [wp_bd, wp_rtn]
@[simp ↓] theorem wp_pNew {f : M (List D)} {fr : M (List PV)} {s : S} {Q : List PV → S → Prop} : wp (pNew f fr) s Q ↔ wp f s fun u s1 => wp fr s1 fun us s2 => Q (.new u :: us) s2 := by unfold pNew; simp only [wp_bd, wp_rtn]
@[simp] theorem putP_dat {i : Nat} {d : D} {s : S} : putP i (.dat d) s = ⟨s.g.set i (some (.dat d)), s.k⟩ := rfl
@[simp] theorem putP_new {i : Nat} {d : List D} {s : S} : putP i (.new d) s = ⟨s.g.set i (some (.lst d)), s.k⟩ := rfl
@[simp ↓] theorem wp_sPar {i j : Nat} {fr : M (List PV)} {s : S} {Z : Fl → S → Prop} : wp (sPar i j fr) s Z ↔ wp fr s fun us s1 => ∃ u v, us = [u, v] ∧ Z .nx (putP j v (putP i u s1)) := by
  unfold sPar; rw [wp_bd]
  constructor <;> intro h <;> refine wp_mono h fun us s1 q => ?_
  · match us, q with
    | [u, v], q => obtain ⟨_, _, e, q⟩ := q; cases e; exact ⟨u, v, rfl, q⟩
    | [], q => exact (wp_no.mp q).elim
    | [_], q => exact (wp_no.mp q).elim
    | _ :: _ :: _ :: _, q => exact (wp_no.mp q).elim
  · obtain ⟨u, v, rfl, q⟩ := q
    exact ⟨_, _, rfl, q⟩
@[simp ↓] theorem wp_sPar3 {i j l : Nat} {fr : M (List PV)} {s : S} {Z : Fl → S → Prop} : wp (sPar3 i j l fr) s Z ↔ wp fr s fun us s1 => ∃ u v w, us = [u, v, w] ∧ Z .nx (putP l w (putP j v (putP i u s1))) := by
  unfold sPar3; rw [wp_bd]
  constructor <;> intro h <;> refine wp_mono h fun us s1 q => ?_
  · match us, q with
    | [u, v, w], q => obtain ⟨_, _, e, q⟩ := q; cases e; exact ⟨u, v, w, rfl, q⟩
    | [], q => exact (wp_no.mp q).elim
    | [_], q => exact (wp_no.mp q).elim
    | [_, _], q => exact (wp_no.mp q).elim
    | _ :: _ :: _ :: _ :: _, q => exact (wp_no.mp q).elim
  · obtain ⟨u, v, w, rfl, q⟩ := q
    exact ⟨_, _, rfl, q⟩
theorem fp_eq {sem : FS} {xs : List Val} {k k' : Dk} {d : D} {Q : D → Dk → Prop} (h : sem xs k = some (d, k')) : fp sem xs k Q ↔ Q d k' :=
  ⟨fun ⟨_, _, e, q⟩ => by rw [h] at e; cases e; exact q, fun q => ⟨_, _, h, q⟩⟩
theorem eq_fp {sem : FS} {xs : List Val} {k : Dk} {d : D} (h : fp sem xs k fun d' k' => d' = d ∧ k' = k) : sem xs k = some (d, k) := by
  obtain ⟨d', k', e, rfl, rfl⟩ := h; exact e
end
end DL
namespace DL
open PySem PySem.Spec PyProof.Rows L2
/-! DL17: how long a repr may be. -/
mutual
def sz : D → Nat
  | .none => 5
  | .bool _ => 5
  | .int i => if i.natAbs.log2 < 14190 then i.natAbs.log2 + 3 else 10000000
  | .str x => if x.cps.toList.all (fun c => decide (c < 16 ^ 8)) = true then 10 * x.length + 2 else 10000000
  | .list xs => szA xs + 4
  | .tuple xs => szA xs + 4
  | .dict kvs => if kvs.isEmpty = true then 2 else 10000000
def szA : List D → Nat
  | [] => 0
  | x :: r => sz x + 2 + szA r
end
theorem textFrom_le : ∀ (ts : List Str) (k : Nat) (acc : Str), (textFrom k acc ts).length ≤ acc.length + piled ts
  | [], k, acc => by show acc.length ≤ acc.length + 0; omega
  | t :: r, k, acc => by
    have ih := textFrom_le r (k + 1) (acc ++ (if k > 0 then ", " else "" : String) ++ t)
    have e : (acc ++ (if k > 0 then ", " else "" : String) ++ t).length ≤ acc.length + 2 + t.length := by
      rw [strLen_append, strLen_append]
      split
      · exact Nat.le_refl _
      · show acc.length + 0 + t.length ≤ _; omega
    rw [piled_cons]
    show (textFrom (k + 1) (acc ++ (if k > 0 then ", " else "" : String) ++ t) r).length ≤ _
    omega
theorem listText_le (ts : List Str) : (listText ts).length ≤ piled ts + 2 := by
  unfold listText
  rw [strLen_append]
  have := textFrom_le ts 0 "["
  have e1 : (("[" : String) : Str).length = 1 := rfl
  have e2 : (("]" : String) : Str).length = 1 := rfl
  omega
theorem tupleText_le (ts : List Str) : (tupleText ts).length ≤ piled ts + 4 := by
  unfold tupleText
  rw [strLen_append, strLen_append]
  have e1 : (("(" : String) : Str).length = 1 := rfl
  have e3 : (((if (ts.length == 1) = true then ",)" else ")") : String) : Str).length ≤ 2 := by
    split
    · exact Nat.le_refl _
    · show 1 ≤ 2; omega
  by_cases h : ts = []
  · subst h
    have e4 : (Str.join ", " []).length = 0 := rfl
    omega
  · have := join_length_add ts h
    omega
mutual
theorem sz_ok : ∀ (d : D), sz d ≤ 1000000 → shw d = true ∧ dict0 d = true ∧ d.shown.length ≤ sz d
  | .none, _ => ⟨rfl, rfl, by decide⟩
  | .bool b, _ => ⟨rfl, rfl, by cases b <;> decide⟩
  | .int i, h => by
    unfold sz at h
    split at h
    · rename_i hi
      refine ⟨by simp [shw, hi], rfl, ?_⟩
      have := int_text_length_le (a := i) (k := i.natAbs.log2 + 1) (by omega) (by omega)
      simp only [PyData.shown, sz, hi, if_true]
      rw [PySem.ofString_length]
      omega
    · omega
  | .str x, h => by
    unfold sz at h
    split at h
    · rename_i hx
      refine ⟨rfl, rfl, ?_⟩
      simp only [PyData.shown, sz, hx, if_true]
      refine PySem.StrLaws.reprText_len x fun c hc => ?_
      exact of_decide_eq_true (List.all_eq_true.mp hx c hc)
    · omega
  | .list xs, h => by
    unfold sz at h
    obtain ⟨h1, h2, h3⟩ := szA_ok xs (by omega)
    refine ⟨by simpa [shw] using h1, by simpa [dict0] using h2, ?_⟩
    simp only [PyData.shown, sz]
    have := listText_le (PyData.shownAll xs)
    omega
  | .tuple xs, h => by
    unfold sz at h
    obtain ⟨h1, h2, h3⟩ := szA_ok xs (by omega)
    refine ⟨by simpa [shw] using h1, by simpa [dict0] using h2, ?_⟩
    simp only [PyData.shown, sz]
    have := tupleText_le (PyData.shownAll xs)
    omega
  | .dict kvs, h => by
    unfold sz at h
    split at h
    · rename_i hk
      have : kvs = [] := by simpa using hk
      subst this
      exact ⟨by simp [shw], rfl, by simp only [PyData.shown, PyData.shownKv, sz]; decide⟩
    · omega
theorem szA_ok : ∀ (xs : List D), szA xs ≤ 1000000 → shwA xs = true ∧ dict0A xs = true ∧ piled (PyData.shownAll xs) ≤ szA xs
  | [], _ => ⟨rfl, rfl, by simp [PyData.shownAll, piled, szA]⟩
  | x :: r, h => by
    unfold szA at h
    obtain ⟨a1, a2, a3⟩ := sz_ok x (by omega)
    obtain ⟨b1, b2, b3⟩ := szA_ok r (by omega)
    refine ⟨by simp [shwA, a1, b1], by simp [dict0A, a2, b2], ?_⟩
    simp only [PyData.shownAll, szA, piled_cons]
    omega
end
theorem okR_of {d : D} (h : sz d ≤ 1000000) (hd : d.depth ≤ 60) : okR d = true := by
  obtain ⟨h1, h2, h3⟩ := sz_ok d h
  unfold okR
  simp only [h1, h2, Bool.true_and, Bool.and_eq_true, decide_eq_true_eq]
  exact ⟨show d.shown.length ≤ 1000000 by omega, hd⟩
theorem szA_len : ∀ (l : List D), 2 * l.length ≤ szA l
  | [] => by simp [szA]
  | x :: r => by rw [szA, List.length_cons]; have := szA_len r; omega
theorem szA_le_of {n : Nat} : ∀ {l : List D}, (∀ d ∈ l, sz d ≤ n) → szA l ≤ l.length * (n + 2)
  | [], _ => by simp [szA]
  | x :: r, h => by
    rw [szA, List.length_cons, Nat.succ_mul]
    have h1 := h x (List.mem_cons_self ..)
    have h2 := szA_le_of (l := r) fun d hd => h d (List.mem_cons_of_mem _ hd)
    omega
theorem depthA_le_of {n : Nat} : ∀ {l : List D}, (∀ d ∈ l, d.depth ≤ n) → PyData.depthAll l ≤ n
  | [], _ => by simp [PyData.depthAll]
  | x :: r, h => by
    rw [PyData.depthAll]
    have h1 := h x (List.mem_cons_self ..)
    have h2 := depthA_le_of (l := r) fun d hd => h d (List.mem_cons_of_mem _ hd)
    omega
end DL
namespace DL
open PySem PySem.Spec PyProof.Rows L2
/-! DL24: the pure side of DL18 to DL23. -/
section
variable {s : S} {Q : D → S → Prop}
@[simp ↓] theorem wp_asE {f : M D} {Q : List D → S → Prop} : wp (asE (aCons f aNil)) s Q ↔ wp f s fun d s1 => ∃ ds, (d = .list ds ∨ d = .tuple ds) ∧ Q (enmD ds) s1 := by
  unfold asE; simp only [wp_bd, wp_aCons, wp_aNil]
  constructor <;> intro h <;> refine wp_mono h fun d s1 q => ?_
  · cases d with
    | list ds => exact ⟨ds, .inl rfl, wp_rtn.mp q⟩
    | tuple ds => exact ⟨ds, .inr rfl, wp_rtn.mp q⟩
    | _ => exact (wp_no.mp q).elim
  · obtain ⟨ds, rfl | rfl, q⟩ := q <;> exact wp_rtn.mpr q
@[simp] theorem peek_lst {i : Nat} {s : S} {ds : List D} (h : s.g[i]? = some (some (.lst ds))) : peek i s = some (.list ds) := by unfold peek; rw [h]
@[simp] theorem peek_dat {i : Nat} {s : S} {d : D} (h : s.g[i]? = some (some (.dat d))) : peek i s = some d := by unfold peek; rw [h]
@[simp ↓] theorem wp_eB1 {op : D → D → Option D} {i : Nat} {fb : M D} : wp (eB1 op i fb) s Q ↔ (peek i s).isSome = true ∧ wp fb s fun y s1 => ∃ x d, peek i s1 = some x ∧ op x y = some d ∧ noMut d = true ∧ Q d s1 := by
  constructor
  · rintro ⟨d, s', e, q⟩
    unfold eB1 at e
    split at e
    · rename_i h
      obtain ⟨y, s1, e1, e2⟩ := bd_some e
      refine ⟨h, y, s1, e1, ?_⟩
      split at e2
      · rename_i x hx
        split at e2
        · rename_i d2 hd
          split at e2
          · rename_i hn; cases e2; exact ⟨x, _, hx, hd, hn, q⟩
          · cases e2
        · cases e2
      · cases e2
    · cases e
  · rintro ⟨h, y, s1, e1, x, d, hx, hd, hn, q⟩
    refine ⟨d, s1, ?_, q⟩
    unfold eB1
    rw [if_pos h]
    unfold bd
    rw [e1]
    simp only [hx, hd, hn, if_true]
@[simp ↓] theorem wp_eB2 {op : D → D → Option D} {i : Nat} {fb : M D} : wp (eB2 op fb i) s Q ↔ wp fb s fun y s1 => ∃ x d, peek i s1 = some x ∧ op y x = some d ∧ noMut d = true ∧ Q d s1 := by
  constructor
  · rintro ⟨d, s', e, q⟩
    unfold eB2 at e
    obtain ⟨y, s1, e1, e2⟩ := bd_some e
    refine ⟨y, s1, e1, ?_⟩
    split at e2
    · rename_i x hx
      split at e2
      · rename_i d2 hd
        split at e2
        · rename_i hn; cases e2; exact ⟨x, _, hx, hd, hn, q⟩
        · cases e2
      · cases e2
    · cases e2
  · rintro ⟨y, s1, e1, x, d, hx, hd, hn, q⟩
    refine ⟨d, s1, ?_, q⟩
    unfold eB2 bd
    rw [e1]
    simp only [hx, hd, hn, if_true]
@[simp ↓] theorem wp_eBC {op : List D → Option D} {i : Nat} : wp (eBC op i) s Q ↔ ∃ x d, peek i s = some x ∧ op [x] = some d ∧ noMut d = true ∧ Q d s := by
  constructor
  · rintro ⟨d, s', e, q⟩
    unfold eBC at e
    split at e
    · rename_i x hx
      split at e
      · rename_i d2 hd
        split at e
        · rename_i hn; cases e; exact ⟨x, _, hx, hd, hn, q⟩
        · cases e
      · cases e
    · cases e
  · rintro ⟨x, d, hx, hd, hn, q⟩
    refine ⟨d, s, ?_, q⟩
    unfold eBC
    simp only [hx, hd, hn, if_true]
/-- an item of a cell -/
def ixc (s : S) (i : Nat) (y : D) : Option D := match s.g[i]? with
  | some (some (.lst ds)) => (match y with
    | .int j => atI ds j
    | _ => none)
  | some (some (.dat x)) => dIx x y
  | _ => none
theorem eIxC_eq {i : Nat} {fb : M D} : eIxC i fb = fun s => if (peek i s).isSome = true then bd fb (fun y s1 => (ixc s1 i y).map fun d => (d, s1)) s else none := by
  funext s
  unfold eIxC
  split
  · refine congrArg (fun f => bd fb f s) ?_
    funext y s1
    unfold ixc
    generalize s1.g[i]? = o
    rcases o with _ | (_ | v)
    · rfl
    · rfl
    · cases v with
      | lst ds =>
        cases y with
        | int j => simp only; cases atI ds j <;> rfl
        | _ => rfl
      | dat x => simp only; cases dIx x y <;> rfl
      | dct _ _ => rfl
      | obj _ => rfl
      | fn _ => rfl
      | gst _ => rfl
      | deck => rfl
  · rfl
@[simp ↓] theorem wp_eIxC {i : Nat} {fb : M D} : wp (eIxC i fb) s Q ↔ (peek i s).isSome = true ∧ wp fb s fun y s1 => ∃ d, ixc s1 i y = some d ∧ Q d s1 := by
  rw [eIxC_eq]
  constructor
  · rintro ⟨d, s', e, q⟩
    dsimp only at e
    split at e
    · rename_i h
      obtain ⟨y, s1, e1, e2⟩ := bd_some e
      refine ⟨h, y, s1, e1, ?_⟩
      cases hx : ixc s1 i y with
      | none => rw [hx] at e2; cases e2
      | some d2 => rw [hx] at e2; cases e2; exact ⟨_, hx, q⟩
    · cases e
  · rintro ⟨h, y, s1, e1, d, hx, q⟩
    refine ⟨d, s1, ?_, q⟩
    dsimp only
    rw [if_pos h]
    unfold bd
    rw [e1]
    simp only [hx, Option.map_some]
@[simp ↓] theorem wp_nAdd {fa fb : M D} {Q : List D → S → Prop} : wp (nAdd fa fb) s Q ↔ wp fa s fun x s1 => wp fb s1 fun y s2 => ∃ xs ys, x = .list xs ∧ y = .list ys ∧ xs.length + ys.length ≤ lim ∧ Q (xs ++ ys) s2 := by
  unfold nAdd; simp only [wp_bd]
  constructor <;> intro h <;> refine wp_mono h fun x s1 h => ?_ <;> refine wp_mono h fun y s2 h => ?_
  · cases x with
    | list xs =>
      cases y with
      | list ys =>
        simp only at h
        split at h
        · rename_i hl; exact ⟨xs, ys, rfl, rfl, hl, wp_rtn.mp h⟩
        · exact (wp_no.mp h).elim
      | _ => exact (wp_no.mp h).elim
    | _ => exact (wp_no.mp h).elim
  · obtain ⟨xs, ys, rfl, rfl, hl, q⟩ := h
    show wp (if _ then _ else _) s2 Q
    rw [if_pos hl]; exact wp_rtn.mpr q
@[simp ↓] theorem wp_nAddC {i : Nat} {fb : M D} {Q : List D → S → Prop} : wp (nAddC i fb) s Q ↔ (peek i s).isSome = true ∧ wp fb s fun y s1 => ∃ xs ys, peek i s1 = some (.list xs) ∧ y = .list ys ∧ xs.length + ys.length ≤ lim ∧ Q (xs ++ ys) s1 := by
  constructor
  · rintro ⟨d, s', e, q⟩
    unfold nAddC at e
    split at e
    · rename_i h
      obtain ⟨y, s1, e1, e2⟩ := bd_some e
      refine ⟨h, y, s1, e1, ?_⟩
      split at e2
      · rename_i xs ys hx
        split at e2
        · rename_i hl; cases e2; exact ⟨xs, ys, hx, rfl, hl, q⟩
        · cases e2
      · cases e2
    · cases e
  · rintro ⟨h, y, s1, e1, xs, ys, hx, rfl, hl, q⟩
    refine ⟨xs ++ ys, s1, ?_, q⟩
    unfold nAddC
    rw [if_pos h]
    unfold bd
    rw [e1]
    simp only [hx, hl, if_true]
@[simp ↓] theorem wp_nListOf {f : M D} {Q : List D → S → Prop} : wp (nListOf (aCons f aNil)) s Q ↔ wp f s fun d s1 => ∃ ds, (d = .list ds ∨ d = .tuple ds) ∧ Q ds s1 := by
  unfold nListOf; simp only [wp_bd, wp_aCons, wp_aNil]
  constructor <;> intro h <;> refine wp_mono h fun d s1 q => ?_
  · cases d with
    | list ds => exact ⟨ds, .inl rfl, wp_rtn.mp q⟩
    | tuple ds => exact ⟨ds, .inr rfl, wp_rtn.mp q⟩
    | _ => exact (wp_no.mp q).elim
  · obtain ⟨ds, rfl | rfl, q⟩ := q <;> exact wp_rtn.mpr q
@[simp ↓] theorem wp_prNil {Q : List (D × D) → S → Prop} : wp prNil s Q ↔ Q [] s := wp_rtn
@[simp ↓] theorem wp_prCons {fk fv : M D} {fr : M (List (D × D))} {Q : List (D × D) → S → Prop} : wp (prCons fk fv fr) s Q ↔ wp fk s fun k s1 => wp fv s1 fun v s2 => wp fr s2 fun r s3 => Q ((k, v) :: r) s3 := by
  unfold prCons; simp only [wp_bd, wp_rtn]
@[simp ↓] theorem wp_eDisp {f : M (List (D × D))} : wp (eDisp f) s Q ↔ wp f s fun ds s1 => ∃ d, dDisp ds = some d ∧ Q d s1 := by
  unfold eDisp; simp only [wp_bd, wp_lf]
/-- a cell lent to a callee -/
@[simp ↓] theorem wp_vBor {i : Nat} {fr : M (List AV)} {Q : List AV → S → Prop} : wp (vBor i fr) s Q ↔ (∃ v, s.g[i]? = some (some v) ∧ isCell v = true) ∧ wp fr s fun xs s2 => Q (.bor i :: xs) s2 := by
  unfold wp vBor
  generalize s.g[i]? = o
  rcases o with _ | (_ | v)
  · exact ⟨fun ⟨_, _, e, q⟩ => (by cases e), fun ⟨⟨v, e, _⟩, _⟩ => (by cases e)⟩
  · exact ⟨fun ⟨_, _, e, q⟩ => (by cases e), fun ⟨⟨v, e, _⟩, _⟩ => (by cases e)⟩
  · have go : (∃ a s', (bd fr fun xs => rtn (AV.bor i :: xs)) s = some (a, s') ∧ Q a s') ↔ ∃ a s', fr s = some (a, s') ∧ Q (.bor i :: a) s' := by
      have := (wp_bd (m := fr) (f := fun xs => rtn (AV.bor i :: xs)) (s := s) (Q := Q))
      simp only [wp_rtn] at this
      exact this
    cases v with
    | dat d => exact ⟨fun ⟨_, _, e, q⟩ => (by cases e), fun ⟨⟨v, e, h⟩, _⟩ => (by cases e; cases h)⟩
    | deck => exact ⟨fun ⟨_, _, e, q⟩ => (by cases e), fun ⟨⟨v, e, h⟩, _⟩ => (by cases e; cases h)⟩
    | obj o => exact ⟨fun ⟨_, _, e, q⟩ => (by cases e), fun ⟨⟨v, e, h⟩, _⟩ => (by cases e; cases h)⟩
    | fn _ => exact ⟨fun ⟨_, _, e, q⟩ => (by cases e), fun ⟨⟨v, e, h⟩, _⟩ => (by cases e; cases h)⟩
    | gst _ => exact ⟨fun ⟨_, _, e, q⟩ => (by cases e), fun ⟨⟨v, e, h⟩, _⟩ => (by cases e; cases h)⟩
    | lst ds => exact ⟨fun h => ⟨⟨_, rfl, rfl⟩, go.mp h⟩, fun h => go.mpr h.2⟩
    | dct _ ds => exact ⟨fun h => ⟨⟨_, rfl, rfl⟩, go.mp h⟩, fun h => go.mpr h.2⟩
/-- a call that lends cells -/
@[simp ↓] theorem wp_callC {b : Nat} {B : List Nat} {sem : FS} {fr : M (List AV)} : wp (eCallB (b :: B) sem fr) s Q ↔ wp fr s fun avs s1 => cellsB (b :: B) s1 = true ∧ ∃ xs, avs.mapM (res s1) = some xs ∧ fp sem xs s1.k fun d k' => noMut d = true ∧ Q d ⟨s1.g, k'⟩ := by
  unfold eCallB
  rw [wp_bd]
  constructor <;> intro h <;> refine wp_mono h fun avs s1 q => ?_
  · obtain ⟨d, s', e, q⟩ := q
    dsimp only at e
    split at e
    · rename_i hc
      split at e
      · rename_i xs hx
        split at e
        · rename_i d' k' hs
          split at e
          · rename_i hm
            cases e
            exact ⟨hc, xs, hx, _, _, hs, by simpa using hm, q⟩
          · cases e
        · cases e
      · cases e
    · cases e
  · obtain ⟨hc, xs, e, d, k', e2, hm, q⟩ := q
    refine ⟨d, ⟨s1.g, k'⟩, ?_, q⟩
    simp only [hc, if_true, e, e2, hm, Bool.or_true]
@[simp ↓] theorem wp_vPermE {pm : List Nat} {fr : M (List AV)} {Q : List AV → S → Prop} : wp (vPerm pm fr) s Q ↔ wp fr s fun xs s1 => (xs.length = pm.length ∧ (pm.all fun i => decide (i < xs.length)) = true) ∧ Q (permL pm xs) s1 := by
  refine ⟨fun h => ?_, wp_vPerm⟩
  unfold vPerm at h
  rw [wp_bd] at h
  refine wp_mono h fun xs s1 q => ?_
  split at q
  · rename_i hc; exact ⟨hc, wp_rtn.mp q⟩
  · exact (wp_no.mp q).elim
end
end DL
namespace DL
open PySem PySem.Spec PyProof.Rows L2
/-! DL27: the pure side of DL26. -/
section
variable {s : S} {Z : Fl → S → Prop}
@[simp ↓] theorem wp_sExt {i : Nat} {f : M D} : wp (sExt i f) s Z ↔ (∃ l0, s.g[i]? = some (some (.lst l0))) ∧ wp f s fun d s1 => ∃ ds es, s1.g[i]? = some (some (.lst ds)) ∧ d = .list es ∧ ds.length + es.length ≤ lim ∧ Z .nx ⟨s1.g.set i (some (.lst (ds ++ es))), s1.k⟩ := by
  constructor
  · rintro ⟨fl, s', e, q⟩
    unfold sExt at e
    split at e
    · rename_i l0 h0
      obtain ⟨d, s1, e1, e2⟩ := bd_some e
      refine ⟨⟨l0, h0⟩, d, s1, e1, ?_⟩
      split at e2
      · rename_i ds es h1
        split at e2
        · rename_i hl; cases e2; exact ⟨ds, es, h1, rfl, hl, q⟩
        · cases e2
      · cases e2
    · cases e
  · rintro ⟨⟨l0, h0⟩, d, s1, e1, ds, es, h1, rfl, hl, q⟩
    refine ⟨.nx, _, ?_, q⟩
    unfold sExt
    rw [h0]
    show bd f _ s = _
    unfold bd
    rw [e1]
    simp only [h1, hl, if_true]
@[simp ↓] theorem wp_rgW {f g : M D} {Q : List D → S → Prop} : wp (rgW (aCons f (aCons g aNil))) s Q ↔ wp f s fun x s1 => wp g s1 fun y s2 => ∃ i j : Int, x = .int i ∧ y = .int j ∧ Q (rngD i (j - i).toNat) s2 := by
  unfold rgW; simp only [wp_bd, wp_aCons, wp_aNil]
  constructor <;> intro h <;> refine wp_mono h fun x s1 h => ?_ <;> refine wp_mono h fun y s2 q => ?_
  · cases x with
    | int i => cases y with
      | int j => exact ⟨i, j, rfl, rfl, wp_rtn.mp q⟩
      | _ => exact (wp_no.mp q).elim
    | _ => exact (wp_no.mp q).elim
  · obtain ⟨i, j, rfl, rfl, q⟩ := q
    exact wp_rtn.mpr q
end
end DL
namespace DL
open PySem PySem.Spec PyProof.Rows L2
/-! DL29: x[i] = v, x a list cell. -/
/-! ### a list that is made anew by an operator -/
end DL
namespace DL
open PySem PySem.Spec PyProof.Rows L2
/-! DL30: list(enumerate(x)), x a list or a tuple. -/
section
variable {prog : Program} {w : World} {A : Around} {E : Value → Shared → Prop} {s : Shared} {e it S : Addr} {fp : List Addr} {items : Array Value} {St : Nat → Heap → Prop}
/-- draws under any frames -/
def DrawsE (prog : Program) (w : World) (it : Addr) (fp : List Addr) (items : Array Value) (St : Nat → Heap → Prop) : Prop := ∀ A : Around, A.handled = none → Draws prog w A it fp items.size (fun i v => items[i]? = some v) St
/-- where the enumerate object stands -/
def EnSt (St : Nat → Heap → Prop) (e it S : Addr) (i : Nat) (h : Heap) : Prop := St i h ∧ ((∃ old, IsEnum h e it i old) ∨ ∃ old T f oT, IsEnumHeld h e it i old T f ∧ h.get? T = some oT ∧ T ≠ e ∧ T ≠ it ∧ T ≠ S)
theorem EnSt.keep {i : Nat} {h h' : Heap} (hh : A.handled = none) (DD : DrawsE prog w it fp items St) (x : EnSt St e it S i h) (hk : ∀ b o, b ≠ S → h.get? b = some o → h'.get? b = some o) (h1 : e ≠ S) (h2 : it ≠ S) (h3 : S ∉ fp) : EnSt St e it S i h' := by
  obtain ⟨st, x⟩ := x
  refine ⟨(DD A hh).frame _ _ _ st fun b hb o y => hk b o (fun z => h3 (z ▸ hb)) y, ?_⟩
  rcases x with ⟨old, he⟩ | ⟨old, T, f, oT, he, hT, r1, r2, r3⟩
  · exact .inl ⟨old, hk _ _ h1 he⟩
  · exact .inr ⟨old, T, f, oT, hk _ _ h1 he, hk _ _ r3 hT, r1, r2, r3⟩
end
/-! the hand rule -/
end DL
namespace DL
open PySem PySem.Spec PyProof.Rows L2
/-! DL31: list(enumerate(x)), dict(list of pairs), list(range), tuple(range), pop, d.get(k, x). -/
section
variable {K : PySem.W.Frag}
def eLE (fr : M (List D)) : M D := bd (asE fr) fun ds => rtn (.list ds)
/-! dict(xs) of a list of pairs -/
/-! range as a list, as a tuple -/
def nRg1 (fa : M D) : M (List D) := bd fa fun x => match x with
  | .int j => if -(2 ^ 62) ≤ j ∧ j ≤ 1000000 then rtn (rngD 0 j.toNat) else fun _ => none
  | _ => fun _ => none
def nRg2 (fa fb : M D) : M (List D) := bd fa fun x => bd fb fun y => match x, y with
  | .int i, .int j => if -(2 ^ 62) ≤ i ∧ i < 2 ^ 62 ∧ -(2 ^ 62) ≤ j ∧ j < 2 ^ 62 ∧ j - i ≤ 1000000 then rtn (rngD i (j - i).toNat) else fun _ => none
  | _, _ => fun _ => none
def eTR (f : M (List D)) : M D := bd f fun ds => rtn (.tuple ds)
variable {ta tb : TE} {fa fb : M D}
/-! x.pop(), x.pop(i) -/
def ePop (i : Nat) : M D := fun s => match s.g[i]? with
  | some (some (.lst ds)) => (ds[ds.length - 1]?).map fun d => (d, { s with g := s.g.set i (some (.lst ds.dropLast)) })
  | _ => none
theorem RpA.dropLast {H : Hp} {vs : List V} {ds : List D} (h : RpA K H vs ds) : RpA K H vs.dropLast ds.dropLast := by
  rw [List.dropLast_eq_take, List.dropLast_eq_take, h.length]
  exact h.take _
/-! d.get(k, x), d data with flat keys -/
def dDGetD (x y z : D) : Option D := match x with
  | .dict ds => if flatKs ds && (kD y).isSome then some ((lookD ds y).getD z) else none
  | _ => none
def eOp3 (op : D → D → D → Option D) (fa fb fc : M D) : M D := bd fa fun x => bd fb fun y => bd fc fun z => lf (op x y z)
theorem ev_dgetD {tc : TE} {fc : M D} (h : EvE K ta fa) (h' : EvE K tb fb) (h'' : EvE K tc fc) : EvE K (tDGet2 ta tb tc) (eOp3 dDGetD fa fb fc) := by
  intro A hid P s σ H d s' ok e Q q
  obtain ⟨x, s1, e1, e⟩ := bd_some e
  obtain ⟨y, s2, e2, e⟩ := bd_some e
  obtain ⟨z, s3, e3, e⟩ := bd_some e
  obtain ⟨e, rfl⟩ := lf_some e
  refine h A hid P s σ H x s1 ok e1 _ fun v P1 H1 ok1 st1 r1 => ?_
  unfold dDGetD at e
  split at e
  · split at e
    · rename_i ds hh
      rw [Bool.and_eq_true] at hh
      cases e
      obtain ⟨a0, kvs0, rfl, h0, r0⟩ := r1.dictK hh.1
      refine ⟨a0, rfl, .inl ⟨kvs0, rd_grw mask_le h0⟩, ?_⟩
      refine h' A hid P1 s1 σ H1 y s2 ok1 e2 _ fun u P2 H2 ok2 st2 r2 => ?_
      refine h'' A hid P2 s2 σ H2 z _ ok2 e3 _ fun w P3 H3 ok3 st3 r3 => ?_
      obtain ⟨a, kvs, ea, h1, r⟩ := (st3.rp (st2.rp r1)).dictK hh.1
      cases ea
      obtain ⟨k, hk⟩ := Option.isSome_iff_exists.mp hh.2
      have ek := kD_some hk
      subst ek
      have := r2.key
      subst this
      refine ⟨valV kvs k, .inl ⟨kvs, k, rd_grw mask_le h1, rfl, rfl⟩, ?_⟩
      rcases r.look (k := k) with ⟨v', d', q1, q2, q3⟩ | ⟨q1, q2⟩
      · rw [q2] at q; rw [q1]; exact q _ _ _ ok3 ((st1.trans st2).trans st3) q3
      · rw [q2] at q; rw [q1]; exact q _ _ _ ok3 ((st1.trans st2).trans st3) r3
    · cases e
  · cases e
end
section
variable {X : Cx} {K : PySem.W.Frag} {a b c e : Expr} {ta tb tc : TE} {fa fb fc : M D} {tr : TA} {fr : M (List D)} {p p2 pos pos2 apos cpos : Pos}
theorem de_dgetD (hu : X.A.units + 1 < cLine) (ha : DE X a ta fa) (hb : DE X b tb fb) (hc : DE X c tc fc)
    (h1 : attributeBase a "get" X.env (eval a X.env) = eval a X.env := by rfl) (h2 : ((backTo cpos (starEach [b, c] X.env)).all (fun x => !x.1) && (backToKw cpos (keywordEach [] X.env)).all (fun x => x.1.isSome)
    && decide (([b, c] : List Expr).length + ([] : List Keyword).length + (if ([] : List Keyword).isEmpty then 0 else 1) < 30)) = true := by rfl) (h3 : (apos.endLine == cpos.line) = true := by rfl)
    (h4 : backTo cpos (starEach [b, c] X.env) = [(false, eval b X.env), (false, eval c X.env)] := by rfl) :
    DE X (.Call (.Attribute a "get" apos) [b, c] [] cpos) (tDGet2 ta tb tc) (eOp3 dDGetD fa fb fc) := ⟨pe_dget2 hu ha.p hb.p hc.p ⟨h1, h2, h3, h4⟩, ev_dgetD ha.v hb.v hc.v⟩
end
/-! the pure side -/
section
variable {s : S} {Q : D → S → Prop}
@[simp ↓] theorem wp_eLE {f : M D} : wp (eLE (aCons f aNil)) s Q ↔ wp f s fun d s1 => ∃ ds, (d = .list ds ∨ d = .tuple ds) ∧ Q (.list (enmD ds)) s1 := by
  unfold eLE asE; simp only [wp_bd, wp_aCons, wp_aNil]
  constructor <;> intro h <;> refine wp_mono h fun d s1 q => ?_
  · cases d with
    | list ds => exact ⟨ds, .inl rfl, by simpa only [wp_rtn] using q⟩
    | tuple ds => exact ⟨ds, .inr rfl, by simpa only [wp_rtn] using q⟩
    | _ => simp only [wp_no] at q
  · obtain ⟨ds, rfl | rfl, q⟩ := q <;> simpa only [wp_rtn] using q
@[simp ↓] theorem wp_nRg1 {f : M D} {Q : List D → S → Prop} : wp (nRg1 f) s Q ↔ wp f s fun d s1 => ∃ j : Int, d = .int j ∧ (-(2 ^ 62) ≤ j ∧ j ≤ 1000000) ∧ Q (rngD 0 j.toNat) s1 := by
  unfold nRg1; simp only [wp_bd]
  constructor <;> intro h <;> refine wp_mono h fun d s1 q => ?_
  · cases d with
    | int j =>
      refine ⟨j, rfl, ?_⟩
      by_cases hj : -(2 ^ 62) ≤ j ∧ j ≤ 1000000
      · simp only [if_pos hj, wp_rtn] at q; exact ⟨hj, q⟩
      · simp only [if_neg hj, wp_no] at q
    | _ => exact (wp_no.mp q).elim
  · obtain ⟨j, rfl, hj, q⟩ := q
    simp only [if_pos hj, wp_rtn]; exact q
@[simp ↓] theorem wp_nRg2 {f g : M D} {Q : List D → S → Prop} : wp (nRg2 f g) s Q ↔ wp f s fun x s1 => wp g s1 fun y s2 => ∃ i j : Int, x = .int i ∧ y = .int j ∧ (-(2 ^ 62) ≤ i ∧ i < 2 ^ 62 ∧ -(2 ^ 62) ≤ j ∧ j < 2 ^ 62 ∧ j - i ≤ 1000000) ∧ Q (rngD i (j - i).toNat) s2 := by
  unfold nRg2; simp only [wp_bd]
  constructor <;> intro h <;> refine wp_mono h fun x s1 h => ?_ <;> refine wp_mono h fun y s2 q => ?_
  · cases x with
    | int i => cases y with
      | int j =>
        refine ⟨i, j, rfl, rfl, ?_⟩
        by_cases hj : -(2 ^ 62) ≤ i ∧ i < 2 ^ 62 ∧ -(2 ^ 62) ≤ j ∧ j < 2 ^ 62 ∧ j - i ≤ 1000000
        · simp only [if_pos hj, wp_rtn] at q; exact ⟨hj, q⟩
        · simp only [if_neg hj, wp_no] at q
      | _ => exact (wp_no.mp q).elim
    | _ => exact (wp_no.mp q).elim
  · obtain ⟨i, j, rfl, rfl, hj, q⟩ := q
    simp only [if_pos hj, wp_rtn]; exact q
@[simp ↓] theorem wp_eTR {f : M (List D)} : wp (eTR f) s Q ↔ wp f s fun ds s1 => Q (.tuple ds) s1 := by unfold eTR; simp only [wp_bd, wp_rtn]
@[simp ↓] theorem wp_eOp3 {op : D → D → D → Option D} {fa fb fc : M D} : wp (eOp3 op fa fb fc) s Q ↔ wp fa s fun x s1 => wp fb s1 fun y s2 => wp fc s2 fun z s3 => ∃ d, op x y z = some d ∧ Q d s3 := by
  unfold eOp3; simp only [wp_bd, wp_lf]
@[simp ↓] theorem wp_ePop {i : Nat} : wp (ePop i) s Q ↔ ∃ ds d, s.g[i]? = some (some (.lst ds)) ∧ ds[ds.length - 1]? = some d ∧ Q d ⟨s.g.set i (some (.lst ds.dropLast)), s.k⟩ := by
  constructor
  · rintro ⟨d, s', e, q⟩
    unfold ePop at e
    split at e
    · rename_i ds h
      cases hd : ds[ds.length - 1]? with
      | none => rw [hd] at e; cases e
      | some d0 => rw [hd] at e; cases e; exact ⟨ds, _, h, hd, q⟩
    · cases e
  · rintro ⟨ds, d, h, hd, q⟩
    refine ⟨d, _, ?_, q⟩
    unfold ePop
    simp only [h, hd]; rfl
end
end DL
namespace DL
open PySem PySem.Spec PyProof.Rows L2
/-! DL32: objects of the program's classes: one at a time, in a slot. -/
abbrev FSO := List Val → Dk → Option (D × Ob × Dk)
def ob0 (s : S) : Option Ob := match (s.g[0]? : Option (Option Val)) with
  | some (some (.obj o)) => some o
  | _ => none
/-! ### slots with and without the object -/
def isObj : Option Val → Bool
  | some (.obj _) => true
  | _ => false
def objFree (g : List (Option Val)) : Bool := g.all fun x => !isObj x
section
variable {K : PySem.W.Frag} {A : DA} {hid P : Addr → Prop} {s : S} {σ : St} {H : Hp}
/-- a slot is forgotten -/
theorem SOk.drop {i : Nat} (ok : SOk K A hid P s σ H) : SOk K A hid P ⟨s.g.set i none, s.k⟩ σ H := by
  have back : ∀ (j : Nat) (w : Val), (s.g.set i none)[j]? = some (some w) → s.g[j]? = some (some w) := fun j w e => by
    rw [get_set] at e
    split at e
    · cases e
    · exact e
  exact ⟨ok.trk, ok.hp, ok.hd, by simpa using ok.len, fun j w e => ok.slot j w (back j w e), fun j l w u a e1 e2 => ok.apart j l w u a (back j w e1) (back l u e2), ok.deck⟩
theorem ObOk.there {y : OA} {o : Ob} (h : ObOk K y A P H o) : ∀ a, y.is a → ∃ u, H a = some u ∧ NoT u := by
  obtain ⟨fs, h1, h2, h3, -⟩ := h
  rintro a (rfl | rfl | hl)
  · exact ⟨_, h1, trivial⟩
  · exact ⟨_, h2, trivial⟩
  · clear h1 h2
    revert hl
    generalize y.ls = ls at h3
    generalize o.fs = ov at h3
    intro hl
    induction h3 with
    | nil => cases hl
    | dat _ _ ih => exact ih hl
    | lst e _ _ ih =>
      rcases List.mem_cons.mp hl with rfl | hl
      · exact ⟨_, e, trivial⟩
      · exact ih hl
theorem ArgsOk.no {vs : List V} {xs : List Val} : ∀ {vs : List V} {xs : List Val}, ArgsOk K A.no P H vs xs → ArgsOk K A.ng P H vs xs
  | [], [], h => h
  | v :: vs, x :: xs, h => ⟨by
      have h1 := h.1
      cases x with
      | dat d => exact h1
      | deck => exact h1
      | obj o => obtain ⟨y, z, _⟩ := h1; cases z
      | fn _ => exact h1
      | gst _ => obtain ⟨y, us, z, _⟩ := h1; cases z
      | lst _ => exact h1
      | dct _ _ => exact h1, ArgsOk.no (vs := vs) (xs := xs) h.2⟩
  | [], _ :: _, h => h
  | _ :: _, [], h => h
def noMutOV : OV → Bool
  | .dat d => noMut d
  | .lst ds => noMutA ds
def noMutOb (o : Ob) : Bool := o.fs.all fun p => noMutOV p.2
theorem FldsOk.tupsOnly {P' : Addr → Prop} {H' : Hp} (h : ∀ a o, TupO o → mask P H a = some o → mask P' H a = some o) {fs : List (Str × V)} {ov : List (Str × OV)} {ls : List Addr} (q : FldsOk K P H fs ov ls) (n : (ov.all fun p => noMutOV p.2) = true) : FldsOk K P' H fs ov ls := by
  induction q with
  | nil => exact .nil
  | dat r _ ih =>
    rw [List.all_cons, Bool.and_eq_true] at n
    exact .dat (r.tupsOnly h n.1) (ih n.2)
  | lst e r _ ih =>
    rw [List.all_cons, Bool.and_eq_true] at n
    exact .lst e (r.tupsOnly h n.1) (ih n.2)
end
/-! ### calls that hold the object of slot i -/
def eCallO (i : Nat) (B : List Nat) (sem : FSO) (ok : Ob → Bool) (fr : M (List AV)) : M D := fun s => match s.g[i]? with
  | some (some (.obj o0)) => if ok o0 = true then (bd fr fun avs => fun s1 => match s1.g[i]?, avs.mapM (res s1) with
    | some (some (.obj o)), some xs => if cellsB B s1 = true ∧ objFree (s1.g.set i none) = true then (match sem (.obj o :: xs) s1.k with
      | some (d, o', k') => if (B.isEmpty || (noMut d && noMutOb o')) = true then some (d, ⟨s1.g.set i (some (.obj o')), k'⟩) else none
      | none => none) else none
    | _, _ => none) s else none
  | _ => none
end DL
namespace DL
open PySem PySem.Spec PyProof.Rows L2
/-! DL33: calls with the object, its fields, its making. -/
section
variable {X : Cx} {B : List Nat} {x c m : Str} {p apos pos : Pos} {es : List Expr} {e : Expr} {te : TE} {fe : M D} {tr : TA} {fr : M (List AV)} {k : Nat} {ps : List Str} {sem : FSO}
/-! ### fields -/
def eFldD (c : Str) (i : Nat) (f : Str) : M D := fun s => match s.g[i]? with
  | some (some (.obj o)) => if o.cls = c then (match o.fs.lookup f with
    | some (.dat d) => some (d, s)
    | _ => none) else none
  | _ => none
/-- len(steps.rows), tuple(steps.rows) -/
def eFldL (c : Str) (i : Nat) (f : Str) (op : List D → Option D) : M D := fun s => match s.g[i]? with
  | some (some (.obj o)) => if o.cls = c then (match o.fs.lookup f with
    | some (.lst ds) => (op ds).map fun d => (d, s)
    | _ => none) else none
  | _ => none
def opLen (ds : List D) : Option D := some (.int ds.length)
def opTup (ds : List D) : Option D := some (.tuple ds)
/-! self.rows.append(x), x a name -/
def setL : List (Str × OV) → Str → List D → List (Str × OV)
  | [], _, _ => []
  | (g, x) :: r, f, ds => if (f == g) = true then (g, .lst ds) :: r else (g, x) :: setL r f ds
def sFldApp (c : Str) (i : Nat) (f : Str) (j : Nat) : M Fl := fun s => match s.g[i]?, s.g[j]? with
  | some (some (.obj o)), some (some (.dat d)) => if o.cls = c ∧ objFree (s.g.set i none) = true then (match o.fs.lookup f with
    | some (.lst ds) => if ds.length ≤ lim then some (.nx, ⟨s.g.set i (some (.obj ⟨o.cls, setL o.fs f (ds ++ [d])⟩)), s.k⟩) else none
    | _ => none) else none
  | _, _ => none
/-! ### the making of an object with one list -/
end
end DL
namespace DL
open PySem PySem.Spec PyProof.Rows L2
/-! DL34: x in a tuple of the module; a method's reading named; the wp of objects. -/
section
variable {X : Cx} {x c m : Str} {p apos pos : Pos} {es : List Expr} {e : Expr} {te : TE} {fe : M D} {K : PySem.W.Frag} {a : Addr} {u : Value} {vs : List V} {ds : List D}
structure CstT (K : PySem.W.Frag) (mg : Str → Option Value) (x : Str) (ds : List D) : Prop where
  ex : ∃ (a : Addr) (u : Value) (vs : List V), mg x = some u ∧ RelV (.ref a) u ∧ (∀ H, SqT K H a vs) ∧ ∀ H, RpA K H vs ds
theorem ev_inK {neg : Bool} (hS : ∀ H, SqT K H a vs) (hR : ∀ H, RpA K H vs ds) (ha : EvE K te fe) : EvE K (tOp (rIn K neg) te (tC (.ref a))) (eOp2 (if neg then dNotIn else dIn) fe (eC (.tuple ds))) := by
  intro A hid P s σ H d s' ok h Q q
  obtain ⟨x, s1, h1, h⟩ := bd_some h
  obtain ⟨y, s2, h2, h⟩ := bd_some h
  obtain ⟨h3, rfl⟩ := lf_some h
  obtain ⟨rfl, rfl⟩ := rtn_some h2
  refine ha A hid P s σ H x s' ok h1 _ fun v P1 H1 ok1 st1 r1 => ?_
  have key : ∀ b, dInB x (.tuple ds) = some b → flatV v = true ∧ vs.all flatV = true ∧ inV v vs = b := fun b e => by
    unfold dInB at e
    simp only at e
    split at e
    · rename_i h; cases e
      rw [Bool.and_eq_true] at h
      exact ⟨by rw [r1.flat]; exact h.1, by rw [(hR (mask P1 H1)).flat]; exact h.2, (hR (mask P1 H1)).inF r1 h.1 h.2⟩
    · cases e
  cases neg with
  | true =>
    rw [if_pos rfl] at h3
    unfold dNotIn at h3
    cases hb : dInB x (.tuple ds) with
    | none => rw [hb] at h3; cases h3
    | some b =>
      rw [hb] at h3; cases h3
      obtain ⟨k1, k2, k3⟩ := key b hb
      refine ⟨a, vs, rfl, .inr (hS _), k1, k2, ?_⟩
      rw [k3]
      exact q _ P1 H1 ok1 st1 (.bl _)
  | false =>
    rw [if_neg (by decide)] at h3
    unfold dIn at h3
    cases hb : dInB x (.tuple ds) with
    | none => rw [hb] at h3; cases h3
    | some b =>
      rw [hb] at h3; cases h3
      obtain ⟨k1, k2, k3⟩ := key b hb
      refine ⟨a, vs, rfl, .inr (hS _), k1, k2, ?_⟩
      rw [k3]
      exact q _ P1 H1 ok1 st1 (.bl _)
theorem de_inK (hm : X.mg x = some u) (r : RelV (.ref a) u) (hS : ∀ H, SqT K H a vs) (hR : ∀ H, RpA K H vs ds) (ha : DE X e te fe) (hK : X.K = K := by rfl) (hg : Gl X x := by rfl) (hd : (x == ("__debug__" : Str)) = false := by decide) (hb : behindInMarks .In (.Name x p) = false := by rfl) :
    DE X (.Compare e [.In] [.Name x p] pos) (tOp (rIn K false) te (tC (.ref a))) (eOp2 dIn fe (eC (.tuple ds))) := hK ▸
  ⟨pe_cmpR op_in_seq ha.p (pe_glob hg hm r hd) hb, ev_inK (neg := false) (hK ▸ hS) (hK ▸ hR) ha.v⟩
end
/-! ### wp -/
def fo (sem : FSO) (xs : List Val) (k : Dk) (Q : D → Ob → Dk → Prop) : Prop := ∃ d o' k', sem xs k = some (d, o', k') ∧ Q d o' k'
section
variable {s : S} {Q : D → S → Prop} {Z : Fl → S → Prop}
@[simp ↓] theorem wp_callO {i : Nat} {B : List Nat} {sem : FSO} {okf : Ob → Bool} {fr : M (List AV)} : wp (eCallO i B sem okf fr) s Q ↔ ∃ o0, s.g[i]? = some (some (.obj o0)) ∧ okf o0 = true ∧ wp fr s fun avs s1 => ∃ o xs, s1.g[i]? = some (some (.obj o)) ∧ avs.mapM (res s1) = some xs ∧ cellsB B s1 = true ∧ objFree (s1.g.set i none) = true ∧
    fo sem (.obj o :: xs) s1.k fun d o' k' => (B.isEmpty || (noMut d && noMutOb o')) = true ∧ Q d ⟨s1.g.set i (some (.obj o')), k'⟩ := by
  constructor
  · rintro ⟨d, s', e, q⟩
    unfold eCallO at e
    split at e
    · rename_i o0 hg
      split at e
      · rename_i hk
        obtain ⟨avs, s1, h1, e⟩ := bd_some e
        refine ⟨o0, hg, hk, avs, s1, h1, ?_⟩
        split at e
        · rename_i o xs hg1 hx
          split at e
          · rename_i hc
            split at e
            · rename_i d' o' k' hs
              split at e
              · rename_i hm
                cases e
                exact ⟨o, xs, hg1, hx, hc.1, hc.2, _, _, _, hs, hm, q⟩
              · cases e
            · cases e
          · cases e
        · cases e
      · cases e
    · cases e
  · rintro ⟨o0, hg, hk, avs, s1, h1, o, xs, hg1, hx, hc1, hc2, d, o', k', hs, hm, q⟩
    refine ⟨d, _, ?_, q⟩
    unfold eCallO
    rw [hg]
    simp only [if_pos hk]
    unfold bd
    rw [h1]
    simp only [hg1, hx, hs, if_pos hm, if_pos (And.intro hc1 hc2)]
@[simp ↓] theorem wp_fldL {i : Nat} {c f : Str} {op : List D → Option D} : wp (eFldL c i f op) s Q ↔ ∃ o, s.g[i]? = some (some (.obj o)) ∧ o.cls = c ∧ ∃ ds, o.fs.lookup f = some (.lst ds) ∧ ∃ d, op ds = some d ∧ Q d s := by
  constructor
  · rintro ⟨d, s', e, q⟩
    unfold eFldL at e
    split at e
    · rename_i o hg
      split at e
      · rename_i hc
        split at e
        · rename_i ds hl
          cases ho : op ds with
          | none => rw [ho] at e; cases e
          | some d' => rw [ho] at e; cases e; exact ⟨o, hg, hc, ds, hl, d, ho, q⟩
        · cases e
      · cases e
    · cases e
  · rintro ⟨o, hg, hc, ds, hl, d, ho, q⟩
    refine ⟨d, s, ?_, q⟩
    unfold eFldL
    rw [hg]
    simp only [if_pos hc, hl, ho, Option.map_some]
@[simp ↓] theorem wp_fldD {i : Nat} {c f : Str} : wp (eFldD c i f) s Q ↔ ∃ o, s.g[i]? = some (some (.obj o)) ∧ o.cls = c ∧ ∃ d, o.fs.lookup f = some (.dat d) ∧ Q d s := by
  constructor
  · rintro ⟨d, s', e, q⟩
    unfold eFldD at e
    split at e
    · rename_i o hg
      split at e
      · rename_i hc
        split at e
        · rename_i d' hl
          cases e; exact ⟨o, hg, hc, _, hl, q⟩
        · cases e
      · cases e
    · cases e
  · rintro ⟨o, hg, hc, d, hl, q⟩
    refine ⟨d, s, ?_, q⟩
    unfold eFldD
    rw [hg]
    simp only [if_pos hc, hl]
@[simp ↓] theorem wp_fldApp {i j : Nat} {c f : Str} : wp (sFldApp c i f j) s Z ↔ ∃ o, s.g[i]? = some (some (.obj o)) ∧ ∃ d, s.g[j]? = some (some (.dat d)) ∧ o.cls = c ∧ objFree (s.g.set i none) = true ∧ ∃ ds, o.fs.lookup f = some (.lst ds) ∧ ds.length ≤ lim ∧ Z .nx ⟨s.g.set i (some (.obj ⟨o.cls, setL o.fs f (ds ++ [d])⟩)), s.k⟩ := by
  constructor
  · rintro ⟨fl, s', e, q⟩
    unfold sFldApp at e
    split at e
    · rename_i o d hg hj
      split at e
      · rename_i hc
        split at e
        · rename_i ds hl
          split at e
          · rename_i hlen
            cases e; exact ⟨o, hg, d, hj, hc.1, hc.2, ds, hl, hlen, q⟩
          · cases e
        · cases e
      · cases e
    · cases e
  · rintro ⟨o, hg, d, hj, hc, hf, ds, hl, hlen, q⟩
    refine ⟨_, _, ?_, q⟩
    unfold sFldApp
    rw [hg, hj]
    simp only [if_pos (And.intro hc hf), hl, if_pos hlen]
end
/-! an object of one list -/
def mkL (c f : Str) (ds : List D) : Ob := ⟨c, [(f, .lst ds)]⟩
section
variable {c f g : Str} {ds es : List D}
@[simp] theorem mkL_cls : (mkL c f ds).cls = c := rfl
@[simp] theorem mkL_look : (mkL c f ds).fs.lookup f = some (.lst ds) := by
  show List.lookup f [(f, OV.lst ds)] = _
  rw [List.lookup_cons, beq_self_eq_true]
@[simp] theorem mkL_set : (⟨(mkL c f ds).cls, setL (mkL c f ds).fs f es⟩ : Ob) = mkL c f es := by
  unfold mkL setL
  rw [if_pos (beq_self_eq_true f)]
@[simp] theorem mkL_set' : (⟨c, setL (mkL c f ds).fs f es⟩ : Ob) = mkL c f es := mkL_set
@[simp] theorem noMutOb_mkL : noMutOb (mkL c f ds) = noMutA ds := by
  unfold noMutOb mkL
  rw [List.all_cons, List.all_nil, Bool.and_true]; rfl
end
end DL
namespace DL
open PySem PySem.Spec PyProof.Rows L2
/-! DL35: x, y, z = C(), [], [] where a name is read in a comprehension. -/
end DL
namespace DL
open PySem PySem.Spec PyProof.Rows L2
/-! DL36: for simp: objFree, is None. -/
@[simp] theorem objFree_nil : objFree [] = true := rfl
@[simp] theorem objFree_cons {x : Option Val} {r : List (Option Val)} : objFree (x :: r) = (!DL.isObj x && objFree r) := rfl
@[simp] theorem isObj_none : DL.isObj none = false := rfl
@[simp] theorem isObj_dat {d : D} : DL.isObj (some (.dat d)) = false := rfl
@[simp] theorem isObj_lst {d : List D} : DL.isObj (some (.lst d)) = false := rfl
@[simp] theorem isObj_dct {t : Bool} {d : List (D × D)} : DL.isObj (some (.dct t d)) = false := rfl
@[simp] theorem isObj_deck : DL.isObj (some .deck) = false := rfl
@[simp] theorem ob0_obj {o : Ob} {r : List (Option Val)} {k : Dk} : ob0 ⟨some (.obj o) :: r, k⟩ = some o := rfl
@[simp] theorem dIs_nn : dIs .none .none = some (.bool true) := rfl
@[simp] theorem dIs_in {i : Int} : dIs (.int i) .none = some (.bool false) := rfl
@[simp] theorem opLen_eq {l : List D} : opLen l = some (.int l.length) := rfl
@[simp] theorem opTup_eq {l : List D} : opTup l = some (.tuple l) := rfl
@[simp] theorem setL_mkL {c f : Str} {ds es : List D} : setL (mkL c f ds).fs f es = (mkL c f es).fs := by
  unfold mkL setL
  rw [if_pos (beq_self_eq_true f)]
@[simp] theorem mkL_eta {c f : Str} {es : List D} : (⟨c, (mkL c f es).fs⟩ : Ob) = mkL c f es := rfl
end DL
namespace DL
open PySem PySem.Spec PyProof.Rows L2
/-! DL37: exceptions of own classes, without fields or with one: raise C(), raise C(e), a def that may raise, try. -/
def isCls (K : PySem.W.Frag) (c : Str) (cls : Value) : Prop := ∃ C, cls = .ref C ∧ PySem.W.nsIn K mainGlobals c = some (some (.ref C))
/-- a raised error: its class, its field -/
structure Xt where
  c : Str
  fd : Option (Str × D) := none
instance : Coe String Xt := ⟨fun s => ⟨Str.ofString s, none⟩⟩
inductive RX (α : Type) where
  | ok (a : α)
  | xc (c : Xt)
abbrev MX (α : Type) := S → Option (RX α × S)
def isXt (K : PySem.W.Frag) (P : Addr → Prop) (H : Hp) (c : Xt) (cls : Value) (dx : Option Addr) : Prop := isCls K c.c cls ∧ match c.fd with
  | none => dx = none
  | some (f, d) => ∃ a v, dx = some a ∧ mask P H a = some (.xd [(f, v)]) ∧ Rp K (mask P H) v d
theorem isXt.mono {K : PySem.W.Frag} {P P' : Addr → Prop} {H H' : Hp} {c : Xt} {cls : Value} {dx : Option Addr} (h : isXt K P H c cls dx) (g : Grw (mask P H) (mask P' H')) : isXt K P' H' c cls dx := by
  obtain ⟨h1, h2⟩ := h
  refine ⟨h1, ?_⟩
  obtain ⟨c, fd⟩ := c
  cases fd with
  | none => exact h2
  | some fd =>
    obtain ⟨a, v, e, m, r⟩ := h2
    exact ⟨a, v, e, g _ _ m, r.mono g⟩
theorem isXt.st {K : PySem.W.Frag} {hid P P' : Addr → Prop} {H H' : Hp} {c : Xt} {cls : Value} {dx : Option Addr} (h : isXt K P H c cls dx) (st : Stp hid P P' H H') : isXt K P' H' c cls dx := h.mono st.mg
def XcOk (K : PySem.W.Frag) (A : DA) (hid P : Addr → Prop) (H : Hp) (s' : S) (c : Xt) (W : WX) : Prop := ∀ cls dx σ' P' H', isXt K P' H' c cls dx → SOk K A hid P' s' σ' H' → Stp hid P P' H H' → W cls dx σ' H'
def ROk (K : PySem.W.Frag) (A : DA) (hid P : Addr → Prop) (H : Hp) (s' : S) (D : Ends) (W : WX) : RX Fl → Prop
  | .ok fl => FlOk K A hid P H s' D fl
  | .xc c => XcOk K A hid P H s' c W
theorem ROk.back {K : PySem.W.Frag} {A : DA} {hid P P1 : Addr → Prop} {H H1 : Hp} {s' : S} {D : Ends} {W : WX} {r : RX Fl} (h : ROk K A hid P H s' D W r) (z : Stp hid P P1 H H1) : ROk K A hid P1 H1 s' D W r := by
  cases r with
  | ok fl => exact FlOk.back h z
  | xc c => exact fun cls dx σ2 P2 H2 i o st => h cls dx σ2 P2 H2 i o (z.trans st)
def EvSX (K : PySem.W.Frag) (W : WX) (t : TS) (m : MX Fl) : Prop := ∀ (A : DA) (hid P : Addr → Prop) (s : S) (σ : St) (H : Hp) (r : RX Fl) (s' : S), SOk K A hid P s σ H → m s = some (r, s') →
  ∀ D : Ends, ROk K A hid P H s' D W r → t D σ H
def EvEX (K : PySem.W.Frag) (W : WX) (te : TE) (f : MX D) : Prop := ∀ (A : DA) (hid P : Addr → Prop) (s : S) (σ : St) (H : Hp) (r : RX D) (s' : S), SOk K A hid P s σ H → f s = some (r, s') →
  ∀ Q : VK, (match r with
    | .ok d => ∀ v P' H', SOk K A hid P' s' σ H' → Stp hid P P' H H' → Rp K (mask P' H') v d → Q v H'
    | .xc c => ∀ cls dx P' H', isXt K P' H' c cls dx → SOk K A hid P' s' σ H' → Stp hid P P' H H' → W cls dx σ H') → te σ H Q
structure DSsX (X : Cx) (W : WX) (st : List Stmt) (t : TS) (m : MX Fl) : Prop where
  p : PSs X st t
  v : EvSX X.K W t m
structure DSX (X : Cx) (W : WX) (st : Stmt) (t : TS) (m : MX Fl) : Prop where
  p : PS X st t
  v : EvSX X.K W t m
structure DEX (X : Cx) (W : WX) (e : Expr) (t : TE) (m : MX D) : Prop where
  p : PE X e t
  v : EvEX X.K W t m
def xLf (m : M Fl) : MX Fl := fun s => (m s).map fun q => (.ok q.1, q.2)
def xRaise (c : Str) : MX Fl := fun s => some (.xc ⟨c, none⟩, s)
/-- raise C(e), C's one field being f -/
def xRaiseF (c f : Str) (m : M D) : MX Fl := fun s => match m s with
  | some (d, s1) => some (.xc ⟨c, some (f, d)⟩, s1)
  | none => none
def xSeq (m n : MX Fl) : MX Fl := fun s => match m s with
  | some (.ok .nx, s1) => n s1
  | r => r
def xIf (c : M Bool) (m n : MX Fl) : MX Fl := fun s => match c s with
  | some (b, s1) => if b = true then m s1 else n s1
  | none => none
def xRet (f : MX D) : MX Fl := fun s => match f s with
  | some (.ok d, s1) => some (.ok (.rt d), s1)
  | some (.xc c, s1) => some (.xc c, s1)
  | none => none
def xAsg (f : MX D) (g : D → M Unit) : MX Fl := fun s => match f s with
  | some (.ok d, s1) => (match g d s1 with
    | some (_, s2) => some (.ok .nx, s2)
    | none => none)
  | some (.xc c, s1) => some (.xc c, s1)
  | none => none
abbrev FSX := List Val → Dk → Option (RX D × Dk)
def xCall (sem : FSX) (fr : M (List AV)) : MX D := fun s => match fr s with
  | some (avs, s1) => (match avs.mapM (res s1) with
    | some xs => (match sem xs s1.k with
      | some (r, k') => some (r, { s1 with k := k' })
      | none => none)
    | none => none)
  | none => none
section
variable {K : PySem.W.Frag} {W : WX} {t u : TS} {te : TE} {m n : MX Fl} {f : MX D}
theorem ev_xlf {m : M Fl} (h : EvS K t m) : EvSX K W t (xLf m) := by
  intro A hid P s σ H r s' ok e D q
  unfold xLf at e
  cases hm : m s with
  | none => rw [hm] at e; cases e
  | some x =>
    rw [hm] at e; cases e
    exact h A hid P s σ H x.1 x.2 ok hm D q
theorem ev_xseq (h1 : EvSX K W t m) (h2 : EvSX K W u n) : EvSX K W (tSeq t u) (xSeq m n) := by
  intro A hid P s σ H r s' ok e D q
  unfold xSeq at e
  cases hm : m s with
  | none => rw [hm] at e; cases e
  | some x =>
    obtain ⟨r1, s1⟩ := x
    rw [hm] at e
    refine h1 A hid P s σ H r1 s1 ok hm { D with nx := u D } ?_
    cases r1 with
    | xc c => cases e; exact q
    | ok fl =>
      cases fl with
      | nx =>
        intro σ1 P1 H1 ok1 st1
        exact h2 A hid P1 s1 σ1 H1 r s' ok1 e D (q.back st1)
      | rt d => cases e; exact q
      | bk => cases e; exact q
      | ct => cases e; exact q
theorem ev_xret (h : EvEX K W te f) : EvSX K W (tRet te) (xRet f) := by
  intro A hid P s σ H r s' ok e D q
  unfold xRet at e
  cases hf : f s with
  | none => rw [hf] at e; cases e
  | some x =>
    obtain ⟨r1, s1⟩ := x
    rw [hf] at e
    refine h A hid P s σ H r1 s1 ok hf _ ?_
    cases r1 with
    | ok d => cases e; exact fun v P' H' ok' st' rv => q v σ P' H' ok' st' rv
    | xc c => cases e; exact fun cls dx P' H' i ok' st' => q cls dx σ P' H' i ok' st'
theorem ev_xif {tc : TT} {g : M Bool} (hc : EvT K tc g) (h1 : EvSX K W t m) (h2 : EvSX K W u n) : EvSX K W (tIfS tc t u) (xIf g m n) := by
  intro A hid P s σ H r s' ok e D q
  unfold xIf at e
  cases hg : g s with
  | none => rw [hg] at e; cases e
  | some x =>
    obtain ⟨b, s1⟩ := x
    rw [hg] at e
    refine hc A hid P s σ H b s1 ok hg _ fun P1 H1 ok1 st1 => ?_
    cases b with
    | true => dsimp only at e; rw [if_pos rfl] at e ⊢; exact h1 A hid P1 s1 σ H1 r s' ok1 e D (q.back st1)
    | false => dsimp only at e; rw [if_neg Bool.false_ne_true] at e ⊢; exact h2 A hid P1 s1 σ H1 r s' ok1 e D (q.back st1)
/-! a call that may raise -/
def spX (K : PySem.W.Frag) (sem : FSX) : Sp := fun vs H Q E => ∃ (A : DA) (P : Addr → Prop) (xs : List Val) (k : Dk) (r : RX D) (k' : Dk), A.x = none ∧ Trk P H ∧ DkOk K A P H k ∧ ArgsOk K A P H vs xs ∧ sem xs k = some (r, k') ∧
  (match r with
    | .ok d => ∀ v H', (∀ a o, H a = some o → ¬ A.is a → H' a = some o) → DkOk K A P H' k' → Rp K (mask P H') v d → Q v H'
    | .xc c => ∀ cls dx H', isXt K P H' c cls dx → (∀ a o, H a = some o → ¬ A.is a → H' a = some o) → DkOk K A P H' k' → E cls dx H')
def semOX (np n : Nat) (m : MX Fl) : FSX := fun xs k => if xs.length = np then (match m ⟨xs.map some ++ List.replicate (n - xs.length) none, k⟩ with
  | some (.ok (.rt d), s') => some (.ok d, s'.k)
  | some (.ok .nx, s') => some (.ok .none, s'.k)
  | some (.xc c, s') => some (.xc c, s'.k)
  | _ => none) else none
theorem ev_xcall {sem : FSX} {tr : TA} {fr : M (List AV)} (h : EvV K [] tr fr) : EvEX K W (tCallS (spX K sem) (WE W) tr) (xCall sem fr) := by
  intro A hid P s σ H r s' ok e Q q
  unfold xCall at e
  cases hf : fr s with
  | none => rw [hf] at e; cases e
  | some x =>
    obtain ⟨avs, s1⟩ := x
    rw [hf] at e
    dsimp only at e
    cases hx : avs.mapM (res s1) with
    | none => rw [hx] at e; cases e
    | some xs =>
      rw [hx] at e
      dsimp only at e
      cases hs : sem xs s1.k with
      | none => rw [hs] at e; cases e
      | some y =>
        obtain ⟨r1, k1⟩ := y
        rw [hs] at e
        cases e
        refine h A hid P s σ H avs s1 ok hf _ fun vs P1 H1 ok1 st1 r1' => ?_
        have ar := avs_args ok1 r1' hx
        have nB : ∀ a, A.no.is a → Pb P1 σ [] a := fun a z => ⟨ok1.deck.rs a (DA.no_is z), fun i iB => by simp at iB⟩
        refine ⟨A.no, Pb P1 σ [], xs, s1.k, _, _, rfl, fun a z => ok1.trk a z.1, ⟨ok1.deck.ho, ok1.deck.hg, ok1.deck.hc, nB, ok1.deck.og, ok1.deck.oc, ok1.deck.gc, ok1.deck.tb, ok1.deck.tk⟩, ar, hs, ?_⟩
        cases r with
        | ok d =>
          intro v H' hk dk rv
          obtain ⟨ok2, st2⟩ := sok_after ok1 hk dk
          exact q v P1 H' ok2 (st1.trans st2) (rv.mono (mask_grw fun a o ha na => ⟨fun z => na ⟨z, fun i iB => by simp at iB⟩, ha⟩))
        | xc c =>
          intro cls dx H' i hk dk
          obtain ⟨ok2, st2⟩ := sok_after ok1 hk dk
          exact q cls dx P1 H' (i.mono (mask_grw fun a o ha na => ⟨fun z => na ⟨z, fun i iB => by simp at iB⟩, ha⟩)) ok2 (st1.trans st2)
end
section
variable {P : Program} {w : World} {K : PySem.W.Frag} {mg : Str → Option Value} {base : Heap}
theorem fnX_of {x qual : Str} {st : Stmt} {f : Addr} {fd : FuncData} {N ps : List Str} {k : Nat} {m : MX Fl} (F : Fun K x qual st f fd) (Sc : FnScope N ps (defScope st))
    (body : ∀ (cdv : Value) (A : Around) (outer : List Env) (s : Shared) (H : Hp) (E : XK), Room k (A.deeper (envOfC qual (defScope st) s.heap.objs.size f cdv)) →
      ∃ t, DSsX (cxOf (L2.CX P w) P w K mg base N qual (defScope st) f cdv A outer s H E) (fun cls d _ H => E cls d H) (defBody st) t m) : FnOk P w K mg base (L2.CX P w) (k + 1) f fd ps (spX K (semOX ps.length N.length m)) := by
  refine F.okX Sc (fun vs H Q E h => ?_) (fun cdv A outer s H vs Q E hr h => ?_)
  · obtain ⟨A, R, xs, k, r, k', _, t, dk, ar, e, _⟩ := h
    unfold semOX at e
    split at e
    · rename_i hl; rw [ar.length]; exact hl
    · cases e
  · obtain ⟨A0, R, xs, k0, r0, k', _, t, dk, ar, e, q⟩ := h
    obtain ⟨tt, hD⟩ := body cdv A outer s H E hr
    refine ⟨tt, hD.p, ?_⟩
    unfold semOX at e
    split at e
    · have ok := sok_start (N := N) t dk ar
      have done : ∀ (P' : Addr → Prop) (H' : Hp) (s' : S) (σ' : St), SOk K A0 (fun a => R a ∧ ¬ A0.is a) P' s' σ' H' → Stp (fun a => R a ∧ ¬ A0.is a) R P' H H' →
          (∀ a o, H a = some o → ¬ A0.is a → H' a = some o) ∧ DkOk K A0 R H' s'.k ∧ Grw (mask P' H') (mask R H') := fun P' H' s' σ' ok' st' => by
        refine ⟨fun a o ha na => st'.keep a o ha ?_, ⟨ok'.deck.ho, ok'.deck.hg, ok'.deck.hc, dk.rs, dk.og, dk.oc, dk.gc, ok'.deck.tb, ok'.deck.tk⟩, mask_grw fun a o ha na => ⟨fun z => na ?_, ha⟩⟩
        · by_cases hR : R a
          · exact .inl ⟨hR, na⟩
          · exact .inr hR
        · by_cases hA : A0.is a
          · exact ok'.deck.rs a hA
          · exact ok'.hp a ⟨z, hA⟩
      cases hm : m ⟨xs.map some ++ List.replicate (N.length - xs.length) none, k0⟩ with
      | none => rw [hm] at e; cases e
      | some r =>
        obtain ⟨r, s'⟩ := r
        rw [hm] at e
        refine hD.v A0 _ R _ _ H r s' ok hm _ ?_
        cases r with
        | xc c =>
          cases e
          intro cls dx σ' P' H' i ok' st'
          obtain ⟨h1, h2, h3⟩ := done P' H' s' σ' ok' st'
          exact q cls dx H' (i.mono h3) h1 h2
        | ok fl =>
          cases fl with
          | nx =>
            cases e
            intro σ' P' H' ok' st'
            obtain ⟨h1, h2, _⟩ := done P' H' s' σ' ok' st'
            exact q .non H' h1 h2 .non
          | rt d2 =>
            cases e
            intro v σ' P' H' ok' st' r
            obtain ⟨h1, h2, h3⟩ := done P' H' s' σ' ok' st'
            exact q v H' h1 h2 (r.mono h3)
          | bk => cases e
          | ct => cases e
    · cases e
end
/-- a def that may raise -/
structure FnX (P : Program) (w : World) (K : PySem.W.Frag) (mg : Str → Option Value) (base : Heap) (k : Nat) (x : Str) (ps : List Str) (kws : List (List Str × List Nat)) (sem : FSX) : Prop where
  ex : ∃ (f : Addr) (fd : FuncData), FnOk P w K mg base (L2.CX P w) k f fd ps (spX K sem) ∧ mg x = some (.ref f) ∧ PySem.W.keepIn K (.ref f) = true ∧ Binds K fd ps [] ∧
    ∀ q ∈ kws, KBinds K fd ps q.1 (gK q.2) (gK q.2)
section
variable {X : Cx} {W : WX} {x : Str} {p pos : Pos} {e : Expr} {es : List Expr} {tr : TA} {fr : M (List AV)} {k : Nat} {ps : List Str} {kws : List (List Str × List Nat)} {sem : FSX}
theorem de_xcall (F : FnX X.prog X.w X.K X.mg X.base k x ps kws sem) (tk : Takes X W) (hr : Room k X.A) (hg : Gl X x) (ha : DV X (e :: es) [] tr fr) (hdb : (x == ("__debug__" : Str)) = false := by decide) (he : starEach (e :: es) X.env = (false, eval e X.env) :: starEach es X.env := by rfl)
    (hpl : (backTo pos (starEach es X.env)).any (·.1) = false := by rfl) : DEX X W (.Call (.Name x p) (e :: es) [] pos) (tCallS (spX X.K sem) (WE W) tr) (xCall sem fr) := by
  obtain ⟨f, fd, F1, hm, hk, hb, _⟩ := F.ex
  exact ⟨pe_callS F1 hr hg hm hk hb (fun σ => passAt tk σ) ha.p hdb he hpl, ev_xcall ha.v⟩
end
end DL
namespace DL
open PySem PySem.Spec PyProof.Rows L2
/-! DL38: statements that may raise, put together; try .. except C as e: return ... -/
def XSX (X : Cx) (W : WX) (sts : List Stmt) (m : MX Fl) : Prop := ∃ t, DSsX X W sts t m
def X1X (X : Cx) (W : WX) (st : Stmt) (m : MX Fl) : Prop := ∃ t, DSX X W st t m
section
variable {X : Cx} {W : WX} {st : Stmt} {rest p q : List Stmt} {m n : MX Fl} {pos : Pos} {e : Expr} {t : TS}
theorem PS.nox1 (h : PS X.nox st t) : PS X st t := ⟨fun pins s σ H D I hw =>
  wpAny_mono (h.run pins s σ H D (I.wish _) hw) (fun _ _ q => q.unwish) fun _ _ z => False.elim z⟩
theorem xx_one (h : X1X X W st m) : XSX X W [st] m := by
  obtain ⟨t, h⟩ := h
  exact ⟨t, pss_one h.p, h.v⟩
theorem xx_cons (h : X1X X W st m) (hr : XSX X W rest n) : XSX X W (st :: rest) (xSeq m n) := by
  obtain ⟨t, h⟩ := h
  obtain ⟨u, hr⟩ := hr
  exact ⟨_, pss_cons h.p hr.p, ev_xseq h.v hr.v⟩
theorem xx_lf {m : M Fl} (h : X1 X.nox st m) : X1X X W st (xLf m) := by
  obtain ⟨t, h⟩ := h
  exact ⟨t, PS.nox1 h.p, ev_xlf h.v⟩
theorem xx_lfs {m : M Fl} (h : XS X.nox rest m) : XSX X W rest (xLf m) := by
  obtain ⟨t, h⟩ := h
  exact ⟨t, h.p.nox, ev_xlf h.v⟩
theorem xx_if {c : Expr} {tc : TT} {g : M Bool} (hc : DT X c tc g) (ha : XSX X W p m) (hb : XSX X W q n) : X1X X W (.If c p q pos) (xIf g m n) := by
  obtain ⟨t, ha⟩ := ha
  obtain ⟨u, hb⟩ := hb
  exact ⟨_, ps_if hc.p ha.p hb.p, ev_xif hc.v ha.v hb.v⟩
theorem xx_ret {te : TE} {f : MX D} (h : DEX X W e te f) : X1X X W (.Return (some e) pos) (xRet f) := ⟨_, ps_ret h.p, ev_xret h.v⟩
theorem fnX_of' {P : Program} {w : World} {K : PySem.W.Frag} {mg : Str → Option Value} {base : Heap} {x qual : Str} {st : Stmt} {f : Addr} {fd : FuncData} {N ps : List Str} {k : Nat} {m : MX Fl} (F : Fun K x qual st f fd) (Sc : FnScope N ps (defScope st))
    (body : ∀ (cdv : Value) (A : Around) (outer : List Env) (s : Shared) (H : Hp) (E : XK), Room k (A.deeper (envOfC qual (defScope st) s.heap.objs.size f cdv)) → Takes (cxOf (L2.CX P w) P w K mg base N qual (defScope st) f cdv A outer s H E) (fun cls d _ H => E cls d H) →
      XSX (cxOf (L2.CX P w) P w K mg base N qual (defScope st) f cdv A outer s H E) (fun cls d _ H => E cls d H) (defBody st) m) : FnOk P w K mg base (L2.CX P w) (k + 1) f fd ps (spX K (semOX ps.length N.length m)) :=
  fnX_of F Sc fun cdv A outer s H E hr => body cdv A outer s H E hr (takes_of rfl rfl rfl rfl)
end
/-! a keyword call that may raise -/
/-! ### what an except suite answers: constants that hang on the error's class alone -/
abbrev HF := Xt → Option D
def HEv (K : PySem.W.Frag) (i : Nat) (te : Addr → Value → Option Addr → TE) (h : HF) : Prop := ∀ a cls dx c d0, h c = some d0 → ∀ A hid P s σ H, isXt K P H c cls dx → SOk K A hid P s σ H → σ[i]? = some (some (.ref a)) → ∀ Q : VK,
  (∀ v P' H', SOk K A hid P' s σ H' → Stp hid P P' H H' → Rp K (mask P' H') v d0 → Q v H') → te a cls dx σ H Q
def HE (X : Cx) (i : Nat) (e : Expr) (h : HF) : Prop := ∃ te : Addr → Value → Option Addr → TE,
  (∀ a oe cls d pn, Zc cls d oe → (∃ vs, oe.data = .fields vs) → PE (X.suite a ((a, oe) :: pn)) e (te a cls d)) ∧ HEv X.K i te h
def HA (X : Cx) (i : Nat) (es : List Expr) (h : Xt → Option (List D)) : Prop := ∃ te : Addr → Value → Option Addr → TA,
  (∀ a oe cls d pn, Zc cls d oe → (∃ vs, oe.data = .fields vs) → PA (X.suite a ((a, oe) :: pn)) es (te a cls d)) ∧
  ∀ a cls dx c ds, h c = some ds → ∀ A hid P s σ H, isXt X.K P H c cls dx → SOk X.K A hid P s σ H → σ[i]? = some (some (.ref a)) → ∀ Q : List V → Hp → Prop,
    (∀ vs P' H', SOk X.K A hid P' s σ H' → Stp hid P P' H H' → RpA X.K (mask P' H') vs ds → Q vs H') → te a cls dx σ H Q
section
variable {X : Cx} {i : Nat} {e a b : Expr} {es : List Expr} {h ha hb : HF} {pos : Pos}
theorem he_str {x : Str} {j p0} : HE X i (.Constant (.str x) j p0) (fun _ => some (.str x)) := ⟨fun _ _ _ => tC (.str x), fun _ _ _ _ _ _ _ => pe_str, fun _ _ _ _ _ e _ _ P _ _ H _ ok _ Q q => by cases e; exact q _ P H ok Stp.refl (.str _)⟩
theorem ha_nil : HA X i [] (fun _ => some []) := ⟨fun _ _ _ => tNil, fun _ _ _ _ _ _ _ => pa_nil, fun _ _ _ _ _ e _ _ P _ _ H _ ok _ Q q => by cases e; exact q _ P H ok Stp.refl .nil⟩
theorem ha_cons {hr : Xt → Option (List D)} (h1 : HE X i e h) (h2 : HA X i es hr) (he : starEach (e :: es) X.env = (false, eval e X.env) :: starEach es X.env := by rfl) : HA X i (e :: es) (fun c => match h c, hr c with
    | some d, some ds => some (d :: ds)
    | _, _ => none) := by
  obtain ⟨t1, p1, v1⟩ := h1
  obtain ⟨t2, p2, v2⟩ := h2
  refine ⟨fun a cls d => tCons (t1 a cls d) (t2 a cls d), fun a oe cls d pn hz hf => pa_cons (p1 a oe cls d pn hz hf) (p2 a oe cls d pn hz hf) he, ?_⟩
  intro a cls dx c ds e A hid P s σ H hc ok hs Q q
  cases q1 : h c with
  | none => simp only [q1] at e; cases e
  | some d =>
    cases q2 : hr c with
    | none => simp only [q1, q2] at e; cases e
    | some dr =>
      simp only [q1, q2] at e
      cases e
      refine v1 a cls dx c d q1 A hid P s σ H hc ok hs _ fun v P1 H1 ok1 st1 r1 => ?_
      refine v2 a cls dx c dr q2 A hid P1 s σ H1 (hc.st st1) ok1 hs _ fun vs P2 H2 ok2 st2 r2 => ?_
      exact q _ P2 H2 ok2 (st1.trans st2) (.cons (st2.rp r1) r2)
/-- a class by its name: an own one or one of Python's -/
def NamV (K : PySem.W.Frag) (mg : Str → Option Value) (x : Str) (v : V) (cv : Value) : Prop := (∃ C, v = .ref C ∧ cv = .ref C ∧ mg x = some (.ref C)) ∨ (∃ n, v = .ty n ∧ cv = .type n ∧ mg x = none ∧ bootBuiltins x = some (.type n) ∧ x ≠ "__name__")
theorem NamV.uniq {K : PySem.W.Frag} {mg : Str → Option Value} {x : Str} {v : V} {cv : Value} (h : NamV K mg x v cv) : ∀ u, RelV v u → u = cv := by
  rcases h with ⟨C, rfl, rfl, hm⟩ | ⟨n, rfl, rfl, hm, hb, hn⟩
  · exact fun u r => r
  · exact fun u r => r
theorem he_lst {hr : Xt → Option (List D)} (h1 : HA X i es hr) : HE X i (.List es pos) (fun c => match hr c with
    | some ds => if ds.length ≤ lim then some (.list ds) else none
    | none => none) := by
  obtain ⟨t1, p1, v1⟩ := h1
  refine ⟨fun a cls d => tLst (t1 a cls d), fun a oe cls d pn hz hf => pe_lst (p1 a oe cls d pn hz hf), ?_⟩
  intro a cls dx c d0 e A hid P s σ H hc ok hs Q q
  cases q1 : hr c with
  | none => simp only [q1] at e; cases e
  | some ds =>
    simp only [q1] at e
    split at e
    · rename_i hl
      cases e
      refine v1 a cls dx c ds q1 A hid P s σ H hc ok hs _ fun vs P1 H1 ok1 st1 r1 => ⟨by rw [r1.length]; exact lim_le hl, fun p hp => ?_⟩
      have g := Grw.new (o := HO.lst vs) hp
      exact q _ P1 _ (ok1.grw g) (st1.trans (Stp.grw g)) (rp_newL ok1.trk hp r1)
    · cases e
end
/-! ### try -/
def sTry (i : Nat) (cs : List Str) (m : MX Fl) (h : HF) : M Fl := fun s => match m s with
  | some (.ok fl, s') => some (fl, s')
  | some (.xc c, s') => if c.c ∈ cs ∧ i < s'.g.length then (h c).map fun d => (.rt d, ⟨s'.g.set i none, s'.k⟩) else none
  | none => none
end DL
namespace DL
open PySem PySem.Spec PyProof.Rows L2
/-! DL39: the handlers' words; wp of what may raise. -/
def tblOf (l : List (Str × Bool)) (c : Str) : Option Bool := l.lookup c
def hStr (x : Str) : HF := fun _ => some (.str x)
def hNil : Xt → Option (List D) := fun _ => some []
def hCons (h : HF) (hr : Xt → Option (List D)) : Xt → Option (List D) := fun c => match h c, hr c with
  | some d, some ds => some (d :: ds)
  | _, _ => none
def hLst (hr : Xt → Option (List D)) : HF := fun c => match hr c with
  | some ds => if ds.length ≤ lim then some (.list ds) else none
  | none => none
section
variable {X : Cx} {i : Nat} {e a b : Expr} {es : List Expr} {h ha hb : HF} {pos : Pos}
theorem hs_str {x : Str} {j p0} : HE X i (.Constant (.str x) j p0) (hStr x) := he_str
theorem hs_nil : HA X i [] hNil := ha_nil
theorem hs_cons {hr : Xt → Option (List D)} (h1 : HE X i e h) (h2 : HA X i es hr) (he : starEach (e :: es) X.env = (false, eval e X.env) :: starEach es X.env := by rfl) : HA X i (e :: es) (hCons h hr) := ha_cons h1 h2 he
theorem hs_lst {hr : Xt → Option (List D)} (h1 : HA X i es hr) : HE X i (.List es pos) (hLst hr) := he_lst h1
end
/-! wp -/
def fx (sem : FSX) (xs : List Val) (k : Dk) (Q : RX D → Dk → Prop) : Prop := ∃ r k', sem xs k = some (r, k') ∧ Q r k'
theorem fx_of {np n : Nat} {m : MX Fl} {xs : List Val} {k : Dk} {Q : RX D → Dk → Prop} (hl : xs.length = np) (h : wp (α := RX Fl) m ⟨xs.map some ++ List.replicate (n - xs.length) none, k⟩ fun r s' => (∃ d, r = .ok (.rt d) ∧ Q (.ok d) s'.k) ∨ ∃ c, r = .xc c ∧ Q (.xc c) s'.k) : fx (semOX np n m) xs k Q := by
  obtain ⟨fl, s', e, q⟩ := h
  unfold fx semOX
  rw [if_pos hl, e]
  rcases q with ⟨d, rfl, q⟩ | ⟨c, rfl, q⟩
  · exact ⟨_, _, rfl, q⟩
  · exact ⟨_, _, rfl, q⟩
section
variable {s : S} {Q : RX Fl → S → Prop} {Z : Fl → S → Prop}
@[simp ↓] theorem wp_xLf {m : M Fl} : wp (α := RX Fl) (xLf m) s Q ↔ wp m s fun fl s1 => Q (.ok fl) s1 := by
  unfold wp xLf
  constructor
  · rintro ⟨a, s', e, q⟩
    cases h : m s with
    | none => rw [h] at e; cases e
    | some x => rw [h] at e; cases e; exact ⟨x.1, x.2, rfl, q⟩
  · rintro ⟨a, s', e, q⟩
    exact ⟨_, _, by rw [e]; rfl, q⟩
@[simp ↓] theorem wp_xRaise {c : Str} : wp (α := RX Fl) (xRaise c) s Q ↔ Q (.xc ⟨c, none⟩) s := ⟨fun ⟨_, _, e, q⟩ => by cases e; exact q, fun q => ⟨_, _, rfl, q⟩⟩
@[simp ↓] theorem wp_xRaiseF {c f : Str} {m : M D} : wp (α := RX Fl) (xRaiseF c f m) s Q ↔ wp m s fun d s1 => Q (.xc ⟨c, some (f, d)⟩) s1 := by
  unfold wp xRaiseF
  constructor
  · rintro ⟨a, s', e, q⟩
    cases h : m s with
    | none => rw [h] at e; cases e
    | some x => rw [h] at e; cases e; exact ⟨x.1, x.2, rfl, q⟩
  · rintro ⟨d, s', e, q⟩
    exact ⟨_, _, by rw [e], q⟩
@[simp ↓] theorem wp_xSeq {m n : MX Fl} : wp (α := RX Fl) (xSeq m n) s Q ↔ wp (α := RX Fl) m s fun r s1 => match r with
    | .ok .nx => wp (α := RX Fl) n s1 Q
    | r => Q r s1 := by
  unfold wp xSeq
  constructor
  · rintro ⟨a, s', e, q⟩
    cases h : m s with
    | none => rw [h] at e; cases e
    | some x =>
      obtain ⟨r, s1⟩ := x
      rw [h] at e
      refine ⟨r, s1, rfl, ?_⟩
      cases r with
      | xc c => cases e; exact q
      | ok fl => cases fl <;> first | exact ⟨a, s', e, q⟩ | (cases e; exact q)
  · rintro ⟨r, s1, e, q⟩
    rw [e]
    cases r with
    | xc c => exact ⟨_, _, rfl, q⟩
    | ok fl =>
      cases fl with
      | nx => obtain ⟨a, s', e2, q⟩ := q; exact ⟨a, s', e2, q⟩
      | rt d => exact ⟨_, _, rfl, q⟩
      | bk => exact ⟨_, _, rfl, q⟩
      | ct => exact ⟨_, _, rfl, q⟩
@[simp ↓] theorem wp_xIf {c : M Bool} {m n : MX Fl} : wp (α := RX Fl) (xIf c m n) s Q ↔ wp c s fun b s1 => if b = true then wp (α := RX Fl) m s1 Q else wp (α := RX Fl) n s1 Q := by
  unfold wp xIf
  constructor
  · rintro ⟨a, s', e, q⟩
    cases h : c s with
    | none => rw [h] at e; cases e
    | some x =>
      obtain ⟨b, s1⟩ := x
      rw [h] at e
      refine ⟨b, s1, rfl, ?_⟩
      cases b
      · exact ⟨a, s', e, q⟩
      · exact ⟨a, s', e, q⟩
  · rintro ⟨b, s1, e, q⟩
    rw [e]
    cases b
    · obtain ⟨a, s', e2, q⟩ := q; exact ⟨a, s', e2, q⟩
    · obtain ⟨a, s', e2, q⟩ := q; exact ⟨a, s', e2, q⟩
@[simp ↓] theorem wp_xRet {f : MX D} : wp (α := RX Fl) (xRet f) s Q ↔ wp (α := RX D) f s fun r s1 => match r with
    | .ok d => Q (.ok (.rt d)) s1
    | .xc c => Q (.xc c) s1 := by
  unfold wp xRet
  constructor
  · rintro ⟨a, s', e, q⟩
    cases h : f s with
    | none => rw [h] at e; cases e
    | some x =>
      obtain ⟨r, s1⟩ := x
      rw [h] at e
      cases r with
      | ok d => cases e; exact ⟨_, _, rfl, q⟩
      | xc c => cases e; exact ⟨_, _, rfl, q⟩
  · rintro ⟨r, s1, e, q⟩
    rw [e]
    cases r with
    | ok d => exact ⟨_, _, rfl, q⟩
    | xc c => exact ⟨_, _, rfl, q⟩
@[simp ↓] theorem wp_xCall {sem : FSX} {fr : M (List AV)} {Q : RX D → S → Prop} : wp (α := RX D) (xCall sem fr) s Q ↔ wp fr s fun avs s1 => ∃ xs, avs.mapM (res s1) = some xs ∧ fx sem xs s1.k fun r k' => Q r ⟨s1.g, k'⟩ := by
  unfold wp xCall fx
  constructor
  · rintro ⟨a, s', e, q⟩
    cases h : fr s with
    | none => rw [h] at e; cases e
    | some x =>
      obtain ⟨avs, s1⟩ := x
      rw [h] at e
      dsimp only at e
      refine ⟨avs, s1, rfl, ?_⟩
      cases hx : avs.mapM (res s1) with
      | none => rw [hx] at e; cases e
      | some xs =>
        rw [hx] at e
        dsimp only at e
        cases hs : sem xs s1.k with
        | none => rw [hs] at e; cases e
        | some y =>
          obtain ⟨r, k'⟩ := y
          rw [hs] at e
          cases e
          exact ⟨xs, hx, _, _, hs, q⟩
  · rintro ⟨avs, s1, e, xs, hx, r, k', hs, q⟩
    rw [e]
    dsimp only
    rw [hx]
    dsimp only
    rw [hs]
    exact ⟨_, _, rfl, q⟩
@[simp ↓] theorem wp_sTry {i : Nat} {cs : List Str} {m : MX Fl} {h : HF} : wp (sTry i cs m h) s Z ↔ wp (α := RX Fl) m s fun r s1 => match r with
    | .ok fl => Z fl s1
    | .xc c => (c.c ∈ cs ∧ i < s1.g.length) ∧ ∃ d, h c = some d ∧ Z (.rt d) ⟨s1.g.set i none, s1.k⟩ := by
  unfold wp sTry
  constructor
  · rintro ⟨a, s', e, q⟩
    cases hm : m s with
    | none => rw [hm] at e; cases e
    | some x =>
      obtain ⟨r, s1⟩ := x
      rw [hm] at e
      refine ⟨r, s1, rfl, ?_⟩
      cases r with
      | ok fl => cases e; exact q
      | xc c =>
        dsimp only at e ⊢
        split at e
        · rename_i hc
          cases hd : h c with
          | none => rw [hd] at e; cases e
          | some d => rw [hd] at e; cases e; exact ⟨hc, d, rfl, q⟩
        · cases e
  · rintro ⟨r, s1, e, q⟩
    rw [e]
    cases r with
    | ok fl => exact ⟨_, _, rfl, q⟩
    | xc c =>
      obtain ⟨hc, d, hd, q⟩ := q
      refine ⟨.rt d, _, ?_, q⟩
      dsimp only
      rw [if_pos hc, hd]; rfl
end
end DL
namespace DL
open PySem PySem.Spec PyProof.Rows L2
/-! DL40: a raising def where it does not raise; raising calls in displays and assignments; except C: with a suite of its own. -/
/-- the call, where it does not raise -/
def eCallX (sem : FSX) (fr : M (List AV)) : M D := fun s => match xCall sem fr s with
  | some (.ok d, s') => some (d, s')
  | _ => none
/-! arguments that may raise -/
def xE (f : M D) : MX D := fun s => (f s).map fun q => (.ok q.1, q.2)
def xaNil : MX (List D) := fun s => some (.ok [], s)
def xaCons (f : MX D) (fr : MX (List D)) : MX (List D) := fun s => match f s with
  | some (.ok d, s1) => (match fr s1 with
    | some (.ok ds, s2) => some (.ok (d :: ds), s2)
    | some (.xc c, s2) => some (.xc c, s2)
    | none => none)
  | some (.xc c, s1) => some (.xc c, s1)
  | none => none
def xLst (fr : MX (List D)) : MX D := fun s => match fr s with
  | some (.ok ds, s1) => if ds.length ≤ lim then some (.ok (.list ds), s1) else none
  | some (.xc c, s1) => some (.xc c, s1)
  | none => none
def EvAX (K : PySem.W.Frag) (W : WX) (ta : TA) (f : MX (List D)) : Prop := ∀ (A : DA) (hid P : Addr → Prop) (s : S) (σ : St) (H : Hp) (r : RX (List D)) (s' : S), SOk K A hid P s σ H → f s = some (r, s') →
  ∀ Q : List V → Hp → Prop, (match r with
    | .ok ds => ∀ vs P' H', SOk K A hid P' s' σ H' → Stp hid P P' H H' → RpA K (mask P' H') vs ds → Q vs H'
    | .xc c => ∀ cls dx P' H', isXt K P' H' c cls dx → SOk K A hid P' s' σ H' → Stp hid P P' H H' → W cls dx σ H') → ta σ H Q
structure DAX (X : Cx) (W : WX) (es : List Expr) (t : TA) (m : MX (List D)) : Prop where
  p : PA X es t
  v : EvAX X.K W t m
section
variable {X : Cx} {W : WX} {e : Expr} {es : List Expr} {te : TE} {tr : TA} {f : M D} {fx_ : MX D} {frx : MX (List D)} {pos : Pos} {K : PySem.W.Frag}
theorem dex_e (h : DE X e te f) : DEX X W e te (xE f) := ⟨h.p, by
  intro A hid P s σ H r s' ok e Q q
  unfold xE at e
  cases hm : f s with
  | none => rw [hm] at e; cases e
  | some x =>
    rw [hm] at e; cases e
    exact h.v A hid P s σ H x.1 x.2 ok hm Q q⟩
theorem dax_nil : DAX X W [] tNil xaNil := ⟨pa_nil, by
  intro A hid P s σ H r s' ok e Q q
  cases e
  exact q [] P H ok Stp.refl .nil⟩
theorem dax_cons (h1 : DEX X W e te fx_) (h2 : DAX X W es tr frx) (he : starEach (e :: es) X.env = (false, eval e X.env) :: starEach es X.env := by rfl) : DAX X W (e :: es) (tCons te tr) (xaCons fx_ frx) := ⟨pa_cons h1.p h2.p he, by
  intro A hid P s σ H r s' ok e Q q
  unfold xaCons at e
  cases hf : fx_ s with
  | none => rw [hf] at e; cases e
  | some x =>
    obtain ⟨r1, s1⟩ := x
    rw [hf] at e
    refine h1.v A hid P s σ H r1 s1 ok hf _ ?_
    cases r1 with
    | xc c => cases e; exact q
    | ok d =>
      dsimp only at e
      intro v P1 H1 ok1 st1 rv
      cases hr : frx s1 with
      | none => rw [hr] at e; cases e
      | some y =>
        obtain ⟨r2, s2⟩ := y
        rw [hr] at e
        refine h2.v A hid P1 s1 σ H1 r2 s2 ok1 hr _ ?_
        cases r2 with
        | xc c => cases e; exact fun cls dx P2 H2 i o st => q cls dx P2 H2 i o (st1.trans st)
        | ok ds => cases e; exact fun vs P2 H2 o st rr => q _ P2 H2 o (st1.trans st) (.cons (st.rp rv) rr)⟩
theorem dex_lst (h : DAX X W es tr frx) : DEX X W (.List es pos) (tLst tr) (xLst frx) := ⟨pe_lst h.p, by
  intro A hid P s σ H r s' ok e Q q
  unfold xLst at e
  cases hr : frx s with
  | none => rw [hr] at e; cases e
  | some y =>
    obtain ⟨r2, s2⟩ := y
    rw [hr] at e
    refine h.v A hid P s σ H r2 s2 ok hr _ ?_
    cases r2 with
    | xc c => cases e; exact q
    | ok ds =>
      dsimp only at e
      split at e
      · rename_i hl
        cases e
        intro vs P1 H1 ok1 st1 rr
        refine ⟨by rw [rr.length]; exact lim_le hl, fun p hp => ?_⟩
        have g := Grw.new (o := HO.lst vs) hp
        exact q _ P1 _ (ok1.grw g) (st1.trans (Stp.grw g)) (rp_newL ok1.trk hp rr)
      · cases e⟩
end
/-! except C: suite -/
def sTryO (cs : List Str) (m : MX Fl) (ms : M Fl) : M Fl := fun s => match m s with
  | some (.ok fl, s') => some (fl, s')
  | some (.xc c, s') => if c.c ∈ cs then ms s' else none
  | none => none
/-! wp -/
section
variable {s : S} {Z : Fl → S → Prop}
@[simp ↓] theorem wp_sTryO {cs : List Str} {m : MX Fl} {ms : M Fl} : wp (sTryO cs m ms) s Z ↔ wp (α := RX Fl) m s fun r s1 => match r with
    | .ok fl => Z fl s1
    | .xc c => c.c ∈ cs ∧ wp ms s1 Z := by
  unfold wp sTryO
  constructor
  · rintro ⟨a, s', e, q⟩
    cases hm : m s with
    | none => rw [hm] at e; cases e
    | some x =>
      obtain ⟨r, s1⟩ := x
      rw [hm] at e
      refine ⟨r, s1, rfl, ?_⟩
      cases r with
      | ok fl => cases e; exact q
      | xc c =>
        dsimp only at e ⊢
        split at e
        · rename_i hc; exact ⟨hc, a, s', e, q⟩
        · cases e
  · rintro ⟨r, s1, e, q⟩
    rw [e]
    cases r with
    | ok fl => exact ⟨_, _, rfl, q⟩
    | xc c =>
      obtain ⟨hc, a, s', e2, q⟩ := q
      refine ⟨a, s', ?_, q⟩
      dsimp only
      rw [if_pos hc]; exact e2
@[simp ↓] theorem wp_xAsg {f : MX D} {g : D → M Unit} {Q : RX Fl → S → Prop} : wp (α := RX Fl) (xAsg f g) s Q ↔ wp (α := RX D) f s fun r s1 => match r with
    | .ok d => wp (g d) s1 fun _ s2 => Q (.ok .nx) s2
    | .xc c => Q (.xc c) s1 := by
  unfold wp xAsg
  constructor
  · rintro ⟨a, s', e, q⟩
    cases h : f s with
    | none => rw [h] at e; cases e
    | some x =>
      obtain ⟨r, s1⟩ := x
      rw [h] at e
      refine ⟨r, s1, rfl, ?_⟩
      cases r with
      | xc c => cases e; exact q
      | ok d =>
        dsimp only at e
        cases hg : g d s1 with
        | none => rw [hg] at e; cases e
        | some y => rw [hg] at e; cases e; exact ⟨y.1, y.2, hg, q⟩
  · rintro ⟨r, s1, e, q⟩
    rw [e]
    cases r with
    | xc c => exact ⟨_, _, rfl, q⟩
    | ok d =>
      obtain ⟨u, s2, e2, q⟩ := q
      refine ⟨_, _, ?_, q⟩
      dsimp only
      rw [e2]
end
end DL
namespace DL
open PySem PySem.Spec PyProof.Rows L2
/-! DL41: wp of DL40. -/
section
variable {s : S}
@[simp ↓] theorem wp_callX {sem : FSX} {fr : M (List AV)} {Q : D → S → Prop} : wp (eCallX sem fr) s Q ↔ wp fr s fun avs s1 => ∃ xs, avs.mapM (res s1) = some xs ∧ fx sem xs s1.k fun r k' => ∃ d, r = .ok d ∧ Q d ⟨s1.g, k'⟩ := by
  have h := wp_xCall (s := s) (sem := sem) (fr := fr) (Q := fun r s1 => ∃ d, r = .ok d ∧ Q d s1)
  rw [← h]
  unfold wp eCallX
  constructor
  · rintro ⟨a, s', e, q⟩
    split at e
    · rename_i d s1 hc
      cases e
      exact ⟨_, _, hc, _, rfl, q⟩
    · cases e
  · rintro ⟨r, s1, e, d, rfl, q⟩
    exact ⟨d, s1, by rw [e], q⟩
@[simp ↓] theorem wp_xE {f : M D} {Q : RX D → S → Prop} : wp (α := RX D) (xE f) s Q ↔ wp f s fun d s1 => Q (.ok d) s1 := by
  unfold wp xE
  constructor
  · rintro ⟨a, s', e, q⟩
    cases h : f s with
    | none => rw [h] at e; cases e
    | some x => rw [h] at e; cases e; exact ⟨x.1, x.2, rfl, q⟩
  · rintro ⟨a, s', e, q⟩
    exact ⟨_, _, by rw [e]; rfl, q⟩
@[simp ↓] theorem wp_xaNil {Q : RX (List D) → S → Prop} : wp (α := RX (List D)) xaNil s Q ↔ Q (.ok []) s := ⟨fun ⟨_, _, e, q⟩ => by cases e; exact q, fun q => ⟨_, _, rfl, q⟩⟩
@[simp ↓] theorem wp_xaCons {f : MX D} {fr : MX (List D)} {Q : RX (List D) → S → Prop} : wp (α := RX (List D)) (xaCons f fr) s Q ↔ wp (α := RX D) f s fun r s1 => match r with
    | .ok d => wp (α := RX (List D)) fr s1 fun r2 s2 => (match r2 with
      | .ok ds => Q (.ok (d :: ds)) s2
      | .xc c => Q (.xc c) s2)
    | .xc c => Q (.xc c) s1 := by
  unfold wp xaCons
  constructor
  · rintro ⟨a, s', e, q⟩
    cases h : f s with
    | none => rw [h] at e; cases e
    | some x =>
      obtain ⟨r, s1⟩ := x
      rw [h] at e
      refine ⟨r, s1, rfl, ?_⟩
      cases r with
      | xc c => cases e; exact q
      | ok d =>
        dsimp only at e
        cases hr : fr s1 with
        | none => rw [hr] at e; cases e
        | some y =>
          obtain ⟨r2, s2⟩ := y
          rw [hr] at e
          refine ⟨r2, s2, rfl, ?_⟩
          cases r2 with
          | ok ds => cases e; exact q
          | xc c => cases e; exact q
  · rintro ⟨r, s1, e, q⟩
    rw [e]
    cases r with
    | xc c => exact ⟨_, _, rfl, q⟩
    | ok d =>
      obtain ⟨r2, s2, e2, q⟩ := q
      dsimp only
      rw [e2]
      cases r2 with
      | ok ds => exact ⟨_, _, rfl, q⟩
      | xc c => exact ⟨_, _, rfl, q⟩
@[simp ↓] theorem wp_xLst {fr : MX (List D)} {Q : RX D → S → Prop} : wp (α := RX D) (xLst fr) s Q ↔ wp (α := RX (List D)) fr s fun r s1 => match r with
    | .ok ds => ds.length ≤ lim ∧ Q (.ok (.list ds)) s1
    | .xc c => Q (.xc c) s1 := by
  unfold wp xLst
  constructor
  · rintro ⟨a, s', e, q⟩
    cases h : fr s with
    | none => rw [h] at e; cases e
    | some x =>
      obtain ⟨r, s1⟩ := x
      rw [h] at e
      refine ⟨r, s1, rfl, ?_⟩
      cases r with
      | xc c => cases e; exact q
      | ok ds =>
        dsimp only at e ⊢
        split at e
        · rename_i hl; cases e; exact ⟨hl, q⟩
        · cases e
  · rintro ⟨r, s1, e, q⟩
    rw [e]
    cases r with
    | xc c => exact ⟨_, _, rfl, q⟩
    | ok ds =>
      obtain ⟨hl, q⟩ := q
      exact ⟨_, _, by dsimp only; rw [if_pos hl], q⟩
end
end DL
namespace DL
open PySem PySem.Spec PyProof.Rows L2
/-! DL42: dict cells: made, changed. -/
def DRep (K : PySem.W.Frag) (H : Hp) (o : HO) (t : Bool) (ds : List (D × D)) : Prop := (t = false ∧ ∃ ks, o = .dK ks ∧ RpK K H ks ds) ∨ (t = true ∧ ∃ ks, o = .dT ks ∧ RpT K H ks ds)
theorem DRep.mono {K : PySem.W.Frag} {H H' : Hp} {o : HO} {t : Bool} {ds : List (D × D)} (r : DRep K H o t ds) (g : Grw H H') : DRep K H' o t ds := by
  rcases r with ⟨ht, ks, h1, r⟩ | ⟨ht, ks, h1, r⟩
  · exact .inl ⟨ht, ks, h1, r.mono g⟩
  · exact .inr ⟨ht, ks, h1, r.mono g⟩
theorem DRep.at {K : PySem.W.Frag} {H G : Hp} {o : HO} {t : Bool} {ds : List (D × D)} {a : Addr} (r : DRep K H o t ds) (h : G a = some o) : (t = false ∧ ∃ ks, G a = some (.dK ks) ∧ RpK K H ks ds) ∨ t = true ∧ ∃ ks, G a = some (.dT ks) ∧ RpT K H ks ds := by
  rcases r with ⟨ht, ks, rfl, r⟩ | ⟨ht, ks, rfl, r⟩
  · exact .inl ⟨ht, ks, h, r⟩
  · exact .inr ⟨ht, ks, h, r⟩
/-! x = {} -/
def sNewD (i : Nat) (t : Bool) : M Fl := fun s => some (.nx, { s with g := s.g.set i (some (.dct t [])) })
end DL
namespace DL
open PySem PySem.Spec PyProof.Rows L2
/-! DL43: dicts with tuples as keys, as data; x[k] = v on a dict cell. -/
abbrev tupD (k : List Key) : D := .tuple (k.map keyD)
def kTs : List D → Option (List Key)
  | [] => some []
  | d :: r => match kD d, kTs r with
    | some k, some ks => some (k :: ks)
    | _, _ => none
def kT : D → Option (List Key)
  | .tuple ds => kTs ds
  | _ => none
theorem kTs_map : ∀ k : List Key, kTs (k.map keyD) = some k
  | [] => rfl
  | x :: r => by rw [List.map_cons]; unfold kTs; rw [kD_keyD, kTs_map r]
theorem kT_tupD (k : List Key) : kT (tupD k) = some k := kTs_map k
theorem kTs_some : ∀ {ds : List D} {k : List Key}, kTs ds = some k → ds = k.map keyD
  | [], k, h => by cases h; rfl
  | d :: r, k, h => by
    unfold kTs at h
    cases h1 : kD d with
    | none => simp only [h1] at h; cases h
    | some a =>
      cases h2 : kTs r with
      | none => simp only [h1, h2] at h; cases h
      | some b =>
        simp only [h1, h2] at h
        cases h
        rw [kD_some h1, kTs_some h2]; rfl
theorem kT_some {d : D} {k : List Key} (h : kT d = some k) : d = tupD k := by
  cases d with
  | tuple ds => unfold tupD; rw [kTs_some h]
  | _ => cases h
theorem RpA.keys {K : PySem.W.Frag} {H : Hp} : ∀ {vs : List V} {k : List Key}, RpA K H vs (k.map keyD) → vs = k.map kV
  | [], [], _ => rfl
  | [], _ :: _, h => by cases h
  | v :: vs, [], h => by cases h
  | v :: vs, x :: r, h => by
    cases h with
    | cons a b => rw [List.map_cons, a.key, RpA.keys b]
/-- a tuple of keys stands tracked -/
theorem Rp.tkey {K : PySem.W.Frag} {P : Addr → Prop} {H : Hp} {v : V} {k : List Key} (h : Rp K (mask P H) v (tupD k)) : ∃ b, v = .ref b ∧ ¬ P b ∧ H b = some (.tup (k.map kV)) := by
  cases h with
  | @tup a vs _ e r =>
    obtain ⟨n, e⟩ := mask_some.mp e
    exact ⟨a, rfl, n, by rw [← r.keys]; exact e⟩
def sameT (a b : D) : Bool := (kT a).isSome && decide (kT a = kT b)
theorem sameT_key (a b : List Key) : sameT (tupD a) (tupD b) = decide (a = b) := by
  unfold sameT
  rw [kT_tupD, kT_tupD]
  by_cases h : a = b <;> simp [h]
def lookT (ds : List (D × D)) (y : D) : Option D := (ds.find? fun p => sameT p.1 y).map (·.2)
theorem RpT.look {K : PySem.W.Frag} {H : Hp} {k : List Key} : ∀ {kvs : List (List Key × V)} {ds : List (D × D)}, RpT K H kvs ds → (∃ v d, valV kvs k = some v ∧ lookT ds (tupD k) = some d ∧ Rp K H v d) ∨ (valV kvs k = none ∧ lookT ds (tupD k) = none)
  | _, _, .nil => .inr ⟨rfl, rfl⟩
  | (k', v) :: r, (_, d) :: ds, .cons h t => by
    by_cases e : k' = k
    · subst e
      refine .inl ⟨v, d, by rw [valV_pos rfl], ?_, h⟩
      unfold lookT
      rw [List.find?_cons_of_pos (by show sameT (tupD k') (tupD k') = true; rw [sameT_key]; simp)]
      rfl
    · have e2 : lookT ((tupD k', d) :: ds) (tupD k) = lookT ds (tupD k) := by
        unfold lookT
        rw [List.find?_cons_of_neg (by show ¬ sameT (tupD k') (tupD k) = true; rw [sameT_key]; simp [e])]
      rw [valV_neg (show ¬ (k', v).1 = k from e), e2]
      exact RpT.look t
def putT (ds : List (D × D)) (k v : D) : List (D × D) := if (ds.any fun p => sameT p.1 k) = true then ds.map (fun p => if sameT p.1 k = true then (p.1, v) else p) else ds ++ [(k, v)]
theorem RpT.anyk {K : PySem.W.Frag} {H : Hp} {k : List Key} : ∀ {kvs : List (List Key × V)} {ds : List (D × D)}, RpT K H kvs ds → (kvs.any fun kv => decide (kv.1 = k)) = ds.any fun p => sameT p.1 (tupD k)
  | _, _, .nil => rfl
  | _, _, .cons h t => by rw [List.any_cons, List.any_cons, sameT_key, RpT.anyk t]
theorem RpT.app {K : PySem.W.Frag} {H : Hp} {k : List Key} {v : V} {d : D} (hv : Rp K H v d) : ∀ {kvs : List (List Key × V)} {ds : List (D × D)}, RpT K H kvs ds → RpT K H (kvs ++ [(k, v)]) (ds ++ [(tupD k, d)])
  | _, _, .nil => .cons hv .nil
  | _, _, .cons h t => .cons h (RpT.app hv t)
theorem RpT.upd {K : PySem.W.Frag} {H : Hp} {k : List Key} {v : V} {d : D} (hv : Rp K H v d) : ∀ {kvs : List (List Key × V)} {ds : List (D × D)}, RpT K H kvs ds →
    RpT K H (kvs.map fun kv => if kv.1 = k then (kv.1, v) else kv) (ds.map fun p => if sameT p.1 (tupD k) = true then (p.1, d) else p)
  | _, _, .nil => .nil
  | (k', u) :: r, (_, e) :: ds, .cons h t => by
    rw [List.map_cons, List.map_cons]
    have e1 : (if sameT (tupD k', e).1 (tupD k) = true then ((tupD k', e).1, d) else (tupD k', e)) = (tupD k', if k' = k then d else e) := by
      show (if sameT (tupD k') (tupD k) = true then _ else _) = _
      rw [sameT_key]
      by_cases q : k' = k <;> simp [q]
    have e2 : (if (k', u).1 = k then ((k', u).1, v) else (k', u)) = (k', if k' = k then v else u) := by
      by_cases q : k' = k <;> simp [q]
    rw [e1, e2]
    refine .cons ?_ (RpT.upd hv t)
    by_cases q : k' = k
    · rw [if_pos q, if_pos q]; exact hv
    · rw [if_neg q, if_neg q]; exact h
theorem RpT.put {K : PySem.W.Frag} {H : Hp} {k : List Key} {v : V} {d : D} {kvs : List (List Key × V)} {ds : List (D × D)} (r : RpT K H kvs ds) (hv : Rp K H v d) : RpT K H (putK kvs k v) (putT ds (tupD k) d) := by
  unfold putK putT
  rw [r.anyk (k := k)]
  split
  · exact r.upd hv
  · exact r.app hv
theorem RpT.length {K : PySem.W.Frag} {H : Hp} : ∀ {kvs : List (List Key × V)} {ds : List (D × D)}, RpT K H kvs ds → kvs.length = ds.length
  | _, _, .nil => rfl
  | _, _, .cons _ t => by rw [List.length_cons, List.length_cons, RpT.length t]
/-! x[k] = v -/
def putU (t : Bool) (ds : List (D × D)) (j d : D) : Option (List (D × D)) := if t = true then (kT j).map fun _ => putT ds j d else (kD j).map fun _ => putD ds j d
def gPutD (i : Nat) (fi : M D) (d : D) : M Unit := fun s => match s.g[i]? with
  | some (some (.dct _ _)) => bd fi (fun j s1 => match s1.g[i]? with
      | some (some (.dct t ds)) => if ds.length ≤ lim then (match putU t ds j d with
          | some ds' => some ((), { s1 with g := s1.g.set i (some (.dct t ds')) })
          | none => none) else none
      | _ => none) s
  | _ => none
end DL
namespace DL
open PySem PySem.Spec PyProof.Rows L2
/-! DL44: a dict cell looked at: k in x, x[k]. -/
def lookU (t : Bool) (ds : List (D × D)) (j : D) : Option (Option D) := if t = true then (kT j).map fun _ => lookT ds j else (kD j).map fun _ => lookD ds j
section
variable {K : PySem.W.Frag} {A : DA} {hid P : Addr → Prop} {s : S} {σ : St} {H : Hp}
theorem SOk.getD {i : Nat} {t : Bool} {ds : List (D × D)} {w : V} {j : D} {o : Option D} (ok : SOk K A hid P s σ H) (hg : s.g[i]? = some (some (.dct t ds))) (r : Rp K (mask P H) w j) (e : lookU t ds j = some o) :
    ∃ a ov, σ[i]? = some (some (.ref a)) ∧ DGet H a w ov ∧ ov.isSome = o.isSome ∧ ∀ d, o = some d → ∃ v, ov = some v ∧ Rp K (mask P H) v d := by
  obtain ⟨a, ea, m2, m3, m4, mr⟩ := ok.slot i _ hg
  rcases mr with ⟨ht, ks, m1, mr⟩ | ⟨ht, ks, m1, mr⟩
  · subst ht
    unfold lookU at e
    rw [if_neg (by decide)] at e
    cases hk : kD j with
    | none => rw [hk] at e; cases e
    | some k =>
      rw [hk] at e; cases e
      obtain rfl := kD_some hk
      refine ⟨a, valV ks k, ea, by rw [r.key]; exact DGet.k m1, ?_⟩
      rcases mr.look (k := k) with ⟨v', d', q1, q2, q3⟩ | ⟨q1, q2⟩
      · rw [q1, q2]; exact ⟨rfl, fun d hd => by cases hd; exact ⟨v', rfl, q3⟩⟩
      · rw [q1, q2]; exact ⟨rfl, fun d hd => by cases hd⟩
  · subst ht
    unfold lookU at e
    rw [if_pos rfl] at e
    cases hk : kT j with
    | none => rw [hk] at e; cases e
    | some k =>
      rw [hk] at e; cases e
      obtain rfl := kT_some hk
      obtain ⟨c, rfl, _, hc⟩ := r.tkey
      refine ⟨a, valV ks k, ea, DGet.t m1 hc, ?_⟩
      rcases mr.look (k := k) with ⟨v', d', q1, q2, q3⟩ | ⟨q1, q2⟩
      · rw [q1, q2]; exact ⟨rfl, fun d hd => by cases hd; exact ⟨v', rfl, q3⟩⟩
      · rw [q1, q2]; exact ⟨rfl, fun d hd => by cases hd⟩
end
def eInD (neg : Bool) (fb : M D) (i : Nat) : M D := bd fb fun y => fun s1 => match s1.g[i]? with
  | some (some (.dct t ds)) => (lookU t ds y).map fun o => (.bool (if neg = true then !o.isSome else o.isSome), s1)
  | _ => none
def eGetD (i : Nat) (fb : M D) : M D := fun s => match s.g[i]? with
  | some (some (.dct _ _)) => bd fb (fun y s1 => match s1.g[i]? with
    | some (some (.dct t ds)) => (match lookU t ds y with
      | some (some d) => some (d, s1)
      | _ => none)
    | _ => none) s
  | _ => none
end DL
namespace DL
open PySem PySem.Spec PyProof.Rows L2
/-! DL45: wp of dict cells. -/
section
variable {s : S}
@[simp ↓] theorem wp_sNewD {i : Nat} {t : Bool} {Z : Fl → S → Prop} : wp (sNewD i t) s Z ↔ Z .nx ⟨s.g.set i (some (.dct t [])), s.k⟩ := ⟨fun ⟨_, _, e, q⟩ => by cases e; exact q, fun q => ⟨_, _, rfl, q⟩⟩
@[simp ↓] theorem wp_eInD {neg : Bool} {fb : M D} {i : Nat} {Q : D → S → Prop} : wp (eInD neg fb i) s Q ↔ wp fb s fun y s1 => ∃ t ds o, s1.g[i]? = some (some (.dct t ds)) ∧ lookU t ds y = some o ∧ Q (.bool (if neg = true then !o.isSome else o.isSome)) s1 := by
  unfold eInD
  rw [wp_bd]
  constructor <;> intro h <;> refine wp_mono h fun y s1 q => ?_
  · obtain ⟨d, s2, e, q⟩ := q
    dsimp only at e
    split at e
    · rename_i t ds hg
      cases hl : lookU t ds y with
      | none => rw [hl] at e; cases e
      | some o => rw [hl] at e; cases e; exact ⟨t, ds, o, hg, hl, q⟩
    · cases e
  · obtain ⟨t, ds, o, hg, hl, q⟩ := q
    refine ⟨_, s1, ?_, q⟩
    simp only [hg, hl, Option.map_some]
end
end DL
namespace DL
open PySem PySem.Spec PyProof.Rows L2
/-! DL46: sorted(set(x)), x a list of ints, any number of them. -/
end DL
namespace DL
open PySem PySem.Spec PyProof.Rows L2
/-! DL47: sorted, min, max of lists and tuples of data that are alike. -/
/-! ### the pure side -/
end DL
namespace DL
open PySem PySem.Spec PyProof.Rows L2
/-! DL48: a dict that is walked: it is held still meanwhile. -/
/-- all stays, but that a dict may be held or let go -/
def Grz (H H' : Hp) : Prop := ∀ a o, H a = some o → H' a = some o ∨ (∃ kvs, Rd H a (.dK kvs) ∧ Rd H' a (.dK kvs)) ∨ ∃ kvs, Rd H a (.dT kvs) ∧ Rd H' a (.dT kvs)
theorem Grz.frz {H H' : Hp} (g : Grz H H') {a : Addr} {o : Obj} {xs : List V} (h : H a = some (.frz o (.tup xs))) : H' a = some (.frz o (.tup xs)) := by
  rcases g a _ h with z | ⟨kvs, z, _⟩ | ⟨kvs, z, _⟩
  · exact z
  · rcases z with z | ⟨p, z⟩ <;> rw [h] at z <;> cases z
  · rcases z with z | ⟨p, z⟩ <;> rw [h] at z <;> cases z
/-! ### what is walked -/
/-- the keys of the dict in slot i; a dict of its own is given up -/
def itK (i : Nat) : M (List D) := fun s => match s.g[i]? with
  | some (some (.dat (.dict kvs))) => if isP kvs = true then none else some (kvs.map (·.1), s)
  | some (some (.dct _ kvs)) => some (kvs.map (·.1), { s with g := s.g.set i (some (.dat (.dict kvs))) })
  | _ => none
section
variable {K : PySem.W.Frag} {A : DA} {hid P : Addr → Prop} {s : S} {σ : St} {H : Hp}
theorem RpK.len {H : Hp} : ∀ {kvs : List (Key × V)} {ds : List (D × D)}, RpK K H kvs ds → kvs.length = ds.length
  | _, _, .nil => rfl
  | _, _, .cons _ t => by rw [List.length_cons, List.length_cons, RpK.len t]
end
section
variable {X : Cx} {K : PySem.W.Frag}
variable {js : List Nat} {g : TG} {fg : D → M Unit} {tb : TS} {m : M Fl}
/-- a dict of its own, given up -/
def eGiveD (i : Nat) : M D := fun s => match s.g[i]? with
  | some (some (.dat d)) => some (d, s)
  | some (some (.dct _ kvs)) => some (.dict kvs, { s with g := s.g.set i (some (.dat (.dict kvs))) })
  | _ => none
/-! wp -/
@[simp ↓] theorem wp_itK {i : Nat} {s : S} {Q : List D → S → Prop} : wp (itK i) s Q ↔ match s.g[i]? with
    | some (some (.dat (.dict kvs))) => isP kvs = false ∧ Q (kvs.map (·.1)) s
    | some (some (.dct _ kvs)) => Q (kvs.map (·.1)) ⟨s.g.set i (some (.dat (.dict kvs))), s.k⟩
    | _ => False := by
  unfold wp itK
  split
  · rename_i kvs _
    cases np : isP kvs with
    | true => exact ⟨fun ⟨_, _, e, _⟩ => by simp at e, fun h => by simp at h⟩
    | false => exact ⟨fun ⟨_, _, e, q⟩ => by simp at e; obtain ⟨rfl, rfl⟩ := e; exact ⟨rfl, q⟩, fun q => ⟨_, _, by simp, q.2⟩⟩
  · exact ⟨fun ⟨_, _, e, q⟩ => by cases e; exact q, fun q => ⟨_, _, rfl, q⟩⟩
  · exact ⟨fun ⟨_, _, e, _⟩ => (by cases e), fun h => h.elim⟩
@[simp ↓] theorem wp_eGiveD {i : Nat} {s : S} {Q : D → S → Prop} : wp (eGiveD i) s Q ↔ match s.g[i]? with
    | some (some (.dat d)) => Q d s
    | some (some (.dct _ kvs)) => Q (.dict kvs) ⟨s.g.set i (some (.dat (.dict kvs))), s.k⟩
    | _ => False := by
  unfold wp eGiveD
  split
  · exact ⟨fun ⟨_, _, e, q⟩ => by cases e; exact q, fun q => ⟨_, _, rfl, q⟩⟩
  · exact ⟨fun ⟨_, _, e, q⟩ => by cases e; exact q, fun q => ⟨_, _, rfl, q⟩⟩
  · exact ⟨fun ⟨_, _, e, _⟩ => (by cases e), fun h => h.elim⟩
end
end DL
namespace DL
open PySem PySem.Spec PyProof.Rows L2
/-! DL49: list(d) of an own dict; a, b = two raising calls; x = a list or another; defs that show. -/
/-- list(d), d an own dict with flat keys -/
def eListK (i : Nat) : M D := fun s => match s.g[i]? with
  | some (some (.dct false kvs)) => some (.list (kvs.map (·.1)), s)
  | _ => none
section
variable {i : Nat} {s : S} {Q : D → S → Prop}
@[simp ↓] theorem wp_eListK : wp (eListK i) s Q ↔ ∃ kvs, s.g[i]? = some (some (.dct false kvs)) ∧ Q (.list (kvs.map (·.1))) s := by
  unfold wp eListK
  constructor
  · rintro ⟨a, s', e, q⟩
    split at e
    · rename_i kvs hg; cases e; exact ⟨kvs, hg, q⟩
    · cases e
  · rintro ⟨kvs, hg, q⟩
    exact ⟨_, _, by simp only [hg], q⟩
end
/-! a, b = x, y where one may raise -/
def xPar (i j : Nat) (fr : MX (List D)) : MX Fl := fun s => match fr s with
  | some (.ok [x, y], s1) => some (.ok .nx, putP j (.dat y) (putP i (.dat x) s1))
  | some (.xc c, s1) => some (.xc c, s1)
  | _ => none
@[simp ↓] theorem wp_xPar {i j : Nat} {fr : MX (List D)} {s : S} {Q : RX Fl → S → Prop} : wp (α := RX Fl) (xPar i j fr) s Q ↔ wp (α := RX (List D)) fr s fun r s1 => match r with
    | .ok ds => ∃ x y, ds = [x, y] ∧ Q (.ok .nx) ⟨(s1.g.set i (some (.dat x))).set j (some (.dat y)), s1.k⟩
    | .xc c => Q (.xc c) s1 := by
  unfold wp xPar
  constructor
  · rintro ⟨a, s', e, q⟩
    split at e
    · rename_i x y s1 hf; cases e; exact ⟨_, _, hf, x, y, rfl, q⟩
    · rename_i c s1 hf; cases e; exact ⟨_, _, hf, q⟩
    · cases e
  · rintro ⟨r, s1, e, q⟩
    rw [e]
    cases r with
    | ok ds => obtain ⟨x, y, rfl, q⟩ := q; exact ⟨_, _, rfl, q⟩
    | xc c => exact ⟨_, _, rfl, q⟩
/-! a new list, one or another -/
def nIf (c : M Bool) (a b : M (List D)) : M (List D) := bd c fun x => if x = true then a else b
@[simp ↓] theorem wp_nIf {c : M Bool} {a b : M (List D)} {s : S} {Q : List D → S → Prop} : wp (nIf c a b) s Q ↔ wp c s fun x s1 => if x = true then wp a s1 Q else wp b s1 Q := by
  unfold wp nIf bd
  constructor
  · rintro ⟨d, s', e, q⟩
    cases h : c s with
    | none => rw [h] at e; cases e
    | some x =>
      obtain ⟨x, s1⟩ := x
      rw [h] at e
      refine ⟨x, s1, rfl, ?_⟩
      dsimp only at e
      split at e
      · rw [if_pos (by assumption)]; exact ⟨d, s', e, q⟩
      · rw [if_neg (by assumption)]; exact ⟨d, s', e, q⟩
  · rintro ⟨x, s1, e, q⟩
    rw [e]
    dsimp only
    split at q
    · rw [if_pos (by assumption)]; exact q
    · rw [if_neg (by assumption)]; exact q
/-! a def that shows values: called where nothing is being shown -/
end DL
namespace DL
open PySem PySem.Spec PyProof.Rows L2
/-! DL50: wp of x[k] = v and x[k] on dict cells. -/
section
variable {s : S} {i : Nat} {fi : M D} {d : D}
@[simp ↓] theorem wp_gPutD {Q : Unit → S → Prop} : wp (gPutD i fi d) s Q ↔ (∃ t0 ds0, s.g[i]? = some (some (.dct t0 ds0))) ∧ wp fi s fun j s1 => ∃ t ds ds', s1.g[i]? = some (some (.dct t ds)) ∧ ds.length ≤ lim ∧ putU t ds j d = some ds' ∧ Q () ⟨s1.g.set i (some (.dct t ds')), s1.k⟩ := by
  constructor
  · rintro ⟨u, s', e, q⟩
    unfold gPutD at e
    split at e
    · rename_i t0 ds0 h0
      refine ⟨⟨t0, ds0, h0⟩, ?_⟩
      obtain ⟨j, s1, h1, e⟩ := bd_some e
      refine ⟨j, s1, h1, ?_⟩
      split at e
      · rename_i t ds hg
        split at e
        · rename_i hl
          split at e
          · rename_i ds' hp
            cases e
            exact ⟨t, ds, ds', hg, hl, hp, q⟩
          · cases e
        · cases e
      · cases e
    · cases e
  · rintro ⟨⟨t0, ds0, h0⟩, j, s1, h1, t, ds, ds', hg, hl, hp, q⟩
    refine ⟨(), _, ?_, q⟩
    unfold gPutD
    simp only [h0]
    unfold bd
    simp only [h1, hg, hl, hp, if_true]
@[simp ↓] theorem wp_eGetD {fb : M D} {Q : D → S → Prop} : wp (eGetD i fb) s Q ↔ (∃ t0 ds0, s.g[i]? = some (some (.dct t0 ds0))) ∧ wp fb s fun y s1 => ∃ t ds d, s1.g[i]? = some (some (.dct t ds)) ∧ lookU t ds y = some (some d) ∧ Q d s1 := by
  constructor
  · rintro ⟨u, s', e, q⟩
    unfold eGetD at e
    split at e
    · rename_i t0 ds0 h0
      refine ⟨⟨t0, ds0, h0⟩, ?_⟩
      obtain ⟨j, s1, h1, e⟩ := bd_some e
      refine ⟨j, s1, h1, ?_⟩
      split at e
      · rename_i t ds hg
        split at e
        · rename_i d' hl
          cases e
          exact ⟨t, ds, _, hg, hl, q⟩
        · cases e
      · cases e
    · cases e
  · rintro ⟨⟨t0, ds0, h0⟩, y, s1, h1, t, ds, d, hg, hl, q⟩
    refine ⟨d, s1, ?_, q⟩
    unfold eGetD
    simp only [h0]
    unfold bd
    simp only [h1, hg, hl]
end
end DL
namespace DL
open PySem PySem.Spec PyProof.Rows L2
/-! DL51: several fresh empty cells at once; x in a list or tuple of data; l.index(x). -/
inductive EY where
  | l | k | t
def mtY : EY → Option Val
  | .l => some (.lst [])
  | .k => some (.dct false [])
  | .t => some (.dct true [])
def sF2 (i j : Nat) (y z : EY) : M Fl := fun s => some (.nx, ⟨(s.g.set i (mtY y)).set j (mtY z), s.k⟩)
def sF3 (i j l : Nat) (y z u : EY) : M Fl := fun s => some (.nx, ⟨((s.g.set i (mtY y)).set j (mtY z)).set l (mtY u), s.k⟩)
section
variable {s : S} {i j l : Nat} {y z u : EY} {Z : Fl → S → Prop}
@[simp ↓] theorem wp_sF2 : wp (sF2 i j y z) s Z ↔ Z .nx ⟨(s.g.set i (mtY y)).set j (mtY z), s.k⟩ := ⟨fun ⟨_, _, e, q⟩ => by cases e; exact q, fun q => ⟨_, _, rfl, q⟩⟩
@[simp ↓] theorem wp_sF3 : wp (sF3 i j l y z u) s Z ↔ Z .nx ⟨((s.g.set i (mtY y)).set j (mtY z)).set l (mtY u), s.k⟩ := ⟨fun ⟨_, _, e, q⟩ => by cases e; exact q, fun q => ⟨_, _, rfl, q⟩⟩
end
@[simp] theorem mtY_l : mtY .l = some (.lst []) := rfl
@[simp] theorem mtY_k : mtY .k = some (.dct false []) := rfl
@[simp] theorem mtY_t : mtY .t = some (.dct true []) := rfl
/-! x in data -/
theorem shaped_lt {ds : List D} : SeqAt.shaped (.tuple ds) = SeqAt.shaped (.list ds) := by
  unfold SeqAt.shaped
  rw [PyData.canLay0, PyData.canLay0, PyData.depth, PyData.depth]
/-! l.index(x) -/
def idxD (d : D) (ds : List D) : Option Nat := ds.findIdx? fun z => PyData.eqv z d
def eIdx (i : Nat) (f : M D) : M D := fun s => match s.g[i]? with
  | some (some (.lst _)) => bd f (fun d s1 => match s1.g[i]? with
    | some (some (.lst ds)) => if SeqAt.shaped d = true ∧ SeqAt.shaped (.list ds) = true then (idxD d ds).map fun j => (.int (j : Nat), s1) else none
    | _ => none) s
  | _ => none
@[simp ↓] theorem wp_eIdx {i : Nat} {f : M D} {s : S} {Q : D → S → Prop} : wp (eIdx i f) s Q ↔ (∃ ds0, s.g[i]? = some (some (.lst ds0))) ∧ wp f s fun d s1 => ∃ ds j, s1.g[i]? = some (some (.lst ds)) ∧ (SeqAt.shaped d = true ∧ SeqAt.shaped (.list ds) = true) ∧ idxD d ds = some j ∧ Q (.int (j : Nat)) s1 := by
  constructor
  · rintro ⟨u, s', e, q⟩
    unfold eIdx at e
    split at e
    · rename_i ds0 h0
      refine ⟨⟨ds0, h0⟩, ?_⟩
      obtain ⟨d, s1, h1, e⟩ := bd_some e
      refine ⟨d, s1, h1, ?_⟩
      split at e
      · rename_i ds hg
        split at e
        · rename_i hl
          cases hj : idxD d ds with
          | none => rw [hj] at e; cases e
          | some j => rw [hj] at e; cases e; exact ⟨ds, j, hg, hl, hj, q⟩
        · cases e
      · cases e
    · cases e
  · rintro ⟨⟨ds0, h0⟩, d, s1, h1, ds, j, hg, hl, hj, q⟩
    refine ⟨_, s1, ?_, q⟩
    unfold eIdx
    simp only [h0]
    unfold bd
    simp only [h1, hg, hl, hj, and_self, if_true, Option.map_some]
end DL
namespace PySem.SeqAt
open AutoSeq1 (wpAny_loadPart')
open MeetsSeq
end PySem.SeqAt
namespace DL
open PySem PySem.Spec PyProof.Rows L2
/-! DL52: any data against a text. -/
def neW (d : D) (w : Str) : Bool := match d with
  | .str a => !(a == w)
  | _ => true
def dNeW (x y : D) : Option D := match y with
  | .str w => some (.bool (neW x w))
  | _ => none
@[simp] theorem dNeW_str {x : D} {w : Str} : dNeW x (.str w) = some (.bool (neW x w)) := rfl
end DL
namespace DL
open PySem PySem.Spec PyProof.Rows L2
/-! DL53: a, b = a list. -/
def gTl (n : Nat) (g : List D → M Unit) : D → M Unit := fun d => match d with
  | .list ds => if ds.length = n then g ds else fun _ => none
  | _ => fun _ => none
theorem wp_gTl {n : Nat} {g : List D → M Unit} {ds : List D} {s : S} {Q : Unit → S → Prop} (h : ds.length = n) : wp (gTl n g (.list ds)) s Q ↔ wp (g ds) s Q := by
  show wp (if ds.length = n then g ds else fun _ => none) s Q ↔ _
  rw [if_pos h]
@[simp ↓] theorem wp_gTl2 {g : List D → M Unit} {u v : D} {s : S} {Q : Unit → S → Prop} : wp (gTl 2 g (.list [u, v])) s Q ↔ wp (g [u, v]) s Q := wp_gTl rfl
end DL
namespace PySem.F
end PySem.F
namespace PySem
open Sem (wp)
end PySem
namespace PySem.SeqAt
open AutoSeq1 (wpAny_loadPart')
open MeetsSeq
end PySem.SeqAt
namespace DL
open PySem PySem.Spec PyProof.Rows L2
/-! DL55: () in t, t == (), t != () of any data; sum(l, []). -/
def isP0 : List (D × D) → Bool
  | [(.none, .tuple [])] => true
  | _ => false
def isE : D → Bool
  | .tuple [] => true
  | .dict ds => isP0 ds
  | _ => false
def dIn0 (x y : D) : Option D := match x, y with
  | .tuple [], .tuple ds => some (.bool (ds.any isE))
  | _, _ => none
def dEq0 (x y : D) : Option D := match x, y with
  | .tuple ds, .tuple [] => some (.bool ds.isEmpty)
  | _, _ => none
def dNe0 (x y : D) : Option D := match x, y with
  | .tuple ds, .tuple [] => some (.bool (!ds.isEmpty))
  | _, _ => none
@[simp] theorem dIn0_tup {ds : List D} : dIn0 (.tuple []) (.tuple ds) = some (.bool (ds.any isE)) := rfl
@[simp] theorem dEq0_tup {ds : List D} : dEq0 (.tuple ds) (.tuple []) = some (.bool ds.isEmpty) := rfl
@[simp] theorem dNe0_tup {ds : List D} : dNe0 (.tuple ds) (.tuple []) = some (.bool (!ds.isEmpty)) := rfl
end DL
namespace DL
open PySem PySem.Spec PyProof.Rows L2
/-! DL56: sum(l, []) of a list of lists. -/
inductive LL (H : Hp) : List V → List (List V) → Prop
  | nil : LL H [] []
  | cons {a : Addr} {vs r : List V} {rs : List (List V)} : H a = some (.lst vs) → LL H r rs → LL H (.ref a :: r) (vs :: rs)
section
variable {X : Cx} {pins : List (Addr × Obj)} {σ : St} {H : Hp} {s : Shared}
theorem LL.at {vs : List V} {vss : List (List V)} {us : List Value} (I : Inv X pins σ H s) (h : LL H vs vss) : ∀ (_ : Vals vs us) (j : Nat), ∃ c : Addr × List Value × Nat, j < us.length → us[j]? = some (.ref c.1) ∧ IsL s.heap c.1 c.2.1.toArray c.2.2 ∧ Vals (vss.getD j []) c.2.1 := by
  induction h generalizing us with
  | nil => intro r j; cases r; exact ⟨(0, [], 0), fun h => absurd h (by simp)⟩
  | cons ha hr ih =>
    intro r j
    cases r with
    | cons r t =>
      cases r
      cases j with
      | zero =>
        obtain ⟨z, its, n, rv, hl, e⟩ := I.lstM ha
        exact ⟨(_, its, n), fun _ => ⟨rfl, e, by simpa using rv⟩⟩
      | succ j =>
        obtain ⟨c, hc⟩ := ih t j
        exact ⟨c, fun h => by simpa using hc (by simpa using h)⟩
theorem LL.len {vs : List V} {vss : List (List V)} (h : LL H vs vss) : vs.length = vss.length := by
  induction h with
  | nil => rfl
  | cons _ _ ih => simp [ih]
end
end DL
namespace DL
open PySem PySem.Spec PyProof.Rows L2
/-! DL57: x is True, x is not True, of truth values. -/
end DL
namespace DL
open PySem PySem.Spec PyProof.Rows L2
/-! DL58: dicts with tuples as keys: d[k] of data, d.get(k, x) on cells, dict(l) of pairs. -/
section
variable {K : PySem.W.Frag} {ta tb tc : TE} {fa fb fc : M D}
/-- x.get(k, y), x a dict cell -/
def eGetOrD (i : Nat) (fb fc : M D) : M D := fun s => match s.g[i]? with
  | some (some (.dct _ _)) => bd fb (fun y => bd fc fun z => fun s1 => match s1.g[i]? with
    | some (some (.dct t ds)) => (match lookU t ds y with
      | some (some d) => some (d, s1)
      | some none => some (z, s1)
      | none => none)
    | _ => none) s
  | _ => none
end
/-! dict(l), l a list of pairs whose keys are tuples -/
def mergeT (ds more : List (D × D)) : List (D × D) := more.foldl (fun acc p => putT acc p.1 p.2) ds
def prsT : List D → Option (List (D × D))
  | [] => some []
  | .tuple [k, v] :: r => if (kT k).isSome = true then (prsT r).map ((k, v) :: ·) else none
  | _ => none
end DL
namespace DL
open PySem PySem.Spec PyProof.Rows L2
/-! DL59: a dict of the module with texts as keys: x in T, T[x]. -/
def tabLook (kvs : List (Str × D)) (z : Str) : Option D := (kvs.find? fun p => p.1 == z).map (·.2)
def tabIn (kvs : List (Str × D)) (neg : Bool) : D → Option D
  | .str z => some (.bool (if neg then !(tabLook kvs z).isSome else (tabLook kvs z).isSome))
  | _ => none
end DL
namespace DL
open PySem PySem.Spec PyProof.Rows L2
/-! DL60: an except suite that asks `x and y`. -/
end DL
namespace PySem
open Sem (wp)
open SeqAt
end PySem
namespace DL
open PySem PySem.Spec PyProof.Rows L2
/-! DL61: dict(d) and displays where the keys are tuples of ints. -/
def keyHI : Key → Int
  | .inl i => hashInt i
  | .inr _ => 0
def thI (k : List Key) : Int := reduceHash (Builtin.Tuple.tupleHashOf (k.map keyHI))
def intsK (k : List Key) : Bool := k.all fun x => match x with
  | .inl _ => true
  | .inr _ => false
/-! {k: v, ..} -/
end DL
namespace DL
open PySem PySem.Spec PyProof.Rows L2
/-! DL62: dicts with tuples of ints as keys: copies, displays, len. -/
def thD (d : D) : Int := match kT d with
  | some k => thI k
  | none => 0
def intsT (d : D) : Bool := match kT d with
  | some k => intsK k
  | none => false
/-- it can be copied: tuples of ints, no two of which hash alike -/
def hashOk (ds : List (D × D)) : Bool := (ds.all fun p => intsT p.1) && decide ((ds.map fun p => thD p.1).Nodup)
def nCopyT (fr : M (List D)) : M (List (D × D)) := bd fr fun xs => match xs with
  | [.dict ds] => if hashOk ds = true then rtn ds else fun _ => none
  | _ => fun _ => none
section
variable {X : Cx} {K : PySem.W.Frag} {tr : TA} {fr : M (List D)} {es : List Expr} {pos : Pos}
/-- x = dict(..), a cell -/
def sNewT (i : Nat) (f : M (List (D × D))) : M Fl := bd f fun ds => fun s => some (.nx, { s with g := s.g.set i (some (.dct true ds)) })
end
/-! {k: v, ..} -/
def dDispT (ds : List (D × D)) : Option D := if ds.length ≤ 15 ∧ (ds.all fun p => (kT p.1).isSome) = true then some (.dict (mergeT [] ds)) else none
def eDispT (f : M (List (D × D))) : M D := bd f fun ds => lf (dDispT ds)
end DL
namespace PySem
open Sem (wp)
end PySem
namespace DL
open PySem PySem.Spec PyProof.Rows L2
/-! DL63: len(d); the pure side of dicts with tuple keys. -/
/-! wp -/
section
variable {s : S} {Q : D → S → Prop} {Z : Fl → S → Prop}
@[simp ↓] theorem wp_nCopyT {fr : M (List D)} {Q : List (D × D) → S → Prop} : wp (nCopyT fr) s Q ↔ wp fr s fun xs s1 => ∃ ds, xs = [.dict ds] ∧ hashOk ds = true ∧ Q ds s1 := by
  unfold nCopyT; rw [wp_bd]
  constructor <;> intro h <;> refine wp_mono h fun xs s1 q => ?_
  · split at q
    · rename_i ds
      split at q
      · rename_i hh
        exact ⟨ds, rfl, hh, wp_rtn.mp q⟩
      · exact (wp_no.mp q).elim
    · exact (wp_no.mp q).elim
  · obtain ⟨ds, rfl, hh, q⟩ := q
    simp only [hh, if_true]
    exact wp_rtn.mpr q
@[simp ↓] theorem wp_sNewT {i : Nat} {f : M (List (D × D))} : wp (sNewT i f) s Z ↔ wp f s fun ds s1 => Z .nx ⟨s1.g.set i (some (.dct true ds)), s1.k⟩ := by
  unfold sNewT; rw [wp_bd]
  constructor <;> intro h <;> refine wp_mono h fun ds s1 q => ?_
  · obtain ⟨_, _, e, q⟩ := q; cases e; exact q
  · exact ⟨_, _, rfl, q⟩
@[simp ↓] theorem wp_eDispT {f : M (List (D × D))} : wp (eDispT f) s Q ↔ wp f s fun ds s1 => ∃ d, dDispT ds = some d ∧ Q d s1 := by
  unfold eDispT; simp only [wp_bd, wp_lf]
@[simp ↓] theorem wp_eGetOrD {i : Nat} {fb fc : M D} : wp (eGetOrD i fb fc) s Q ↔ (∃ t ds, s.g[i]? = some (some (.dct t ds))) ∧ wp fb s fun y s1 => wp fc s1 fun z s2 => ∃ t ds o, s2.g[i]? = some (some (.dct t ds)) ∧ lookU t ds y = some o ∧ Q (o.getD z) s2 := by
  constructor
  · rintro ⟨a, s', e, q⟩
    unfold eGetOrD at e
    split at e
    · rename_i t0 ds0 hg
      refine ⟨⟨t0, ds0, hg⟩, ?_⟩
      obtain ⟨y, s1, e1, e⟩ := bd_some e
      obtain ⟨z, s2, e2, e⟩ := bd_some e
      refine ⟨y, s1, e1, z, s2, e2, ?_⟩
      split at e
      · rename_i t ds hg2
        split at e
        · rename_i d hl; cases e; exact ⟨t, ds, some a, hg2, hl, q⟩
        · rename_i hl; cases e; exact ⟨t, ds, none, hg2, hl, q⟩
        · cases e
      · cases e
    · cases e
  · rintro ⟨⟨t0, ds0, hg⟩, y, s1, e1, z, s2, e2, t, ds, o, hg2, hl, q⟩
    refine ⟨o.getD z, s2, ?_, q⟩
    unfold eGetOrD
    rw [hg]
    show bd fb _ s = _
    unfold bd
    rw [e1]
    dsimp only
    rw [e2]
    simp only [hg2, hl]
    cases o <;> rfl
end
end DL
namespace DL
open PySem PySem.Spec PyProof.Rows L2
/-! DL64: list(d) of a dict that is data. -/
end DL
namespace DL
open PySem PySem.Spec PyProof.Rows L2
/-! DL65: sum of a tuple of ints. -/
end DL
namespace DL
open PySem PySem.Spec PyProof.Rows L2
/-! DL66: defs whose result is a new object; a borrowed call that gives a list of lists. -/
/-- v is no object that was seen -/
def NotOld (P : Addr → Prop) (H : Hp) : V → Prop
  | .ref a => ∀ o, H a = some o → P a
  | _ => True
theorem NotOld.back {hid P P1 : Addr → Prop} {H H1 : Hp} {v : V} (n : NotOld P1 H1 v) (z : Stp hid P P1 H H1) : NotOld P H v := by
  cases v with
  | ref a =>
    intro o e
    by_cases h : P a
    · exact h
    · exact absurd (n o (z.keep a o e (.inr h))) (z.vis a o e h)
  | _ => trivial
theorem NotOld.new {hid P P1 : Addr → Prop} {H H1 : Hp} {p : Addr} (z : Stp hid P P1 H H1) (h : H1 p = none) : NotOld P H (.ref p) := by
  intro o e
  by_cases hp : P p
  · exact hp
  · have := z.keep p o e (.inr hp)
    rw [h] at this; cases this
def FlOkF (K : PySem.W.Frag) (A : DA) (hid P : Addr → Prop) (H : Hp) (s' : S) (D : Ends) : Fl → Prop
  | .nx => FlOk K A hid P H s' D .nx
  | .rt d => ∀ v σ' P' H', SOk K A hid P' s' σ' H' → Stp hid P P' H H' → Rp K (mask P' H') v d → NotOld P H v → D.rt v H'
  | .bk => FlOk K A hid P H s' D .bk
  | .ct => FlOk K A hid P H s' D .ct
theorem FlOkF.back {K : PySem.W.Frag} {A : DA} {hid P P1 : Addr → Prop} {H H1 : Hp} {s' : S} {D : Ends} {fl : Fl} (h : FlOkF K A hid P H s' D fl) (z : Stp hid P P1 H H1) : FlOkF K A hid P1 H1 s' D fl := by
  cases fl with
  | nx => exact FlOk.back (fl := .nx) h z
  | rt d => exact fun v σ' P' H' o e r n => h v σ' P' H' o (z.trans e) r (n.back z)
  | bk => exact FlOk.back (fl := .bk) h z
  | ct => exact FlOk.back (fl := .ct) h z
def EvSF (K : PySem.W.Frag) (t : TS) (f : M Fl) : Prop := ∀ (A : DA) (hid P : Addr → Prop) (s : S) (σ : St) (H : Hp) (fl : Fl) (s' : S), SOk K A hid P s σ H → f s = some (fl, s') →
  ∀ D : Ends, FlOkF K A hid P H s' D fl → t D σ H
def NoRt (m : M Fl) : Prop := ∀ s d s', m s ≠ some (.rt d, s')
theorem EvSF.of {K : PySem.W.Frag} {t : TS} {m : M Fl} (h : EvS K t m) (n : NoRt m) : EvSF K t m := by
  intro A hid P s σ H fl s' ok e D q
  cases fl with
  | nx => exact h A hid P s σ H _ s' ok e D q
  | rt d => exact absurd e (n s d s')
  | bk => exact h A hid P s σ H _ s' ok e D q
  | ct => exact h A hid P s σ H _ s' ok e D q
/-- return x, x an own list -/
def eGiveN (i : Nat) : M D := fun s => match s.g[i]? with
  | some (some (.lst ds)) => some (.list ds, { s with g := s.g.set i (some (.dat (.list ds))) })
  | _ => none
@[simp ↓] theorem wp_eGiveN {i : Nat} {s : S} {Q : D → S → Prop} : wp (eGiveN i) s Q ↔ ∃ ds, s.g[i]? = some (some (.lst ds)) ∧ Q (.list ds) ⟨s.g.set i (some (.dat (.list ds))), s.k⟩ := by
  unfold wp eGiveN
  constructor
  · rintro ⟨a, s', e, q⟩
    split at e
    · rename_i ds hg; cases e; exact ⟨ds, hg, q⟩
    · cases e
  · rintro ⟨ds, hg, q⟩
    exact ⟨_, _, by simp only [hg], q⟩
/-! the def -/
/-! the call -/
def isIn : D → Bool
  | .int _ => true
  | _ => false
/-- the two differ, as far as a look tells -/
def diffL : List D → List D → Bool
  | [], [] => false
  | x :: _, y :: _ => isIn x != isIn y
  | _, _ => true
def okE (cs : List (List D)) : D → Bool
  | .list fs => noMutA fs && cs.all fun c => diffL c fs
  | d => noMut d
def okN (cs : List (List D)) : D → Bool
  | .list es => es.all (okE cs)
  | d => noMut d
def cellL (s : S) (i : Nat) : Option (List D) := match s.g[i]? with
  | some (some (.lst c)) => some c
  | _ => none
def eCallBN (B : List Nat) (sem : FS) (fr : M (List AV)) : M D := bd fr fun avs => fun s => match B.mapM (cellL s) with
  | some cs => (match avs.mapM (res s) with
    | some xs => (match sem xs s.k with
      | some (d, k') => if okN cs d = true then some (d, { s with k := k' }) else none
      | none => none)
    | none => none)
  | none => none
@[simp ↓] theorem wp_callN {B : List Nat} {sem : FS} {fr : M (List AV)} {s : S} {Q : D → S → Prop} : wp (eCallBN B sem fr) s Q ↔ wp fr s fun avs s1 => ∃ cs, B.mapM (cellL s1) = some cs ∧ ∃ xs, avs.mapM (res s1) = some xs ∧ fp sem xs s1.k fun d k' => okN cs d = true ∧ Q d ⟨s1.g, k'⟩ := by
  unfold eCallBN
  rw [wp_bd]
  constructor <;> intro h <;> refine wp_mono h fun avs s1 q => ?_
  · obtain ⟨d, s', e, q⟩ := q
    dsimp only at e
    split at e
    · rename_i cs hc
      split at e
      · rename_i xs hx
        split at e
        · rename_i d' k' hs
          split at e
          · rename_i hm
            cases e
            exact ⟨cs, hc, xs, hx, _, _, hs, hm, q⟩
          · cases e
        · cases e
      · cases e
    · cases e
  · obtain ⟨cs, hc, xs, e, d, k', e2, hm, q⟩ := q
    refine ⟨d, ⟨s1.g, k'⟩, ?_, q⟩
    simp only [hc, e, e2, hm, if_true]
end DL
namespace DL
open PySem PySem.Spec PyProof.Rows L2
/-! DL67: a for whose body may raise. -/
def xloop (asg : D → M Unit) (body : MX Fl) : List D → MX Fl
  | [] => fun s => some (.ok .nx, s)
  | x :: r => fun s => match asg x s with
    | some (_, s1) => (match body s1 with
      | some (.ok .nx, s2) => xloop asg body r s2
      | some (.ok .ct, s2) => xloop asg body r s2
      | some (.ok .bk, s2) => some (.ok .nx, s2)
      | some (.ok (.rt d), s2) => some (.ok (.rt d), s2)
      | some (.xc c, s2) => some (.xc c, s2)
      | none => none)
    | none => none
def xFor (it : M (List D)) (asg : D → M Unit) (body : MX Fl) : MX Fl := fun s => match it s with
  | some (ds, s1) => xloop asg body ds s1
  | none => none
section
variable {X : Cx} {K : PySem.W.Frag} {W : WX} {tg iter : Expr} {wi : TI} {it : M (List D)} {js : List Nat} {g : TG} {fg : D → M Unit} {body : List Stmt} {tb : TS} {m : MX Fl} {pos : Pos}
theorem xfor_at {A : DA} {hid P : Addr → Prop} {s : S} {σ : St} {H : Hp} {r : RX Fl} {s' : S} (hi : EvIa K wi it A hid P s σ H) (hg : EvG K js g fg) (hb : EvSX K W tb m) (ok : SOk K A hid P s σ H) (e : xFor it fg m s = some (r, s')) (D : Ends) (q : ROk K A hid P H s' D W r) : tFor wi g tb D σ H := by
  unfold xFor at e
  cases h1 : it s with
  | none => rw [h1] at e; cases e
  | some x1 =>
  obtain ⟨ds, s1⟩ := x1
  rw [h1] at e
  have e : xloop fg m ds s1 = some (r, s') := e
  refine hi ds s1 ok h1 _ fun J G P1 H1 ok1 st1 w g1 => ?_
  refine ⟨fun i n σ' H' => n = ds.length - i ∧ i ≤ ds.length ∧ ∃ P' s2, SOk K A hid P' s2 σ' H' ∧ Stp hid P P' H H' ∧ G P' H' ∧ xloop fg m (ds.drop i) s2 = some (r, s'),
    ⟨ds.length, by omega, Nat.zero_le _, P1, s1, ok1, st1, g1, e⟩, ?_⟩
  rintro i n σ' H' ⟨rfl, hle, P', s2, ok2, st2, g2, e2⟩
  by_cases hlt : i < ds.length
  · refine .inr ⟨w.goes P' i H' hlt g2, fun σ3 H3 => ∃ P3 s3, SOk K A hid P3 s3 σ3 H3 ∧ Stp hid P P3 H H3 ∧ G P3 H3 ∧ xloop fg m (ds.drop (i + 1)) s3 = some (r, s'), fun σ3 H3 ⟨P3, s3, a1, a2, a3, a4⟩ => ⟨ds.length - (i + 1), by omega, rfl, hlt, P3, s3, a1, a2, a3, a4⟩, fun x H3 y => ?_⟩
    obtain ⟨gr, d, hd, rx⟩ := w.yields P' i H' x H3 hlt ok2.trk g2 y
    have ok3 := ok2.grw gr
    have st3 : Stp hid P P' H H3 := st2.trans (Stp.grw gr)
    have g3 : G P' H3 := w.stay P' P' H' H3 (grw_mask gr) g2
    rw [List.drop_eq_getElem_cons hlt] at e2
    have hd' : ds[i] = d := by rw [List.getElem?_eq_getElem hlt] at hd; exact Option.some.inj hd
    rw [hd'] at e2
    unfold xloop at e2
    cases e4 : fg d s2 with
    | none => rw [e4] at e2; cases e2
    | some x4 =>
    obtain ⟨_, s4⟩ := x4
    rw [e4] at e2
    dsimp only at e2
    refine hg A hid P' s2 σ' H3 x d s4 ok3 rx e4 _ fun σ4 P4 H4 ok4 st4 _ => ?_
    cases e6 : m s4 with
    | none => rw [e6] at e2; cases e2
    | some x6 =>
    obtain ⟨r5, s5⟩ := x6
    rw [e6] at e2
    refine hb A hid P4 s4 σ4 H4 r5 s5 ok4 e6 _ ?_
    have fwd : ∀ (σ6 : St) (P6 : Addr → Prop) (H6 : Hp), SOk K A hid P6 s5 σ6 H6 → Stp hid P4 P6 H4 H6 → xloop fg m (ds.drop (i + 1)) s5 = some (r, s') →
        ∃ P3 s3, SOk K A hid P3 s3 σ6 H6 ∧ Stp hid P P3 H H6 ∧ G P3 H6 ∧ xloop fg m (ds.drop (i + 1)) s3 = some (r, s') :=
      fun σ6 P6 H6 ok6 st6 e8 => ⟨P6, s5, ok6, (st3.trans st4).trans st6, w.stay P' P6 H3 H6 (st4.trans st6).mg g3, e8⟩
    cases r5 with
    | xc c =>
      cases e2
      exact fun cls dx σ6 P6 H6 ic ok6 st6 => q cls dx σ6 P6 H6 ic ok6 ((st3.trans st4).trans st6)
    | ok fl5 =>
      cases fl5 with
      | nx => exact fun σ6 P6 H6 ok6 st6 => fwd σ6 P6 H6 ok6 st6 e2
      | ct => exact fun σ6 P6 H6 ok6 st6 => fwd σ6 P6 H6 ok6 st6 e2
      | bk =>
        cases e2
        exact fun σ6 P6 H6 ok6 st6 => q σ6 P6 H6 ok6 ((st3.trans st4).trans st6)
      | rt d5 =>
        cases e2
        exact fun v σ6 P6 H6 ok6 st6 rr => q v σ6 P6 H6 ok6 ((st3.trans st4).trans st6) rr
  · have hi : i = ds.length := by omega
    subst hi
    rw [List.drop_length] at e2
    cases e2
    exact .inl ⟨w.stops P' H' g2, q σ' P' H' ok2 st2⟩
theorem xx_for (hp : PassesOwn (model X.prog X.w) X.A X.env X.xe) (hi : DI X tg iter wi it) (hg : DG X tg js g fg) (hb : XSX X W body m) (hc : X.calm = true := by rfl) (hs : ∀ x, foldedSetIterable iter X.env x = pure x := by intro _; rfl) :
    X1X X W (.For tg iter body [] pos) (xFor it fg m) := by
  obtain ⟨t, hb⟩ := hb
  exact ⟨_, ps_for hp hc hi.p hg.p hb.p hs, fun A hid P s σ H r s' ok e D q => xfor_at (hi.v A hid P s σ H) hg.v hb.v ok e D q⟩
end
@[simp ↓] theorem wp_xFor {it : M (List D)} {asg : D → M Unit} {body : MX Fl} {s : S} {Q : RX Fl → S → Prop} : wp (α := RX Fl) (xFor it asg body) s Q ↔ wp it s fun ds s1 => wp (α := RX Fl) (xloop asg body ds) s1 Q := by
  unfold wp xFor
  constructor
  · rintro ⟨a, s', e, q⟩
    split at e
    · rename_i ds s1 h; exact ⟨_, _, h, _, _, e, q⟩
    · cases e
  · rintro ⟨ds, s1, h, a, s', e, q⟩
    exact ⟨_, _, by rw [h]; exact e, q⟩
/-- an invariant of a for that may raise -/
theorem wp_xloop {asg : D → M Unit} {body : MX Fl} {Q : RX Fl → S → Prop} (I : List D → S → Prop)
    (step : ∀ x r s, I (x :: r) s → wp (asg x) s fun _ s1 => wp (α := RX Fl) body s1 fun y s2 => match y with
      | .ok .nx => I r s2
      | .ok .ct => I r s2
      | .ok .bk => Q (.ok .nx) s2
      | .ok (.rt d) => Q (.ok (.rt d)) s2
      | .xc c => Q (.xc c) s2) (fin : ∀ s, I [] s → Q (.ok .nx) s) : ∀ (ds : List D) (s : S), I ds s → wp (α := RX Fl) (xloop asg body ds) s Q
  | [], s, h => ⟨_, _, rfl, fin s h⟩
  | x :: r, s, h => by
    obtain ⟨u, s1, e1, y, s2, e2, q⟩ := step x r s h
    unfold xloop
    have go : ∀ z, xloop asg body (x :: r) s = z → wp (α := RX Fl) (xloop asg body (x :: r)) s Q := fun z hz => by
      cases y with
      | xc c => exact ⟨_, _, by unfold xloop; rw [e1]; dsimp only; rw [e2], q⟩
      | ok fl =>
        cases fl with
        | nx =>
          obtain ⟨a, s3, e3, q3⟩ := wp_xloop I step fin r s2 q
          exact ⟨a, s3, by unfold xloop; rw [e1]; dsimp only; rw [e2]; exact e3, q3⟩
        | ct =>
          obtain ⟨a, s3, e3, q3⟩ := wp_xloop I step fin r s2 q
          exact ⟨a, s3, by unfold xloop; rw [e1]; dsimp only; rw [e2]; exact e3, q3⟩
        | bk => exact ⟨_, _, by unfold xloop; rw [e1]; dsimp only; rw [e2], q⟩
        | rt d => exact ⟨_, _, by unfold xloop; rw [e1]; dsimp only; rw [e2], q⟩
    exact go _ rfl
end DL
namespace DL
open PySem PySem.Spec PyProof.Rows L2
/-! DL68: expressions with calls inside that may raise. -/
def bx {α β : Type} (f : MX α) (g : α → MX β) : MX β := fun s => match f s with
  | some (.ok a, s1) => g a s1
  | some (.xc c, s1) => some (.xc c, s1)
  | none => none
def lx {α : Type} (o : Option α) : MX α := fun s => o.map fun d => (.ok d, s)
def xOp2 (op : D → D → Option D) (fa fb : MX D) : MX D := bx fa fun x => bx fb fun y => lx (op x y)
def xTup (fr : MX (List D)) : MX D := bx fr fun ds => if ds.length ≤ lim then lx (some (.tuple ds)) else lx none
/-! wp -/
section
variable {s : S}
@[simp ↓] theorem wp_bx {α β : Type} {f : MX α} {g : α → MX β} {Q : RX β → S → Prop} : wp (α := RX β) (bx f g) s Q ↔ wp (α := RX α) f s fun r s1 => match r with
    | .ok a => wp (α := RX β) (g a) s1 Q
    | .xc c => Q (.xc c) s1 := by
  unfold wp bx
  constructor
  · rintro ⟨r, s', e, q⟩
    split at e
    · rename_i a s1 h; exact ⟨_, _, h, _, _, e, q⟩
    · rename_i c s1 h; cases e; exact ⟨_, _, h, q⟩
    · cases e
  · rintro ⟨r, s1, h, q⟩
    rw [h]
    cases r with
    | ok a => exact q
    | xc c => exact ⟨_, _, rfl, q⟩
@[simp ↓] theorem wp_lx {α : Type} {o : Option α} {Q : RX α → S → Prop} : wp (α := RX α) (lx o) s Q ↔ ∃ a, o = some a ∧ Q (.ok a) s := by
  unfold wp lx
  constructor
  · rintro ⟨r, s', e, q⟩
    cases o with
    | none => cases e
    | some a => cases e; exact ⟨a, rfl, q⟩
  · rintro ⟨a, rfl, q⟩
    exact ⟨_, _, rfl, q⟩
end
end DL
namespace DL
open PySem PySem.Spec PyProof.Rows L2
/-! DL69: a for over what a raising call gives. -/
def axQ (f : MX D) : MX (List D) := bx f fun x => match x with
  | .list ds => lx (some ds)
  | .tuple ds => lx (some ds)
  | .dict [(.none, .tuple ds)] => lx (some ds)
  | _ => lx none
def xForX (it : MX (List D)) (asg : D → M Unit) (body : MX Fl) : MX Fl := bx it fun ds => xloop asg body ds
@[simp ↓] theorem wp_xForX {it : MX (List D)} {asg : D → M Unit} {body : MX Fl} {s : S} {Q : RX Fl → S → Prop} : wp (α := RX Fl) (xForX it asg body) s Q ↔ wp (α := RX (List D)) it s fun r s1 => match r with
    | .ok ds => wp (α := RX Fl) (xloop asg body ds) s1 Q
    | .xc c => Q (.xc c) s1 := by
  unfold xForX
  rw [wp_bx]
  constructor <;> intro h <;> refine wp_mono (α := RX (List D)) h fun r s1 q => ?_ <;> cases r <;> exact q
end DL
namespace DL
open PySem PySem.Spec PyProof.Rows L2
/-! DL70: plain tuples: made, and dict(a plain tuple of pairs), keys tuples. -/
def dTupleP : List D → Option D
  | [.list a] => some (.dict [(.none, .tuple a)])
  | _ => none
@[simp] theorem dTupleP_l {a : List D} : dTupleP [.list a] = some (.dict [(.none, .tuple a)]) := rfl
/-! a display -/
def eTupP (fr : M (List D)) : M D := bd fr fun ds => if ds.length ≤ lim then rtn (.dict [(.none, .tuple ds)]) else fun _ => none
@[simp ↓] theorem wp_eTupP {fr : M (List D)} {s : S} {Q : D → S → Prop} : wp (eTupP fr) s Q ↔ wp fr s fun ds s1 => ds.length ≤ lim ∧ Q (.dict [(.none, .tuple ds)]) s1 := by
  unfold eTupP; rw [wp_bd]
  constructor <;> intro h <;> refine wp_mono h fun ds s1 q => ?_
  · split at q
    · rename_i hl; exact ⟨hl, wp_rtn.mp q⟩
    · exact (wp_no.mp q).elim
  · rw [if_pos q.1]; exact wp_rtn.mpr q.2
/-! dict(a plain tuple) -/
def asPr : List D → Option (List (D × D))
  | [.dict [(.none, .tuple ps)]] => (prsT ps).map (mergeT [])
  | _ => none
theorem asPr_some {xs : List D} {ds : List (D × D)} (h : asPr xs = some ds) : ∃ ps kvs, xs = [.dict [(.none, .tuple ps)]] ∧ prsT ps = some kvs ∧ ds = mergeT [] kvs := by
  unfold asPr at h
  split at h
  · rename_i ps
    cases e : prsT ps with
    | none => rw [e] at h; cases h
    | some kvs => rw [e] at h; cases h; exact ⟨ps, kvs, rfl, e, rfl⟩
  · cases h
def nPairsT (fr : M (List D)) : M (List (D × D)) := bd fr fun xs => lf (asPr xs)
@[simp ↓] theorem wp_nPairsT {fr : M (List D)} {s : S} {Q : List (D × D) → S → Prop} : wp (nPairsT fr) s Q ↔ wp fr s fun xs s1 => ∃ ps kvs, xs = [.dict [(.none, .tuple ps)]] ∧ prsT ps = some kvs ∧ Q (mergeT [] kvs) s1 := by
  unfold nPairsT; rw [wp_bd]
  constructor <;> intro h <;> refine wp_mono h fun xs s1 q => ?_
  · obtain ⟨ds, e, q⟩ := wp_lf.mp q
    obtain ⟨ps, kvs, rfl, hk, rfl⟩ := asPr_some e
    exact ⟨ps, kvs, rfl, hk, q⟩
  · obtain ⟨ps, kvs, rfl, hk, q⟩ := q
    exact wp_lf.mpr ⟨_, by simp [asPr, hk], q⟩
end DL
namespace DL
open PySem PySem.Spec PyProof.Rows L2
/-! DL71: [.. for k in l[i] ..], l[i] a dict. -/
def itX (i j : Nat) : M (List D) := fun s => match s.g[i]?, s.g[j]? with
  | some (some (.dat x)), some (some (.dat y)) => (match dIx x y with
    | some (.dict kvs) => if isP kvs = true then none else some (kvs.map (·.1), s)
    | _ => none)
  | _, _ => none
theorem itX_some {i j : Nat} {s s1 : S} {ds : List D} (e : itX i j s = some (ds, s1)) : ∃ x y kvs, s.g[i]? = some (some (.dat x)) ∧ s.g[j]? = some (some (.dat y)) ∧ dIx x y = some (.dict kvs) ∧ isP kvs = false ∧ ds = kvs.map (·.1) ∧ s1 = s := by
  unfold itX at e
  split at e
  · rename_i x y h1 h2
    split at e
    · rename_i kvs h3
      split at e
      · cases e
      · rename_i np
        cases e
        exact ⟨x, y, kvs, h1, h2, h3, by simpa using np, rfl, rfl⟩
    · cases e
  · cases e
@[simp ↓] theorem wp_itX {i j : Nat} {s : S} {Q : List D → S → Prop} : wp (itX i j) s Q ↔ match s.g[i]?, s.g[j]? with
    | some (some (.dat x)), some (some (.dat y)) => ∃ kvs, dIx x y = some (.dict kvs) ∧ isP kvs = false ∧ Q (kvs.map (·.1)) s
    | _, _ => False := by
  constructor
  · intro ⟨ds, s1, e, q⟩
    obtain ⟨x, y, kvs, h1, h2, h3, h4, rfl, rfl⟩ := itX_some e
    rw [h1, h2]
    exact ⟨kvs, h3, h4, q⟩
  · intro h
    split at h
    · rename_i x y h1 h2
      obtain ⟨kvs, h3, h4, q⟩ := h
      exact ⟨_, s, by simp [itX, h1, h2, h3, h4], q⟩
    · exact h.elim
end DL
namespace DL
open PySem PySem.Spec PyProof.Rows L2
/-! DL72: f(raising, ..), raising if c else raising, x and y in an except suite. -/
def xOwn (sem : FS) (fr : MX (List D)) : MX D := bx fr fun ds => fun s => match sem (ds.map Val.dat) s.k with
  | some (d, k') => some (.ok d, { s with k := k' })
  | none => none
def xIfE (c : M Bool) (fa fb : MX D) : MX D := fun s => match c s with
  | some (b, s1) => if b = true then fa s1 else fb s1
  | none => none
section
variable {s : S}
theorem wp_lx_ok {α : Type} {x : α} {Q : RX α → S → Prop} (h : wp (α := RX α) (lx (some x)) s Q) : Q (.ok x) s := by
  obtain ⟨r, s1, e, q⟩ := h
  cases e; exact q
theorem wp_lx_no {α : Type} {Q : RX α → S → Prop} (h : wp (α := RX α) (lx none) s Q) : False := by
  obtain ⟨r, s1, e, q⟩ := h
  cases e
@[simp ↓] theorem wp_axQ {f : MX D} {Q : RX (List D) → S → Prop} : wp (α := RX (List D)) (axQ f) s Q ↔ wp (α := RX D) f s fun r s1 => match r with
    | .ok d => ∃ ds, (d = .list ds ∨ d = .tuple ds ∨ d = .dict [(.none, .tuple ds)]) ∧ Q (.ok ds) s1
    | .xc c => Q (.xc c) s1 := by
  unfold axQ
  rw [wp_bx]
  constructor <;> intro h <;> refine wp_mono (α := RX D) h fun r s1 q => ?_
  · cases r with
    | xc c => exact q
    | ok d =>
      dsimp only at q
      split at q
      · exact ⟨_, .inl rfl, wp_lx_ok q⟩
      · exact ⟨_, .inr (.inl rfl), wp_lx_ok q⟩
      · exact ⟨_, .inr (.inr rfl), wp_lx_ok q⟩
      · exact (wp_lx_no q).elim
  · cases r with
    | xc c => exact q
    | ok d => obtain ⟨ds, rfl | rfl | rfl, q⟩ := q <;> exact ⟨_, _, rfl, q⟩
@[simp ↓] theorem wp_xTup {fr : MX (List D)} {Q : RX D → S → Prop} : wp (α := RX D) (xTup fr) s Q ↔ wp (α := RX (List D)) fr s fun r s1 => match r with
    | .ok ds => ds.length ≤ lim ∧ Q (.ok (.tuple ds)) s1
    | .xc c => Q (.xc c) s1 := by
  unfold xTup
  rw [wp_bx]
  constructor <;> intro h <;> refine wp_mono (α := RX (List D)) h fun r s1 q => ?_
  · cases r with
    | xc c => exact q
    | ok ds =>
      dsimp only at q ⊢
      by_cases hl : ds.length ≤ lim
      · rw [if_pos hl] at q
        exact ⟨hl, wp_lx_ok q⟩
      · rw [if_neg hl] at q
        exact (wp_lx_no q).elim
  · cases r with
    | xc c => exact q
    | ok ds =>
      dsimp only at q ⊢
      rw [if_pos q.1]
      exact ⟨_, _, rfl, q.2⟩
@[simp ↓] theorem wp_xOp2 {op : D → D → Option D} {fa fb : MX D} {Q : RX D → S → Prop} : wp (α := RX D) (xOp2 op fa fb) s Q ↔ wp (α := RX D) fa s fun r s1 => match r with
    | .ok x => wp (α := RX D) fb s1 fun r2 s2 => (match r2 with
      | .ok y => ∃ d, op x y = some d ∧ Q (.ok d) s2
      | .xc c => Q (.xc c) s2)
    | .xc c => Q (.xc c) s1 := by
  unfold xOp2
  rw [wp_bx]
  constructor <;> intro h <;> refine wp_mono (α := RX D) h fun r s1 q => ?_ <;> cases r with
  | xc c => exact q
  | ok x =>
    dsimp only at q ⊢
    first
    | (rw [wp_bx] at q
       refine wp_mono (α := RX D) q fun r2 s2 q => ?_
       cases r2 with
       | xc c => exact q
       | ok y => exact wp_lx.mp q)
    | (rw [wp_bx]
       refine wp_mono (α := RX D) q fun r2 s2 q => ?_
       cases r2 with
       | xc c => exact q
       | ok y => exact wp_lx.mpr q)
@[simp ↓] theorem wp_xOwn {sem : FS} {fr : MX (List D)} {Q : RX D → S → Prop} : wp (α := RX D) (xOwn sem fr) s Q ↔ wp (α := RX (List D)) fr s fun r s1 => match r with
    | .ok ds => fp sem (ds.map Val.dat) s1.k fun d k' => Q (.ok d) ⟨s1.g, k'⟩
    | .xc c => Q (.xc c) s1 := by
  unfold xOwn
  rw [wp_bx]
  constructor <;> intro h <;> refine wp_mono (α := RX (List D)) h fun r s1 q => ?_
  · cases r with
    | xc c => exact q
    | ok ds =>
      dsimp only at q ⊢
      obtain ⟨r, s2, e, q⟩ := q
      dsimp only at e
      split at e
      · rename_i d k' hs
        cases e
        exact ⟨d, k', hs, q⟩
      · cases e
  · cases r with
    | xc c => exact q
    | ok ds =>
      dsimp only at q ⊢
      obtain ⟨d, k', hs, q⟩ := q
      exact ⟨_, _, by simp only [hs], q⟩
@[simp ↓] theorem wp_xIfE {c : M Bool} {fa fb : MX D} {Q : RX D → S → Prop} : wp (α := RX D) (xIfE c fa fb) s Q ↔ wp c s fun b s1 => if b = true then wp (α := RX D) fa s1 Q else wp (α := RX D) fb s1 Q := by
  constructor
  · rintro ⟨r, s', e, q⟩
    unfold xIfE at e
    split at e
    · rename_i b s1 h1
      refine ⟨b, s1, h1, ?_⟩
      cases b with
      | true => rw [if_pos rfl] at e ⊢; exact ⟨r, s', e, q⟩
      | false => rw [if_neg Bool.false_ne_true] at e ⊢; exact ⟨r, s', e, q⟩
    · cases e
  · rintro ⟨b, s1, h1, q⟩
    cases b with
    | true => rw [if_pos rfl] at q; obtain ⟨r, s', e, q⟩ := q; exact ⟨r, s', by unfold xIfE; simp only [h1]; exact e, q⟩
    | false => rw [if_neg Bool.false_ne_true] at q; obtain ⟨r, s', e, q⟩ := q; exact ⟨r, s', by unfold xIfE; simp only [h1]; exact e, q⟩
end
end DL
namespace PySem.SeqAt
open PySem PySem.Calls PyProof.Rows PyProof.V PySem.Spec
end PySem.SeqAt
namespace DL
open PySem PySem.Spec PyProof.Rows L2
/-! DL73: a dict != {}. -/
def dNe0D (x y : D) : Option D := match x, y with
  | .dict ds, .dict [] => if isP ds = true then none else some (.bool (!(ds.length == 0)))
  | _, _ => none
@[simp] theorem dNe0D_e {ds : List (D × D)} : dNe0D (.dict ds) (.dict []) = if isP ds = true then none else some (.bool (!(ds.length == 0))) := rfl
end DL
namespace DL
open PySem PySem.Spec PyProof.Rows L2
open LamX (TabB TabS Tabs CodeO LamS lamEnv lamCx)
/-! DL74: a lambda handed to a def that tells what its call gives, or how it is refused. -/
/-! ### what is told of a call -/
/-- the first clause that takes the class answers -/
def hsel : List ((Str → Option Bool) × D) → Str → Option D
  | [], _ => none
  | (tb, d) :: r, c => match tb c with
    | some true => some d
    | some false => hsel r c
    | none => none
def eTold (ok : Str) (hs : List ((Str → Option Bool) × D)) (fm : MX D) : M D := fun s => match fm s with
  | some (.ok d, s') => some (.list [.str ok, d], s')
  | some (.xc c, s') => (hsel hs c.c).map fun d => (d, s')
  | none => none
/-- which classes the clause takes, which it does not -/
structure ClN (K : PySem.W.Frag) (mg : Str → Option Value) (x : Str) (tb : Str → Option Bool) : Prop where
  ex : ∃ C, mg x = some (.ref C) ∧ ∀ c b, tb c = some b → ∃ C0, PySem.W.nsIn K mainGlobals c = some (some (.ref C0)) ∧ PySem.W.exmOne K (.ref C0) (.ref C) = some b
end DL
namespace DL
open PySem PySem.Spec PyProof.Rows L2
/-! DL75: the end of a law whose own def makes lambdas. -/
/-- where law's table stands -/
theorem lawTab_of {K : PySem.W.Frag} {mg : Str → Option Value} {base : Heap} {c T0 f : Addr} (hn : PySem.W.nsIn K mainGlobals "law" = some (some (.ref f))) (hti : PySem.W.tabIn K "law" = some (c, T0)) (tb : LamX.TabB base mg c T0) : ∀ cdv, LookC K f cdv → LawTab K mg base cdv := by
  rintro cdv ⟨oc, od, fd, osl, lk, rfl⟩
  have e : tbsOf K = [(T0, ("law" : Str) ++ ".<locals>.<lambda>")] := by simp [tbsOf, lamDefs, hti]
  refine ⟨c, T0, ?_, ?_, tb⟩
  · rw [e]; exact List.mem_singleton.mpr rfl
  · unfold PySem.W.tabIn at hti
    rw [hn] at hti
    simp only [lk] at hti
    split at hti
    · rename_i c2 hc
      rw [hc]
      split at hti
      · split at hti
        · cases hti; rfl
        · cases hti
      · cases hti
    · cases hti
theorem LawTab.at {K : PySem.W.Frag} {mg : Str → Option Value} {base : Heap} {cdv : Value} (h : LawTab K mg base cdv) : ∃ c P : Addr, cdv = .ref c ∧ LamX.TabB base mg c P ∧ (P, ("law" : Str) ++ ".<locals>." ++ "<lambda>") ∈ tbsOf K ∧ ∀ p ∈ tbsOf K, p.1 = P → p.2 = ("law" : Str) ++ ".<locals>." ++ "<lambda>" := by
  obtain ⟨c, P, h1, h2, h3⟩ := h.ex
  have s0 : (("law" : Str) ++ ".<locals>." ++ "<lambda>") = "law.<locals>.<lambda>" := by decide
  refine ⟨c, P, h2, h3, by rw [s0]; exact h1, fun p hp _ => ?_⟩
  rw [s0]
  have key : ∀ p ∈ tbsOf K, p.2 = ("law.<locals>.<lambda>" : Str) := by
    intro p hp
    unfold tbsOf lamDefs at hp
    simp only [List.filterMap_cons, List.filterMap_nil] at hp
    split at hp
    · cases hp
    · rename_i b hb
      obtain rfl := List.mem_singleton.mp hp
      cases hq : PySem.W.tabIn K "law" with
      | none => rw [hq] at hb; cases hb
      | some z => rw [hq] at hb; cases hb; rfl
  exact key p hp
section
variable {P : Program} {w : World} {K : PySem.W.Frag} {mg : Str → Option Value} {base : Heap}
/-- the law's def is called -/
theorem law_callGT {mb : Str → Option Value} {k : Nat} {fa a c T0 : Addr} {fd : FuncData} {x : Str} {sp : Sp} {s₁ : Shared} {vs : List Value} {ns : List Int}
    (kx : K.In s₁.heap) (gl : s₁.heap.Ns mainGlobals mg) (bl : s₁.heap.Ns builtinsNs mb) (blb : ∀ x : Str, x ≠ "__name__" → mb x = bootBuiltins x) (lim : s₁.heap.NoLimit) (gens : s₁.gens = #[])
    (obj : s₁.heap.get? a = some { cls := .type "list", data := .seq vs.toArray }) (inN : IntsAre vs ns) (short : ns.length ≤ sizeLine) (room : Room k callerA) (hT : s₁.heap.get? T0 = some { cls := .none, data := .fields #[] }) (nT : K.lookup T0 = none) (C : PySem.W.CodeHd s₁.heap c T0) (hti : PySem.W.tabIn K "law" = some (c, T0))
    (hbm : ∃ (bm : Addr) (ob : Obj), mg "__builtins__" = some (.ref bm) ∧ bm ≠ builtinsNs ∧ s₁.heap.get? bm = some ob ∧ ob.cls = .type "module" ∧ ob.dict = some builtinsNs ∧ ob.data = .plain)
    (fn : ∀ base : Heap, K.In base → base.Ns mainGlobals mg → LamX.TabB base mg c T0 → FnG P w K mg base k fa fd [x] sp) (binds : ∀ (s : Shared) (u : Value), BindsTo s fd ⟨[u], []⟩ [(x, u)])
    (prom : ∀ H : Hp, LamX.Tabs (tbsOf K) H → SqL K H a (ns.map V.int) → sp [.ref a] H (fun v _ => v = .bl true) fun _ _ _ => False) :
    codeAny (model P w) callerA (.call (.ref fa) ⟨[.ref a], []⟩) (fun r s' => r = .ok (.ret (.bool true)) ∧ OldK s₁.heap s'.heap ∧ s'.os = s₁.os ∧ AllBare s'.gens) s₁ := by
  have rel := vals_ints inN
  have lenV := inN.length
  have naT : a ≠ T0 := fun z => by
    rw [z, hT] at obj
    have z2 : Data.fields #[] = Data.seq vs.toArray _ := congrArg Obj.data (Option.some.inj obj)
    cases z2
  have main : ∀ H : Hp, H T0 = some (.tbl #[]) → (∀ b, H b = none ∨ b = T0 ∨ ∃ o xs, H b = some (.frz o (.lst xs))) → SqL K H a (ns.map V.int) → HOk P w H s₁.heap → (∀ b, H b ≠ none → b = a ∨ b = T0) → (H a ≠ none → K.lookup a = none) →
      codeAny (model P w) callerA (.call (.ref fa) ⟨[.ref a], []⟩) (fun r s' => r = .ok (.ret (.bool true)) ∧ OldK s₁.heap s'.heap ∧ s'.os = s₁.os ∧ AllBare s'.gens) s₁ := by
    intro H hHT only seq held oneA noK
    have isA : ∀ {b : Addr} {u : HO}, H b = some u → b = a ∨ b = T0 := fun {b u} q => oneA b (by rw [q]; simp)
    have inB : ∀ {b : Addr} {o : Obj}, s₁.heap.get? b = some o → H b = none → (hidT s₁.heap H).get? b = some o := fun e n => hidT_get e n
    have dictFree : ∀ {b : Addr} {o : Obj} {es : Array DictEntry} {ep : Nat}, s₁.heap.get? b = some o → o.data = .dict es ep → H b = none := by
      intro b o es ep e d
      cases q : H b with
      | none => rfl
      | some u =>
        rcases isA q with rfl | rfl
        · rw [obj] at e; cases e
          have dd : Data.seq vs.toArray _ = Data.dict es ep := d
          cases dd
        · rw [hT] at e; cases e
          have dd : Data.fields #[] = Data.dict es ep := d
          cases dd
    have nsB : ∀ {b : Addr} {m : Str → Option Value}, s₁.heap.Ns b m → (hidT s₁.heap H).Ns b m := fun {b m} ⟨o, es, ep, e, d, r⟩ => ⟨o, es, ep, inB e (dictFree e d), d, r⟩
    have kB : K.In (hidT s₁.heap H) := by
      intro b o e
      refine inB (kx b o e) ?_
      cases q : H b with
      | none => rfl
      | some u =>
        rcases isA q with rfl | rfl
        · rw [noK (by rw [q]; simp)] at e; cases e
        · rw [nT] at e; cases e
    have free : ∀ {b : Addr} {o : Obj}, s₁.heap.get? b = some o → (∀ vs n, o.data ≠ .seq vs n) → o.data ≠ .fields #[] → H b = none := by
      intro b o e n1 n2
      cases q : H b with
      | none => rfl
      | some u =>
        rcases isA q with rfl | rfl
        · rw [obj] at e; cases e; exact (n1 _ _ rfl).elim
        · rw [hT] at e; cases e; exact (n2 rfl).elim
    have tb : LamX.TabB (hidT s₁.heap H) mg c T0 := by
      refine ⟨?_, ?_, fun z => ?_⟩
      · obtain ⟨o, us, file, tf, flags, tg, inF, text, tt, e1, r1, r2, r3, r4, r5, r6, r7, r8, hne⟩ := C
        refine ⟨o, us, file, tf, flags, tg, inF, text, tt, inB e1 (free e1 (fun vs n z => ?_) fun z => ?_), r1, r2, r3, r4, r5, r6, r7, r8, hne⟩
        · rw [r2] at z; cases z
        · rw [r2] at z; cases z; simp at r3
      · obtain ⟨bm, ob, b1, b2, b3, b4, b5, b6⟩ := hbm
        refine ⟨bm, ob, b1, b2, fun q => ?_, fun q => ?_, inB b3 (free b3 (fun vs n z => ?_) fun z => ?_), b4, b5, b6⟩
        · obtain ⟨o, es, ep, e, hd, _⟩ := gl
          rw [q, e] at b3; cases b3; rw [hd] at b6; cases b6
        · rw [q, hT] at b3; cases b3; cases b6
        · rw [b6] at z; cases z
        · rw [b6] at z; cases z
      · obtain ⟨o, es, ep, e, hd, _⟩ := gl
        rw [z, hT] at e; cases e; cases hd
    have tabs : LamX.Tabs (tbsOf K) H := by
      intro p hp
      have e : tbsOf K = [(T0, ("law" : Str) ++ ".<locals>.<lambda>")] := by simp [tbsOf, lamDefs, hti]
      rw [e] at hp
      obtain rfl := List.mem_singleton.mp hp
      exact LamX.TabS.nil hHT
    have md : Mod K mg (hidT s₁.heap H) := ⟨kB, nsB gl, ⟨mb, nsB bl, blb⟩, let ⟨mc, h1, h2⟩ := lim; ⟨mc, nsB h1, h2⟩⟩
    have en : Env0 P w K mg (hidT s₁.heap H) callerA [] s₁ H := ⟨rfl, md, fun b o e => of_hidT e, Nat.le_of_eq (hidT_size _ _), trivial, fun b z => absurd (show b ∈ ([] : List Addr) from z) (by simp), held, .of_eq gens⟩
    refine codeAny_mono ((fn _ kB (nsB gl) tb).run callerA [] s₁ H ⟨[.ref a], []⟩ [.ref a] [.ref a] _ _ rfl room en (binds s₁ (.ref a)) (.cons rfl .nil) (prom H tabs seq)) fun r s' res => ?_
    cases r with
    | error e => exact False.elim res
    | ok fl =>
      cases fl with
      | next => exact False.elim res
      | brk => exact False.elim res
      | cont => exact False.elim res
      | ret u =>
        obtain ⟨v, H', os, bare, un, held', rv, q⟩ := res
        have q : v = .bl true := q
        subst q
        obtain rfl : u = Value.bool true := rv
        have key : ∀ b o, b ≠ T0 → s₁.heap.get? b = some o → s'.heap.get? b = some o := fun b o nb e => by
          cases q : H b with
          | none => exact un.keep b o e q (fun z => absurd (show b ∈ ([] : List Addr) from z) (by simp)) (by simp)
          | some u =>
            rcases only b with z | z | ⟨ob, xs, z⟩
            · rw [q] at z; cases z
            · exact (nb z).elim
            · obtain ⟨e1, _⟩ := held b _ z
              obtain ⟨e2, _⟩ := held' b _ (un.frzs b ob _ z)
              rw [e] at e1; cases e1
              exact e2
        obtain ⟨more, hm⟩ : ∃ more : Array Value, s'.heap.get? T0 = some { cls := .none, data := .fields more } := by
          obtain ⟨more, z⟩ := un.tbls T0 #[] hHT
          exact ⟨_, held' T0 _ z⟩
        refine ⟨rfl, ⟨fun b o e => ?_, fun b o e => ?_⟩, os, bare⟩
        · by_cases hb : b = T0
          · subst hb
            rw [hT] at e; cases e
            exact .inr (.inl ⟨(C.tab hT).isCodeTable, rfl, #[], more, rfl, by rw [Array.empty_append]; exact hm⟩)
          · exact .inl (key b o hb e)
        · by_cases hb : b = T0
          · subst hb; exact ⟨_, hm⟩
          · exact ⟨o, key b o hb e⟩
  cases hk : K.lookup a with
  | some o =>
    have e := kx a o hk
    rw [obj] at e
    cases e
    refine main (fun b => if b = T0 then some (.tbl #[]) else none) (if_pos rfl) (fun b => ?_) (.inr ⟨_, vs.toArray, _, hk, rfl, rfl, rfl, by rw [List.size_toArray, lenV]; exact short, by simpa using rel⟩) (fun b u z => ?_) (fun b z => ?_) fun z => absurd (if_neg naT) z
    · by_cases hb : b = T0
      · exact .inr (.inl hb)
      · exact .inl (if_neg hb)
    · by_cases hb : b = T0
      · subst hb
        have z := (if_pos rfl).symm.trans z
        cases z
        exact hT
      · exact nomatch (if_neg hb).symm.trans z
    · by_cases hb : b = T0
      · exact .inr hb
      · exact absurd (if_neg hb) z
  | none =>
    refine main (fun b => if b = a then some (.frz { cls := .type "list", data := .seq vs.toArray } (.lst (ns.map V.int))) else if b = T0 then some (.tbl #[]) else none) ((if_neg naT.symm).trans (if_pos rfl)) (fun b => ?_) (.inl (.inr ⟨_, if_pos rfl⟩)) (fun b u z => ?_) (fun b z => ?_) fun _ => hk
    · by_cases hb : b = a
      · exact .inr (.inr ⟨_, _, if_pos hb⟩)
      · by_cases hb2 : b = T0
        · exact .inr (.inl hb2)
        · exact .inl ((if_neg hb).trans (if_neg hb2))
    · by_cases hb : b = a
      · subst hb
        have z := (if_pos rfl).symm.trans z
        cases z
        exact ⟨obj, by rw [List.length_map]; exact short, vs, _, rel, obj⟩
      · have z := (if_neg hb).symm.trans z
        by_cases hb2 : b = T0
        · subst hb2
          have z := (if_pos rfl).symm.trans z
          cases z
          exact hT
        · exact nomatch (if_neg hb2).symm.trans z
    · by_cases hb : b = a
      · exact .inl hb
      · by_cases hb2 : b = T0
        · exact .inr hb2
        · exact absurd ((if_neg hb).trans (if_neg hb2)) z
end
theorem walk_GT {l : PySem.W.OpenLaw} {n k : Nat} {q : Program} {loose : List Str} {XP : (Str → Option Value) → Heap → Prop} {YP : World → Heap → Prop} {d : DefRec} {K : Params → PySem.W.Frag} {sp : PySem.W.Frag → Sp} {x : Str}
    (hn : l.most = some n) (hn2 : n ≤ sizeLine) (hdf : d.params.defaults = []) (hr : Room k callerA) (hrec : (recsOf q).find? (fun e => e.name == ("law" : Str)) = some d) (hY : ∀ (w : World) (h : Heap), YP w h → (K w.params).In h)
    (F : ∀ (w : World) (mg : Str → Option Value) (fa : Addr) (h : Heap), (K w.params).In h → h.Ns mainGlobals mg → mg d.name = some (.ref fa) →
      ∃ (fd : FuncData) (c T0 : Addr), PySem.W.tabIn (K w.params) "law" = some (c, T0) ∧ (K w.params).lookup T0 = none ∧ (∀ (s : Shared) (u : Value), BindsTo s fd ⟨[u], []⟩ [(x, u)]) ∧ ∀ base : Heap, (K w.params).In base → base.Ns mainGlobals mg → LamX.TabB base mg c T0 → FnG l.prog w (K w.params) mg base k fa fd [x] (sp (K w.params)))
    (hsp : ∀ (K : PySem.W.Frag) (H : Hp) (a : Addr) (ns : List Int), ns.length ≤ n → LamX.Tabs (tbsOf K) H → SqL K H a (ns.map V.int) → sp K [.ref a] H (fun v _ => v = .bl true) fun _ _ _ => False) :
    PySem.W.WalkO q loose XP YP l.row.toRowW d [] (fun f vs => PySem.call f vs) := by
  refine Att.attach_call hn hdf fun w s₀ s₁ mg mb fa o pm cd doc a vs ns G Y ho hd hcd hmg hobj hints hlen hg => ?_
  have kx := hY w _ Y
  obtain ⟨fd, c, T0, hti, nT, bnd, fnG⟩ := F w mg fa _ kx G.T.g hmg
  obtain ⟨C, hT⟩ := PySem.W.tab_of G.T kx hrec hti
  exact law_callGT kx G.T.g G.T.b G.T.builtins G.T.nolimit hg hobj hints (Nat.le_trans hlen hn2) hr hT nT C hti G.T.bmain fnG bnd fun H tabs seq => hsp _ H a ns hlen tabs seq
@[simp ↓] theorem wp_eTold {okw : Str} {hs : List ((Str → Option Bool) × D)} {fm : MX D} {s : S} {Q : D → S → Prop} : wp (eTold okw hs fm) s Q ↔ wp (α := RX D) fm s fun r s1 => match r with
    | .ok d => Q (.list [.str okw, d]) s1
    | .xc c => ∃ d, hsel hs c.c = some d ∧ Q d s1 := by
  unfold wp eTold
  constructor
  · rintro ⟨a, s', e, q⟩
    cases h : fm s with
    | none => rw [h] at e; cases e
    | some x =>
      obtain ⟨r, s1⟩ := x
      rw [h] at e
      refine ⟨r, s1, rfl, ?_⟩
      cases r with
      | ok d => cases e; exact q
      | xc c =>
        dsimp only at e ⊢
        cases hd : hsel hs c.c with
        | none => rw [hd] at e; cases e
        | some d => rw [hd] at e; cases e; exact ⟨_, rfl, q⟩
  · rintro ⟨r, s1, e, q⟩
    rw [e]
    cases r with
    | ok d => exact ⟨_, _, rfl, q⟩
    | xc c =>
      obtain ⟨d, hd, q⟩ := q
      exact ⟨d, s1, by dsimp only; rw [hd]; rfl, q⟩
end DL
namespace DL
open PySem PySem.Spec PyProof.Rows L2
/-! DL76: a list of the caller that a def with an object changes: a guest. -/
abbrev FSG := List Val → Dk → Option (D × Ob × List D × Dk)
/-- x(obj, e1, e2, list, e3) -/
def eCallG (i j : Nat) (sem : FSG) (f1 f2 f3 : M D) : M D := fun s => match s.g[i]?, s.g[j]? with
  | some (some (.obj _)), some (some (.lst _)) => (bd f1 fun x1 => bd f2 fun x2 => bd f3 fun x3 => fun s1 => match s1.g[i]?, s1.g[j]? with
    | some (some (.obj o)), some (some (.lst ds)) => if objFree (s1.g.set i none) = true ∧ i ≠ j then (match sem [.obj o, .dat x1, .dat x2, .gst ds, .dat x3] s1.k with
      | some (d, o', ds', k') => some (d, (⟨(s1.g.set i (some (.obj o'))).set j (some (.lst ds')), k'⟩ : S))
      | none => none) else none
    | _, _ => none) s
  | _, _ => none
/-! the guest in the def -/
def isGst : Option Val → Bool
  | some (.gst _) => true
  | _ => false
def gstFree (g : List (Option Val)) : Bool := g.all fun x => !isGst x
@[simp] theorem gstFree_nil : gstFree [] = true := rfl
@[simp] theorem gstFree_cons {x : Option Val} {r : List (Option Val)} : gstFree (x :: r) = (!isGst x && gstFree r) := rfl
@[simp] theorem isGst_none : isGst none = false := rfl
@[simp] theorem isGst_dat {d : D} : isGst (some (.dat d)) = false := rfl
@[simp] theorem isGst_obj {o : Ob} : isGst (some (.obj o)) = false := rfl
@[simp] theorem isGst_lst {d : List D} : isGst (some (.lst d)) = false := rfl
@[simp] theorem isGst_deck : isGst (some .deck) = false := rfl
@[simp] theorem isObj_gst {d : List D} : isObj (some (.gst d)) = false := rfl
def eIxG (i : Nat) (fb : M D) : M D := fun s => match s.g[i]? with
  | some (some (.gst _)) => (bd fb fun y s1 => match y, s1.g[i]? with
    | .int j, some (some (.gst ds)) => (match atI ds j with
      | some d => some (d, s1)
      | none => none)
    | _, _ => none) s
  | _ => none
/-! wp -/
def fg (sem : FSG) (xs : List Val) (k : Dk) (Q : D → Ob → List D → Dk → Prop) : Prop := ∃ d o ds k', sem xs k = some (d, o, ds, k') ∧ Q d o ds k'
section
variable {s : S} {Q : D → S → Prop}
@[simp ↓] theorem wp_callG {i j : Nat} {sem : FSG} {f1 f2 f3 : M D} : wp (eCallG i j sem f1 f2 f3) s Q ↔ (∃ o0, s.g[i]? = some (some (.obj o0))) ∧ (∃ l0, s.g[j]? = some (some (.lst l0))) ∧ wp f1 s fun x1 s1 => wp f2 s1 fun x2 s2 => wp f3 s2 fun x3 s3 => ∃ o ds, s3.g[i]? = some (some (.obj o)) ∧ s3.g[j]? = some (some (.lst ds)) ∧ objFree (s3.g.set i none) = true ∧ i ≠ j ∧
    fg sem [.obj o, .dat x1, .dat x2, .gst ds, .dat x3] s3.k fun d o' ds' k' => Q d ⟨(s3.g.set i (some (.obj o'))).set j (some (.lst ds')), k'⟩ := by
  constructor
  · rintro ⟨d, s', e, q⟩
    unfold eCallG at e
    split at e
    · rename_i o0 ds0 hi0 hj0
      obtain ⟨x1, s1, e1, e⟩ := bd_some e
      obtain ⟨x2, s2, e2, e⟩ := bd_some e
      obtain ⟨x3, s3, e3, e⟩ := bd_some e
      refine ⟨⟨_, hi0⟩, ⟨_, hj0⟩, x1, s1, e1, x2, s2, e2, x3, s3, e3, ?_⟩
      split at e
      · rename_i o ds hi hj
        split at e
        · rename_i hc
          split at e
          · rename_i d' o' ds' k' hs
            cases e
            exact ⟨o, ds, hi, hj, hc.1, hc.2, _, _, _, _, hs, q⟩
          · cases e
        · cases e
      · cases e
    · cases e
  · rintro ⟨⟨o0, hi0⟩, ⟨l0, hj0⟩, x1, s1, e1, x2, s2, e2, x3, s3, e3, o, ds, hi, hj, hc1, hc2, d, o', ds', k', hs, q⟩
    refine ⟨d, _, ?_, q⟩
    unfold eCallG
    simp only [hi0, hj0]
    unfold bd
    simp only [e1, e2, e3, hi, hj, hs, if_pos (And.intro hc1 hc2)]
@[simp ↓] theorem wp_ixG {i : Nat} {fb : M D} : wp (eIxG i fb) s Q ↔ (∃ l0, s.g[i]? = some (some (.gst l0))) ∧ wp fb s fun y s1 => ∃ j ds d, y = .int j ∧ s1.g[i]? = some (some (.gst ds)) ∧ atI ds j = some d ∧ Q d s1 := by
  constructor
  · rintro ⟨d, s', e, q⟩
    unfold eIxG at e
    split at e
    · rename_i ds0 hi0
      obtain ⟨y, s1, e1, e⟩ := bd_some e
      refine ⟨⟨_, hi0⟩, y, s1, e1, ?_⟩
      split at e
      · rename_i j ds hi
        split at e
        · rename_i d' hd
          cases e
          exact ⟨j, ds, _, rfl, hi, hd, q⟩
        · cases e
      · cases e
    · cases e
  · rintro ⟨⟨l0, hi0⟩, y, s1, e1, j, ds, d, rfl, hi, hd, q⟩
    refine ⟨d, s1, ?_, q⟩
    unfold eIxG
    simp only [hi0]
    unfold bd
    simp only [e1, hi, hd]
end
end DL
namespace DL
open PySem PySem.Spec PyProof.Rows L2
/-! DL77: zip of lists and tuples in any mix. -/
/-! as data -/
def asZB (f : M (List D)) : M (List D) := bd f fun x => match x with
  | [.list ds, .list es] => rtn (zipD ds es)
  | [.tuple ds, .tuple es] => rtn (zipD ds es)
  | [.tuple ds, .list es] => rtn (zipD ds es)
  | [.list ds, .tuple es] => rtn (zipD ds es)
  | _ => fun _ => none
@[simp ↓] theorem wp_asZB {f g : M D} {s : S} {Q : List D → S → Prop} : wp (asZB (aCons f (aCons g aNil))) s Q ↔ wp f s fun x s1 => wp g s1 fun y s2 => ∃ ds es, (x = .list ds ∨ x = .tuple ds) ∧ (y = .list es ∨ y = .tuple es) ∧ Q (zipD ds es) s2 := by
  have no : ∀ {s : S} {Q : List D → S → Prop}, wp (fun _ => none) s Q → False := fun h => by obtain ⟨_, _, e, _⟩ := h; cases e
  unfold asZB; simp only [wp_bd, wp_aCons, wp_aNil]
  constructor <;> intro h <;> refine wp_mono h fun x s1 h => ?_ <;> refine wp_mono h fun y s2 q => ?_
  · cases x with
    | list ds => cases y with
      | list es => exact ⟨ds, es, .inl rfl, .inl rfl, wp_rtn.mp q⟩
      | tuple es => exact ⟨ds, es, .inl rfl, .inr rfl, wp_rtn.mp q⟩
      | _ => exact (no q).elim
    | tuple ds => cases y with
      | list es => exact ⟨ds, es, .inr rfl, .inl rfl, wp_rtn.mp q⟩
      | tuple es => exact ⟨ds, es, .inr rfl, .inr rfl, wp_rtn.mp q⟩
      | _ => exact (no q).elim
    | _ => exact (no q).elim
  · obtain ⟨ds, es, rfl | rfl, rfl | rfl, q⟩ := q <;> exact wp_rtn.mpr q
end DL
namespace DL
open PySem PySem.Spec PyProof.Rows L2
/-! DL78: plain tuples compared. -/
def fgD : D → D
  | .dict [(.none, .tuple ds)] => .tuple ds
  | d => d
@[simp] theorem fgD_pln {ds : List D} : fgD (.dict [(.none, .tuple ds)]) = .tuple ds := rfl
@[simp] theorem fgD_tup {ds : List D} : fgD (.tuple ds) = .tuple ds := rfl
end DL
namespace DL
open PySem PySem.Spec PyProof.Rows L2
/-! DL79: errors of own classes with one field: made, raised; their fields and classes in a suite. -/
/-- what __init__ keeps: the field is set -/
def spEr (K : PySem.W.Frag) (f : Str) : Sp := fun vs H Q _ => ∃ (a C : Addr) (y : V), vs = [.ref a, y] ∧ OexC K C ∧ PySem.W.findIn K (.ref C) f = some none ∧ H a = some (exo a C none) ∧
  ∀ dx, H dx = none → dx ≠ a → Q .non (upd (upd H dx (exd dx [(f, y)])) a (exo a C (some dx)))
/-- a class whose errors have the field f -/
structure ErB (P : Program) (w : World) (K : PySem.W.Frag) (mg : Str → Option Value) (base : Heap) (k : Nat) (c f : Str) : Prop where
  ex : ∃ (C fI : Addr) (fd : FuncData), mg c = some (.ref C) ∧ PySem.W.nsIn K mainGlobals c = some (some (.ref C)) ∧ OexC K C ∧ PySem.W.findIn K (.ref C) f = some none ∧ PySem.W.findIn K (.ref C) "__init__" = some (some (.ref fI)) ∧
    PySem.W.typeIn K (.ref fI) = some (.type "function") ∧ FnOk P w K mg base CX0 k fI fd ["self", f] (spEr K f) ∧ Binds K fd ["self", f] []
/-- an error's field may be read -/
structure ErF (K : PySem.W.Frag) (c f : Str) : Prop where
  ex : ∃ C, PySem.W.nsIn K mainGlobals c = some (some (.ref C)) ∧ XfC K C ∧ PySem.W.findIn K (.ref C) f = some none
theorem heap_made {H : Hp} {a dx : Addr} {o1 o2 o3 o4 : HO} (ha : H a = none) (n : dx ≠ a) : upd (del (upd (upd (upd H a o1) dx o2) a o3) a) dx o4 = upd H dx o4 := by
  funext b
  by_cases hb : b = dx
  · rw [hb, upd_same, upd_same]
  · rw [upd_ne hb, upd_ne hb]
    by_cases hx : b = a
    · rw [hx, del_same, ha]
    · rw [del_ne hx, upd_ne hx, upd_ne hb, upd_ne hx]
section
variable {X : Cx} {W : WX} {x f : Str} {p0 pos pos2 : Pos} {e : Expr} {te : TE} {m : M D} {k : Nat}
/-- raise C(e) -/
theorem xx_raiseF (T : ErB X.prog X.w X.K X.mg X.base k x f) (tk : Takes X W) (hr : Room (k + 1) X.A) (h : DE X e te m) (hc : X.calm = true := by rfl) (hg : Gl X x := by rfl) (hdb : (x == ("__debug__" : Str)) = false := by decide)
    (he : starEach (e :: []) X.env = (false, eval e X.env) :: starEach [] X.env := by rfl) (hpl : (backTo pos (starEach [] X.env)).any (·.1) = false := by rfl) :
    X1X X W (.Raise (some (.Call (.Name x p0) [e] [] pos)) none pos2) (xRaiseF x f m) := by
  obtain ⟨C, fI, fd, hm, hn, hox, hno, hi, hti, F, hb⟩ := T.ex
  refine ⟨_, ps_raise hc tk (pmk_oex hox hi hti F hr hb .nil pass0 hg hm (pa_cons h.p pa_nil he) hdb he hpl), ?_⟩
  intro A hid P s σ H r s' ok e0 D q
  unfold xRaiseF at e0
  cases hms : m s with
  | none => rw [hms] at e0; cases e0
  | some y =>
    obtain ⟨d, s1⟩ := y
    rw [hms] at e0
    cases e0
    refine h.v A hid P s σ H d _ ok hms _ fun v P1 H1 ok1 st1 rv => ⟨by show 1 ≤ 1000; decide, fun a ha => ?_⟩
    refine ⟨a, C, v, rfl, hox, hno, upd_same, fun dx h1 h2 => ?_⟩
    have hdx : H1 dx = none := by rwa [upd_ne h2] at h1
    refine ⟨rfl, dx, [(f, v)], upd_same, ?_, hdx, ?_⟩
    · rw [upd_ne h2, upd_same]
    · rw [heap_made ha h2]
      have g := Grw.new (o := HO.xd [(f, v)]) hdx
      exact q (.ref C) (some dx) σ P1 _ ⟨⟨C, rfl, hn⟩, dx, v, rfl, mask_new (ok1.free hdx), rv.mono (grw_mask g)⟩ (ok1.grw g) (st1.trans (Stp.grw g))
end
/-! in a suite: the field -/
def hFld (x f : Str) : HF := fun c => if c.c = x then (match c.fd with
  | some (g, d) => if g = f then some d else none
  | none => none) else none
section
variable {X : Cx} {i : Nat} {e a b : Expr} {h ha hb : HF} {pos : Pos}
theorem isCls.uniq {K : PySem.W.Frag} {x : Str} {cls : Value} {C : Addr} (h : isCls K x cls) (n : PySem.W.nsIn K mainGlobals x = some (some (.ref C))) : cls = .ref C := by
  obtain ⟨C2, rfl, n2⟩ := h
  rw [n] at n2
  injection n2 with n2; injection n2 with n2; injection n2 with n2
  rw [n2]
theorem hs_fld {x y f : Str} {py : Pos} (T : ErF X.K x f) (hN : X.N[i]? = some y := by rfl) (hv : Vis X.env.scope y := by first | exact Or.inl rfl | exact Or.inr (Or.inl rfl) | exact Or.inr (Or.inr rfl))
    (hd : (y == ("__debug__" : Str)) = false := by decide) (hcd : (y == ("__classdict__" : Str)) = false := by decide)
    (hbs : attributeBase (.Name y py) f X.env (eval (.Name y py) X.env) = eval (.Name y py) X.env := by rfl) : HE X i (.Attribute (.Name y py) f pos) (hFld x f) := by
  obtain ⟨C, hn, hx, hno⟩ := T.ex
  refine ⟨fun a cls d => tXf a cls d C f (tVar i), fun a oe cls d pn hz hf => pe_xf hx hno hz hf (pe_var hN hv hd hcd) hbs, ?_⟩
  intro a cls dx c d0 e A hid P s σ H hc ok hs Q q
  obtain ⟨c, fd⟩ := c
  obtain ⟨h1, h2⟩ := hc
  unfold hFld at e
  dsimp only at e h1 h2
  split at e
  · rename_i hcx
    subst hcx
    cases fd with
    | none => cases e
    | some fd =>
      obtain ⟨g, d⟩ := fd
      dsimp only at e h2
      split at e
      · rename_i hg
        subst hg
        cases e
        obtain ⟨dd, v, rfl, m, r⟩ := h2
        exact ⟨_, hs, rfl, h1.uniq hn, dd, [(g, v)], v, rfl, (mask_some.mp m).2, by simp [List.lookup], q v P H ok Stp.refl r⟩
      · cases e
  · cases e
/-! ### suites -/
def HSu (X : Cx) (i : Nat) (suite : List Stmt) (hs : Xt → M Fl) : Prop := ∃ ts : Addr → Value → Option Addr → TS,
  (∀ a oe cls d pn, Zc cls d oe → (∃ vs, oe.data = .fields vs) → PSs (X.suite a ((a, oe) :: pn)) suite (ts a cls d)) ∧
  ∀ a cls dx c A hid P s σ H fl s', isXt X.K P H c cls dx → SOk X.K A hid P s σ H → σ[i]? = some (some (.ref a)) → hs c s = some (fl, s') → ∀ D : Ends, FlOk X.K A hid P H s' D fl → ts a cls dx D σ H
def hD (h : HF) (g : D → M Fl) : Xt → M Fl := fun c s => match h c with
  | some d => g d s
  | none => none
theorem su_ret {rp : Pos} (hh : HE X i e h) : HSu X i [.Return (some e) rp] (hD h fun d => rtn (.rt d)) := by
  obtain ⟨te, pe, ve⟩ := hh
  refine ⟨fun a cls d => tRet (te a cls d), fun a oe cls d pn hz hf => pss_one (ps_ret (pe a oe cls d pn hz hf)), ?_⟩
  intro a cls dx c A hid P s σ H fl s' hc ok hs e0 D q
  unfold hD at e0
  cases hd : h c with
  | none => rw [hd] at e0; cases e0
  | some d0 =>
    rw [hd] at e0
    obtain ⟨rfl, rfl⟩ := rtn_some e0
    exact ve a cls dx c d0 hd A hid P _ σ H hc ok hs _ fun v P1 H1 ok1 st1 r1 => q v σ P1 H1 ok1 st1 r1
end
/-- try: .. except C as e: suite -/
def sTryK (i : Nat) (cs : List Str) (m : MX Fl) (hs : Xt → M Fl) : M Fl := fun s => match m s with
  | some (.ok fl, s') => some (fl, s')
  | some (.xc c, s') => if c.c ∈ cs ∧ i < s'.g.length then (match hs c ⟨s'.g.set i none, s'.k⟩ with
    | some (fl, s2) => some (fl, ⟨s2.g.set i none, s2.k⟩)
    | none => none) else none
  | none => none
/-! wp -/
section
variable {s : S} {Z : Fl → S → Prop}
@[simp ↓] theorem wp_sTryK {i : Nat} {cs : List Str} {m : MX Fl} {hs : Xt → M Fl} : wp (sTryK i cs m hs) s Z ↔ wp (α := RX Fl) m s fun r s1 => match r with
    | .ok fl => Z fl s1
    | .xc c => (c.c ∈ cs ∧ i < s1.g.length) ∧ wp (hs c) ⟨s1.g.set i none, s1.k⟩ fun fl s2 => Z fl ⟨s2.g.set i none, s2.k⟩ := by
  unfold wp sTryK
  constructor
  · rintro ⟨a, s', e, q⟩
    cases hm : m s with
    | none => rw [hm] at e; cases e
    | some x =>
      obtain ⟨r, s1⟩ := x
      rw [hm] at e
      refine ⟨r, s1, rfl, ?_⟩
      cases r with
      | ok fl => cases e; exact q
      | xc c =>
        dsimp only at e ⊢
        split at e
        · rename_i hc
          cases hd : hs c ⟨s1.g.set i none, s1.k⟩ with
          | none => rw [hd] at e; cases e
          | some d => rw [hd] at e; cases e; exact ⟨hc, d.1, d.2, rfl, q⟩
        · cases e
  · rintro ⟨r, s1, e, q⟩
    rw [e]
    cases r with
    | ok fl => exact ⟨_, _, rfl, q⟩
    | xc c =>
      obtain ⟨hc, fl, s2, hd, q⟩ := q
      refine ⟨fl, _, ?_, q⟩
      dsimp only
      rw [if_pos hc, hd]
@[simp] theorem wp_hD {h : HF} {g : D → M Fl} {c : Xt} : wp (hD h g c) s Z ↔ ∃ d, h c = some d ∧ wp (g d) s Z := by
  unfold wp hD
  constructor
  · rintro ⟨a, s', e, q⟩
    cases hd : h c with
    | none => rw [hd] at e; cases e
    | some d => rw [hd] at e; exact ⟨d, rfl, a, s', e, q⟩
  · rintro ⟨d, hd, a, s', e, q⟩
    exact ⟨a, s', by rw [hd]; exact e, q⟩
end
end DL
namespace DL
open PySem PySem.Spec PyProof.Rows L2
/-! DL80: a call that may raise where an expression is begun: the rest as if it had not. -/
def okOf {α : Type} (f : MX α) : M α := fun s => match f s with
  | some (.ok d, s') => some (d, s')
  | _ => none
/-- raises as f does, else as g -/
def xLift {α β : Type} (f : MX α) (g : M β) : MX β := fun s => match f s with
  | some (.xc c, s1) => some (.xc c, s1)
  | _ => (g s).map fun q => (.ok q.1, q.2)
section
variable {X : Cx} {W : WX} {e e2 : Expr} {es : List Expr} {te t2 : TE} {ta : TA} {f : MX D} {fa : MX (List D)} {g : M D} {pos : Pos}
/-- f(..), nothing done with what it tells -/
def xDrop (f : MX D) : MX Fl := bx f fun _ => lx (some .nx)
end
/-! wp -/
section
variable {s : S}
@[simp ↓] theorem wp_okOf {α : Type} {f : MX α} {Q : α → S → Prop} : wp (okOf f) s Q ↔ wp (α := RX α) f s fun r s1 => ∃ d, r = .ok d ∧ Q d s1 := by
  unfold wp okOf
  constructor
  · rintro ⟨a, s', e, q⟩
    split at e
    · rename_i d s1 h
      cases e
      exact ⟨_, _, h, _, rfl, q⟩
    · cases e
  · rintro ⟨r, s1, e, d, rfl, q⟩
    exact ⟨d, s1, by rw [e], q⟩
@[simp ↓] theorem wp_xLift {α β : Type} {f : MX α} {g : M β} {Q : RX β → S → Prop} : wp (α := RX β) (xLift f g) s Q ↔ (∃ c s1, f s = some (.xc c, s1) ∧ Q (.xc c) s1) ∨ ((∀ c s1, f s ≠ some (.xc c, s1)) ∧ wp g s fun d s1 => Q (.ok d) s1) := by
  unfold wp xLift
  constructor
  · rintro ⟨a, s', e, q⟩
    split at e
    · rename_i c s1 h
      cases e
      exact .inl ⟨c, _, h, q⟩
    · rename_i hn
      refine .inr ⟨fun c s1 h => hn c s1 h, ?_⟩
      cases hg : g s with
      | none => rw [hg] at e; cases e
      | some y => rw [hg] at e; cases e; exact ⟨y.1, y.2, rfl, q⟩
  · rintro (⟨c, s1, h, q⟩ | ⟨hn, d, s1, h, q⟩)
    · exact ⟨_, s1, by rw [h], q⟩
    · refine ⟨.ok d, s1, ?_, q⟩
      split
      · rename_i c s2 h2
        exact absurd h2 (hn c s2)
      · rw [h]; rfl
@[simp ↓] theorem wp_xDrop {f : MX D} {Q : RX Fl → S → Prop} : wp (α := RX Fl) (xDrop f) s Q ↔ wp (α := RX D) f s fun r s1 => match r with
    | .ok _ => Q (.ok .nx) s1
    | .xc c => Q (.xc c) s1 := by
  unfold wp xDrop bx
  constructor
  · rintro ⟨a, s', e, q⟩
    split at e
    · rename_i d s1 h
      cases e
      exact ⟨_, _, h, q⟩
    · rename_i c s1 h
      cases e
      exact ⟨_, _, h, q⟩
    · cases e
  · rintro ⟨r, s1, e, q⟩
    rw [e]
    cases r with
    | ok d => exact ⟨_, _, rfl, q⟩
    | xc c => exact ⟨_, _, rfl, q⟩
end
end DL
namespace DL
open PySem PySem.Spec PyProof.Rows L2
/-! DL81: len(set(ints)); x.index(y), x data. -/
end DL
namespace DL
open PySem PySem.Spec PyProof.Rows L2
/-! DL82: a loop over functions by name; a call of a local name that holds one of them. -/
structure FnN (K : PySem.W.Frag) (mg : Str → Option Value) (c : Str) : Prop where
  ex : ∃ a, mg c = some (.ref a) ∧ PySem.W.nsIn K mainGlobals c = some (some (.ref a))
def RefsN (K : PySem.W.Frag) : List V → List Str → Prop
  | [], [] => True
  | v :: vs, c :: cs => (∃ a, v = .ref a ∧ PySem.W.nsIn K mainGlobals c = some (some (.ref a))) ∧ RefsN K vs cs
  | _, _ => False
theorem RefsN.len {K : PySem.W.Frag} : ∀ {vs : List V} {cs : List Str}, RefsN K vs cs → vs.length = cs.length
  | [], [], _ => rfl
  | [], _ :: _, h => h.elim
  | _ :: _, [], h => h.elim
  | _ :: vs, _ :: cs, h => by rw [List.length_cons, List.length_cons, RefsN.len h.2]
theorem RefsN.at {K : PySem.W.Frag} : ∀ {vs : List V} {cs : List Str} {i : Nat} {v : V}, RefsN K vs cs → vs[i]? = some v → ∃ c a, cs[i]? = some c ∧ v = .ref a ∧ PySem.W.nsIn K mainGlobals c = some (some (.ref a))
  | [], [], i, v, _, e => by simp at e
  | [], _ :: _, _, _, h, _ => h.elim
  | _ :: _, [], _, _, h, _ => h.elim
  | u :: vs, c :: cs, 0, v, h, e => by
    obtain ⟨a, h1, h2⟩ := h.1
    have e : some u = some v := e
    cases e
    exact ⟨c, a, rfl, h1, h2⟩
  | u :: vs, c :: cs, i + 1, v, h, e => RefsN.at (i := i) h.2 e
def loopF (i : Nat) (body : M Fl) : List Str → M Fl
  | [] => rtn .nx
  | c :: r => fun s => bd body (fun fl => match fl with
    | .nx => loopF i body r
    | .ct => loopF i body r
    | .bk => rtn .nx
    | .rt d => rtn (.rt d)) { s with g := s.g.set i (some (.fn c)) }
/-! a call of the local name -/
structure FnXN (P : Program) (w : World) (K : PySem.W.Frag) (mg : Str → Option Value) (base : Heap) (k : Nat) (x : Str) (sem : FSX) : Prop where
  ex : ∃ (f : Addr) (fd : FuncData) (ps : List Str), PySem.W.nsIn K mainGlobals x = some (some (.ref f)) ∧ FnOk P w K mg base (L2.CX P w) k f fd ps (spX K sem) ∧ PySem.W.keepIn K (.ref f) = true ∧ Binds K fd ps []
theorem FnXN.of {P : Program} {w : World} {K : PySem.W.Frag} {mg : Str → Option Value} {base : Heap} {k : Nat} {x : Str} {ps : List Str} {kws : List (List Str × List Nat)} {sem : FSX} (F : FnX P w K mg base k x ps kws sem) (N : FnN K mg x) : FnXN P w K mg base k x sem := by
  obtain ⟨f, fd, h1, h2, h3, h4, _⟩ := F.ex
  obtain ⟨a, n1, n2⟩ := N.ex
  rw [h2] at n1
  cases n1
  exact ⟨f, fd, ps, n2, h1, h3, h4⟩
/-- append of what may raise -/
def xApp (i : Nat) (f : MX D) : MX Fl := fun s => match s.g[i]? with
  | some (some (.lst _)) => (match f s with
    | some (.ok d, s1) => (match s1.g[i]? with
      | some (some (.lst ds)) => if ds.length ≤ lim then some (.ok .nx, { s1 with g := s1.g.set i (some (.lst (ds ++ [d]))) }) else none
      | _ => none)
    | some (.xc c, s1) => some (.xc c, s1)
    | none => none)
  | _ => none
/-- append in an except suite -/
def hApp (j : Nat) (d : D) : M Fl := fun s => match s.g[j]? with
  | some (some (.lst ds)) => if ds.length ≤ lim then some (.nx, ⟨s.g.set j (some (.lst (ds ++ [d]))), s.k⟩) else none
  | _ => none
/-! wp -/
section
variable {s : S}
@[simp ↓] theorem wp_hApp {j : Nat} {d : D} {Z : Fl → S → Prop} : wp (hApp j d) s Z ↔ ∃ ds, s.g[j]? = some (some (.lst ds)) ∧ ds.length ≤ lim ∧ Z .nx ⟨s.g.set j (some (.lst (ds ++ [d]))), s.k⟩ := by
  unfold wp hApp
  constructor
  · rintro ⟨a, s', e, q⟩
    split at e
    · rename_i ds hd
      split at e
      · rename_i hl; cases e; exact ⟨ds, hd, hl, q⟩
      · cases e
    · cases e
  · rintro ⟨ds, hd, hl, q⟩
    refine ⟨_, _, ?_, q⟩
    rw [hd]
    dsimp only
    rw [if_pos hl]
@[simp ↓] theorem wp_xApp {i : Nat} {f : MX D} {Q : RX Fl → S → Prop} : wp (α := RX Fl) (xApp i f) s Q ↔ (∃ l0, s.g[i]? = some (some (.lst l0))) ∧ wp (α := RX D) f s fun r s1 => match r with
    | .ok d => ∃ ds, s1.g[i]? = some (some (.lst ds)) ∧ ds.length ≤ lim ∧ Q (.ok .nx) ⟨s1.g.set i (some (.lst (ds ++ [d]))), s1.k⟩
    | .xc c => Q (.xc c) s1 := by
  unfold wp xApp
  constructor
  · rintro ⟨a, s', e, q⟩
    split at e
    · rename_i l0 h0
      refine ⟨⟨l0, h0⟩, ?_⟩
      cases hf : f s with
      | none => rw [hf] at e; cases e
      | some y =>
        obtain ⟨r, s1⟩ := y
        rw [hf] at e
        refine ⟨r, s1, rfl, ?_⟩
        cases r with
        | xc c => cases e; exact q
        | ok d =>
          dsimp only at e ⊢
          split at e
          · rename_i ds hd
            split at e
            · rename_i hl; cases e; exact ⟨ds, hd, hl, q⟩
            · cases e
          · cases e
    · cases e
  · rintro ⟨⟨l0, h0⟩, r, s1, hf, q⟩
    rw [h0]
    dsimp only
    rw [hf]
    cases r with
    | xc c => exact ⟨_, _, rfl, q⟩
    | ok d =>
      obtain ⟨ds, hd, hl, q⟩ := q
      refine ⟨_, _, ?_, q⟩
      dsimp only
      rw [hd]
      dsimp only
      rw [if_pos hl]
end
section
variable {s : S}
@[simp ↓] theorem wp_loopF_nil {i : Nat} {m : M Fl} {Z : Fl → S → Prop} : wp (loopF i m []) s Z ↔ Z .nx s := by unfold loopF; simp
@[simp ↓] theorem wp_loopF {i : Nat} {m : M Fl} {c : Str} {cs : List Str} {Z : Fl → S → Prop} : wp (loopF i m (c :: cs)) s Z ↔ wp m ⟨s.g.set i (some (.fn c)), s.k⟩ fun fl s1 => match fl with
    | .nx => wp (loopF i m cs) s1 Z
    | .ct => wp (loopF i m cs) s1 Z
    | .bk => Z .nx s1
    | .rt d => Z (.rt d) s1 := by
  show wp (bd m _) _ Z ↔ _
  rw [wp_bd]
  constructor <;> intro h <;> refine wp_mono h fun fl s1 q => ?_ <;> cases fl <;> simpa using q
end
end DL
namespace DL
open PySem PySem.Spec PyProof.Rows L2
/-! DL83: a, b, c = x, y, [] where x and y may raise. -/
def xPar3N (i j l : Nat) (fa fb : MX D) : MX Fl := fun s => match fa s with
  | some (.ok x, s1) => (match fb s1 with
    | some (.ok y, s2) => some (.ok .nx, { s2 with g := ((s2.g.set i (some (.dat x))).set j (some (.dat y))).set l (some (.lst [])) })
    | some (.xc c, s2) => some (.xc c, s2)
    | none => none)
  | some (.xc c, s1) => some (.xc c, s1)
  | none => none
@[simp ↓] theorem wp_xPar3N {i j l : Nat} {fa fb : MX D} {s : S} {Q : RX Fl → S → Prop} : wp (α := RX Fl) (xPar3N i j l fa fb) s Q ↔ wp (α := RX D) fa s fun r s1 => match r with
    | .ok x => wp (α := RX D) fb s1 fun r2 s2 => match r2 with
      | .ok y => Q (.ok .nx) ⟨((s2.g.set i (some (.dat x))).set j (some (.dat y))).set l (some (.lst [])), s2.k⟩
      | .xc c => Q (.xc c) s2
    | .xc c => Q (.xc c) s1 := by
  unfold wp xPar3N
  constructor
  · rintro ⟨a, s', e, q⟩
    cases hf : fa s with
    | none => rw [hf] at e; cases e
    | some y =>
      obtain ⟨r1, s1⟩ := y
      rw [hf] at e
      refine ⟨r1, s1, rfl, ?_⟩
      cases r1 with
      | xc c => cases e; exact q
      | ok x =>
        dsimp only at e ⊢
        cases hg : fb s1 with
        | none => rw [hg] at e; cases e
        | some y2 =>
          obtain ⟨r2, s2⟩ := y2
          rw [hg] at e
          refine ⟨r2, s2, rfl, ?_⟩
          cases r2 with
          | xc c => cases e; exact q
          | ok y => cases e; exact q
  · rintro ⟨r1, s1, e1, q⟩
    rw [e1]
    cases r1 with
    | xc c => exact ⟨_, _, rfl, q⟩
    | ok x =>
      obtain ⟨r2, s2, e2, q⟩ := q
      dsimp only
      rw [e2]
      cases r2 with
      | xc c => exact ⟨_, _, rfl, q⟩
      | ok y => exact ⟨_, _, rfl, q⟩
end DL
namespace DL
open PySem PySem.Spec PyProof.Rows L2
/-! DL84: sorted(set(x)), x a tuple of ints, any number of them. -/
end DL
/-! DL85: min(a, b) of two alike data. -/
namespace PySem.W
open PySem PySem.Spec PyProof.Rows
end PySem.W
namespace DL
open PySem PySem.Spec PyProof.Rows L2
end DL
namespace DL
open PySem PySem.Spec PyProof.Rows L2
/-! DL86: a call that may raise deep inside an expression that begins with it. -/
end DL
namespace DL
open PySem PySem.Spec PyProof.Rows L2
/-! DL87: a list of the caller to which a def without an object appends. -/
abbrev FSH := List Val → Dk → Option (D × List D × Dk)
/-- x(list, e1) -/
def eCallH (j : Nat) (sem : FSH) (f1 : M D) : M D := fun s => match s.g[j]? with
  | some (some (.lst _)) => (bd f1 fun x1 => fun s1 => match s1.g[j]? with
    | some (some (.lst ds)) => if objFree s1.g = true then (match sem [.gst ds, .dat x1] s1.k with
      | some (d, ds', k') => some (d, (⟨s1.g.set j (some (.lst ds')), k'⟩ : S))
      | none => none) else none
    | _ => none) s
  | _ => none
/-! the guest in the def -/
/-- a built-in of one argument, the guest -/
def eBG (op : List D → Option D) (i : Nat) : M D := fun s => match s.g[i]? with
  | some (some (.gst ds)) => (match op [.list ds] with
    | some d => if noMut d = true then some (d, s) else none
    | none => none)
  | _ => none
/-- x.append(e), x the guest -/
def sAppG (i : Nat) (f : M D) : M Fl := fun s => match s.g[i]? with
  | some (some (.gst _)) => (bd f fun d => fun s1 => match s1.g[i]? with
    | some (some (.gst ds)) => if ds.length ≤ lim ∧ gstFree (s1.g.set i none) = true then some (.nx, { s1 with g := s1.g.set i (some (.gst (ds ++ [d]))) }) else none
    | _ => none) s
  | _ => none
/-! wp -/
def fh (sem : FSH) (xs : List Val) (k : Dk) (Q : D → List D → Dk → Prop) : Prop := ∃ d ds k', sem xs k = some (d, ds, k') ∧ Q d ds k'
section
variable {s : S} {Q : D → S → Prop}
@[simp ↓] theorem wp_callH {j : Nat} {sem : FSH} {f1 : M D} : wp (eCallH j sem f1) s Q ↔ (∃ l0, s.g[j]? = some (some (.lst l0))) ∧ wp f1 s fun x1 s1 => ∃ ds, s1.g[j]? = some (some (.lst ds)) ∧ objFree s1.g = true ∧
    fh sem [.gst ds, .dat x1] s1.k fun d ds' k' => Q d ⟨s1.g.set j (some (.lst ds')), k'⟩ := by
  constructor
  · rintro ⟨d, s', e, q⟩
    unfold eCallH at e
    split at e
    · rename_i ds0 hj0
      obtain ⟨x1, s1, e1, e⟩ := bd_some e
      refine ⟨⟨_, hj0⟩, x1, s1, e1, ?_⟩
      split at e
      · rename_i ds hj
        split at e
        · rename_i hc
          split at e
          · rename_i d' ds' k' hs
            cases e
            exact ⟨ds, hj, hc, _, _, _, hs, q⟩
          · cases e
        · cases e
      · cases e
    · cases e
  · rintro ⟨⟨l0, hj0⟩, x1, s1, e1, ds, hj, hc, d, ds', k', hs, q⟩
    refine ⟨d, _, ?_, q⟩
    unfold eCallH
    simp only [hj0]
    unfold bd
    simp only [e1, hj, hs, if_pos hc]
@[simp ↓] theorem wp_eBG {op : List D → Option D} {i : Nat} : wp (eBG op i) s Q ↔ ∃ ds d, s.g[i]? = some (some (.gst ds)) ∧ op [.list ds] = some d ∧ noMut d = true ∧ Q d s := by
  constructor
  · rintro ⟨d, s', e, q⟩
    unfold eBG at e
    split at e
    · rename_i ds hi
      split at e
      · rename_i d' hd
        split at e
        · rename_i hn
          cases e
          exact ⟨ds, _, hi, hd, hn, q⟩
        · cases e
      · cases e
    · cases e
  · rintro ⟨ds, d, hi, hd, hn, q⟩
    refine ⟨d, s, ?_, q⟩
    unfold eBG
    simp only [hi, hd, if_pos hn]
@[simp ↓] theorem wp_sAppG {i : Nat} {f : M D} {Z : Fl → S → Prop} : wp (sAppG i f) s Z ↔ (∃ l0, s.g[i]? = some (some (.gst l0))) ∧ wp f s fun d s1 => ∃ ds, s1.g[i]? = some (some (.gst ds)) ∧ ds.length ≤ lim ∧ gstFree (s1.g.set i none) = true ∧ Z .nx ⟨s1.g.set i (some (.gst (ds ++ [d]))), s1.k⟩ := by
  constructor
  · rintro ⟨d, s', e, q⟩
    unfold sAppG at e
    split at e
    · rename_i ds0 hi0
      obtain ⟨y, s1, e1, e⟩ := bd_some e
      refine ⟨⟨_, hi0⟩, y, s1, e1, ?_⟩
      split at e
      · rename_i ds hi
        split at e
        · rename_i hl
          cases e
          exact ⟨ds, hi, hl.1, hl.2, q⟩
        · cases e
      · cases e
    · cases e
  · rintro ⟨⟨l0, hi0⟩, y, s1, e1, ds, hi, hl, hf, q⟩
    refine ⟨.nx, _, ?_, q⟩
    unfold sAppG
    simp only [hi0]
    unfold bd
    simp only [e1, hi, if_pos (And.intro hl hf)]
end
/-! draws below a greater number -/
end DL
namespace DL
open PySem PySem.Spec PyProof.Rows L2
/-! DL88: laws that begin with `deck, asked = _law_deck(script), []`. -/
end DL
namespace DL
open PySem PySem.Spec PyProof.Rows L2 LamX
/-! DL89: list(range(a, b, c)); a def that tells whether a lambda's call raises. -/
def rgcD (a c : Int) (n : Nat) : List D := (List.range n).map fun i => .int (a + (i : Nat) * c)
/-- the items of range(i, j, c), c above 0 -/
def stpN (i j c : Int) : Nat := if i < j then ((j - i - 1) / c + 1).toNat else 0
section
variable {K : PySem.W.Frag}
/-- list(range(i, j, c)), c above 0 -/
def nRg3 (fr : M (List D)) : M (List D) := bd fr fun ds => match ds with
  | [.int i, .int j, .int c] => if (0 < c ∧ c < 1000000000) ∧ (0 ≤ i ∧ i < 1000000000) ∧ (0 ≤ j ∧ j < 1000000000) ∧ stpN i j c ≤ 1000000 then rtn (rgcD i c (stpN i j c)) else fun _ => none
  | _ => fun _ => none
end
@[simp ↓] theorem wp_nRg3 {fr : M (List D)} {s : S} {Q : List D → S → Prop} : wp (nRg3 fr) s Q ↔ wp fr s fun ds s1 => ∃ i j c : Int, ds = [.int i, .int j, .int c] ∧ ((0 < c ∧ c < 1000000000) ∧ (0 ≤ i ∧ i < 1000000000) ∧ (0 ≤ j ∧ j < 1000000000) ∧ stpN i j c ≤ 1000000) ∧ Q (rgcD i c (stpN i j c)) s1 := by
  unfold nRg3
  rw [wp_bd]
  constructor <;> intro h <;> refine wp_mono h fun ds s1 q => ?_
  · split at q
    · rename_i i j c
      split at q
      · rename_i hc
        exact ⟨i, j, c, rfl, hc, wp_rtn.mp q⟩
      · obtain ⟨_, _, e, _⟩ := q; cases e
    · obtain ⟨_, _, e, _⟩ := q; cases e
  · obtain ⟨i, j, c, rfl, hc, q⟩ := q
    simp only [if_pos hc]
    exact wp_rtn.mpr q
/-! ### whether a lambda's call raises -/
/-- try: the call; the clauses; return b0 -/
def eTry0 (b0 : Bool) (hs : List ((Str → Option Bool) × D)) (fm : MX D) : M D := fun s => match fm s with
  | some (.ok _, s') => some (.bool b0, s')
  | some (.xc c, s') => (hsel hs c.c).map fun d => (d, s')
  | none => none
@[simp ↓] theorem wp_eTry0 {b0 : Bool} {hs : List ((Str → Option Bool) × D)} {fm : MX D} {s : S} {Q : D → S → Prop} : wp (eTry0 b0 hs fm) s Q ↔ wp (α := RX D) fm s fun r s1 => match r with
    | .ok _ => Q (.bool b0) s1
    | .xc c => ∃ d, hsel hs c.c = some d ∧ Q d s1 := by
  unfold wp eTry0
  constructor
  · rintro ⟨d, s', e, q⟩
    cases hm : fm s with
    | none => rw [hm] at e; cases e
    | some r =>
      obtain ⟨r, s2⟩ := r
      rw [hm] at e
      refine ⟨r, s2, rfl, ?_⟩
      cases r with
      | ok d0 => cases e; exact q
      | xc c0 =>
        dsimp only at e
        cases hd0 : hsel hs c0.c with
        | none => rw [hd0] at e; cases e
        | some d0 => rw [hd0] at e; cases e; exact ⟨_, hd0, q⟩
  · rintro ⟨r, s2, e, q⟩
    rw [e]
    cases r with
    | ok d0 => exact ⟨_, _, rfl, q⟩
    | xc c0 =>
      obtain ⟨d, hd, q⟩ := q
      exact ⟨d, s2, by simp only [hd, Option.map_some], q⟩
end DL
namespace DL
open PySem PySem.Spec PyProof.Rows L2
/-! DL90: texts: split, join, a sign in a text, slices, signs of a text, int of a text, a text so many times. -/
section
variable {X : Cx} {K : PySem.W.Frag} {e b : Expr} {te tb : TE} {f fb : M D}
/-! methods of a text with one argument -/
def DOM (K : PySem.W.Frag) (r : V → List V → Hp → VK → Prop) (op : D → D → Option D) : Prop := ∀ (P : Addr → Prop) (H : Hp) (x y : V) (dx dy d : D), Trk P H → Rp K (mask P H) x dx → Rp K (mask P H) y dy → op dx dy = some d →
  (∃ a, dx = .str a) ∧ ∀ Q : VK, (∀ z H', Grw H H' → Rp K (mask P H') z d → Q z H') → r x [y] H Q
theorem ev_m1 {r : V → List V → Hp → VK → Prop} {op : D → D → Option D} (hn : ∀ dx dy d, op dx dy = some d → ∃ a, dx = .str a) (hr : DOM K r op) (h : EvE K te f) (h2 : EvE K tb fb) : EvE K (tM1 r te tb) (eOp2 op f fb) := by
  intro A hid P s σ H d s' ok e Q q
  obtain ⟨x, s1, e1, e⟩ := bd_some e
  obtain ⟨y, s2, e2, e⟩ := bd_some e
  obtain ⟨e3, rfl⟩ := lf_some e
  obtain ⟨a, rfl⟩ := hn _ _ _ e3
  refine h A hid P s σ H _ s1 ok e1 _ fun v P1 H1 ok1 st1 r1 => ?_
  have ev := r1.str_inv
  refine ⟨⟨a, ev⟩, ?_⟩
  refine h2 A hid P1 s1 σ H1 y _ ok1 e2 _ fun u P2 H2 ok2 st2 r2 => ?_
  refine (hr P2 H2 v u _ _ d ok2.trk (st2.rp r1) r2 e3).2 Q fun z H' g rz => ?_
  exact q z P2 H' (ok2.grw g) ((st1.trans st2).trans (Stp.grw g)) rz
theorem rpa_strs {H : Hp} : ∀ {ys : List Str}, RpA K H (ys.map V.str) (ys.map PyData.str)
  | [] => .nil
  | y :: ys => .cons (.str y) rpa_strs
/-- x.split(y) -/
def dSplit : D → D → Option D
  | .str a, .str b => if (b.length == 0) = false ∧ a.length + 2 ≤ sizeLine then some (.list ((Txt.split a b).map PyData.str)) else none
  | _, _ => none
abbrev rSplitS : V → List V → Hp → VK → Prop := fun x xs H Q => ∃ a b, x = .str a ∧ xs = [.str b] ∧ (b.length == 0) = false ∧ a.length + 2 ≤ sizeLine ∧ rNewStrs (Txt.split a b) H Q
theorem do_split : DOM K rSplitS dSplit := by
  intro P H x y dx dy d t hx hy e
  unfold dSplit at e
  split at e
  · rename_i a b
    split at e
    · rename_i h
      cases e
      refine ⟨⟨a, rfl⟩, fun Q q => ⟨a, b, hx.str_inv, by rw [hy.str_inv], h.1, h.2, fun p hp => ?_⟩⟩
      exact q _ _ (Grw.new hp) (rp_newL t hp rpa_strs)
    · cases e
  · cases e
theorem k_split {apos pos : Pos} (ha : DE X e te f) (hb : DE X b tb fb) (hs : starEach [b] X.env = [(false, eval b X.env)] := by rfl) (hbase : attributeBase e "split" X.env (eval e X.env) = eval e X.env := by rfl) (hline : (apos.endLine == pos.line) = true := by rfl) :
    DE X (.Call (.Attribute e "split" apos) [b] [] pos) (tM1 rSplitS te tb) (eOp2 dSplit f fb) :=
  ⟨pe_split ha.p hb.p hs hbase hline, ev_m1 (fun dx dy d e => by unfold dSplit at e; split at e; exact ⟨_, rfl⟩; cases e) do_split ha.v hb.v⟩
/-! x.join(y) -/
def strOf : D → Option Str
  | .str s => some s
  | _ => none
def ssD : List D → Option (List Str)
  | [] => some []
  | d :: r => match strOf d, ssD r with
    | some s, some l => some (s :: l)
    | _, _ => none
theorem ssD_map : ∀ ys : List Str, ssD (ys.map PyData.str) = some ys
  | [] => rfl
  | y :: ys => by simp [ssD, strOf, ssD_map ys]
theorem RpA.strs {H : Hp} : ∀ {vs : List V} {ds : List D} {ys : List Str}, RpA K H vs ds → ssD ds = some ys → vs = ys.map V.str
  | _, _, ys, .nil, e => by cases e; rfl
  | _, _, ys, .cons (v := v) (vs := vs) (d := d) (ds := ds) h r, e => by
    unfold ssD at e
    cases hd : strOf d with
    | none => rw [hd] at e; cases e
    | some s =>
      cases hr : ssD ds with
      | none => rw [hd, hr] at e; cases e
      | some l =>
        rw [hd, hr] at e
        cases e
        have hd2 : d = .str s := by
          cases d <;> simp [strOf] at hd
          rw [hd]
        subst hd2
        rw [h.str_inv, RpA.strs r hr]; rfl
def dJoin : D → D → Option D
  | .str a, .list ds => match ssD ds with
    | some ys => if (ys.map (·.length)).sum + ys.length * a.length ≤ 16777216 then some (.str (Txt.join a ys)) else none
    | none => none
  | _, _ => none
abbrev rJoinS (K : PySem.W.Frag) : V → List V → Hp → VK → Prop := fun x xs H Q => ∃ a p, ∃ ys : List Str, x = .str a ∧ xs = [.ref p] ∧ (SqL K H p (ys.map V.str) ∨ SqT K H p (ys.map V.str)) ∧
      (ys.map (·.length)).sum + ys.length * a.length ≤ 16777216 ∧ Q (.str (Txt.join a ys)) H
theorem do_join : DOM K (rJoinS K) dJoin := by
  intro P H x y dx dy d t hx hy e
  unfold dJoin at e
  split at e
  · rename_i a ds
    cases hs : ssD ds with
    | none => rw [hs] at e; cases e
    | some ys =>
      rw [hs] at e
      simp only at e
      split at e
      · rename_i h
        cases e
        obtain ⟨p, vs, rfl, h1, rr⟩ := hy.lst_inv
        obtain rfl := RpA.strs rr hs
        exact ⟨⟨a, rfl⟩, fun Q q => ⟨a, p, ys, hx.str_inv, rfl, .inl (SqL.of (mask_le _ _ h1)), h, q _ _ (Grw.refl H) (.str _)⟩⟩
      · cases e
  · cases e
theorem k_join {apos pos : Pos} (ha : DE X e te f) (hb : DE X b tb fb) (hK : X.K = K := by rfl) (hs : starEach [b] X.env = [(false, eval b X.env)] := by rfl) (hbase : attributeBase e "join" X.env (eval e X.env) = eval e X.env := by rfl) (hline : (apos.endLine == pos.line) = true := by rfl) :
    DE X (.Call (.Attribute e "join" apos) [b] [] pos) (tM1 (rJoinS K) te tb) (eOp2 dJoin f fb) := hK ▸
  ⟨pe_join ha.p hb.p hs hbase hline, ev_m1 (fun dx dy d e => by unfold dJoin at e; split at e; exact ⟨_, rfl⟩; cases e) do_join ha.v hb.v⟩
/-! a sign in a text -/
def sgB (x z : Str) : Option Bool := match x.cps.toList with
  | [c] => some (decide (c ∈ z.cps.toList))
  | _ => none
def dInC : D → D → Option D
  | .str x, .str z => (sgB x z).map .bool
  | _, _ => none
def dNotInC : D → D → Option D
  | .str x, .str z => (sgB x z).map fun b => .bool (!b)
  | _, _ => none
abbrev rInC : R2 := fun x y H Q => ∃ (c : Nat) (z : Str), x = .str ⟨#[c]⟩ ∧ y = .str z ∧ Q (.bl (decide (c ∈ z.cps.toList))) H
abbrev rNotInC : R2 := fun x y H Q => ∃ (c : Nat) (z : Str), x = .str ⟨#[c]⟩ ∧ y = .str z ∧ Q (.bl (!decide (c ∈ z.cps.toList))) H
theorem sgB_some {x z : Str} {t : Bool} (h : sgB x z = some t) : ∃ c, x = ⟨#[c]⟩ ∧ t = decide (c ∈ z.cps.toList) := by
  unfold sgB at h
  split at h
  · rename_i c hc
    cases h
    refine ⟨c, ?_, rfl⟩
    obtain ⟨cps⟩ := x
    congr 1
    apply Array.ext'
    simpa using hc
  · cases h
theorem do_inC : DO2 K rInC dInC := by
  intro P H x y dx dy d t hx hy e Q q
  unfold dInC at e
  split at e
  · rename_i a z
    cases hb : sgB a z with
    | none => rw [hb] at e; cases e
    | some t =>
      rw [hb] at e; cases e
      obtain ⟨c, rfl, rfl⟩ := sgB_some hb
      exact ⟨c, z, hx.str_inv, hy.str_inv, q _ H (Grw.refl H) (.bl _)⟩
  · cases e
theorem do_notInC : DO2 K rNotInC dNotInC := by
  intro P H x y dx dy d t hx hy e Q q
  unfold dNotInC at e
  split at e
  · rename_i a z
    cases hb : sgB a z with
    | none => rw [hb] at e; cases e
    | some t =>
      rw [hb] at e; cases e
      obtain ⟨c, rfl, rfl⟩ := sgB_some hb
      exact ⟨c, z, hx.str_inv, hy.str_inv, q _ H (Grw.refl H) (.bl _)⟩
  · cases e
theorem k_inC : OpR X (compareOp .In) rInC := op_in_sign
theorem k_notInC : OpR X (compareOp .NotIn) rNotInC := op_notIn_sign
/-! x[i], x[i:j] of a text -/
def dIxS : D → D → Option D
  | .str z, .int i => if z.length ≤ sizeLine then (atI z.cps.toList i).map fun c => .str ⟨#[c]⟩ else none
  | _, _ => none
theorem do_ixS : DO2 K (rIx K) dIxS := by
  intro P H x y dx dy d t hx hy e Q q
  unfold dIxS at e
  split at e
  · rename_i z i
    split at e
    · rename_i hz
      cases hc : atI z.cps.toList i with
      | none => rw [hc] at e; cases e
      | some c =>
        rw [hc] at e; cases e
        exact .inr (.inr ⟨z, i, c, hx.str_inv, hy.int_inv, hz, hc, q _ H (Grw.refl H) (.str _)⟩)
    · cases e
  · cases e
theorem k_ixS {a b : Expr} {ta tb : TE} {fa fb : M D} {pos : Pos} (ha : DE X a ta fa) (hb : DE X b tb fb) (hK : X.K = K := by rfl) (hs : PlainIx b := by exact fun _ _ => rfl) : DE X (.Subscript a b pos) (tOp (rIx K) ta tb) (eOp2 dIxS fa fb) := hK ▸ ⟨pe_ix ix_seq ha.p hb.p hs, ev_op2 do_ixS ha.v hb.v⟩
def dSlS : D → Option Int → Option Int → Option D
  | .str z, lo, hi => if z.length ≤ sizeLine then some (.str (cutS z lo hi)) else none
  | _, _, _ => none
def eSlS (f : M D) (l h : M (Option Int)) : M D := bd f fun x => bd l fun lo => bd h fun hi => lf (dSlS x lo hi)
variable {tl th : TO} {gl gh : M (Option Int)} {lo hi : Option Expr} {p2 pos p : Pos}
theorem ev_slS (ha : EvE K te f) (hl : EvO K tl gl) (hh : EvO K th gh) : EvE K (tSl rSlS te tl th) (eSlS f gl gh) := by
  intro A hid P s σ H d s' ok e Q q
  obtain ⟨x, s1, h1, e⟩ := bd_some e
  obtain ⟨l, s2, h2, e⟩ := bd_some e
  obtain ⟨h, s3, h3, e⟩ := bd_some e
  obtain ⟨h4, rfl⟩ := lf_some e
  refine ha A hid P s σ H x _ ok h1 _ fun v P1 H1 ok1 st1 r1 => ?_
  refine hl A hid P1 _ σ H1 l _ ok1 h2 _ fun P2 H2 ok2 st2 => ?_
  refine hh A hid P2 _ σ H2 h _ ok2 h3 _ fun P3 H3 ok3 st3 => ?_
  have st := (st1.trans st2).trans st3
  unfold dSlS at h4
  split at h4
  · split at h4
    · rename_i hz
      cases h4
      exact ⟨_, r1.str_inv, hz, q _ P3 H3 ok3 st (.str _)⟩
    · cases h4
  · cases h4
theorem k_slS (ha : DE X e te f) (hl : DO X lo tl gl) (hh : DO X hi th gh) : DE X (.Subscript e (.Slice lo hi none p2) pos) (tSl rSlS te tl th) (eSlS f gl gh) :=
  ⟨pe_slice sl_str ha.p hl.p hh.p, ev_slS ha.v hl.v hh.v⟩
/-! the signs of a text -/
def sgnsD (x : Str) : List D := x.cps.toList.map fun c => .str ⟨#[c]⟩
def asS (f : M D) : M (List D) := bd f fun x => match x with
  | .str z => rtn (sgnsD z)
  | _ => fun _ => none
theorem walkS {x : Str} : WalkD K (Its x) (fun _ _ => True) (sgnsD x) := by
  have hl : (sgnsD x).length = x.cps.size := by simp [sgnsD]
  refine ⟨fun P i H hi g => by rw [hl] at hi; exact hi, fun P H g => by rw [hl]; exact Nat.le_refl _, fun P i H y H' hi t g h => ?_, fun _ _ _ _ _ g => g⟩
  obtain ⟨rfl, c, hc, rfl⟩ := h
  refine ⟨Grw.refl _, .str ⟨#[c]⟩, ?_, .str _⟩
  simp only [sgnsD, List.getElem?_map, Array.getElem?_toList, hc, Option.map_some]
theorem ei_signs (h : EvE K te f) : EvI K (iStr te) (asS f) := by
  intro A hid P s σ H ds s' ok e R q
  obtain ⟨x, s1, h1, e⟩ := bd_some e
  refine h A hid P s σ H x s1 ok h1 _ fun v P1 H1 ok1 st1 r => ?_
  split at e
  · obtain ⟨rfl, rfl⟩ := rtn_some e
    exact ⟨_, r.str_inv, q _ _ P1 H1 ok1 st1 walkS True.intro⟩
  · cases e
theorem k_signs {tg : Expr} (h : DE X e te f) : DI X tg e (iStr te) (asS f) := ⟨pi_str h.p, ei_signs h.v⟩
/-! int(text) -/
def dIntS : List D → Option D
  | [.str a] => if a.length ≤ 640 then (PySem.intText? a).map .int else none
  | _ => none
abbrev rIntS : List V → Hp → VK → Prop := fun xs H Q => ∃ a n, xs = [.str a] ∧ PySem.intText? a = some n ∧ a.length ≤ 640 ∧ Q (.int n) H
theorem k_intS : CallR X (.type "int") rIntS := call_int_str
theorem do_intS : DOC K rIntS dIntS := by
  intro P H xs ds d t r e Q q
  unfold dIntS at e
  split at e
  · rename_i a
    split at e
    · rename_i hz
      cases hn : PySem.intText? a with
      | none => rw [hn] at e; cases e
      | some n =>
        rw [hn] at e; cases e
        obtain ⟨v, rfl, h⟩ := r.one
        rw [h.str_inv]
        exact ⟨a, n, rfl, hn, hz, q _ H (Grw.refl H) (.int _)⟩
    · cases e
  · cases e
/-! a text so many times -/
def dMulS : D → D → Option D
  | .str a, .int k => if 0 ≤ k ∧ k ≤ 1000 ∧ a.length ≤ 1000 then some (.str (Txt.mul a k)) else none
  | _, _ => none
abbrev rMulS : R2 := fun x y H Q => ∃ (a : Str) (k : Int), x = .str a ∧ y = .int k ∧ 0 ≤ k ∧ k ≤ 1000 ∧ a.length ≤ 1000 ∧ Q (.str (Txt.mul a k)) H
theorem mulOk_small {a : Str} {k : Int} (h0 : 0 ≤ k) (h1 : k ≤ 1000) (h2 : a.length ≤ 1000) : MulOk a k := by
  refine ⟨by simp; omega, fun h3 _ => ?_, fun h3 _ => ?_⟩
  · have : (9223372036854775 : Int) ≤ (2 ^ 63 - 1) / k := by
      refine (Int.le_ediv_iff_mul_le (by omega)).mpr ?_
      have : (9223372036854775 : Int) * k ≤ 9223372036854775 * 1000 := Int.mul_le_mul_of_nonneg_left h1 (by decide)
      omega
    omega
  · have : a.length * k.toNat ≤ 1000 * 1000 := Nat.mul_le_mul h2 (by omega)
    have hs : (1000000 : Nat) ≤ sizeLine := by decide
    unfold Builtin.Str.tooLong
    exact decide_eq_false (by omega)
theorem k_mulS : OpR X (binaryOp .Mult) rMulS := by
  intro pins s σ H x y v u Q I rx ry h
  obtain ⟨a, k, rfl, rfl, h0, h1, h2, q⟩ := h
  obtain ⟨t, rfl⟩ := rx
  obtain ⟨t', rfl⟩ := ry
  exact PySem.SB.mul (mulOk_small h0 h1 h2) fun t' k' => ⟨.str (Txt.mul a k), H, I.tok k', ⟨t', rfl⟩, q⟩
theorem do_mulS : DO2 K rMulS dMulS := by
  intro P H x y dx dy d t hx hy e Q q
  unfold dMulS at e
  split at e
  · split at e
    · rename_i h
      cases e
      exact ⟨_, _, hx.str_inv, hy.int_inv, h.1, h.2.1, h.2.2, q _ H (Grw.refl H) (.str _)⟩
    · cases e
  · cases e
end
end DL
namespace DL
open PySem PySem.Spec PyProof.Rows L2
/-! DL91: try with several clauses, each with a name for the error. -/
/-- the ends of a suite, the name being taken away behind it -/
def endsN (i : Nat) (D : Ends) : Ends := { nx := fun σ H => D.nx (σ.set i none) H, rt := D.rt, bk := fun σ H => D.bk (σ.set i none) H, ct := fun σ H => D.ct (σ.set i none) H }
/-- what the clauses ask -/
def wNamed (K : PySem.W.Frag) (i : Nat) (D : Ends) : List (Value × (Addr → Value → Option Addr → TS)) → WX
  | [] => fun _ _ _ _ => False
  | (c, ts) :: r => fun cls d σ H => ∃ b, PySem.W.exmOne K cls c = some b ∧ (b = true → ∀ a, H a = none → ts a cls d (endsN i D) (σ.set i (some (.ref a))) H) ∧ (b = false → wNamed K i D r cls d σ H)
/-- clauses that name the error n -/
inductive HdsN (X : Cx) (n : Str) : List ExceptHandler → List (Value × (Addr → Value → Option Addr → TS)) → Prop
  | nil : HdsN X n [] []
  | cons {x : Str} {c : Value} {ts : Addr → Value → Option Addr → TS} {b₀ : Stmt} {suite : List Stmt} {np p' : Pos} {hds : List ExceptHandler} {l : List (Value × (Addr → Value → Option Addr → TS))} (hc : Names X x c)
      (hsu : ∀ (a : Addr) (oe : Obj) (cls : Value) (d : Option Addr) (pn : List (Addr × Obj)), Zc cls d oe → (∃ vs, oe.data = .fields vs) → PSs (X.suite a ((a, oe) :: pn)) (b₀ :: suite) (ts a cls d)) (r : HdsN X n hds l) :
      HdsN X n (.ExceptHandler (some (.Name x np)) (some n) (b₀ :: suite) p' :: hds) ((c, ts) :: l)
theorem ps_try_named {X : Cx} {n : Str} {i : Nat} {body : List Stmt} {h₀ : ExceptHandler} {hds : List ExceptHandler} {l : List (Value × (Addr → Value → Option Addr → TS))} {pos : Pos} {tb : WX → TS} (hs : X.stack = X.env :: X.outer) (hf : X.env.frame = some X.env.locals) (hN : X.N.Nodup) (hi : X.N[i]? = some n) (hln : X.env.kindOf n = some .local)
    (hb : ∀ (W : WX) (pn : List (Addr × Obj)) (xe : Value → Shared → Prop), Takes (X.tr pn xe) W → PassesOwn (model X.prog X.w) X.A X.env xe → PSs (X.tr pn xe) body (tb W))
    (hh : HdsN X n (h₀ :: hds) l) : PS X (.Try body (h₀ :: hds) [] [] pos) (fun D σ H => tb (wNamed X.K i D l) D σ H) := by
  refine ⟨fun pins s σ H D I h => ?_⟩
  have ok := I.ok
  have hfr : X.A.frames = some (X.env :: X.outer) := by rw [ok.frames, hs]
  have hloc : Loc X.env.scope n := .inl hln
  refine wpAny_Try_except ?_
  refine wpAny_mono ((hb (wNamed X.K i D l) (X.pn ++ pins) (fun e s₁ => wpAny (model X.prog X.w) X.A (noteFrame e X.env) (fun _ s₂ => wpAny (model X.prog X.w) X.A (setFlight e none) (fun _ s₃ =>
    wpAny (model X.prog X.w) X.A (handleBy e X.env (h₀ :: hds)) (SP X pins D) X.xe s₃) X.xe s₂) X.xe s₁) (fun u s' xx => ?_) PassesOwn.looking).run [] s σ H D (I.toTry _) h) (fun f s1 hsp => ?_) (fun e s1 he => he)
  · obtain ⟨a, B, sI, pins', σ', H', cls, d, rfl, J', nb, up, sky, na, os, ag, w⟩ := xx
    have J : Inv X pins σ' H' sI := J'.ofTry ok
    have sky2 : Sky B (X.env :: X.outer) a (Zc cls d) X.env.locals s'.heap := by rw [← hs]; exact sky
    show wpAny (model X.prog X.w) X.A (noteFrame (.ref a) X.env) _ _ _
    refine Sky.land Zc.steady hfr hf sky2 fun h3 fl3 up3 => ?_
    have J3 : Inv X pins σ' H' { s' with heap := h3 } := J.landed nb fl3.1 (up.trans up3) os ag
    obtain ⟨oe3, vs3, he3, hz3, hd3⟩ := fl3.there
    have nfr : a ∉ frs (X.env :: X.outer) := fun hm => by
      obtain ⟨_, o', e', hnf⟩ := fl3.2.2.1.mem hm
      rw [he3] at e'; cases e'
      exact hnf _ hd3
    have nL : a ≠ X.env.locals := fun z => nfr (List.mem_filterMap.mpr ⟨X.env, List.mem_cons_self, by rw [hf, z]⟩)
    have nF : a ∉ X.fs := fun hm => by
      obtain ⟨e, he, q⟩ := List.mem_filterMap.mp hm
      exact nfr (List.mem_filterMap.mpr ⟨e, List.mem_cons_of_mem _ he, q⟩)
    have S3 := J3.suite he3 hd3 na nL nF
    have LT : PySem.W.Looks (model X.prog X.w) h3 (typeOf (.ref a)) cls := fun A Q E s k q => wpAny_typeOf_ref (k _ _ he3) (by rw [hz3.1]; exact q)
    have go : ∀ {hds' : List ExceptHandler} {l' : List (Value × (Addr → Value → Option Addr → TS))}, HdsN X n hds' l' → wNamed X.K i D l' cls d σ' H' →
        wpAny (model X.prog X.w) X.A (handleBy (.ref a) X.env hds') (SP X pins D) X.xe { s' with heap := h3 } := by
      intro hds' l' hk
      induction hk with
      | nil => exact fun w => w.elim
      | @cons x c ts b₀ suite np p' hds2 l2 hc hsu r ih =>
        rintro ⟨b, hb1, hyes, hno⟩
        refine wpAny_handleBy_cons (codeAny_handlers_test ?_) (by intro q; cases q)
        have LM := PySem.W.exm_one (M := model X.prog X.w) (J3.kIn) LT hb1
        have test : ∀ {Q : Value → Shared → Prop} {E : Value → Shared → Prop}, Q c { s' with heap := h3 } → wpAny (model X.prog X.w) (X.A.mark (some (.ref a))) (eval (.Name x np) X.env) Q E { s' with heap := h3 } := fun {Q E} q => by
          obtain ⟨hg, hdbg, hm | ⟨hm, hv, hnn⟩⟩ := hc
          · exact ld_glob (X := X.suite a ((a, oe3) :: (X.pn ++ pins))) S3 hg hm q hdbg
          · exact ld_blt (X := X.suite a ((a, oe3) :: (X.pn ++ pins))) S3 hg hm hv q hnn hdbg
        refine test (LM.here ?_)
        cases b with
        | false => exact ih (hno rfl)
        | true =>
          refine codeAny_handlers_suite_as ?_
          refine HandSPX.lands_againZ fl3 fun h4 fl4 up4 => ?_
          have J4 : Inv X pins σ' H' { s' with heap := h4 } := J.landed nb fl4.1 ((up.trans up3).trans up4) os ag
          obtain ⟨oe4, vs4, he4, hz4, hd4⟩ := fl4.there
          have S4 := J4.suite he4 hd4 na nL nF
          refine store_ok (X := X.suite a ((a, oe4) :: (X.pn ++ pins))) (v := .ref a) S4 hN hi hloc rfl (fun s5 S5 => ?_) (.inr hln)
          refine wpAny_mono ((hsu a oe4 cls d (X.pn ++ pins) hz4 ⟨_, hd4⟩).run [] s5 _ H' _ S5 (hyes rfl a na)) (fun f s6 hsp => ?_) (fun _ _ z => False.elim z)
          have away : ∀ {σ6 : St} {H6 : Hp} {Q : Shared → Prop}, Inv (X.suite a ((a, oe4) :: (X.pn ++ pins))) [] σ6 H6 s6 → (∀ s7, Inv X pins (σ6.set i none) H6 s7 → Q s7) →
              wpAny (model X.prog X.w) X.A (do bindName X.env n .none; unbindBehindTheSuite X.env n p') (fun _ s7 => Q s7) X.xe s6 := fun {σ6 H6 Q} S6 hq => gone_ok (S6.unsuite ok) hN hi hln hq
          cases f with
          | next => obtain ⟨σ6, H6, S6, q6⟩ := hsp; exact away S6 fun s7 J7 => ⟨_, _, J7, q6⟩
          | brk => obtain ⟨σ6, H6, S6, q6⟩ := hsp; exact away S6 fun s7 J7 => ⟨_, _, J7, q6⟩
          | cont => obtain ⟨σ6, H6, S6, q6⟩ := hsp; exact away S6 fun s7 J7 => ⟨_, _, J7, q6⟩
          | ret u => obtain ⟨v6, σ6, H6, S6, r6, q6⟩ := hsp; exact away S6 fun s7 J7 => ⟨_, _, _, J7, r6, q6⟩
    exact go hh w
  · cases f with
    | next => obtain ⟨σ', H', J', q⟩ := hsp; exact wpAny_execs_nil ⟨σ', H', J'.ofTry ok, q⟩
    | brk => obtain ⟨σ', H', J', q⟩ := hsp; exact ⟨σ', H', J'.ofTry ok, q⟩
    | cont => obtain ⟨σ', H', J', q⟩ := hsp; exact ⟨σ', H', J'.ofTry ok, q⟩
    | ret u => obtain ⟨v, σ', H', J', r, q⟩ := hsp; exact ⟨v, σ', H', J'.ofTry ok, r, q⟩
/-- the first clause that takes the class -/
def hselN : List ((Str → Option Bool) × (Xt → M Fl)) → Xt → Option (Xt → M Fl)
  | [], _ => none
  | (tb, h) :: r, c => match tb c.c with
    | some true => some h
    | some false => hselN r c
    | none => none
/-- try: .. except C as e: suite; except C2 as e: suite .. -/
def sTryN (i : Nat) (m : MX Fl) (hs : List ((Str → Option Bool) × (Xt → M Fl))) : M Fl := fun s => match m s with
  | some (.ok fl, s') => some (fl, s')
  | some (.xc c, s') => if i < s'.g.length then (match hselN hs c with
    | some h => (match h c ⟨s'.g.set i none, s'.k⟩ with
      | some (fl, s2) => some (fl, ⟨s2.g.set i none, s2.k⟩)
      | none => none)
    | none => none) else none
  | none => none
inductive HdsL (X : Cx) (i : Nat) (n : Str) : List ExceptHandler → List ((Str → Option Bool) × (Xt → M Fl)) → Prop
  | nil : HdsL X i n [] []
  | cons {x : Str} {tb : Str → Option Bool} {h : Xt → M Fl} {b₀ : Stmt} {suite : List Stmt} {np p' : Pos} {hds : List ExceptHandler} {l : List ((Str → Option Bool) × (Xt → M Fl))} (T : ClN X.K X.mg x tb) (hh : HSu X i (b₀ :: suite) h) (r : HdsL X i n hds l)
      (hg : Gl X x := by rfl) (hdb : (x == ("__debug__" : Str)) = false := by decide) :
      HdsL X i n (.ExceptHandler (some (.Name x np)) (some n) (b₀ :: suite) p' :: hds) ((tb, h) :: l)
theorem hdsL_ok {X : Cx} {i : Nat} {n : Str} {hds : List ExceptHandler} {hs : List ((Str → Option Bool) × (Xt → M Fl))} (k : HdsL X i n hds hs) : ∃ l, HdsN X n hds l ∧
    ∀ (c : Xt) (h : Xt → M Fl) (A : DA) (hid P1 : Addr → Prop) (s1 s2 : S) (σ1 : St) (H1 : Hp) (cls : Value) (dx : Option Addr) (fl : Fl) (D : Ends), hselN hs c = some h → isXt X.K P1 H1 c cls dx → SOk X.K A hid P1 s1 σ1 H1 → i < s1.g.length → h c ⟨s1.g.set i none, s1.k⟩ = some (fl, s2) →
      FlOk X.K A hid P1 H1 ⟨s2.g.set i none, s2.k⟩ D fl → wNamed X.K i D l cls dx σ1 H1 := by
  induction k with
  | nil => exact ⟨[], .nil, fun c h A hid P1 s1 s2 σ1 H1 cls dx fl D e => by cases e⟩
  | @cons x tb h0 b₀ suite np p' hds l T hh r hg hdb ih =>
    obtain ⟨l2, hl, hw⟩ := ih
    obtain ⟨C, hm, ht⟩ := T.ex
    obtain ⟨ts, ps, vs⟩ := hh
    refine ⟨(.ref C, ts) :: l2, .cons ⟨hg, hdb, .inl hm⟩ ps hl, ?_⟩
    intro c h A hid P1 s1 s2 σ1 H1 cls dx fl D e ic ok1 hi hd q
    obtain ⟨⟨D0, rfl, n2⟩, _⟩ := id ic
    have key : ∀ b, tb c.c = some b → PySem.W.exmOne X.K (.ref D0) (.ref C) = some b := fun b hb => by
      obtain ⟨C0, n1, m1⟩ := ht c.c b hb
      rw [n1] at n2
      injection n2 with n2; injection n2 with n2; injection n2 with n2
      rw [← n2]; exact m1
    unfold hselN at e
    cases hb : tb c.c with
    | none => simp only [hb] at e; cases e
    | some b =>
      cases b with
      | false =>
        simp only [hb] at e
        exact ⟨false, key false hb, (fun z => nomatch z), fun _ => hw c h A hid P1 s1 s2 σ1 H1 _ dx fl D e ic ok1 hi hd q⟩
      | true =>
        simp only [hb] at e
        cases e
        refine ⟨true, key true hb, fun _ a ha => ?_, fun z => nomatch z⟩
        have ok2 := ok1.set_none (i := i) (v := some (.ref a))
        refine vs a _ dx c A hid P1 _ _ H1 fl s2 ic ok2 (by rw [List.getElem?_set_self (by rw [← ok1.len]; exact hi)]) hd _ ?_
        cases fl with
        | nx => exact fun σ2 P2 H2 ok3 st3 => q _ P2 H2 ok3.set_none st3
        | rt d => exact fun v σ2 P2 H2 ok3 st3 r3 => q v (σ2.set i none) P2 H2 ok3.set_none st3 r3
        | bk => exact fun σ2 P2 H2 ok3 st3 => q _ P2 H2 ok3.set_none st3
        | ct => exact fun σ2 P2 H2 ok3 st3 => q _ P2 H2 ok3.set_none st3
section
variable {X : Cx} {body : List Stmt} {m : MX Fl} {hs : List ((Str → Option Bool) × (Xt → M Fl))} {i : Nat} {n : Str} {h₀ : ExceptHandler} {hds : List ExceptHandler} {pos : Pos}
theorem x1_tryN (hb : ∀ (W : WX) (pn : List (Addr × Obj)) (xe : Value → Shared → Prop), Takes (X.tr pn xe) W → XSX (X.tr pn xe) W body m) (hk : HdsL X i n (h₀ :: hds) hs)
    (hN : X.N.Nodup) (hst : X.stack = X.env :: X.outer := by rfl) (hf : X.env.frame = some X.env.locals := by rfl) (hi : X.N[i]? = some n := by rfl) (hln : X.env.kindOf n = some .local := by rfl) :
    X1 X (.Try body (h₀ :: hds) [] [] pos) (sTryN i m hs) := by
  obtain ⟨l, hl, hw⟩ := hdsL_ok hk
  refine ⟨_, ps_try_named (tb := fun W D σ H => ∀ pn xe, Takes (X.tr pn xe) W → ∀ t, PSs (X.tr pn xe) body t → EvSX X.K W t m → t D σ H) hst hf hN hi hln (fun W pn xe tk _ => ?_) hl, ?_⟩
  · obtain ⟨t, ht⟩ := hb W pn xe tk
    exact ⟨fun pins s σ H D I hw => ht.p.run pins s σ H D I (hw pn xe tk t ht.p ht.v)⟩
  · intro A hid P s σ H fl s' ok e0 D q
    intro pn xe tk t _ hv
    unfold sTryN at e0
    cases hms : m s with
    | none => rw [hms] at e0; cases e0
    | some r =>
      obtain ⟨r, s1⟩ := r
      rw [hms] at e0
      refine hv A hid P s σ H r s1 ok hms D ?_
      cases r with
      | ok fl1 => cases e0; exact q
      | xc c =>
        dsimp only at e0
        split at e0
        · rename_i hcs
          split at e0
          · rename_i h hsel
            split at e0
            · rename_i fl2 s2 hd
              cases e0
              intro cls dx σ1 P1 H1 ic ok1 st1
              refine hw c h A hid P1 s1 s2 σ1 H1 cls dx fl D hsel ic ok1 hcs hd ?_
              cases fl with
              | nx => exact fun σ2 P2 H2 ok3 st3 => q _ P2 H2 ok3 (st1.trans st3)
              | rt d => exact fun v σ2 P2 H2 ok3 st3 r3 => q v σ2 P2 H2 ok3 (st1.trans st3) r3
              | bk => exact fun σ2 P2 H2 ok3 st3 => q _ P2 H2 ok3 (st1.trans st3)
              | ct => exact fun σ2 P2 H2 ok3 st3 => q _ P2 H2 ok3 (st1.trans st3)
            · cases e0
          · cases e0
        · cases e0
end
/-! wp -/
@[simp ↓] theorem wp_sTryN {i : Nat} {m : MX Fl} {hs : List ((Str → Option Bool) × (Xt → M Fl))} {s : S} {Z : Fl → S → Prop} : wp (sTryN i m hs) s Z ↔ wp (α := RX Fl) m s fun r s1 => match r with
    | .ok fl => Z fl s1
    | .xc c => i < s1.g.length ∧ ∃ h, hselN hs c = some h ∧ wp (h c) ⟨s1.g.set i none, s1.k⟩ fun fl s2 => Z fl ⟨s2.g.set i none, s2.k⟩ := by
  unfold wp sTryN
  constructor
  · rintro ⟨a, s', e, q⟩
    cases hm : m s with
    | none => rw [hm] at e; cases e
    | some x =>
      obtain ⟨r, s1⟩ := x
      rw [hm] at e
      refine ⟨r, s1, rfl, ?_⟩
      cases r with
      | ok fl => cases e; exact q
      | xc c =>
        dsimp only at e
        split at e
        · rename_i hi
          split at e
          · rename_i h hsel
            split at e
            · rename_i fl s2 hd
              cases e
              exact ⟨hi, h, hsel, _, s2, hd, q⟩
            · cases e
          · cases e
        · cases e
  · rintro ⟨r, s1, hm, q⟩
    rw [hm]
    cases r with
    | ok fl => exact ⟨_, _, rfl, q⟩
    | xc c =>
      obtain ⟨hi, h, hsel, fl, s2, hd, q⟩ := q
      refine ⟨fl, _, ?_, q⟩
      dsimp only
      rw [if_pos hi, hsel]
      dsimp only
      rw [hd]
/-! wp of the text operations -/
section
variable {s : S} {Q : D → S → Prop}
@[simp ↓] theorem wp_eSlS {f : M D} {l h : M (Option Int)} : wp (eSlS f l h) s Q ↔ wp f s fun x s1 => wp l s1 fun lo s2 => wp h s2 fun hi s3 => ∃ d, dSlS x lo hi = some d ∧ Q d s3 := by
  unfold eSlS; simp only [wp_bd, wp_lf]
@[simp ↓] theorem wp_asS {f : M D} {Q : List D → S → Prop} : wp (asS f) s Q ↔ wp f s fun d s1 => ∃ z, d = .str z ∧ Q (sgnsD z) s1 := by
  unfold asS; simp only [wp_bd]
  constructor <;> intro h <;> refine wp_mono h fun d s1 q => ?_
  · cases d with
    | str z => exact ⟨z, rfl, wp_rtn.mp q⟩
    | _ => obtain ⟨_, _, e, _⟩ := q; cases e
  · obtain ⟨z, rfl, q⟩ := q
    exact wp_rtn.mpr q
end
end DL
namespace DL
open PySem PySem.Spec PyProof.Rows L2
/-! DL92: str of a text or an int; a slice of an own list. -/
def dStrW : List D → Option D
  | [.str x] => some (.str x)
  | [.int i] => if i.natAbs.log2 < 1920 then some (.str (toString i : Str)) else none
  | _ => none
abbrev rStrS : List V → Hp → VK → Prop := fun xs H Q => ∃ a, xs = [.str a] ∧ Q (.str a) H
theorem k_strW {X : Cx} : CallR X (.type "str") (rOrC rStr1 rStrS) := call_or call_str_int SkE.call_str_str
theorem do_strW {K : PySem.W.Frag} : DOC K (rOrC rStr1 rStrS) dStrW := by
  intro P H xs ds d t r e Q q
  unfold dStrW at e
  split at e
  · cases e
    obtain ⟨v, rfl, h⟩ := r.one
    rw [h.str_inv]
    exact .inr ⟨_, rfl, q _ H (Grw.refl H) (.str _)⟩
  · split at e
    · rename_i hl; cases e
      obtain ⟨v, rfl, h⟩ := r.one
      cases h
      exact .inl ⟨_, rfl, hl, q _ H (Grw.refl H) (.str _)⟩
    · cases e
  · cases e
/-- x[lo:hi], x an own list: a new list -/
def eSlC (i : Nat) (l h : M (Option Int)) : M D := fun s => match s.g[i]? with
  | some (some (.lst _)) => (bd l fun lo => bd h fun hi s2 => match s2.g[i]? with
    | some (some (.lst ds)) => some (.list (cutG ds lo hi), s2)
    | _ => none) s
  | _ => none
section
variable {X : Cx} {K : PySem.W.Frag} {tl th : TO} {gl gh : M (Option Int)} {lo hi : Option Expr} {p2 pos px : Pos} {x : Str}
theorem ev_slC {i : Nat} (hl : EvO K tl gl) (hh : EvO K th gh) : EvE K (tSl (rSlD K) (tVar i) tl th) (eSlC i gl gh) := by
  intro A hid P s σ H d s' ok e Q q
  unfold eSlC at e
  split at e
  · rename_i ds0 hg
    obtain ⟨a, vs0, ea, h1, _⟩ := ok.slot i _ hg
    obtain ⟨l, s2, e2, e⟩ := bd_some e
    obtain ⟨h, s3, e3, e⟩ := bd_some e
    split at e
    · rename_i ds hg3
      cases e
      refine ⟨.ref a, ea, ?_⟩
      refine hl A hid P _ σ H l _ ok e2 _ fun P2 H2 ok2 st2 => ?_
      refine hh A hid P2 _ σ H2 h _ ok2 e3 _ fun P3 H3 ok3 st3 => ?_
      obtain ⟨b, vs, eb, m1, m2, m3, m4, rr⟩ := ok3.slot i _ hg3
      rw [ea] at eb; cases eb
      refine .inr ⟨a, vs, rfl, SqL.of m1, fun p hp => ?_⟩
      exact q _ P3 _ (ok3.grw (Grw.new hp)) ((st2.trans st3).trans (Stp.grw (Grw.new hp))) (rp_newL ok3.trk hp (rr.cut l h))
    · cases e
  · cases e
theorem k_slC {i : Nat} (hl : DO X lo tl gl) (hh : DO X hi th gh) (hK : X.K = K := by rfl) (hN : X.N[i]? = some x := by rfl) (hv : Vis X.env.scope x := by first | exact Or.inl rfl | exact Or.inr (Or.inl rfl) | exact Or.inr (Or.inr rfl)) (hd : (x == ("__debug__" : Str)) = false := by decide) (hcd : (x == ("__classdict__" : Str)) = false := by decide) :
    DE X (.Subscript (.Name x px) (.Slice lo hi none p2) pos) (tSl (rSlD K) (tVar i) tl th) (eSlC i gl gh) := hK ▸
  ⟨pe_slice (SlR.or sl_tupA sl_list) (pe_var hN hv hd hcd) hl.p hh.p, ev_slC hl.v hh.v⟩
end
@[simp ↓] theorem wp_eSlC {i : Nat} {l h : M (Option Int)} {s : S} {Q : D → S → Prop} : wp (eSlC i l h) s Q ↔ (∃ ds0, s.g[i]? = some (some (.lst ds0))) ∧ wp l s fun lo s1 => wp h s1 fun hi s2 => ∃ ds, s2.g[i]? = some (some (.lst ds)) ∧ Q (.list (cutG ds lo hi)) s2 := by
  unfold wp eSlC
  constructor
  · rintro ⟨d, s', e, q⟩
    split at e
    · rename_i ds0 hg
      obtain ⟨lo, s1, e1, e⟩ := bd_some e
      obtain ⟨hi, s2, e2, e⟩ := bd_some e
      split at e
      · rename_i ds hg2
        cases e
        exact ⟨⟨ds0, hg⟩, lo, s1, e1, hi, _, e2, ds, hg2, q⟩
      · cases e
    · cases e
  · rintro ⟨⟨ds0, hg⟩, lo, s1, e1, hi, s2, e2, ds, hg2, q⟩
    refine ⟨_, s2, ?_, q⟩
    rw [hg]
    dsimp only
    unfold bd
    rw [e1]
    dsimp only
    rw [e2]
    dsimp only
    rw [hg2]
end DL
namespace DL
open PySem PySem.Spec PyProof.Rows L2
/-! RW1: rows as plain Lean. -/
inductive Rs where
  | inp (k : Nat) | set (c : Int) | neg (i : Nat) | add (i j : Nat) | sub (i j : Nat) | mul (i j : Nat)
def Rs.d : Rs → D
  | .inp k => .tuple [.str "in", .int (k : Nat)]
  | .set c => .tuple [.str "set", .int c]
  | .neg i => .tuple [.str "neg", .int (i : Nat)]
  | .add i j => .tuple [.str "+", .int (i : Nat), .int (j : Nat)]
  | .sub i j => .tuple [.str "-", .int (i : Nat), .int (j : Nat)]
  | .mul i j => .tuple [.str "*", .int (i : Nat), .int (j : Nat)]
/-- may be the step with the number m in a row of n inputs -/
def Rs.ok (n m : Nat) : Rs → Prop
  | .inp k => k < n
  | .set c => -100000000000000000000 ≤ c ∧ c ≤ 100000000000000000000
  | .neg i => i < m
  | .add i j => i < m ∧ j < m
  | .sub i j => i < m ∧ j < m
  | .mul i j => i < m ∧ j < m
def okFrom (n : Nat) : Nat → List Rs → Prop
  | _, [] => True
  | m, s :: r => s.ok n m ∧ okFrom n (m + 1) r
theorem okFrom_app {n : Nat} : ∀ {m : Nat} {a b : List Rs}, okFrom n m (a ++ b) ↔ okFrom n m a ∧ okFrom n (m + a.length) b
  | m, [], b => by simp [okFrom]
  | m, s :: r, b => by
    rw [List.cons_append, okFrom, okFrom, okFrom_app, List.length_cons, show m + 1 + r.length = m + (r.length + 1) by omega, and_assoc]
theorem okFrom_snoc {n m : Nat} {a : List Rs} {s : Rs} : okFrom n m (a ++ [s]) ↔ okFrom n m a ∧ s.ok n (m + a.length) := by
  rw [okFrom_app]; simp [okFrom]
theorem okFrom_mem {n : Nat} : ∀ {m : Nat} {a : List Rs} {i : Nat} (h : i < a.length), okFrom n m a → (a[i]).ok n (m + i)
  | m, s :: r, 0, _, o => by simpa using o.1
  | m, s :: r, i + 1, h, o => by
    have := okFrom_mem (i := i) (by simpa using h) o.2
    rw [List.getElem_cons_succ, show m + (i + 1) = m + 1 + i by omega]; exact this
/-- going from step to step -/
def runS {α : Type} (op : List α → Rs → α) : List Rs → List α → List α
  | [], acc => acc
  | s :: r, acc => runS op r (acc ++ [op acc s])
theorem runS_app {α : Type} {op : List α → Rs → α} : ∀ {a b : List Rs} {acc : List α}, runS op (a ++ b) acc = runS op b (runS op a acc)
  | [], _, _ => rfl
  | s :: r, b, acc => by rw [List.cons_append, runS, runS, runS_app]
theorem runS_snoc {α : Type} {op : List α → Rs → α} {a : List Rs} {s : Rs} {acc : List α} : runS op (a ++ [s]) acc = runS op a acc ++ [op (runS op a acc) s] := by
  rw [runS_app]; rfl
theorem runS_len {α : Type} {op : List α → Rs → α} : ∀ {a : List Rs} {acc : List α}, (runS op a acc).length = acc.length + a.length
  | [], _ => rfl
  | s :: r, acc => by rw [runS, runS_len, List.length_append, List.length_cons]; simp; omega
/-- sizes, with least for a set number -/
def Rs.size (f : List Nat) : Rs → Nat
  | .inp _ => 1
  | .set _ => 1
  | .neg i => f.getD i 0
  | .add i j => max (f.getD i 0) (f.getD j 0)
  | .sub i j => max (f.getD i 0) (f.getD j 0)
  | .mul i j => f.getD i 0 + f.getD j 0
def sizesS (a : List Rs) : List Nat := runS Rs.size a []
theorem sizesS_snoc {a : List Rs} {s : Rs} : sizesS (a ++ [s]) = sizesS a ++ [s.size (sizesS a)] := runS_snoc
theorem sizesS_len {a : List Rs} : (sizesS a).length = a.length := by unfold sizesS; rw [runS_len]; simp
def intsD (l : List Nat) : List D := l.map fun n => .int (n : Nat)
def spsD (l : List Rs) : List D := l.map Rs.d
theorem intsD_len {l : List Nat} : (intsD l).length = l.length := by simp [intsD]
theorem spsD_len {l : List Rs} : (spsD l).length = l.length := by simp [spsD]
theorem intsD_snoc {l : List Nat} {n : Nat} : intsD l ++ [.int (n : Nat)] = intsD (l ++ [n]) := by simp [intsD]
theorem spsD_snoc {l : List Rs} {s : Rs} : spsD l ++ [s.d] = spsD (l ++ [s]) := by simp [spsD]
theorem intsD_get {l : List Nat} {i : Nat} (h : i < l.length) : atI (intsD l) (i : Int) = some (.int (l.getD i 0 : Nat)) := by
  refine atI_nat ?_
  simp [intsD, List.getElem?_map, List.getElem?_eq_getElem h]
def rowD (n : Nat) (a : List Rs) (e : List Nat) : D := .tuple [.int (n : Nat), .tuple (spsD a), .tuple (intsD e)]
/-! ### plain bounds -/
theorem lg_lt {i : Int} {n : Nat} (hn : 0 < n) (h : i.natAbs < 2 ^ n) : i.natAbs.log2 < n := by
  by_cases h0 : i.natAbs = 0
  · rw [h0]; simpa using hn
  · exact (Nat.log2_lt h0).mpr h
theorem sz_tup {l : List D} : sz (.tuple l) = szA l + 4 := by rw [sz]
theorem sz_lst {l : List D} : sz (.list l) = szA l + 4 := by rw [sz]
theorem dp_tup {l : List D} : PyData.depth (.tuple l) = PyData.depthAll l + 1 := by rw [PyData.depth]
theorem dp_lst {l : List D} : PyData.depth (.list l) = PyData.depthAll l + 1 := by rw [PyData.depth]
theorem sz_intB {i : Int} {n : Nat} (hn : 0 < n) (hn2 : n ≤ 14190) (h : i.natAbs < 2 ^ n) : sz (.int i) ≤ n + 2 := by
  have hl := lg_lt hn h
  unfold sz
  rw [if_pos (by omega)]; omega
theorem sz_nat {i : Nat} (h : i < 1024) : sz (.int (i : Int)) ≤ 12 := sz_intB (n := 10) (by decide) (by decide) (by simpa using h)
/-- a value that may be shown -/
def Gd (B : Nat) (d : D) : Prop := sz d ≤ B ∧ d.depth ≤ 20
theorem Gd.ok {B : Nat} {d : D} (h : Gd B d) (hB : B ≤ 1000000) : okR d = true := okR_of (Nat.le_trans h.1 hB) (by have := h.2; omega)
/-! ### a seam -/
theorem wp_seqM {m n : M Fl} {s : S} {Z : Fl → S → Prop} (R : S → Prop) (h1 : wp m s fun fl s1 => fl = .nx ∧ R s1) (h2 : ∀ s1, R s1 → wp n s1 Z) : wp (sSeq m n) s Z := by
  rw [wp_sSeq]
  refine wp_mono h1 fun fl s1 ⟨e, q⟩ => ?_
  subst e; exact h2 s1 q
end DL
namespace DL
open PySem PySem.Spec PyProof.Rows L2
/-! RW2: what the law's own defs are spoken of with. -/
def isI (v : D) (a b : Int) : Bool := match v with
  | .int i => decide (a ≤ i) && decide (i ≤ b)
  | _ => false
def isStep (v : D) (n m : Int) : Bool := match v with
  | .tuple [.str w, y] => if w == "in" then isI y 0 (n - 1) else if w == "set" then isI y (-100000000000000000000) 100000000000000000000 else w == "neg" && isI y 0 (m - 1)
  | .tuple [.str w, y, z] => (w == "+" || w == "-" || w == "*") && (isI y 0 (m - 1) && isI z 0 (m - 1))
  | _ => false
def oddL : List D := [.none, .bool true, .bool false, .int 0, .int 1, .int 2, .int (-1), .int 1000000000000000000000000000000, .str "", .str "0", .str "in", .tuple [], .list [], .dict [], .tuple [.int 0], .tuple [.int 1], .tuple [.int 0, .int 1], .tuple [.bool true, .int 0], .list [.int 0]] ++
  [.tuple [.str "in", .int 0], .tuple [.str "set", .int 1], .tuple [.str "neg", .int 0], .tuple [.str "+", .int 0, .int 0], .tuple [.str "*", .int 0], .tuple [.str "in", .bool true], .tuple [.str "+", .int 0, .int (-1)], .tuple [.str "/", .int 0, .int 0]] ++
  [.tuple [.none], .tuple [.int (-1)], .tuple [.int 1, .tuple [.tuple [.str "in", .int 0]], .tuple [.int 0]], .tuple [.int 0, .tuple [], .tuple []], .tuple [.tuple [.int 0], .int 1], .tuple [.str "in"], .int 64, .int 65]
theorem odd_small : ∀ d ∈ oddL, sz d ≤ 200 ∧ d.depth ≤ 4 := by decide +kernel
section
variable {x a b c : Str} {i j m : Int}
theorem dInS {x : Str} {ys : List D} (h : ys.all flatD = true) : dIn (.str x) (.tuple ys) = some (.bool (inD (.str x) ys)) := by
  unfold dIn dInB
  simp [h, flatD]
theorem dNotInI {i : Int} {ys : List D} (h : ys.all flatD = true) : dNotIn (.int i) (.tuple ys) = some (.bool (!inD (.int i) ys)) := by
  unfold dNotIn dInB
  simp [h, flatD]
@[simp] theorem dIn_s2 : dIn (.str x) (.tuple [.str a, .str b]) = some (.bool (x == a || x == b)) := by
  rw [dInS (by simp [flatD])]; simp only [inD, PyData.eqv, List.any_cons, List.any_nil, Bool.or_false]
  rw [BEq.comm (a := a), BEq.comm (a := b)]
@[simp] theorem dIn_s3 : dIn (.str x) (.tuple [.str a, .str b, .str c]) = some (.bool (x == a || x == b || x == c)) := by
  rw [dInS (by simp [flatD])]; simp only [inD, PyData.eqv, List.any_cons, List.any_nil, Bool.or_false, Bool.or_assoc]
  rw [BEq.comm (a := a), BEq.comm (a := b), BEq.comm (a := c)]
@[simp] theorem dNotIn_i2 : dNotIn (.int i) (.tuple [.int j, .int m]) = some (.bool (!(i == j || i == m))) := by
  rw [dNotInI (by simp [flatD])]; simp only [inD, PyData.eqv, List.any_cons, List.any_nil, Bool.or_false]
  rw [BEq.comm (a := j), BEq.comm (a := m)]
end
theorem ofS_inj {a b : String} : Str.ofString a = Str.ofString b ↔ a = b := by
  constructor
  · intro h
    rw [Str.ofString_eq_toList, Str.ofString_eq_toList] at h
    injection h with h
    have h2 : a.toList.map Char.toNat = b.toList.map Char.toNat := by simpa using h
    have h3 : a.toList = b.toList := by
      have inj : ∀ {x y : Char}, x.toNat = y.toNat → x = y := fun {x y} h => Char.ext (UInt32.toNat_inj.mp h)
      generalize a.toList = p at h2
      generalize b.toList = q at h2
      induction p generalizing q with
      | nil => cases q with
        | nil => rfl
        | cons => simp at h2
      | cons u r ih => cases q with
        | nil => simp at h2
        | cons w t =>
          simp only [List.map_cons, List.cons.injEq] at h2
          rw [inj h2.1, ih t h2.2]
    exact String.toList_inj.mp h3
  · rintro rfl; rfl
@[simp] theorem ofS_eq {a b : String} : (Str.ofString a = Str.ofString b) = (a = b) := propext ofS_inj
@[simp] theorem ofS_beq {a b : String} : (Str.ofString a == Str.ofString b) = decide (a = b) := by
  rw [Bool.eq_iff_iff]; simp
@[simp ↓] theorem wp_lc_nil {own : List Nat} {asg : D → M Unit} {t : M Bool} {e : M D} {acc : List D} {s : S} {Q : List D → S → Prop} : wp (lcLoop own asg t e [] acc) s Q ↔ Q acc s := wp_rtn
@[simp ↓] theorem wp_lc_cons {own : List Nat} {asg : D → M Unit} {t : M Bool} {e : M D} {x : D} {r acc : List D} {s : S} {Q : List D → S → Prop} : wp (lcLoop own asg t e (x :: r) acc) s Q ↔ wp (asg x) s fun _ s1 => wp t s1 fun b s2 => if b = true then wp e s2 fun d s3 => acc.length ≤ lim ∧ wp (lcLoop own asg t e r (acc ++ [d])) (wipeS s3 own) Q else wp (lcLoop own asg t e r acc) (wipeS s2 own) Q := by
  show wp (bd (asg x) fun _ => bd t fun b => if b = true then bd e fun d => if acc.length ≤ lim then fun s1 => lcLoop own asg t e r (acc ++ [d]) (wipeS s1 own) else fun _ => none else fun s1 => lcLoop own asg t e r acc (wipeS s1 own)) s Q ↔ _
  simp only [wp_bd, wp_ite]
  have h2 : ∀ b s2, (if b = true then wp e s2 fun a s1 => if acc.length ≤ lim then wp (fun s1 => lcLoop own asg t e r (acc ++ [a]) (wipeS s1 own)) s1 Q else wp (fun _ => none) s1 Q else wp (fun s1 => lcLoop own asg t e r acc (wipeS s1 own)) s2 Q) = (if b = true then wp e s2 fun d s3 => acc.length ≤ lim ∧ wp (lcLoop own asg t e r (acc ++ [d])) (wipeS s3 own) Q else wp (lcLoop own asg t e r acc) (wipeS s2 own) Q) := by
    intro b s2
    split
    · refine congrArg (wp e s2) ?_
      funext a s1
      split
      · rename_i h; simp only [h, true_and]; rfl
      · rename_i h; simp only [h, false_and]; exact propext wp_no
    · rfl
  simp only [h2]
@[simp ↓] theorem wp_loop_nil {asg : D → M Unit} {b : M Fl} {s : S} {Z : Fl → S → Prop} : wp (loop asg b []) s Z ↔ Z .nx s := wp_rtn
@[simp] theorem cutG_1 {α : Type} {x : α} {r : List α} : cutG (x :: r) (some 1) none = r := by rw [cutG_from (by decide)]; rfl
@[simp] theorem fp_no {sem : FS} {xs : List Val} {k : Dk} : fp sem xs k (fun _ _ => False) ↔ False := ⟨fun ⟨_, _, _, h⟩ => h, False.elim⟩
theorem drop_cons {α : Type} {l : List α} {i : Nat} {x : α} {r : List α} (h : l.drop i = x :: r) : ∃ h : i < l.length, x = l[i] ∧ r = l.drop (i + 1) := by
  have hi : i < l.length := by
    by_cases h2 : i < l.length
    · exact h2
    · rw [List.drop_of_length_le (by omega)] at h; cases h
  refine ⟨hi, ?_⟩
  rw [List.drop_eq_getElem_cons hi] at h
  injection h with h1 h2
  exact ⟨h1.symm, h2.symm⟩
theorem drop_nil {α : Type} {l : List α} {i : Nat} (h : l.drop i = []) : l.length ≤ i := by simpa using h
theorem enm_drop {l : List D} {i : Nat} {x : D} {r : List D} (h : (enmD l).drop i = x :: r) : ∃ h : i < l.length, x = .tuple [.int (i : Nat), l[i]] ∧ r = (enmD l).drop (i + 1) := by
  obtain ⟨hi, rfl, rfl⟩ := drop_cons h
  have hi2 : i < l.length := by rw [enmD_len] at hi; exact hi
  refine ⟨hi2, ?_, rfl⟩
  have := enmD_get (ds := l) (i := i) (d := l[i]) (by rw [List.getElem?_eq_getElem hi2])
  rw [List.getElem?_eq_getElem hi] at this
  exact Option.some.inj this
theorem enm_nil {l : List D} {i : Nat} (h : (enmD l).drop i = []) : l.length ≤ i := by
  have := drop_nil h; rwa [enmD_len] at this
theorem rng_len {a : Int} {n : Nat} : (rngD a n).length = n := by simp [rngD]
theorem rng_drop {a : Int} {n i : Nat} {x : D} {r : List D} (h : (rngD a n).drop i = x :: r) : i < n ∧ x = .int (a + (i : Nat)) ∧ r = (rngD a n).drop (i + 1) := by
  obtain ⟨hi, rfl, rfl⟩ := drop_cons h
  refine ⟨by rw [rng_len] at hi; exact hi, ?_, rfl⟩
  simp [rngD]
theorem rng_nil {a : Int} {n i : Nat} (h : (rngD a n).drop i = []) : n ≤ i := by
  have := drop_nil h; rwa [rng_len] at this
theorem drop_at {α : Type} {l : List α} {i : Nat} (h : i < l.length) : l.drop i = l[i] :: l.drop (i + 1) := List.drop_eq_getElem_cons h
theorem atI_at {α : Type} {l : List α} {i : Nat} (h : i < l.length) : atI l (i : Int) = some l[i] := atI_of h
@[simp] theorem cellsB_nil {s : S} : cellsB [] s = true := rfl
def cellO : Option (Option Val) → Bool
  | some (some v) => isCell v
  | _ => false
@[simp] theorem cellsB_cons {i : Nat} {B : List Nat} {s : S} : cellsB (i :: B) s = (cellO s.g[i]? && cellsB B s) := by
  unfold cellsB
  rw [List.all_cons]
  refine congrArg (· && _) ?_
  unfold cellO
  generalize s.g[i]? = o
  rcases o with _ | (_ | v) <;> rfl
@[simp] theorem cellO_lst {ds : List D} : cellO (some (some (.lst ds))) = true := rfl
@[simp] theorem cellO_dct {t : Bool} {ds : List (D × D)} : cellO (some (some (.dct t ds))) = true := rfl
@[simp] theorem isCell_lst {ds : List D} : isCell (.lst ds) = true := rfl
@[simp] theorem isCell_dct {t : Bool} {ds : List (D × D)} : isCell (.dct t ds) = true := rfl
@[simp] theorem res_bor {s : S} {i : Nat} : res s (.bor i) = resB s.g[i]? := rfl
@[simp] theorem resB_lst {ds : List D} : resB (some (some (.lst ds))) = some (.dat (.list ds)) := rfl
@[simp] theorem resB_dct {t : Bool} {ds : List (D × D)} : resB (some (some (.dct t ds))) = some (.dat (.dict ds)) := rfl
@[simp] theorem noMut_int {i : Int} : noMut (.int i) = true := by simp [noMut]
@[simp] theorem noMut_bool {i : Bool} : noMut (.bool i) = true := by simp [noMut]
@[simp] theorem noMut_str {i : Str} : noMut (.str i) = true := by simp [noMut]
@[simp] theorem noMut_none : noMut .none = true := by simp [noMut]
@[simp] theorem noMut_tuple {l : List D} : noMut (.tuple l) = noMutA l := by simp [noMut]
@[simp] theorem noMutA_nil : noMutA [] = true := by simp [noMutA]
@[simp] theorem noMutA_cons {x : D} {l : List D} : noMutA (x :: l) = (noMut x && noMutA l) := by simp [noMutA]
def ixO (o : Option (Option Val)) (y : D) : Option D := match o with
  | some (some (.lst ds)) => (match y with
    | .int j => atI ds j
    | _ => none)
  | some (some (.dat x)) => dIx x y
  | _ => none
@[simp] theorem ixc_g {s : S} {i : Nat} {y : D} : ixc s i y = ixO s.g[i]? y := rfl
@[simp] theorem ixO_lst {ds : List D} {j : Int} : ixO (some (some (.lst ds))) (.int j) = atI ds j := rfl
@[simp] theorem ixO_dat {x y : D} : ixO (some (some (.dat x))) y = dIx x y := rfl
def peekO : Option (Option Val) → Option D
  | some (some (.lst ds)) => some (.list ds)
  | some (some (.dat d)) => some d
  | _ => none
@[simp] theorem peek_g {s : S} {i : Nat} : peek i s = peekO s.g[i]? := by
  unfold peek peekO
  generalize s.g[i]? = o
  rcases o with _ | (_ | v)
  · rfl
  · rfl
  · cases v <;> rfl
@[simp] theorem peekO_lst {ds : List D} : peekO (some (some (.lst ds))) = some (.list ds) := rfl
@[simp] theorem peekO_dat {d : D} : peekO (some (some (.dat d))) = some d := rfl
@[simp] theorem wipeS_mk {g : List (Option Val)} {k : Dk} {l : List Nat} : wipeS ⟨g, k⟩ l = ⟨wipeL g l, k⟩ := rfl
@[simp] theorem wipeL_nil {g : List (Option Val)} : wipeL g [] = g := rfl
@[simp] theorem wipeL_cons {g : List (Option Val)} {v : Nat} {r : List Nat} : wipeL g (v :: r) = (wipeL g r).set v none := rfl
/-- a comprehension whose turns change nothing -/
theorem wp_lc_fm {own : List Nat} {asg : D → M Unit} {t : M Bool} {e : M D} {ds : List D} {s : S} {Q : List D → S → Prop} (p : D → Bool) (g : D → D)
    (h : ∀ x ∈ ds, wp (asg x) s fun _ s1 => wp t s1 fun b s2 => b = p x ∧ if p x = true then wp e s2 fun d s3 => d = g x ∧ wipeS s3 own = s else wipeS s2 own = s) (hl : ds.length ≤ lim) (hq : Q ((ds.filter p).map g) s) : wp (lcLoop own asg t e ds []) s Q := by
  refine wp_lc (fun r acc s' => s' = s ∧ (∀ x ∈ r, x ∈ ds) ∧ acc.length + r.length ≤ lim ∧ acc ++ (r.filter p).map g = (ds.filter p).map g) (fun x r acc s' hI => ?_) (fun acc s' hI => ?_) ds [] s ⟨rfl, fun _ hx => hx, by simpa using hl, by simp⟩
  · obtain ⟨rfl, hm, hl, he⟩ := hI
    refine wp_mono (h x (hm x (List.mem_cons_self ..))) fun _ s1 q => ?_
    refine wp_mono q fun b s2 ⟨hb, q⟩ => ?_
    subst hb
    rw [List.length_cons] at hl
    split
    · rename_i hp
      rw [if_pos hp] at q
      refine wp_mono q fun d s3 ⟨hd, hw⟩ => ?_
      subst hd
      refine ⟨by omega, hw, fun y hy => hm y (List.mem_cons_of_mem _ hy), by simp; omega, ?_⟩
      rw [← he, List.filter_cons_of_pos hp]; simp
    · rename_i hp
      rw [if_neg hp] at q
      refine ⟨q, fun y hy => hm y (List.mem_cons_of_mem _ hy), by omega, ?_⟩
      rw [← he, List.filter_cons_of_neg hp]
  · obtain ⟨rfl, hm, hl, he⟩ := hI
    rw [List.filter_nil, List.map_nil, List.append_nil] at he
    rw [he]; exact hq
theorem wp_lc_map {own : List Nat} {asg : D → M Unit} {e : M D} {ds : List D} {s : S} {Q : List D → S → Prop} (g : D → D)
    (h : ∀ x ∈ ds, wp (asg x) s fun _ s1 => wp e s1 fun d s3 => d = g x ∧ wipeS s3 own = s) (hl : ds.length ≤ lim) (hq : Q (ds.map g) s) : wp (lcLoop own asg (rtn true) e ds []) s Q := by
  refine wp_lc_fm (fun _ => true) g (fun x hx => ?_) hl ?_
  · refine wp_mono (h x hx) fun _ s1 q => ?_
    rw [wp_rtn]
    exact ⟨rfl, by simpa using q⟩
  · rw [List.filter_eq_self.mpr fun _ _ => rfl]; exact hq
theorem bsD_map {ds : List D} {f : D → Bool} : bsD (ds.map fun d => .bool (f d)) = some (ds.map f) := by
  induction ds with
  | nil => rfl
  | cons x r ih => simp [bsD, ih]
@[simp] theorem dAll_map {ds : List D} {f : D → Bool} : dAll [.list (ds.map fun d => .bool (f d))] = some (.bool (ds.all f)) := by
  simp [dAll, bsD_map, List.all_map, Function.comp_def]
/-- [1 for x in xs if not p(x)] != [] -/
theorem dNe_ones {ds : List D} {p : D → Bool} : dNe (.list ((ds.filter p).map fun _ => .int 1)) (.list []) = some (.bool (!(ds.all fun d => !p d))) := by
  have h : SeqAt.shaped (.list ((ds.filter p).map fun _ => (.int 1 : D))) = true := shaped_ofInts fun d hd => by
    obtain ⟨x, _, rfl⟩ := List.mem_map.mp hd; exact ⟨1, rfl⟩
  rw [dNe_sh h rfl (fun _ z => nomatch z), eqv_nil]
  congr 3
  rw [Bool.eq_iff_iff]
  simp
end DL
namespace DL
open PySem PySem.Spec PyProof.Rows L2
/-! RW3: what is wrong with a value that is to be a row. -/
def spOf : D → Rs
  | .tuple [.str w, .int i] => if w = "in" then .inp i.toNat else if w = "set" then .set i else .neg i.toNat
  | .tuple [.str w, .int i, .int j] => if w = "+" then .add i.toNat j.toNat else if w = "-" then .sub i.toNat j.toNat else .mul i.toNat j.toNat
  | _ => .set 0
theorem isI_int {v : D} {a b : Int} (h : isI v a b = true) : ∃ i, v = .int i ∧ a ≤ i ∧ i ≤ b := by
  cases v with
  | int i => simp [isI] at h; exact ⟨i, rfl, h⟩
  | _ => simp [isI] at h
theorem natCast_of {i : Int} (h : 0 ≤ i) : ((i.toNat : Nat) : Int) = i := by omega
theorem isStep_sp {v : D} {n m : Nat} (h : isStep v n m = true) : v = (spOf v).d ∧ (spOf v).ok n m := by
  unfold isStep at h
  split at h
  · rename_i w y
    split at h
    · rename_i hw
      obtain ⟨i, rfl, h1, h2⟩ := isI_int h
      have hw : w = "in" := by simpa using hw
      subst hw
      simp [spOf, Rs.d, Rs.ok, natCast_of h1]; omega
    · rename_i hw
      have hw : w ≠ "in" := by simpa using hw
      split at h
      · rename_i hw2
        obtain ⟨i, rfl, h1, h2⟩ := isI_int h
        have hw2 : w = "set" := by simpa using hw2
        subst hw2
        simp [spOf, Rs.d, Rs.ok]; omega
      · rename_i hw2
        have hw2 : w ≠ "set" := by simpa using hw2
        rw [Bool.and_eq_true] at h
        obtain ⟨i, rfl, h1, h2⟩ := isI_int h.2
        have hw3 : w = "neg" := by simpa using h.1
        subst hw3
        simp [spOf, Rs.d, Rs.ok, natCast_of h1]; omega
  · rename_i w y z
    rw [Bool.and_eq_true, Bool.and_eq_true] at h
    obtain ⟨hw, h1, h2⟩ := h
    obtain ⟨i, rfl, i1, i2⟩ := isI_int h1
    obtain ⟨j, rfl, j1, j2⟩ := isI_int h2
    simp only [Bool.or_eq_true, beq_iff_eq] at hw
    rcases hw with (rfl | rfl) | rfl
    · simp [spOf, Rs.d, Rs.ok, natCast_of i1, natCast_of j1]; omega
    · simp [spOf, Rs.d, Rs.ok, natCast_of i1, natCast_of j1]; omega
    · simp [spOf, Rs.d, Rs.ok, natCast_of i1, natCast_of j1]; omega
  · cases h
/-- the measure of a step, with least for a set number -/
def Rs.ms (l : Nat) (f : List Nat) : Rs → Nat
  | .inp _ => 1
  | .set _ => l
  | .neg i => f.getD i 0
  | .add i j => max (f.getD i 0) (f.getD j 0)
  | .sub i j => max (f.getD i 0) (f.getD j 0)
  | .mul i j => f.getD i 0 + f.getD j 0
theorem Rs.ms1 {f : List Nat} {s : Rs} : s.ms 1 f = s.size f := by cases s <;> rfl
def stepsErr (n : Nat) : List D → List Nat → Option D
  | [], _ => none
  | v :: r, f => if isStep v n f.length = true then (if 64 < (spOf v).size f then some (.tuple [.int (f.length : Nat), .str "size"]) else stepsErr n r (f ++ [(spOf v).size f])) else some (.tuple [.int (f.length : Nat), .str "step"])
def er (s : String) : D := .tuple [.none, .str s]
def endsErr (E : Int) (m : Nat) : D → D
  | .tuple es => if (1 ≤ (es.length : Int) ∧ (es.length : Int) ≤ E) ∧ es.all (fun d => isI d 0 ((m : Int) - 1)) = true then .none else er "ends"
  | _ => er "ends"
def rowErr (I S E : Int) (v : D) : D := match v with
  | .tuple [x, y, z] => if isI x 0 I = true then (match x, y with
      | .int n, .tuple l => if 1 ≤ (l.length : Int) ∧ (l.length : Int) ≤ S then ((stepsErr n.toNat l []).getD (endsErr E l.length z))
        else er "steps"
      | _, _ => er "steps") else er "inputs"
  | _ => er "row"
structure RowOk (n many most : Nat) (a : List Rs) (e : List Nat) : Prop where
  ok : okFrom n 0 a
  len : 1 ≤ a.length ∧ a.length ≤ many
  siz : ∀ x ∈ sizesS a, x ≤ most
  ends : ∀ x ∈ e, x < a.length
  elen : 1 ≤ e.length ∧ e.length ≤ 3
  sml : ∀ c, Rs.set c ∈ a → c.natAbs ≤ 4
/-- a row that is being made -/
structure RowIn (n most : Nat) (a : List Rs) : Prop where
  ok : okFrom n 0 a
  siz : ∀ x ∈ sizesS a, x ≤ most
  sml : ∀ c, Rs.set c ∈ a → c.natAbs ≤ 4
def Rs.small : Rs → Prop
  | .set c => c.natAbs ≤ 4
  | _ => True
theorem RowIn.snoc {n most : Nat} {a : List Rs} {s : Rs} (h : RowIn n most a) (o : s.ok n a.length) (z : s.size (sizesS a) ≤ most) (sm : s.small) : RowIn n most (a ++ [s]) := by
  refine ⟨okFrom_snoc.mpr ⟨h.ok, by simpa using o⟩, fun x hx => ?_, fun c hc => ?_⟩
  · rw [sizesS_snoc] at hx
    rcases List.mem_append.mp hx with hx | hx
    · exact h.siz x hx
    · simp at hx; subst hx; exact z
  · rcases List.mem_append.mp hc with hc | hc
    · exact h.sml c hc
    · simp at hc; subst hc; exact sm
theorem getD_le {l : List Nat} {b : Nat} (h : ∀ x ∈ l, x ≤ b) (i : Nat) : l.getD i 0 ≤ b := by
  by_cases hi : i < l.length
  · have : l.getD i 0 = l[i] := by simp [List.getElem?_eq_getElem hi]
    rw [this]; exact h _ (List.getElem_mem _)
  · simp [List.getElem?_eq_none (Nat.le_of_not_lt hi)]
theorem Rs.size_le {most : Nat} {f : List Nat} {s : Rs} (h : ∀ x ∈ f, x ≤ most) (h1 : 1 ≤ most) (hm : ∀ i j, s ≠ .mul i j) : s.size f ≤ most := by
  cases s with
  | inp _ => exact h1
  | set _ => exact h1
  | neg i => exact getD_le h i
  | add i j => exact Nat.max_le.mpr ⟨getD_le h i, getD_le h j⟩
  | sub i j => exact Nat.max_le.mpr ⟨getD_le h i, getD_le h j⟩
  | mul i j => exact absurd rfl (hm i j)
end DL
namespace DL
open PySem PySem.Spec PyProof.Rows L2
/-! RW50: texts as plain Lean: parts of a split text, numbers of words. -/
theorem join_mem {sep : Str} : ∀ {l : List Str} {y : Str}, y ∈ l → y.length ≤ (Str.join sep l).length
  | [x], y, h => by rw [List.mem_singleton.mp h]; exact Nat.le_refl _
  | x :: z :: r, y, h => by
    show y.length ≤ (x ++ sep ++ Str.join sep (z :: r)).length
    rw [Str.length_append, Str.length_append]
    rcases List.mem_cons.mp h with rfl | h
    · omega
    · have := join_mem (sep := sep) h
      omega
theorem split_mem {a b y : Str} (h : y ∈ Txt.split a b) : y.length ≤ a.length := by
  have := join_mem (sep := b) h
  rwa [PySem.StrLaws.join_split] at this
theorem split_ne (a b : Str) : Txt.split a b ≠ [] := fun h => by
  have := split_pos a b
  rw [h] at this
  simp at this
/-! numbers -/
def digB (c : Nat) : Bool := decide (c ∈ ("0123456789" : Str).cps.toList)
theorem dig_iff {c : Nat} : digB c = true ↔ 48 ≤ c ∧ c ≤ 57 := by
  have e : ("0123456789" : Str).cps.toList = [48, 49, 50, 51, 52, 53, 54, 55, 56, 57] := by decide
  unfold digB
  rw [e]
  simp
  omega
theorem dig_step {c : Nat} (h : digB c = true) (p : Array Nat × Bool) : NumText.step 10 p c = some (p.1.push (c - 48), true) := by
  have hc := dig_iff.mp h
  have h1 : (c == 95) = false := by rw [beq_eq_false_iff_ne]; omega
  have h2 : NumText.digit? c = some (c - 48) := by
    unfold NumText.digit?
    rw [if_pos (by simp; omega)]
  unfold NumText.step
  rw [h1, h2]
  simp only [Bool.false_eq_true, if_false]
  rw [if_pos (by omega)]
theorem dig_fold : ∀ (l : List Nat) (p : Array Nat × Bool), (∀ c ∈ l, digB c = true) → ∃ q : Array Nat × Bool, l.foldlM (NumText.step 10) p = some q ∧ q.1.toList = p.1.toList ++ l.map (· - 48) ∧ q.2 = (p.2 || l != [])
  | [], p, _ => ⟨p, rfl, by simp, by simp⟩
  | c :: l, p, h => by
    obtain ⟨q, e, a, b⟩ := dig_fold l (p.1.push (c - 48), true) fun d hd => h d (List.mem_cons_of_mem _ hd)
    refine ⟨q, ?_, by rw [a]; simp, by rw [b]; simp⟩
    rw [List.foldlM_cons, dig_step (h c (List.mem_cons_self ..))]
    exact e
theorem val_lt : ∀ (l : List Nat) (n : Nat), (∀ c ∈ l, c < 10) → l.foldl (fun acc d => acc * 10 + d) n < (n + 1) * 10 ^ l.length
  | [], n, _ => by simp
  | c :: l, n, h => by
    have ih := val_lt l (n * 10 + c) fun d hd => h d (List.mem_cons_of_mem _ hd)
    have hc := h c (List.mem_cons_self ..)
    rw [List.foldl_cons, List.length_cons, Nat.pow_succ, Nat.mul_comm (10 ^ l.length) 10, ← Nat.mul_assoc]
    exact Nat.lt_of_lt_of_le ih (Nat.mul_le_mul_right _ (by omega))
theorem drop_blank {l : List Nat} (h : ∀ c ∈ l, NumText.blank c = false) : l.dropWhile NumText.blank = l := by
  cases l with
  | nil => rfl
  | cons c l => rw [List.dropWhile_cons, h c (List.mem_cons_self ..)]; rfl
theorem no_blank {c : Nat} (h : digB c = true ∨ c = 45) : NumText.blank c = false := by
  have : 48 ≤ c ∧ c ≤ 57 ∨ c = 45 := h.imp dig_iff.mp id
  unfold NumText.blank
  simp
  omega
theorem take_all : ∀ {l : List Nat}, (∀ c ∈ l, c ≠ 0) → l.takeWhile (· != 0) = l
  | [], _ => rfl
  | c :: l, h => by
    have h1 : (c != 0) = true := by simpa using h c (List.mem_cons_self ..)
    rw [List.takeWhile_cons, h1]
    simp only [if_true]
    rw [take_all fun d hd => h d (List.mem_cons_of_mem _ hd)]
/-- the text of a number that int reads -/
theorem int_reads {w : Str} {neg : Bool} {ds : List Nat} (hw : w.cps.toList = (if neg then [45] else []) ++ ds) (h : ∀ c ∈ ds, digB c = true) (h0 : ds ≠ []) (hl : ds.length ≤ 21) : ∃ n : Int, PySem.intText? w = some n ∧ n.natAbs < 10 ^ 21 := by
  have mem : ∀ c ∈ w.cps.toList, digB c = true ∨ c = 45 := fun c hc => by
    rw [hw] at hc
    rcases List.mem_append.mp hc with hc | hc
    · cases neg
      · cases hc
      · exact .inr (by simpa using hc)
    · exact .inl (h c hc)
  have rng : ∀ c ∈ w.cps.toList, 45 ≤ c ∧ c ≤ 57 := fun c hc => by
    rcases mem c hc with z | z
    · have := dig_iff.mp z; omega
    · omega
  have as : w.cps.all (· < 128) = true := by
    rw [Array.all_eq_true_iff_forall_mem]
    intro c hc
    have hc : c ∈ w.cps.toList := by simpa using hc
    have := rng c hc
    simp only [decide_eq_true_eq]
    omega
  have nt : numTextOf w = w.cps.toList := if_pos as
  have ns : numSeenOf w = w.cps.toList := by
    show (numTextOf w).takeWhile _ = _
    rw [nt]
    exact take_all fun c hc => by have := rng c hc; omega
  have nb : ∀ c ∈ w.cps.toList, NumText.blank c = false := fun c hc => no_blank (mem c hc)
  have sg : NumText.sign w.cps.toList = (neg, ds) := by
    rw [hw]
    cases neg with
    | true => rfl
    | false =>
      cases ds with
      | nil => exact absurd rfl h0
      | cons c ds =>
        have hc := dig_iff.mp (h c (List.mem_cons_self ..))
        simp only [Bool.false_eq_true, if_false, List.nil_append]
        unfold NumText.sign
        split
        · rename_i z; injection z with z; omega
        · rename_i z; injection z with z; omega
        · rfl
  have co : NumText.core w.cps.toList = ds := by
    unfold NumText.core
    rw [drop_blank nb, sg]
    simp only
    rw [drop_blank fun c hc => no_blank (.inl (h c (List.mem_reverse.mp hc))), List.reverse_reverse]
  obtain ⟨q, e, a, b⟩ := dig_fold ds (#[], false) h
  have dg : NumText.digits? 10 ds = some q.1 := by
    unfold NumText.digits?
    rw [e]
    have : q.2 = true := by rw [b]; simp [h0]
    simp [this]
  have qs : q.1.size = ds.length := by
    have := congrArg List.length a
    simpa using this
  refine ⟨NumText.worth neg q.1, ?_, ?_⟩
  · unfold PySem.intText?
    rw [ns, nt, co, dg, drop_blank nb, sg]
    simp only [beq_self_eq_true, if_true]
    rw [if_pos (by omega)]
  · have v : q.1.foldl (fun acc d => acc * 10 + d) 0 < 10 ^ 21 := by
      rw [← Array.foldl_toList, a]
      simp only [List.nil_append]
      have := val_lt (ds.map (· - 48)) 0 fun c hc => by
        obtain ⟨d, hd, rfl⟩ := List.mem_map.mp hc
        have := dig_iff.mp (h d hd); omega
      rw [List.length_map, Nat.zero_add, Nat.one_mul] at this
      exact Nat.lt_of_lt_of_le this (Nat.pow_le_pow_right (by decide) hl)
    unfold NumText.worth
    split
    · rw [Int.natAbs_neg, Int.natAbs_natCast]; exact v
    · rw [Int.natAbs_natCast]; exact v
/-- the signs behind a minus -/
def figT (w : Str) : Str := if cutS w none (some 1) = ("-" : Str) then cutS w (some 1) none else w
def NumBad (w : Str) : Prop := figT w = ("" : Str) ∨ 21 < (figT w).length ∨ (figT w).cps.toList.all digB = false
def NumOdd (w : Str) : Prop := (1 < (figT w).length ∧ (figT w).cps.toList.head? = some 48) ∨ w = ("-0" : Str)
open Classical in
noncomputable def numT (w : Str) : Option Int := if NumBad w then none else if NumOdd w then none else PySem.intText? w
theorem str_eta {x : Str} {l : List Nat} (h : x.cps.toList = l) : x = ⟨l.toArray⟩ := by
  obtain ⟨cps⟩ := x
  congr 1
  apply Array.ext'
  simpa using h
theorem str_len {x : Str} : x.cps.toList.length = x.length := by simp [Str.length]
theorem cut_one {w : Str} : (cutS w none (some 1)).cps.toList = w.cps.toList.take 1 := by
  have e1 : HT.sIx w.length 0 none = 0 := rfl
  have e2 : HT.sIx w.length w.length (some 1) = min 1 w.length := HT.sIx_nat w.length w.length 1
  unfold cutS
  rw [e1, e2]
  have hl : w.cps.toList.length = w.length := str_len
  simp only [List.drop_zero, Nat.sub_zero]
  rw [List.toList_toArray]
  by_cases h : 1 ≤ w.length
  · rw [Nat.min_eq_left h]
  · have : w.cps.toList = [] := List.eq_nil_of_length_eq_zero (by omega)
    rw [this]; simp
theorem cut_rest {w : Str} : (cutS w (some 1) none).cps.toList = w.cps.toList.drop 1 := by
  have e1 : HT.sIx w.length 0 (some 1) = min 1 w.length := HT.sIx_nat w.length 0 1
  have e2 : HT.sIx w.length w.length none = w.length := rfl
  unfold cutS
  rw [e1, e2]
  have hl : w.cps.toList.length = w.length := str_len
  rw [List.toList_toArray]
  by_cases h : 1 ≤ w.length
  · rw [Nat.min_eq_left h]
    refine List.take_of_length_le ?_
    rw [List.length_drop, hl]
    exact Nat.le_refl _
  · have : w.cps.toList = [] := List.eq_nil_of_length_eq_zero (by omega)
    rw [this]; simp
theorem fig_parts (w : Str) : ∃ neg : Bool, w.cps.toList = (if neg then [45] else []) ++ (figT w).cps.toList := by
  unfold figT
  split
  · rename_i h
    refine ⟨true, ?_⟩
    have h1 : w.cps.toList.take 1 = [45] := by
      rw [← cut_one, h]; rfl
    rw [cut_rest]
    conv => lhs; rw [← List.take_append_drop 1 w.cps.toList, h1]
    rfl
  · exact ⟨false, rfl⟩
theorem num_reads {w : Str} (h : ¬ NumBad w) : ∃ n : Int, PySem.intText? w = some n ∧ n.natAbs < 10 ^ 21 ∧ w.length ≤ 22 := by
  obtain ⟨neg, hw⟩ := fig_parts w
  have h1 : figT w ≠ ("" : Str) := fun z => h (.inl z)
  have h2 : (figT w).length ≤ 21 := Nat.le_of_not_lt fun z => h (.inr (.inl z))
  have h3 : (figT w).cps.toList.all digB = true := by
    cases hb : (figT w).cps.toList.all digB with
    | true => rfl
    | false => exact absurd (.inr (.inr hb)) h
  have h4 : (figT w).cps.toList ≠ [] := fun z => h1 (str_eta z)
  obtain ⟨n, e, b⟩ := int_reads hw (List.all_eq_true.mp h3) h4 (by rw [str_len]; exact h2)
  refine ⟨n, e, b, ?_⟩
  have := congrArg List.length hw
  rw [str_len, List.length_append, str_len] at this
  cases neg <;> simp at this <;> omega
theorem numT_lt {w : Str} {n : Int} (h : numT w = some n) : n.natAbs < 10 ^ 21 := by
  unfold numT at h
  split at h
  · cases h
  · rename_i hb
    split at h
    · cases h
    · obtain ⟨m, e, b, _⟩ := num_reads hb
      rw [e] at h
      cases h
      exact b
/-- numbers of words -/
noncomputable def numsT : List Str → Option (List Int)
  | [] => some []
  | w :: r => match numT w, numsT r with
    | some n, some l => some (n :: l)
    | _, _ => none
noncomputable def numR (w : Str) : D := match numT w with
  | some n => .int n
  | none => .none
noncomputable def numsR (ws : List Str) : D := match numsT ws with
  | some l => .tuple (l.map PyData.int)
  | none => .none
theorem numsT_lt : ∀ {ws : List Str} {l : List Int}, numsT ws = some l → (∀ n ∈ l, n.natAbs < 10 ^ 21) ∧ l.length = ws.length
  | [], l, h => by cases h; exact ⟨by simp, rfl⟩
  | w :: r, l, h => by
    unfold numsT at h
    split at h
    · rename_i n l2 h1 h2
      cases h
      obtain ⟨i1, i2⟩ := numsT_lt h2
      exact ⟨fun m hm => by
        rcases List.mem_cons.mp hm with rfl | hm
        · exact numT_lt h1
        · exact i1 m hm, by rw [List.length_cons, List.length_cons, i2]⟩
    · cases h
/-! lines -/
def w0 (line : Str) : Str := (Txt.split line (" " : Str)).headD ("" : Str)
def wr (line : Str) : List Str := (Txt.split line (" " : Str)).tail
theorem wds_eq (line : Str) : Txt.split line (" " : Str) = w0 line :: wr line := by
  unfold w0 wr
  cases h : Txt.split line (" " : Str) with
  | nil => exact absurd h (split_ne _ _)
  | cons a r => rfl
def wantT (w : Str) : Nat := if w = ("in" : Str) ∨ w = ("set" : Str) ∨ w = ("neg" : Str) then 1 else if w = ("+" : Str) ∨ w = ("-" : Str) ∨ w = ("*" : Str) then 2 else 0
noncomputable def headR (line : Str) : D := if w0 line = ("inputs" : Str) then (match numsT (wr line) with
  | some [n] => .int n
  | _ => .none) else .none
noncomputable def endsR (line : Str) : D := if w0 line = ("ends" : Str) then (match numsT (wr line) with
  | some (n :: l) => .tuple ((n :: l).map PyData.int)
  | _ => .none) else .none
noncomputable def stepR (line : Str) : D := match numsT (wr line) with
  | some l => if wantT (w0 line) = l.length ∧ 0 < wantT (w0 line) then .tuple (.str (w0 line) :: l.map PyData.int) else .none
  | none => .none
noncomputable def lineR (i last : Nat) (line : Str) : D := if i = 0 then headR line else if i = last then endsR line else stepR line
noncomputable def rsF (lines : List Str) (i : Nat) : D := lineR i (lines.length - 1) (lines.getD i ("" : Str))
noncomputable def midR (lines : List Str) : List D := (List.range (lines.length - 2)).map fun i => rsF lines (i + 1)
noncomputable def rowR (lines : List Str) : D := .tuple [rsF lines 0, .tuple (midR lines), rsF lines (lines.length - 1)]
/-- what reading tells -/
inductive Res (lines : List Str) : D → Prop
  | bad {j : Nat} (h : j < lines.length) (h1 : rsF lines j = .none) (h2 : ∀ i, i < j → rsF lines i ≠ .none) : Res lines (.list [.str "text", .int (j : Nat)])
  | one (h : lines.length = 1) (h1 : rsF lines 0 ≠ .none) : Res lines (.list [.str "text", .int 1])
  | ok (h : 2 ≤ lines.length) (h1 : ∀ i, i < lines.length → rsF lines i ≠ .none) (h2 : rowErr 20 400 20 (rowR lines) = .none) : Res lines (.list [.str "ok", rowR lines])
  | row (h : 2 ≤ lines.length) (h1 : ∀ i, i < lines.length → rsF lines i ≠ .none) (h2 : rowErr 20 400 20 (rowR lines) ≠ .none) : Res lines (.list [.str "row", rowErr 20 400 20 (rowR lines)])
theorem res_one {lines : List Str} {d d' : D} (h : Res lines d) (h' : Res lines d') : d = d' := by
  cases h with
  | @bad j a1 a2 a3 =>
    cases h' with
    | @bad i b1 b2 b3 =>
      have : i = j := by
        rcases Nat.lt_trichotomy i j with z | z | z
        · exact absurd b2 (a3 i z)
        · exact z
        · exact absurd a2 (b3 j z)
      rw [this]
    | one b1 b2 =>
      have : j = 0 := by omega
      subst this
      exact absurd a2 b2
    | ok b1 b2 => exact absurd a2 (b2 j a1)
    | row b1 b2 => exact absurd a2 (b2 j a1)
  | one a1 a2 =>
    cases h' with
    | @bad i b1 b2 b3 =>
      have : i = 0 := by omega
      subst this
      exact absurd b2 a2
    | one => rfl
    | ok b1 => omega
    | row b1 => omega
  | ok a1 a2 a3 =>
    cases h' with
    | @bad i b1 b2 b3 => exact absurd b2 (a2 i b1)
    | one b1 => omega
    | ok => rfl
    | row b1 b2 b3 => exact absurd a3 b3
  | row a1 a2 a3 =>
    cases h' with
    | @bad i b1 b2 b3 => exact absurd b2 (a2 i b1)
    | one b1 => omega
    | ok b1 b2 b3 => exact absurd b3 a3
    | row => rfl
end DL
namespace DL
open PySem PySem.Spec PyProof.Rows L2
/-! RW4: values, ranges, rates of rows, in plain Lean. -/
/-! ### values -/
/-! ### ranges -/
/-! ### rates -/
/-! ### sums over inputs -/
end DL
namespace DL
open PySem PySem.Spec PyProof.Rows L2
/-! RW5: how great numbers come. -/
def mg (e : Nat) (x : Int) : Prop := x.natAbs < 2 ^ e
/-- the exponent of a step -/
def ex (a : List Rs) (i : Nat) : Nat := (sizesS a).getD i 0 * (70 + i)
end DL
namespace DL
open PySem PySem.Spec PyProof.Rows L2
/-! RW6: loops over steps. -/
@[simp ↓] theorem wp_asZ {f g : M D} {s : S} {Q : List D → S → Prop} : wp (asZ (aCons f (aCons g aNil))) s Q ↔ wp f s fun x s1 => wp g s1 fun y s2 => ∃ ds es, ((x = .list ds ∧ y = .list es) ∨ (x = .tuple ds ∧ y = .tuple es)) ∧ Q (zipD ds es) s2 := by
  unfold asZ; simp only [wp_bd, wp_aCons, wp_aNil]
  constructor <;> intro h <;> refine wp_mono h fun x s1 h => ?_ <;> refine wp_mono h fun y s2 q => ?_
  · cases x with
    | list ds => cases y with
      | list es => exact ⟨ds, es, .inl ⟨rfl, rfl⟩, wp_rtn.mp q⟩
      | _ => exact (wp_no.mp q).elim
    | tuple ds => cases y with
      | tuple es => exact ⟨ds, es, .inr ⟨rfl, rfl⟩, wp_rtn.mp q⟩
      | _ => exact (wp_no.mp q).elim
    | _ => exact (wp_no.mp q).elim
  · obtain ⟨ds, es, ⟨rfl, rfl⟩ | ⟨rfl, rfl⟩, q⟩ := q <;> exact wp_rtn.mpr q
@[simp ↓] theorem wp_rg2 {f g : M D} {s : S} {Q : List D → S → Prop} : wp (rg2 (aCons f (aCons g aNil))) s Q ↔ wp f s fun x s1 => wp g s1 fun y s2 => ∃ i j : Int, x = .int i ∧ y = .int j ∧ (-(2 ^ 62) ≤ i ∧ i < 2 ^ 62 ∧ -(2 ^ 62) ≤ j ∧ j < 2 ^ 62) ∧ Q (rngD i (j - i).toNat) s2 := by
  unfold rg2; simp only [wp_bd, wp_aCons, wp_aNil]
  constructor <;> intro h <;> refine wp_mono h fun x s1 h => ?_ <;> refine wp_mono h fun y s2 q => ?_
  · cases x with
    | int i => cases y with
      | int j =>
        refine ⟨i, j, rfl, rfl, ?_⟩
        simp only at q
        split at q
        · rename_i hc; exact ⟨hc, wp_rtn.mp q⟩
        · exact (wp_no.mp q).elim
      | _ => exact (wp_no.mp q).elim
    | _ => exact (wp_no.mp q).elim
  · obtain ⟨i, j, rfl, rfl, hc, q⟩ := q
    simp only [if_pos hc, wp_rtn]; exact q
@[simp ↓] theorem wp_rg3 {f g h : M D} {s : S} {Q : List D → S → Prop} : wp (rg3 (aCons f (aCons g (aCons h aNil)))) s Q ↔ wp f s fun x s1 => wp g s1 fun y s2 => wp h s2 fun z s3 => ∃ i j : Int, x = .int i ∧ y = .int j ∧ z = .int (-1) ∧ ((-(2 ^ 62) ≤ i ∧ i < 2 ^ 62) ∧ -(2 ^ 62) ≤ j ∧ j < 2 ^ 62) ∧ Q ((List.range (i - j).toNat).map fun n => .int (i - (n : Nat))) s3 := by
  unfold rg3; simp only [wp_bd, wp_aCons, wp_aNil]
  constructor <;> intro h <;> refine wp_mono h fun x s1 h => ?_ <;> refine wp_mono h fun y s2 h => ?_ <;> refine wp_mono h fun z s3 q => ?_
  · cases x with
    | int i => cases y with
      | int j => cases z with
        | int c =>
          simp only at q
          split at q
          · rename_i hc; exact ⟨i, j, rfl, rfl, by rw [hc.1], hc.2, wp_rtn.mp q⟩
          · exact (wp_no.mp q).elim
        | _ => exact (wp_no.mp q).elim
      | _ => exact (wp_no.mp q).elim
    | _ => exact (wp_no.mp q).elim
  · obtain ⟨i, j, rfl, rfl, rfl, hc, q⟩ := q
    simp only [hc, and_self, if_true, wp_rtn]; exact q
/-- what evaluating a row asks for -/
structure VOk (n : Nat) (a : List Rs) : Prop where
  ok : okFrom n 0 a
  ex : ∀ i, i < a.length → DL.ex a i ≤ 100000
  al : a.length ≤ 1000
  nl : n ≤ 1000
@[simp] theorem atI_c3 {α : Type} {u v w x : α} {r : List α} : atI (u :: v :: w :: x :: r) 3 = some x := atI_nat (j := 3) rfl
end DL
namespace DL
open PySem PySem.Spec PyProof.Rows L2
@[simp] theorem dNotIn_s2 {x a b : Str} : dNotIn (.str x) (.tuple [.str a, .str b]) = some (.bool (!(x == a || x == b))) := by
  have h := dIn_s2 (x := x) (a := a) (b := b)
  unfold dIn at h
  unfold dNotIn
  cases hb : dInB (.str x) (.tuple [.str a, .str b]) with
  | none => rw [hb] at h; cases h
  | some c => rw [hb] at h; simp only [Option.map_some, Option.some.injEq, PyData.bool.injEq] at h ⊢; rw [h]
/-! RW7: rates at points, all inputs at once; sizes of what is shown. -/
/-! sizes -/
end DL
namespace DL
open PySem PySem.Spec PyProof.Rows L2
/-! RW8: words of growth, corners, points of boxes. -/
/-! how many points -/
end DL
namespace DL
open PySem PySem.Spec PyProof.Rows L2
/-! RW9: degrees and sizes; points; what may be shown of long numbers. -/
end DL
namespace Lw
open PySem PySem.Spec PyProof.Rows L2 DL
/-! the text of law_k09_texts_of_none, by its defs (printed by gen.py) -/
def topS (i : Nat) : Stmt := PySem.Challenge.pw_rowsback_k09_texts_of_none.main.body.getD i (.Pass ⟨0, 0, 0, 0⟩)
abbrev s_p_is_integer : Stmt := topS 10
abbrev n_p_is_integer : List Str := ["value", "least", "most"]
theorem sc_p_is_integer : FnScope n_p_is_integer ["value", "least", "most"] (defScope s_p_is_integer) := ⟨rfl, rfl, rfl, by decide +kernel, rfl, by decide +kernel, by decide +kernel⟩
abbrev s_p_is_step : Stmt := topS 11
abbrev n_p_is_step : List Str := ["value", "inputs", "number"]
theorem sc_p_is_step : FnScope n_p_is_step ["value", "inputs", "number"] (defScope s_p_is_step) := ⟨rfl, rfl, rfl, by decide +kernel, rfl, by decide +kernel, by decide +kernel⟩
abbrev s_p_measure : Stmt := topS 12
abbrev n_p_measure : List Str := ["step", "found", "least"]
theorem sc_p_measure : FnScope n_p_measure ["step", "found", "least"] (defScope s_p_measure) := ⟨rfl, rfl, rfl, by decide +kernel, rfl, by decide +kernel, by decide +kernel⟩
abbrev s_p_error_within : Stmt := topS 13
abbrev n_p_error_within : List Str := ["value", "inputs", "steps", "ends", "found", "number", "step", "end"]
theorem sc_p_error_within : FnScope n_p_error_within ["value", "inputs", "steps", "ends"] (defScope s_p_error_within) := ⟨rfl, rfl, rfl, by decide +kernel, rfl, by decide +kernel, by decide +kernel⟩
abbrev s_p_long_error : Stmt := topS 14
abbrev n_p_long_error : List Str := ["value"]
theorem sc_p_long_error : FnScope n_p_long_error ["value"] (defScope s_p_long_error) := ⟨rfl, rfl, rfl, by decide +kernel, rfl, by decide +kernel, by decide +kernel⟩
abbrev s_p_step_text : Stmt := topS 17
abbrev n_p_step_text : List Str := ["step", "part"]
theorem sc_p_step_text : FnScope n_p_step_text ["step"] (defScope s_p_step_text) := ⟨rfl, rfl, rfl, by decide +kernel, rfl, by decide +kernel, by decide +kernel⟩
abbrev s_p_row_text : Stmt := topS 18
abbrev n_p_row_text : List Str := ["row", "lines", "step", "end"]
theorem sc_p_row_text : FnScope n_p_row_text ["row"] (defScope s_p_row_text) := ⟨rfl, rfl, rfl, by decide +kernel, rfl, by decide +kernel, by decide +kernel⟩
abbrev s_p_number_of : Stmt := topS 19
abbrev n_p_number_of : List Str := ["word", "figures", "sign"]
theorem sc_p_number_of : FnScope n_p_number_of ["word"] (defScope s_p_number_of) := ⟨rfl, rfl, rfl, by decide +kernel, rfl, by decide +kernel, by decide +kernel⟩
abbrev s_p_numbers_of : Stmt := topS 20
abbrev n_p_numbers_of : List Str := ["words", "found", "word"]
theorem sc_p_numbers_of : FnScope n_p_numbers_of ["words"] (defScope s_p_numbers_of) := ⟨rfl, rfl, rfl, by decide +kernel, rfl, by decide +kernel, by decide +kernel⟩
abbrev s_p_read_step : Stmt := topS 21
abbrev n_p_read_step : List Str := ["line", "words", "wanted", "numbers"]
theorem sc_p_read_step : FnScope n_p_read_step ["line"] (defScope s_p_read_step) := ⟨rfl, rfl, rfl, by decide +kernel, rfl, by decide +kernel, by decide +kernel⟩
abbrev s_p_read_head : Stmt := topS 22
abbrev n_p_read_head : List Str := ["line", "words", "numbers"]
theorem sc_p_read_head : FnScope n_p_read_head ["line"] (defScope s_p_read_head) := ⟨rfl, rfl, rfl, by decide +kernel, rfl, by decide +kernel, by decide +kernel⟩
abbrev s_p_read_ends : Stmt := topS 23
abbrev n_p_read_ends : List Str := ["line", "words"]
theorem sc_p_read_ends : FnScope n_p_read_ends ["line"] (defScope s_p_read_ends) := ⟨rfl, rfl, rfl, by decide +kernel, rfl, by decide +kernel, by decide +kernel⟩
abbrev s_p_read_row : Stmt := topS 24
abbrev n_p_read_row : List Str := ["value", "lines", "inputs", "steps", "number", "step", "ends", "row", "error"]
theorem sc_p_read_row : FnScope n_p_read_row ["value"] (defScope s_p_read_row) := ⟨rfl, rfl, rfl, by decide +kernel, rfl, by decide +kernel, by decide +kernel⟩
abbrev s_l_deck : Stmt := topS 26
abbrev n_l_deck : List Str := ["_law_script", "_law_cells", "_law_cell"]
theorem sc_l_deck : FnScope n_l_deck ["_law_script"] (defScope s_l_deck) := ⟨rfl, rfl, rfl, by decide +kernel, rfl, by decide +kernel, by decide +kernel⟩
abbrev s_l_draw : Stmt := topS 27
abbrev n_l_draw : List Str := ["_law_deck_here", "_law_many", "_law_rest", "_law_cell", "_law_mixed"]
theorem sc_l_draw : FnScope n_l_draw ["_law_deck_here", "_law_many"] (defScope s_l_draw) := ⟨rfl, rfl, rfl, by decide +kernel, rfl, by decide +kernel, by decide +kernel⟩
abbrev s_l_one : Stmt := topS 28
abbrev n_l_one : List Str := ["_law_deck_here", "_law_items"]
theorem sc_l_one : FnScope n_l_one ["_law_deck_here", "_law_items"] (defScope s_l_one) := ⟨rfl, rfl, rfl, by decide +kernel, rfl, by decide +kernel, by decide +kernel⟩
abbrev s_l_whole : Stmt := topS 29
abbrev n_l_whole : List Str := ["_law_value", "_law_least", "_law_most"]
theorem sc_l_whole : FnScope n_l_whole ["_law_value", "_law_least", "_law_most"] (defScope s_l_whole) := ⟨rfl, rfl, rfl, by decide +kernel, rfl, by decide +kernel, by decide +kernel⟩
abbrev s_l_odd : Stmt := topS 30
abbrev n_l_odd : List Str := ["_law_deck_here", "_law_some"]
theorem sc_l_odd : FnScope n_l_odd ["_law_deck_here"] (defScope s_l_odd) := ⟨rfl, rfl, rfl, by decide +kernel, rfl, by decide +kernel, by decide +kernel⟩
abbrev s_l_size : Stmt := topS 31
abbrev n_l_size : List Str := ["_law_step", "_law_found_here"]
theorem sc_l_size : FnScope n_l_size ["_law_step", "_law_found_here"] (defScope s_l_size) := ⟨rfl, rfl, rfl, by decide +kernel, rfl, by decide +kernel, by decide +kernel⟩
abbrev s_l_row : Stmt := topS 32
abbrev n_l_row : List Str := ["_law_deck_here", "_law_inputs", "_law_many", "_law_most", "_law_steps", "_law_found_here", "_law_number", "_law_word", "_law_step", "_law_ends", "_law_k"]
theorem sc_l_row : FnScope n_l_row ["_law_deck_here", "_law_inputs", "_law_many", "_law_most"] (defScope s_l_row) := ⟨rfl, rfl, rfl, by decide +kernel, rfl, by decide +kernel, by decide +kernel⟩
abbrev s_l_is_step : Stmt := topS 33
abbrev n_l_is_step : List Str := ["_law_value", "_law_inputs", "_law_number", "_law_bounds", "_law_one_here"]
theorem sc_l_is_step : FnScope n_l_is_step ["_law_value", "_law_inputs", "_law_number"] (defScope s_l_is_step) := ⟨rfl, rfl, rfl, by decide +kernel, rfl, by decide +kernel, by decide +kernel⟩
abbrev s_l_row_error : Stmt := topS 34
abbrev n_l_row_error : List Str := ["_law_value", "_law_inputs", "_law_steps", "_law_ends", "_law_found_here", "_law_number", "_law_end"]
theorem sc_l_row_error : FnScope n_l_row_error ["_law_value", "_law_inputs", "_law_steps", "_law_ends"] (defScope s_l_row_error) := ⟨rfl, rfl, rfl, by decide +kernel, rfl, by decide +kernel, by decide +kernel⟩
abbrev s_l_numbers : Stmt := topS 35
abbrev n_l_numbers : List Str := ["_law_words", "_law_found_here", "_law_word", "_law_figures", "_law_sign"]
theorem sc_l_numbers : FnScope n_l_numbers ["_law_words"] (defScope s_l_numbers) := ⟨rfl, rfl, rfl, by decide +kernel, rfl, by decide +kernel, by decide +kernel⟩
abbrev s_l_line : Stmt := topS 36
abbrev n_l_line : List Str := ["_law_line_here", "_law_number", "_law_last", "_law_words", "_law_numbers_here", "_law_many"]
theorem sc_l_line : FnScope n_l_line ["_law_line_here", "_law_number", "_law_last"] (defScope s_l_line) := ⟨rfl, rfl, rfl, by decide +kernel, rfl, by decide +kernel, by decide +kernel⟩
abbrev s_l_due : Stmt := topS 37
abbrev n_l_due : List Str := ["_law_value", "_law_lines", "_law_found_here", "_law_number", "_law_row_here", "_law_error"]
theorem sc_l_due : FnScope n_l_due ["_law_value"] (defScope s_l_due) := ⟨rfl, rfl, rfl, by decide +kernel, rfl, by decide +kernel, by decide +kernel⟩
abbrev s_l_found : Stmt := topS 38
abbrev n_l_found : List Str := ["_law_value", "_law_error"]
theorem sc_l_found : FnScope n_l_found ["_law_value"] (defScope s_l_found) := ⟨rfl, rfl, rfl, by decide +kernel, rfl, by decide +kernel, by decide +kernel⟩
abbrev s_l_spoilt : Stmt := topS 39
abbrev n_l_spoilt : List Str := ["_law_deck_here", "_law_text", "_law_at", "_law_way", "_law_lines", "_law_place", "_law_sign", "_law_odd_here"]
theorem sc_l_spoilt : FnScope n_l_spoilt ["_law_deck_here", "_law_text"] (defScope s_l_spoilt) := ⟨rfl, rfl, rfl, by decide +kernel, rfl, by decide +kernel, by decide +kernel⟩
abbrev s_p_law : Stmt := topS 40
abbrev n_p_law : List Str := ["_law_script", "_law_deck_here", "_law_turn", "_law_row_here", "_law_text", "_law_one_here", "_law_some", "_law_value"]
theorem sc_p_law : FnScope n_p_law ["_law_script"] (defScope s_p_law) := ⟨rfl, rfl, rfl, by decide +kernel, rfl, by decide +kernel, by decide +kernel⟩
abbrev s_p_BadRow_init : Stmt := inClass (topS 2) 0
abbrev n_p_BadRow_init : List Str := ["self", "error"]
theorem sc_p_BadRow_init : FnScope n_p_BadRow_init ["self", "error"] (defScope s_p_BadRow_init) := ⟨rfl, rfl, rfl, by decide +kernel, rfl, by decide +kernel, by decide +kernel⟩
abbrev s_p_BadText_init : Stmt := inClass (topS 3) 0
abbrev n_p_BadText_init : List Str := ["self", "place"]
theorem sc_p_BadText_init : FnScope n_p_BadText_init ["self", "place"] (defScope s_p_BadText_init) := ⟨rfl, rfl, rfl, by decide +kernel, rfl, by decide +kernel, by decide +kernel⟩
/-- what the top has written -/
structure Txt (K : PySem.W.Frag) (mg : Str → Option Value) : Prop where
  f_p_is_integer : ∃ (f : Addr) (fd : FuncData), Fun K "is_integer" "is_integer" s_p_is_integer f fd ∧ mg "is_integer" = some (.ref f)
  f_p_is_step : ∃ (f : Addr) (fd : FuncData), Fun K "is_step" "is_step" s_p_is_step f fd ∧ mg "is_step" = some (.ref f)
  f_p_measure : ∃ (f : Addr) (fd : FuncData), Fun K "measure" "measure" s_p_measure f fd ∧ mg "measure" = some (.ref f)
  f_p_error_within : ∃ (f : Addr) (fd : FuncData), Fun K "error_within" "error_within" s_p_error_within f fd ∧ mg "error_within" = some (.ref f)
  f_p_long_error : ∃ (f : Addr) (fd : FuncData), Fun K "long_error" "long_error" s_p_long_error f fd ∧ mg "long_error" = some (.ref f)
  f_p_step_text : ∃ (f : Addr) (fd : FuncData), Fun K "step_text" "step_text" s_p_step_text f fd ∧ mg "step_text" = some (.ref f)
  f_p_row_text : ∃ (f : Addr) (fd : FuncData), Fun K "row_text" "row_text" s_p_row_text f fd ∧ mg "row_text" = some (.ref f)
  f_p_number_of : ∃ (f : Addr) (fd : FuncData), Fun K "number_of" "number_of" s_p_number_of f fd ∧ mg "number_of" = some (.ref f)
  f_p_numbers_of : ∃ (f : Addr) (fd : FuncData), Fun K "numbers_of" "numbers_of" s_p_numbers_of f fd ∧ mg "numbers_of" = some (.ref f)
  f_p_read_step : ∃ (f : Addr) (fd : FuncData), Fun K "read_step" "read_step" s_p_read_step f fd ∧ mg "read_step" = some (.ref f)
  f_p_read_head : ∃ (f : Addr) (fd : FuncData), Fun K "read_head" "read_head" s_p_read_head f fd ∧ mg "read_head" = some (.ref f)
  f_p_read_ends : ∃ (f : Addr) (fd : FuncData), Fun K "read_ends" "read_ends" s_p_read_ends f fd ∧ mg "read_ends" = some (.ref f)
  f_p_read_row : ∃ (f : Addr) (fd : FuncData), Fun K "read_row" "read_row" s_p_read_row f fd ∧ mg "read_row" = some (.ref f)
  f_l_deck : ∃ (f : Addr) (fd : FuncData), Fun K "_law_deck" "_law_deck" s_l_deck f fd ∧ mg "_law_deck" = some (.ref f)
  f_l_draw : ∃ (f : Addr) (fd : FuncData), Fun K "_law_draw" "_law_draw" s_l_draw f fd ∧ mg "_law_draw" = some (.ref f)
  f_l_one : ∃ (f : Addr) (fd : FuncData), Fun K "_law_one" "_law_one" s_l_one f fd ∧ mg "_law_one" = some (.ref f)
  f_l_whole : ∃ (f : Addr) (fd : FuncData), Fun K "_law_whole" "_law_whole" s_l_whole f fd ∧ mg "_law_whole" = some (.ref f)
  f_l_odd : ∃ (f : Addr) (fd : FuncData), Fun K "_law_odd" "_law_odd" s_l_odd f fd ∧ mg "_law_odd" = some (.ref f)
  f_l_size : ∃ (f : Addr) (fd : FuncData), Fun K "_law_size" "_law_size" s_l_size f fd ∧ mg "_law_size" = some (.ref f)
  f_l_row : ∃ (f : Addr) (fd : FuncData), Fun K "_law_row" "_law_row" s_l_row f fd ∧ mg "_law_row" = some (.ref f)
  f_l_is_step : ∃ (f : Addr) (fd : FuncData), Fun K "_law_is_step" "_law_is_step" s_l_is_step f fd ∧ mg "_law_is_step" = some (.ref f)
  f_l_row_error : ∃ (f : Addr) (fd : FuncData), Fun K "_law_row_error" "_law_row_error" s_l_row_error f fd ∧ mg "_law_row_error" = some (.ref f)
  f_l_numbers : ∃ (f : Addr) (fd : FuncData), Fun K "_law_numbers" "_law_numbers" s_l_numbers f fd ∧ mg "_law_numbers" = some (.ref f)
  f_l_line : ∃ (f : Addr) (fd : FuncData), Fun K "_law_line" "_law_line" s_l_line f fd ∧ mg "_law_line" = some (.ref f)
  f_l_due : ∃ (f : Addr) (fd : FuncData), Fun K "_law_due" "_law_due" s_l_due f fd ∧ mg "_law_due" = some (.ref f)
  f_l_found : ∃ (f : Addr) (fd : FuncData), Fun K "_law_found" "_law_found" s_l_found f fd ∧ mg "_law_found" = some (.ref f)
  f_l_spoilt : ∃ (f : Addr) (fd : FuncData), Fun K "_law_spoilt" "_law_spoilt" s_l_spoilt f fd ∧ mg "_law_spoilt" = some (.ref f)
  f_p_law : ∃ (f : Addr) (fd : FuncData), Fun K "law" "law" s_p_law f fd ∧ mg "law" = some (.ref f)
  i_BadRow : ∃ (C fI : Addr) (fd : FuncData), Fun K "__init__" "BadRow.__init__" s_p_BadRow_init fI fd ∧ mg "BadRow" = some (.ref C) ∧ PySem.W.nsIn K mainGlobals "BadRow" = some (some (.ref C)) ∧ OexC K C ∧ PySem.W.findIn K (.ref C) "error" = some none ∧ PySem.W.findIn K (.ref C) "__init__" = some (some (.ref fI)) ∧ PySem.W.typeIn K (.ref fI) = some (.type "function")
  g_BadRow : ErF K "BadRow" "error"
  i_BadText : ∃ (C fI : Addr) (fd : FuncData), Fun K "__init__" "BadText.__init__" s_p_BadText_init fI fd ∧ mg "BadText" = some (.ref C) ∧ PySem.W.nsIn K mainGlobals "BadText" = some (some (.ref C)) ∧ OexC K C ∧ PySem.W.findIn K (.ref C) "place" = some none ∧ PySem.W.findIn K (.ref C) "__init__" = some (some (.ref fI)) ∧ PySem.W.typeIn K (.ref fI) = some (.type "function")
  g_BadText : ErF K "BadText" "place"
  n_BadText : ClN K mg "BadText" (tblOf [("BadText", true), ("BadRow", false)])
  n_BadRow : ClN K mg "BadRow" (tblOf [("BadText", false), ("BadRow", true)])
  zd : NoDig K
  b_abs : mg "abs" = none
  b_all : mg "all" = none
  b_bool : mg "bool" = none
  b_enumerate : mg "enumerate" = none
  b_int : mg "int" = none
  b_isinstance : mg "isinstance" = none
  b_len : mg "len" = none
  b_max : mg "max" = none
  b_min : mg "min" = none
  b_range : mg "range" = none
  b_repr : mg "repr" = none
  b_str : mg "str" = none
  b_tuple : mg "tuple" = none
  c_MAX_WIDE : ∃ (v : V) (u : Value), mg "MAX_WIDE" = some u ∧ RelV v u ∧ ∀ H : Hp, Rp K H v (.int 20)
  c_MAX_LONG : ∃ (v : V) (u : Value), mg "MAX_LONG" = some u ∧ RelV v u ∧ ∀ H : Hp, Rp K H v (.int 400)
  c_MAX_SIZE : ∃ (v : V) (u : Value), mg "MAX_SIZE" = some u ∧ RelV v u ∧ ∀ H : Hp, Rp K H v (.int 64)
  c_MAX_NUMBER : ∃ (v : V) (u : Value), mg "MAX_NUMBER" = some u ∧ RelV v u ∧ ∀ H : Hp, Rp K H v (.int 100000000000000000000)
  c_SIGNS : CstT K mg "SIGNS" [.str "+", .str "-", .str "*"]
  c_FIGURES : ∃ (v : V) (u : Value), mg "FIGURES" = some u ∧ RelV v u ∧ ∀ H : Hp, Rp K H v (.str "0123456789")
theorem canLay_ints : ∀ ns : List Int, PyData.canLayAll0 (ns.map PyData.int) = true
  | [] => rfl
  | n :: r => by rw [List.map_cons, PyData.canLayAll0, canLay_ints r]; rfl
theorem depth_ints : ∀ ns : List Int, PyData.depthAll (ns.map PyData.int) ≤ 1
  | [] => by simp [PyData.depthAll]
  | n :: r => by
    have := depth_ints r
    rw [List.map_cons, PyData.depthAll]
    simp only [PyData.depth]
    omega
theorem shaped_ints (ns : List Int) : SeqAt.shaped (.list (ns.map PyData.int)) = true := by
  unfold SeqAt.shaped
  have := depth_ints ns
  rw [Bool.and_eq_true, decide_eq_true_eq]
  refine ⟨by rw [PyData.canLay0]; exact canLay_ints ns, ?_⟩
  rw [PyData.depth]; omega
theorem dp_ints {K : PySem.W.Frag} {H : Hp} : ∀ ns : List Int, DpAll K H (ns.map V.int) (ns.map PyData.int)
  | [] => .nil
  | n :: r => .cons (.int n) (dp_ints r)
theorem ixN0 {α : Type} (x : α) (l : List α) : ixN (x :: l).length 0 = some 0 := by
  unfold ixN
  rw [if_pos (by decide), if_pos (by simp)]; rfl
section
variable {P : Program} {w : World} {K : PySem.W.Frag} {mg : Str → Option Value} {base : Heap}
set_option maxHeartbeats 8000000 in
theorem ok_draw {f : Addr} {fd : FuncData} {k : Nat} (F : Fun K "_law_draw" "_law_draw" s_l_draw f fd) (m1 : mg "int" = none) (m2 : mg "len" = none) : FnOk P w K mg base CX0 (k + 1) f fd ["_law_deck_here", "_law_many"] (spD K drawSem) := by
  refine F.ok sc_l_draw (fun vs H Q E h => ?_) (fun cdv A outer s H vs Q E hr h => ?_)
  · obtain ⟨A, R, xs, k, d, k', hx, t, dk, ar, e, _⟩ := h
    unfold drawSem at e
    split at e
    · exact ar.length
    · cases e
  · obtain ⟨A0, R, xs, k0, d, k', hx, t, dk, ar, e, q⟩ := h
    unfold drawSem at e
    split at e
    · rename_i m
      split at e
      · rename_i hm
        match vs, ar with
        | [v0, v1], ar =>
          obtain ⟨rfl, rv, _⟩ := ar
          obtain rfl : v1 = .int m := Rp.int_inv rv
          refine ⟨_, pss_cons (ps_if (pt_cmpR (op_neD hr.units) (pe_ix ix_list (pv 0) pe_int (fun _ _ => rfl)) (pe_lst pa_nil) (nomark _))
            (pss_cons (ps_set (i := 2) sc_l_draw.nd rfl (Or.inl rfl) (pe_ix ix_list (pe_ix ix_list (pv 0) pe_int (fun _ _ => rfl)) pe_int (fun _ _ => rfl)))
            (pss_cons (ps_asg (pe_op op_fdivW (pv 2) (pv 1)) (pg_sub (pe_ix ix_list (pv 0) pe_int (fun _ _ => rfl)) pe_int set_list))
            (pss_cons (ps_if (pt_cmpR op_eq (pe_ix ix_list (pe_ix ix_list (pv 0) pe_int (fun _ _ => rfl)) pe_int (fun _ _ => rfl)) pe_int (nomark _))
              (pss_one (ps_expr (pe_bm PySem.F.plainAttrs_list PySem.F.slot_list_pop PySem.F.type_list_pop mt_popAt (pe_ix ix_list (pv 0) pe_int (fun _ _ => rfl)) (pa_cons pe_int pa_nil)))) pss_nil)
            (pss_one (ps_ret (pe_op op_modN (pe_callTy call_int1 (by rfl) m1 (by decide +kernel) (pa_cons (pv 2) pa_nil)) (pv 1))))))) pss_nil)
            (pss_cons (ps_asg (pe_op op_add (pe_ix ix_list (pv 0) pe_int (fun _ _ => rfl)) pe_int) (pg_sub (pv 0) pe_int set_list))
            (pss_cons (ps_set (i := 3) sc_l_draw.nd rfl (Or.inl rfl) (pe_ix ix_list (pe_ix ix_list (pv 0) pe_int (fun _ _ => rfl))
              (pe_op op_modN (pe_callTy call_int1 (by rfl) m1 (by decide +kernel) (pa_cons (pe_ix ix_list (pv 0) pe_int (fun _ _ => rfl)) pa_nil)) (pe_callB call_len_seq (by rfl) m2 (by decide +kernel) (pa_cons (pe_ix ix_list (pv 0) pe_int (fun _ _ => rfl)) pa_nil))) (fun _ _ => rfl)))
            (pss_cons (ps_set (i := 4) sc_l_draw.nd rfl (Or.inl rfl) (pe_op op_modN (pe_callTy call_int1 (by rfl) m1 (by decide +kernel) (pa_cons (pe_op op_add
                (pe_op op_modN (pe_callTy call_int1 (by rfl) m1 (by decide +kernel) (pa_cons (pv 3) pa_nil)) pe_int) (pe_op op_mul pe_int (pe_ix ix_list (pv 0) pe_int (fun _ _ => rfl)))) pa_nil)) pe_int))
            (pss_cons (ps_set (i := 4) sc_l_draw.nd rfl (Or.inl rfl) (pe_op op_modN (pe_callTy call_int1 (by rfl) m1 (by decide +kernel) (pa_cons (pe_op op_add
                (pe_op op_mul (pv 4) (pv 4)) (pe_op op_mul pe_int (pe_ix ix_list (pv 0) pe_int (fun _ _ => rfl)))) pa_nil)) pe_int))
            (pss_one (ps_ret (pe_op op_modN (pe_op op_fdivW (pe_op op_modN (pe_callTy call_int1 (by rfl) m1 (by decide +kernel) (pa_cons (pe_op op_mul (pv 4) (pv 4)) pa_nil)) pe_int) pe_int) (pv 1)))))))), ?_⟩
          have hne : ∀ (p : Addr) (hp : H p = none) (Q' : VK), Q' (.bl (!PyData.eqv (.list (k0.great.map PyData.int)) (.list []))) (upd H p (.lst [])) → rNeD K (.ref A0.g) (.ref p) (upd H p (.lst [])) Q' := fun p hp Q' h =>
            ⟨_, _, .lst (SqL.of (Grw.new hp _ _ dk.hg)) (dp_ints k0.great), .lst (SqL.of upd_same) .nil, shaped_ints _, rfl, h⟩
          refine ⟨.ref A0.o, rfl, A0.o, _, 0, .ref A0.g, rfl, rfl, SqL.of dk.ho, rfl, Nat.zero_le _, fun p hp => hne p hp _ ?_⟩
          have gr : Grw H (upd H p (.lst [])) := Grw.new hp
          have dk1 := dk.grw gr
          unfold Dk.drw at e
          cases hg : k0.great with
          | cons g r =>
            rw [hg] at e
            cases e
            have hG1 : (upd H p (.lst [])) A0.g = some (.lst ((g :: r).map V.int)) := by rw [← hg]; exact dk1.hg
            refine ⟨true, rfl, iteT ?_⟩
            -- rest = deck[0][0]
            refine ⟨.ref A0.o, rfl, A0.o, _, 0, .ref A0.g, rfl, rfl, SqL.of dk1.ho, rfl, A0.g, _, 0, .int g, rfl, rfl, SqL.of hG1, atI_nat (j := 0) rfl, ?_⟩
            -- deck[0][0] = rest // many
            have hm30 : m.natAbs < 2 ^ 30 := Nat.lt_of_lt_of_le (m := 1000000000) (by omega) (by decide)
            have hdv : CDivW g m := wide_div hm.1 hm30 (by decide) (by decide)
            refine ⟨.int g, rfl, .int m, rfl, g, m, rfl, rfl, hdv, ?_⟩
            refine ⟨.ref A0.o, rfl, A0.o, _, 0, .ref A0.g, rfl, rfl, SqL.of dk1.ho, rfl, A0.g, _, 0, 0, rfl, rfl, hG1, ixN0 _ _, ?_⟩
            have dk2 : DkOk K A0 R (upd (upd H p (.lst [])) A0.g (.lst ((g / m :: r).map V.int))) { k0 with great := g / m :: r } := dk1.putG
            have kp2 : ∀ a o, H a = some o → ¬ A0.is a → (upd (upd H p (.lst [])) A0.g (.lst ((g / m :: r).map V.int))) a = some o := fun a o h n => keepG (.inr (.inl rfl)) a o (gr a o h) n
            refine ⟨.ref A0.o, rfl, A0.o, _, 0, .ref A0.g, rfl, rfl, SqL.of dk2.ho, rfl, A0.g, _, 0, .int (g / m), rfl, rfl, SqL.of dk2.hg, atI_nat (j := 0) rfl, rfl, _, rfl, ?_⟩
            have hmod : ∀ (H' : Hp) (gs : List Int), (∀ a o, H a = some o → ¬ A0.is a → H' a = some o) → DkOk K A0 R H' { k0 with great := gs } → gs = (if g / m = 0 then r else g / m :: r) →
                tRet (tOp (rI (fun _ j => j ≠ 0) fun i j => .int (i.fmod j)) (tCB rInt1 (tCons (tVar 2) tNil)) (tVar 1)) { nx := fun _ H' => Q .non H', rt := Q } [some (.ref A0.o), some (.int m), some (.int g), none, none] H' := by
              intro H' gs k1 k2 k3
              refine ⟨.int g, rfl, .inl ⟨g, rfl, .int m, rfl, g, m, rfl, rfl, by omega, ?_⟩⟩
              subst k3
              exact q _ H' k1 k2 (.int _)
            by_cases hz : g / m = 0
            · have hz' : decide ((V.int (g / m)) = V.int 0) = true := by rw [hz]; rfl
              rw [hz']
              refine iteT ?_
              refine ⟨.ref A0.o, rfl, A0.o, _, 0, .ref A0.g, rfl, rfl, SqL.of dk2.ho, rfl, .inl ⟨rfl, _, SqL.of dk2.hg⟩, A0.g, _, 0, 0, .int (g / m), rfl, rfl, dk2.hg, by decide, by decide, ?_, rfl, ?_⟩
              · exact (ixN_seq (show ixN ((g / m :: r).map V.int).length 0 = some 0 from ixN0 _ _)).1
              · have dk3 : DkOk K A0 R (upd (upd (upd H p (.lst [])) A0.g (.lst ((g / m :: r).map V.int))) A0.g (.lst (r.map V.int))) { k0 with great := r } := by
                  have h := DkOk.putG (gs := r) dk2
                  exact h
                exact hmod _ r (fun a o h n => keepG (.inr (.inl rfl)) a o (kp2 a o h n) n) dk3 (by rw [if_pos hz])
            · have hz' : decide ((V.int (g / m)) = V.int 0) = false := decide_eq_false fun z => hz (by injection z)
              rw [hz']
              refine iteF ?_
              exact hmod _ (g / m :: r) kp2 dk2 (by rw [if_neg hz])
          | nil =>
            rw [hg] at e
            simp only at e
            refine ⟨false, rfl, iteF ?_⟩
            -- deck[2] = deck[2] + 1
            refine ⟨.ref A0.o, rfl, A0.o, _, 2, .int k0.n, rfl, rfl, SqL.of dk1.ho, rfl, k0.n, 1, rfl, rfl, ?_⟩
            refine ⟨.ref A0.o, rfl, A0.o, _, 2, 2, rfl, rfl, dk1.ho, rfl, ?_⟩
            have dk2 : DkOk K A0 R (upd (upd H p (.lst [])) A0.o (.lst [.ref A0.g, .ref A0.c, .int (k0.n + 1)])) { k0 with n := k0.n + 1 } := dk1.putN
            have kp2 : ∀ a o, H a = some o → ¬ A0.is a → (upd (upd H p (.lst [])) A0.o (.lst [.ref A0.g, .ref A0.c, .int (k0.n + 1)])) a = some o := fun a o h n => keepG (.inl rfl) a o (gr a o h) n
            cases hc : k0.cells[((k0.n + 1).fmod (k0.cells.length : Int)).toNat]? with
            | none => rw [hc] at e; cases e
            | some c =>
              rw [hc] at e
              cases e
              have hl : 0 < k0.cells.length := by
                have := (List.getElem?_eq_some_iff.mp hc).1
                omega
              have hb := fmod_lt (a := k0.n + 1) (m := (k0.cells.length : Int)) (by omega)
              -- cell
              refine ⟨.ref A0.o, rfl, A0.o, _, 1, .ref A0.c, rfl, rfl, SqL.of dk2.ho, rfl, .ref A0.o, rfl, A0.o, _, 2, .int (k0.n + 1), rfl, rfl, SqL.of dk2.ho, rfl, .inl ⟨k0.n + 1, rfl, .ref A0.o, rfl, A0.o, _, 1, .ref A0.c, rfl, rfl, SqL.of dk2.ho, rfl, A0.c, _, rfl, .inl (SqL.of dk2.hc), ?_⟩⟩
              refine ⟨k0.n + 1, ((k0.cells.map V.int).length : Int), rfl, rfl, by rw [List.length_map]; omega, ?_⟩
              refine ⟨A0.c, _, (k0.n + 1).fmod ((k0.cells.map V.int).length : Int), .int c, rfl, rfl, SqL.of dk2.hc, ?_, ?_⟩
              · rw [List.length_map]
                have h1 : ((((k0.n + 1).fmod (k0.cells.length : Int)).toNat : Nat) : Int) = (k0.n + 1).fmod (k0.cells.length : Int) := by omega
                have h2 := atI_nat (xs := k0.cells.map V.int) (j := ((k0.n + 1).fmod (k0.cells.length : Int)).toNat) (v := .int c) (by rw [List.getElem?_map, hc]; rfl)
                rw [h1] at h2
                exact h2
              -- mixed
              refine ⟨.int c, rfl, .inl ⟨c, rfl, c, 4294966297, rfl, rfl, (show (4294966297 : Int) ≠ 0 by decide), .ref A0.o, rfl, A0.o, _, 2, .int (k0.n + 1), rfl, rfl, SqL.of dk2.ho, rfl, 1640531527, k0.n + 1, rfl, rfl, .inl ⟨by decide, by decide⟩, _, _, rfl, rfl, .inl ⟨_, rfl, _, 4294966297, rfl, rfl, (show (4294966297 : Int) ≠ 0 by decide), ?_⟩⟩⟩
              have ha := fmod_lt (a := c.fmod 4294966297 + 1640531527 * (k0.n + 1)) (m := 4294966297) (by decide)
              have hbb := fmod_lt (a := (c.fmod 4294966297 + 1640531527 * (k0.n + 1)).fmod 4294966297 * (c.fmod 4294966297 + 1640531527 * (k0.n + 1)).fmod 4294966297 + 122949823 * (k0.n + 1)) (m := 4294966237) (by decide)
              refine ⟨_, rfl, _, rfl, _, _, rfl, rfl, .inl ⟨by omega, by omega⟩, .ref A0.o, rfl, A0.o, _, 2, .int (k0.n + 1), rfl, rfl, SqL.of dk2.ho, rfl, 122949823, k0.n + 1, rfl, rfl, .inl ⟨by decide, by decide⟩, _, _, rfl, rfl, .inl ⟨_, rfl, _, 4294966237, rfl, rfl, (show (4294966237 : Int) ≠ 0 by decide), ?_⟩⟩
              refine ⟨_, rfl, _, rfl, _, _, rfl, rfl, .inl ⟨by omega, by omega⟩, .inl ⟨_, rfl, _, 4294966187, rfl, rfl, (show (4294966187 : Int) ≠ 0 by decide), _, 1024, rfl, rfl, ⟨by decide, by decide⟩, .int m, rfl, _, m, rfl, rfl, by omega, ?_⟩⟩
              exact q _ _ kp2 (by have h := dk2; rw [hg] at h; exact h) (.int _)
      · cases e
    · cases e
end
/-- some ints -/
def Ints (xs : List V) : Prop := ∃ ns : List Int, xs = ns.map V.int
theorem Ints.nil : Ints [] := ⟨[], rfl⟩
theorem Ints.snoc {xs : List V} {i : Int} (h : Ints xs) : Ints (xs ++ [.int i]) := by
  obtain ⟨ns, rfl⟩ := h
  exact ⟨ns ++ [i], by simp⟩
theorem Ints.get {xs : List V} {i : Nat} {v : V} (h : Ints xs) (e : xs[i]? = some v) : ∃ n, v = .int n := by
  obtain ⟨ns, rfl⟩ := h
  rw [List.getElem?_map] at e
  cases q : ns[i]? with
  | none => rw [q] at e; cases e
  | some n => rw [q] at e; cases e; exact ⟨n, rfl⟩
theorem sz1 {n : Nat} (h : n ≤ 100000) : n < sizeLine := by rw [sizeLine_eq]; omega
theorem back_none {H H' : Hp} {p : Addr} (g : Grw H H') (h : H' p = none) : H p = none := by
  cases q : H p with
  | none => rfl
  | some o => rw [g p o q] at h; cases h
section
variable {P : Program} {w : World} {K : PySem.W.Frag} {mg : Str → Option Value} {base : Heap}
set_option maxHeartbeats 8000000 in
theorem ok_deck {f : Addr} {fd : FuncData} {k : Nat} (F : Fun K "_law_deck" "_law_deck" s_l_deck f fd) (m1 : mg "abs" = none) (m2 : mg "len" = none) : FnOk P w K mg base CX0 (k + 1) f fd ["_law_script"] (spDeck K) := by
  refine F.ok sc_l_deck (fun vs H Q E h => ?_) (fun cdv A outer s H vs Q E hr h => ?_)
  · obtain ⟨a, ns, rfl, _⟩ := h
    rfl
  · obtain ⟨a, ns, rfl, hS, hl, q⟩ := h
    refine ⟨_, pss_cons (ps_setLc (i := 1) (own := [("_law_cell", 2)]) (g := gName 2) (tt := tYes) rfl sc_l_deck.nd rfl rfl (sw_true rfl rfl rfl (by decide +kernel)) (pi_list (pe_slice sl_list (pv 0) po_none (po_some pe_int)))
        (blkOk_by (own := [("_law_cell", 2)]) (N := n_l_deck) (sc := defScope s_l_deck) (by decide +kernel)) (fun _ _ _ _ _ => pg_name (i := 2) sc_l_deck.nd rfl (Or.inl rfl)) (fun _ _ _ _ _ => pts_nil) (fun _ _ _ _ _ => pe_callB call_abs (by rfl) m1 (by decide +kernel) (pa_cons (pv 2) pa_nil)))
      (pss_one (ps_ret (pe_lst (pa_cons (pe_lc (own := [("_law_cell", 2)]) (g := gName 2) rfl sc_l_deck.nd (pi_list (pv 1)) (blkOk_by (own := [("_law_cell", 2)]) (N := n_l_deck) (sc := defScope s_l_deck) (by decide +kernel))
          (fun _ _ _ _ _ => pg_name (i := 2) sc_l_deck.nd rfl (Or.inl rfl)) (fun _ _ _ _ _ => pts_one (pt_cmpR op_ge (pv 2) (pe_op op_pow pe_int pe_int) (nomark _))) (fun _ _ _ _ _ => pv 2))
        (pa_cons (pe_op op_cat (pv 1) (pe_lst (pa_cons (pe_op op_add pe_int (pe_callB call_len_seq (by rfl) m2 (by decide +kernel) (pa_cons (pv 1) pa_nil))) pa_nil))) (pa_cons pe_int pa_nil)))))), ?_⟩
    have cutI : Ints (cutV (ns.map V.int) none (some 63)) := by
      unfold cutV
      exact ⟨_, by rw [← List.map_drop, ← List.map_take]⟩
    have cutL : (cutV (ns.map V.int) none (some 63)).length ≤ 1000 := Nat.le_trans (cutV_length _ _ _) (by rw [List.length_map]; exact hl)
    refine ⟨.ref a, rfl, 63, rfl, a, ns.map V.int, rfl, hS, fun c hc => ?_⟩
    revert cutI cutL
    generalize cutV (ns.map V.int) none (some 63) = cs
    intro cutI cutL
    have g1 : Grw H (upd H c (.lst cs)) := Grw.new hc
    refine ⟨c, rfl, ⟨cs, SqL.of upd_same⟩, fun d hd => lc_list (K := K) (a := c) (xs := cs) (fun i H' => Grw (upd H c (.lst cs)) H' ∧ ∃ xs, H' d = some (.lst xs) ∧ Ints xs ∧ xs.length = i) ⟨Grw.new hd, [], upd_same, .nil, rfl⟩
      (fun i H' _ p => SqL.of (p.1 c _ upd_same)) (fun i x H' hx p => ?_) (fun H' p => ?_)⟩
    · obtain ⟨p1, xs, p2, p3, p4⟩ := p
      obtain ⟨n, rfl⟩ := cutI.get hx
      have hi : i < cs.length := (List.getElem?_eq_some_iff.mp hx).1
      refine ⟨rfl, .int n, rfl, n, rfl, xs, p2, sz1 (by omega), ?_⟩
      refine ⟨fun b o e => ?_, _, upd_same, p3.snoc, by simp [p4]⟩
      rw [upd_ne (ne_of_none e hd)]
      exact p1 b o e
    · obtain ⟨p1, xs, p2, p3, p4⟩ := p
      have hxl : xs.length ≤ 1000 := by omega
      have gH : Grw H H' := g1.trans p1
      have dH : H d = none := by
        cases q : H d with
        | none => rfl
        | some o => rw [g1 d o q] at hd; cases hd
      -- the greats
      refine ⟨.ref d, rfl, d, rfl, ⟨xs, SqL.of p2⟩, fun g hg => lc_list (K := K) (a := d) (xs := xs) (fun i H2 => Grw H' H2 ∧ ∃ ys, H2 g = some (.lst ys) ∧ Ints ys ∧ ys.length ≤ i) ⟨Grw.new hg, [], upd_same, .nil, Nat.le_refl _⟩
        (fun i H2 _ p => SqL.of (p.1 d _ p2)) (fun i x H2 hx p => ?_) (fun H2 p => ?_)⟩
      · obtain ⟨r1, ys, r2, r3, r4⟩ := p
        obtain ⟨n, rfl⟩ := p3.get hx
        have hi : i < xs.length := (List.getElem?_eq_some_iff.mp hx).1
        refine ⟨rfl, .int n, rfl, 10, 18, rfl, rfl, ⟨by decide, by decide, by decide⟩, n, _, rfl, rfl, _, rfl, ?_⟩
        cases hb : decide ((10 : Int) ^ (18 : Int).toNat ≤ n) with
        | true =>
          refine iteT ⟨.int n, rfl, ys, r2, sz1 (by omega), fun b o e => ?_, _, upd_same, r3.snoc, by simp [r4]⟩
          rw [upd_ne (ne_of_none e hg)]
          exact r1 b o e
        | false => exact iteF ⟨r1, ys, r2, r3, by omega⟩
      · obtain ⟨r1, ys, r2, r3, r4⟩ := p
        obtain ⟨gs, rfl⟩ := r3
        obtain ⟨csn, rfl⟩ := p3
        have d2 : H2 d = some (.lst (csn.map V.int)) := r1 d _ p2
        have gH2 : Grw H H2 := gH.trans r1
        refine ⟨.ref d, rfl, .ref d, rfl, d, _, rfl, .inl (SqL.of d2), 11246, _, rfl, rfl, (show 1 ≤ sizeLine by rw [sizeLine_eq]; decide), fun e he => ?_⟩
        have d3 := Grw.new (o := .lst [.int (11246 + ((csn.map V.int).length : Int))]) he d _ d2
        refine ⟨d, e, csn.map V.int, _, rfl, rfl, d3, upd_same, (by rw [sizeLine_eq]; simp only [List.length_cons, List.length_nil]; omega), fun o ho => ?_⟩
        refine ⟨(show 3 ≤ sizeLine by rw [sizeLine_eq]; decide), fun z hz => ?_⟩
        have k0 : H2 g = some (.lst (gs.map V.int)) := r2
        have ge : Grw H2 (upd H2 e (.lst [.int (11246 + ((csn.map V.int).length : Int))])) := Grw.new he
        have go := Grw.new (o := .lst (csn.map V.int ++ [.int (11246 + ((csn.map V.int).length : Int))])) ho
        have gz := Grw.new (o := .lst [.ref g, .ref o, .int 0]) hz
        have gAll := gH2.trans (ge.trans (go.trans gz))
        have hgo := go _ _ (ge _ _ k0)
        have hoo : upd (upd H2 e (.lst [.int (11246 + ((csn.map V.int).length : Int))])) o (.lst (csn.map V.int ++ [.int (11246 + ((csn.map V.int).length : Int))])) o = _ := upd_same
        refine q ⟨z, g, o, none, [], none⟩ ⟨gs, csn ++ [11246 + ((csn.map V.int).length : Int)], 0⟩ _ rfl gAll ⟨upd_same, gz _ _ hgo, ?_, fun b h => h, ?_, ?_, ?_⟩ ?_ ?_
        · rw [List.map_append]
          exact gz _ _ hoo
        · exact fun w => by
            have w : z = g := w
            rw [w, hgo] at hz; cases hz
        · exact fun w => by
            have w : z = o := w
            rw [w, hoo] at hz; cases hz
        · exact fun w => by
            have w : g = o := w
            rw [← w, ge _ _ k0] at ho; cases ho
        · rintro b (w | w | w | ⟨y, w, _⟩ | ⟨p, w, _⟩ | w)
          · have w : b = z := w
            rw [w]; exact back_none (gH2.trans (ge.trans go)) hz
          · have w : b = g := w
            rw [w]; exact back_none gH hg
          · have w : b = o := w
            rw [w]; exact back_none (gH2.trans ge) ho
          · cases w
          · cases w
          · cases w
        · exact fun w => by
            have w : csn ++ [11246 + ((csn.map V.int).length : Int)] = [] := w
            simp at w
end
section
variable {P : Program} {w : World} {K : PySem.W.Frag} {mg : Str → Option Value} {base : Heap}
def m_p_is_integer : M Fl :=
  (sRet (eAnd (eIsi "int" (eVar 0)) (eAnd (eNot (eIsi "bool" (eVar 0))) (eChain dLe dLe (eVar 1) (eVar 0) (eVar 2)))))
def sem_p_is_integer : FS := semOf (List.length (["value", "least", "most"] : List Str)) (List.length n_p_is_integer) m_p_is_integer
theorem fd_p_is_integer (T : Txt K mg) : FnD P w K mg base 1 "is_integer" ["value", "least", "most"] [] sem_p_is_integer := by
  obtain ⟨f, fd, F, hm⟩ := T.f_p_is_integer
  refine ⟨f, fd, fnD_of (m := m_p_is_integer) F sc_p_is_integer (fun cdv A outer s H E hr => ?_), hm, F.kp, ?_, ?_⟩
  · show XS _ _ _
    refine xs_one ?_
    · exact x_lf (ds_ret (de_and (k_isi (K := K) "int" (by decide) (by rfl) T.b_isinstance (by decide +kernel) (de_var 0) (by rfl) T.b_int (by decide +kernel)) (de_and (de_not (k_isi (K := K) "bool" (by decide) (by rfl) T.b_isinstance (by decide +kernel) (de_var 0) (by rfl) T.b_bool (by decide +kernel))) (de_one (de_chain (k_le (K := K) hr.units) (k_le (K := K) hr.units) do_le do_le (de_var 1) (de_var 0) (de_var 2))))))
  · exact F.binds (ps := ["value", "least", "most"]) fun _ _ _ _ _ _ us hl => match us, hl with | [_, _, _], _ => rfl
  · exact fun q hq => by simp at hq
def m_p_is_step : M Fl :=
  (sSeq (sIf (tOrM (tNotM (tV (eIsi "tuple" (eVar 0)))) (tOrM (tV (eOp2 dNotIn (eCB dLen (aCons (eVar 0) aNil)) (eTup (aCons (eC (.int 2)) (aCons (eC (.int 3)) aNil))))) (tNotM (tV (eIsi "str" (eOp2 dIx (eVar 0) (eC (.int 0))))))))
      (sRet (eC (.bool false)))
      sNx)
    (sSeq (sIf (tV (eOp2 dEq (eCB dLen (aCons (eVar 0) aNil)) (eC (.int 3))))
      (sRet (eAnd (eOp2 dIn (eOp2 dIx (eVar 0) (eC (.int 0))) (eC (.tuple [.str "+", .str "-", .str "*"]))) (eAnd (eCallB [] sem_p_is_integer (vDat (eOp2 dIx (eVar 0) (eC (.int 1))) (vDat (eC (.int 0)) (vDat (eOp2 dSub (eVar 2) (eC (.int 1))) vNil)))) (eCallB [] sem_p_is_integer (vDat (eOp2 dIx (eVar 0) (eC (.int 2))) (vDat (eC (.int 0)) (vDat (eOp2 dSub (eVar 2) (eC (.int 1))) vNil)))))))
      sNx)
    (sSeq (sIf (tV (eOp2 dEq (eOp2 dIx (eVar 0) (eC (.int 0))) (eC (.str "in"))))
      (sRet (eCallB [] sem_p_is_integer (vDat (eOp2 dIx (eVar 0) (eC (.int 1))) (vDat (eC (.int 0)) (vDat (eOp2 dSub (eVar 1) (eC (.int 1))) vNil)))))
      sNx)
    (sSeq (sIf (tV (eOp2 dEq (eOp2 dIx (eVar 0) (eC (.int 0))) (eC (.str "set"))))
      (sRet (eCallB [] sem_p_is_integer (vDat (eOp2 dIx (eVar 0) (eC (.int 1))) (vDat (eOp2 dSub (eC (.int 0)) (eC (.int 100000000000000000000))) (vDat (eC (.int 100000000000000000000)) vNil)))))
      sNx)
    (sRet (eAnd (eOp2 dEq (eOp2 dIx (eVar 0) (eC (.int 0))) (eC (.str "neg"))) (eCallB [] sem_p_is_integer (vDat (eOp2 dIx (eVar 0) (eC (.int 1))) (vDat (eC (.int 0)) (vDat (eOp2 dSub (eVar 2) (eC (.int 1))) vNil))))))))))
def sem_p_is_step : FS := semOf (List.length (["value", "inputs", "number"] : List Str)) (List.length n_p_is_step) m_p_is_step
theorem fd_p_is_step (T : Txt K mg) : FnD P w K mg base 2 "is_step" ["value", "inputs", "number"] [] sem_p_is_step := by
  obtain ⟨f, fd, F, hm⟩ := T.f_p_is_step
  obtain ⟨v_MAX_NUMBER, u_MAX_NUMBER, h_MAX_NUMBER⟩ := T.c_MAX_NUMBER
  obtain ⟨a_SIGNS, u_SIGNS, vs_SIGNS, h_SIGNS⟩ := T.c_SIGNS.ex
  refine ⟨f, fd, fnD_of (m := m_p_is_step) F sc_p_is_step (fun cdv A outer s H E hr => ?_), hm, F.kp, ?_, ?_⟩
  · show XS _ _ _
    refine xs_cons ?_ ?_
    · refine x_if (DW.pt (dw_or (dt_not (dt_val (k_isi (K := K) "tuple" (by decide) (by rfl) T.b_isinstance (by decide +kernel) (de_var 0) (by rfl) T.b_tuple (by decide +kernel)))) (dw_or (dt_cmp (k_notIn (K := K)) do_notIn (de_B (k_len (K := K)) do_len (by rfl) T.b_len (by decide +kernel) (da_cons (de_var 0) da_nil)) (de_tup (da_cons de_int (da_cons de_int da_nil))) (by rfl)) (dw_or1 (dt_not (dt_val (k_isi (K := K) "str" (by decide) (by rfl) T.b_isinstance (by decide +kernel) (k_ix (K := K) (de_var 0) de_int) (by rfl) T.b_str (by decide +kernel)))))))) ?_ ?_
      · refine xs_one ?_
        · exact x_lf (ds_ret de_bl)
      · exact xs_nil
    refine xs_cons ?_ ?_
    · refine x_if (dt_cmp (k_eq (K := K) hr.units) do_eq (de_B (k_len (K := K)) do_len (by rfl) T.b_len (by decide +kernel) (da_cons (de_var 0) da_nil)) de_int (nomark _)) ?_ ?_
      · refine xs_one ?_
        · exact x_lf (ds_ret (de_and (de_inK (K := K) h_SIGNS.1 h_SIGNS.2.1 h_SIGNS.2.2.1 h_SIGNS.2.2.2 (k_ix (K := K) (de_var 0) de_int)) (de_and (k_call (K := K) (B := []) (fd_p_is_integer T) (hr.mono (by omega)) (by rfl) (dv_dat (k_ix (K := K) (de_var 0) de_int) (dv_dat de_int (dv_dat (de_bin op_sub do_sub (de_var 2) de_int) dv_nil)))) (de_one (k_call (K := K) (B := []) (fd_p_is_integer T) (hr.mono (by omega)) (by rfl) (dv_dat (k_ix (K := K) (de_var 0) de_int) (dv_dat de_int (dv_dat (de_bin op_sub do_sub (de_var 2) de_int) dv_nil))))))))
      · exact xs_nil
    refine xs_cons ?_ ?_
    · refine x_if (dt_cmp (k_eq (K := K) hr.units) do_eq (k_ix (K := K) (de_var 0) de_int) de_str (nomark _)) ?_ ?_
      · refine xs_one ?_
        · exact x_lf (ds_ret (k_call (K := K) (B := []) (fd_p_is_integer T) (hr.mono (by omega)) (by rfl) (dv_dat (k_ix (K := K) (de_var 0) de_int) (dv_dat de_int (dv_dat (de_bin op_sub do_sub (de_var 1) de_int) dv_nil)))))
      · exact xs_nil
    refine xs_cons ?_ ?_
    · refine x_if (dt_cmp (k_eq (K := K) hr.units) do_eq (k_ix (K := K) (de_var 0) de_int) de_str (nomark _)) ?_ ?_
      · refine xs_one ?_
        · exact x_lf (ds_ret (k_call (K := K) (B := []) (fd_p_is_integer T) (hr.mono (by omega)) (by rfl) (dv_dat (k_ix (K := K) (de_var 0) de_int) (dv_dat (de_bin op_sub do_sub de_int (de_glob (by rfl) h_MAX_NUMBER.1 h_MAX_NUMBER.2.1 h_MAX_NUMBER.2.2)) (dv_dat (de_glob (by rfl) h_MAX_NUMBER.1 h_MAX_NUMBER.2.1 h_MAX_NUMBER.2.2) dv_nil)))))
      · exact xs_nil
    refine xs_one ?_
    · exact x_lf (ds_ret (de_and (de_cmp (k_eq (K := K) hr.units) do_eq (k_ix (K := K) (de_var 0) de_int) de_str (nomark _)) (de_one (k_call (K := K) (B := []) (fd_p_is_integer T) (hr.mono (by omega)) (by rfl) (dv_dat (k_ix (K := K) (de_var 0) de_int) (dv_dat de_int (dv_dat (de_bin op_sub do_sub (de_var 2) de_int) dv_nil)))))))
  · exact F.binds (ps := ["value", "inputs", "number"]) fun _ _ _ _ _ _ us hl => match us, hl with | [_, _, _], _ => rfl
  · exact fun q hq => by simp at hq
def m_p_measure : M Fl :=
  (sSeq (sIf (tV (eOp2 dEq (eOp2 dIx (eVar 0) (eC (.int 0))) (eC (.str "in"))))
      (sRet (eC (.int 1)))
      sNx)
    (sSeq (sIf (tV (eOp2 dEq (eOp2 dIx (eVar 0) (eC (.int 0))) (eC (.str "set"))))
      (sRet (eVar 2))
      sNx)
    (sSeq (sIf (tV (eOp2 dEq (eOp2 dIx (eVar 0) (eC (.int 0))) (eC (.str "neg"))))
      (sRet (eOp2 dIx (eVar 1) (eOp2 dIx (eVar 0) (eC (.int 1)))))
      sNx)
    (sSeq (sIf (tV (eOp2 dEq (eOp2 dIx (eVar 0) (eC (.int 0))) (eC (.str "*"))))
      (sRet (eOp2 dAdd (eOp2 dIx (eVar 1) (eOp2 dIx (eVar 0) (eC (.int 1)))) (eOp2 dIx (eVar 1) (eOp2 dIx (eVar 0) (eC (.int 2))))))
      sNx)
    (sRet (eCB dMax2 (aCons (eOp2 dIx (eVar 1) (eOp2 dIx (eVar 0) (eC (.int 1)))) (aCons (eOp2 dIx (eVar 1) (eOp2 dIx (eVar 0) (eC (.int 2)))) aNil))))))))
def sem_p_measure : FS := semOf (List.length (["step", "found", "least"] : List Str)) (List.length n_p_measure) m_p_measure
theorem fd_p_measure (T : Txt K mg) : FnD P w K mg base 1 "measure" ["step", "found", "least"] [] sem_p_measure := by
  obtain ⟨f, fd, F, hm⟩ := T.f_p_measure
  refine ⟨f, fd, fnD_of (m := m_p_measure) F sc_p_measure (fun cdv A outer s H E hr => ?_), hm, F.kp, ?_, ?_⟩
  · show XS _ _ _
    refine xs_cons ?_ ?_
    · refine x_if (dt_cmp (k_eq (K := K) hr.units) do_eq (k_ix (K := K) (de_var 0) de_int) de_str (nomark _)) ?_ ?_
      · refine xs_one ?_
        · exact x_lf (ds_ret de_int)
      · exact xs_nil
    refine xs_cons ?_ ?_
    · refine x_if (dt_cmp (k_eq (K := K) hr.units) do_eq (k_ix (K := K) (de_var 0) de_int) de_str (nomark _)) ?_ ?_
      · refine xs_one ?_
        · exact x_lf (ds_ret (de_var 2))
      · exact xs_nil
    refine xs_cons ?_ ?_
    · refine x_if (dt_cmp (k_eq (K := K) hr.units) do_eq (k_ix (K := K) (de_var 0) de_int) de_str (nomark _)) ?_ ?_
      · refine xs_one ?_
        · exact x_lf (ds_ret (k_ix (K := K) (de_var 1) (k_ix (K := K) (de_var 0) de_int)))
      · exact xs_nil
    refine xs_cons ?_ ?_
    · refine x_if (dt_cmp (k_eq (K := K) hr.units) do_eq (k_ix (K := K) (de_var 0) de_int) de_str (nomark _)) ?_ ?_
      · refine xs_one ?_
        · exact x_lf (ds_ret (de_bin (k_add (K := K)) do_add (k_ix (K := K) (de_var 1) (k_ix (K := K) (de_var 0) de_int)) (k_ix (K := K) (de_var 1) (k_ix (K := K) (de_var 0) de_int))))
      · exact xs_nil
    refine xs_one ?_
    · exact x_lf (ds_ret (de_B (call_max2 rfl) do_max2 (by rfl) T.b_max (by decide +kernel) (da_cons (k_ix (K := K) (de_var 1) (k_ix (K := K) (de_var 0) de_int)) (da_cons (k_ix (K := K) (de_var 1) (k_ix (K := K) (de_var 0) de_int)) da_nil))))
  · exact F.binds (ps := ["step", "found", "least"]) fun _ _ _ _ _ _ us hl => match us, hl with | [_, _, _], _ => rfl
  · exact fun q hq => by simp at hq
def m_p_error_within : M Fl :=
  (sSeq (sIf (tOrM (tNotM (tV (eIsi "tuple" (eVar 0)))) (tV (eOp2 dNe (eCB dLen (aCons (eVar 0) aNil)) (eC (.int 3)))))
      (sRet (eTup (aCons (eC .none) (aCons (eC (.str "row")) aNil))))
      sNx)
    (sSeq (sIf (tNotM (tV (eCallB [] sem_p_is_integer (vDat (eOp2 dIx (eVar 0) (eC (.int 0))) (vDat (eC (.int 0)) (vDat (eVar 1) vNil))))))
      (sRet (eTup (aCons (eC .none) (aCons (eC (.str "inputs")) aNil))))
      sNx)
    (sSeq (sIf (tOrM (tNotM (tV (eIsi "tuple" (eOp2 dIx (eVar 0) (eC (.int 1)))))) (tNotM (tV (eChain dLe dLe (eC (.int 1)) (eCB dLen (aCons (eOp2 dIx (eVar 0) (eC (.int 1))) aNil)) (eVar 2)))))
      (sRet (eTup (aCons (eC .none) (aCons (eC (.str "steps")) aNil))))
      sNx)
    (sSeq (sNew 4 (nLst aNil))
    (sSeq (sFor (asE (aCons (eOp2 dIx (eVar 0) (eC (.int 1))) aNil)) (gTp 2 (gCn (gN 5) (gCn (gN 6) gNl)))
      (sSeq (sIf (tNotM (tV (eCallB [] sem_p_is_step (vDat (eVar 6) (vDat (eOp2 dIx (eVar 0) (eC (.int 0))) (vDat (eVar 5) vNil))))))
          (sRet (eTup (aCons (eVar 5) (aCons (eC (.str "step")) aNil))))
          sNx)
        (sSeq (sApp 4 (eCallB [4] sem_p_measure (vDat (eVar 6) (vBor 4 (vDat (eC (.int 1)) vNil)))))
        (sIf (tV (eOp2 dGt (eIxC 4 (eOp1 dNeg (eC (.int 1)))) (eC (.int 64))))
          (sRet (eTup (aCons (eVar 5) (aCons (eC (.str "size")) aNil))))
          sNx))))
    (sSeq (sIf (tOrM (tNotM (tV (eIsi "tuple" (eOp2 dIx (eVar 0) (eC (.int 2)))))) (tNotM (tV (eChain dLe dLe (eC (.int 1)) (eCB dLen (aCons (eOp2 dIx (eVar 0) (eC (.int 2))) aNil)) (eVar 3)))))
      (sRet (eTup (aCons (eC .none) (aCons (eC (.str "ends")) aNil))))
      sNx)
    (sSeq (sIf (tNotM (tV (eCB dAll (aCons (eL (nLc [7] (asQ (eOp2 dIx (eVar 0) (eC (.int 2)))) (gN 7) (rtn true) (eCallB [] sem_p_is_integer (vDat (eVar 7) (vDat (eC (.int 0)) (vDat (eOp2 dSub (eCB dLen (aCons (eOp2 dIx (eVar 0) (eC (.int 1))) aNil)) (eC (.int 1))) vNil)))))) aNil))))
      (sRet (eTup (aCons (eC .none) (aCons (eC (.str "ends")) aNil))))
      sNx)
    (sRet (eC .none)))))))))
def sem_p_error_within : FS := semOf (List.length (["value", "inputs", "steps", "ends"] : List Str)) (List.length n_p_error_within) m_p_error_within
theorem fd_p_error_within (T : Txt K mg) : FnD P w K mg base 3 "error_within" ["value", "inputs", "steps", "ends"] [] sem_p_error_within := by
  obtain ⟨f, fd, F, hm⟩ := T.f_p_error_within
  obtain ⟨v_MAX_SIZE, u_MAX_SIZE, h_MAX_SIZE⟩ := T.c_MAX_SIZE
  refine ⟨f, fd, fnD_of (m := m_p_error_within) F sc_p_error_within (fun cdv A outer s H E hr => ?_), hm, F.kp, ?_, ?_⟩
  · show XS _ _ _
    refine xs_cons ?_ ?_
    · refine x_if (DW.pt (dw_or (dt_not (dt_val (k_isi (K := K) "tuple" (by decide) (by rfl) T.b_isinstance (by decide +kernel) (de_var 0) (by rfl) T.b_tuple (by decide +kernel)))) (dw_or1 (dt_cmp (k_ne (K := K) hr.units) do_ne (de_B (k_len (K := K)) do_len (by rfl) T.b_len (by decide +kernel) (da_cons (de_var 0) da_nil)) de_int (nomark _))))) ?_ ?_
      · refine xs_one ?_
        · exact x_lf (ds_ret (de_tup (da_cons de_non (da_cons de_str da_nil))))
      · exact xs_nil
    refine xs_cons ?_ ?_
    · refine x_if (dt_not (dt_val (k_call (K := K) (B := []) (fd_p_is_integer T) (hr.mono (by omega)) (by rfl) (dv_dat (k_ix (K := K) (de_var 0) de_int) (dv_dat de_int (dv_dat (de_var 1) dv_nil)))))) ?_ ?_
      · refine xs_one ?_
        · exact x_lf (ds_ret (de_tup (da_cons de_non (da_cons de_str da_nil))))
      · exact xs_nil
    refine xs_cons ?_ ?_
    · refine x_if (DW.pt (dw_or (dt_not (dt_val (k_isi (K := K) "tuple" (by decide) (by rfl) T.b_isinstance (by decide +kernel) (k_ix (K := K) (de_var 0) de_int) (by rfl) T.b_tuple (by decide +kernel)))) (dw_or1 (dt_not (dt_chain (k_le (K := K) hr.units) (k_le (K := K) hr.units) do_le do_le de_int (de_B (k_len (K := K)) do_len (by rfl) T.b_len (by decide +kernel) (da_cons (k_ix (K := K) (de_var 0) de_int) da_nil)) (de_var 2)))))) ?_ ?_
      · refine xs_one ?_
        · exact x_lf (ds_ret (de_tup (da_cons de_non (da_cons de_str da_nil))))
      · exact xs_nil
    refine xs_cons ?_ ?_
    · exact x_lf (ds_new 4 (dn_lst da_nil) sc_p_error_within.nd)
    refine xs_cons ?_ ?_
    · refine x_for (k_enum (K := K) (by rfl) T.b_enumerate (da_cons (k_ix (K := K) (de_var 0) de_int) da_nil)) (k_gtup (K := K) (dgs_cons (dg_name 5 sc_p_error_within.nd) (dgs_cons (dg_name 6 sc_p_error_within.nd) dgs_nil))) ?_
      · refine xs_cons ?_ ?_
        · refine x_if (dt_not (dt_val (k_call (K := K) (B := []) (fd_p_is_step T) (hr.mono (by omega)) (by rfl) (dv_dat (de_var 6) (dv_dat (k_ix (K := K) (de_var 0) de_int) (dv_dat (de_var 5) dv_nil)))))) ?_ ?_
          · refine xs_one ?_
            · exact x_lf (ds_ret (de_tup (da_cons (de_var 5) (da_cons de_str da_nil))))
          · exact xs_nil
        refine xs_cons ?_ ?_
        · exact x_lf (ds_append 4 (k_call (K := K) (B := [4]) (fd_p_measure T) (hr.mono (by omega)) (by rfl) (dv_dat (de_var 6) (dv_bor 4 (by decide) (dv_dat de_int dv_nil)))))
        refine xs_one ?_
        · refine x_if (dt_cmp (k_gt (K := K) hr.units) do_gt (k_ixC (K := K) 4 (de_neg de_int)) (de_glob (by rfl) h_MAX_SIZE.1 h_MAX_SIZE.2.1 h_MAX_SIZE.2.2) (nomark _)) ?_ ?_
          · refine xs_one ?_
            · exact x_lf (ds_ret (de_tup (da_cons (de_var 5) (da_cons de_str da_nil))))
          · exact xs_nil
    refine xs_cons ?_ ?_
    · refine x_if (DW.pt (dw_or (dt_not (dt_val (k_isi (K := K) "tuple" (by decide) (by rfl) T.b_isinstance (by decide +kernel) (k_ix (K := K) (de_var 0) de_int) (by rfl) T.b_tuple (by decide +kernel)))) (dw_or1 (dt_not (dt_chain (k_le (K := K) hr.units) (k_le (K := K) hr.units) do_le do_le de_int (de_B (k_len (K := K)) do_len (by rfl) T.b_len (by decide +kernel) (da_cons (k_ix (K := K) (de_var 0) de_int) da_nil)) (de_var 3)))))) ?_ ?_
      · refine xs_one ?_
        · exact x_lf (ds_ret (de_tup (da_cons de_non (da_cons de_str da_nil))))
      · exact xs_nil
    refine xs_cons ?_ ?_
    · refine x_if (dt_not (dt_val (de_B (k_all (K := K)) do_all (by rfl) T.b_all (by decide +kernel) (da_cons (DN.de (dn_lc (own := [("end", 7)]) rfl sc_p_error_within.nd (k_seq (K := K) (k_ix (K := K) (de_var 0) de_int)) (blkOk_by (own := [("end", 7)]) (N := n_p_error_within) (sc := defScope s_p_error_within) (by decide +kernel)) (fun _ _ _ _ _ => (dg_name 7 sc_p_error_within.nd)) (by decide) (fun _ _ _ _ _ => dts_nil) (fun _ _ _ _ _ => (k_call (K := K) (B := []) (fd_p_is_integer T) (hr.mono (by omega)) (by rfl) (dv_dat (de_var 7) (dv_dat de_int (dv_dat (de_bin op_sub do_sub (de_B (k_len (K := K)) do_len (by rfl) T.b_len (by decide +kernel) (da_cons (k_ix (K := K) (de_var 0) de_int) da_nil)) de_int) dv_nil))))))) da_nil)))) ?_ ?_
      · refine xs_one ?_
        · exact x_lf (ds_ret (de_tup (da_cons de_non (da_cons de_str da_nil))))
      · exact xs_nil
    refine xs_one ?_
    · exact x_lf (ds_ret de_non)
  · exact F.binds (ps := ["value", "inputs", "steps", "ends"]) fun _ _ _ _ _ _ us hl => match us, hl with | [_, _, _, _], _ => rfl
  · exact fun q hq => by simp at hq
def m_p_long_error : M Fl :=
  (sRet (eCallB [] sem_p_error_within (vDat (eVar 0) (vDat (eC (.int 20)) (vDat (eC (.int 400)) (vDat (eC (.int 20)) vNil))))))
def sem_p_long_error : FS := semOf (List.length (["value"] : List Str)) (List.length n_p_long_error) m_p_long_error
theorem fd_p_long_error (T : Txt K mg) : FnD P w K mg base 4 "long_error" ["value"] [] sem_p_long_error := by
  obtain ⟨f, fd, F, hm⟩ := T.f_p_long_error
  obtain ⟨v_MAX_LONG, u_MAX_LONG, h_MAX_LONG⟩ := T.c_MAX_LONG
  obtain ⟨v_MAX_WIDE, u_MAX_WIDE, h_MAX_WIDE⟩ := T.c_MAX_WIDE
  refine ⟨f, fd, fnD_of (m := m_p_long_error) F sc_p_long_error (fun cdv A outer s H E hr => ?_), hm, F.kp, ?_, ?_⟩
  · show XS _ _ _
    refine xs_one ?_
    · exact x_lf (ds_ret (k_call (K := K) (B := []) (fd_p_error_within T) (hr.mono (by omega)) (by rfl) (dv_dat (de_var 0) (dv_dat (de_glob (by rfl) h_MAX_WIDE.1 h_MAX_WIDE.2.1 h_MAX_WIDE.2.2) (dv_dat (de_glob (by rfl) h_MAX_LONG.1 h_MAX_LONG.2.1 h_MAX_LONG.2.2) (dv_dat (de_glob (by rfl) h_MAX_WIDE.1 h_MAX_WIDE.2.1 h_MAX_WIDE.2.2) dv_nil))))))
  · exact F.binds (ps := ["value"]) fun _ _ _ _ _ _ us hl => match us, hl with | [_], _ => rfl
  · exact fun q hq => by simp at hq
def m_p_step_text : M Fl :=
  (sRet (eOp2 dJoin (eC (.str " ")) (eL (nLc [1] (asQ (eVar 0)) (gN 1) (rtn true) (eCB dStrW (aCons (eVar 1) aNil))))))
def sem_p_step_text : FS := semOf (List.length (["step"] : List Str)) (List.length n_p_step_text) m_p_step_text
theorem fd_p_step_text (T : Txt K mg) : FnD P w K mg base 1 "step_text" ["step"] [] sem_p_step_text := by
  obtain ⟨f, fd, F, hm⟩ := T.f_p_step_text
  refine ⟨f, fd, fnD_of (m := m_p_step_text) F sc_p_step_text (fun cdv A outer s H E hr => ?_), hm, F.kp, ?_, ?_⟩
  · show XS _ _ _
    refine xs_one ?_
    · exact x_lf (ds_ret (k_join (K := K) de_str (DN.de (dn_lc (own := [("part", 1)]) rfl sc_p_step_text.nd (k_seq (K := K) (de_var 0)) (blkOk_by (own := [("part", 1)]) (N := n_p_step_text) (sc := defScope s_p_step_text) (by decide +kernel)) (fun _ _ _ _ _ => (dg_name 1 sc_p_step_text.nd)) (by decide) (fun _ _ _ _ _ => dts_nil) (fun _ _ _ _ _ => (de_Ty k_strW do_strW (by rfl) T.b_str (by decide +kernel) (da_cons (de_var 1) da_nil)))))))
  · exact F.binds (ps := ["step"]) fun _ _ _ _ _ _ us hl => match us, hl with | [_], _ => rfl
  · exact fun q hq => by simp at hq
def m_p_row_text : M Fl :=
  (sSeq (sAsg (eOp2 dAdd (eL (nLst (aCons (eOp2 dAdd (eC (.str "inputs ")) (eCB dStr (aCons (eOp2 dIx (eVar 0) (eC (.int 0))) aNil))) aNil))) (eL (nLc [2] (asQ (eOp2 dIx (eVar 0) (eC (.int 1)))) (gN 2) (rtn true) (eCallB [] sem_p_step_text (vDat (eVar 2) vNil))))) (gN 1))
    (sRet (eOp2 dJoin (eC (.str "\n")) (eOp2 dAdd (eVar 1) (eL (nLst (aCons (eOp2 dAdd (eC (.str "ends ")) (eOp2 dJoin (eC (.str " ")) (eL (nLc [3] (asQ (eOp2 dIx (eVar 0) (eC (.int 2)))) (gN 3) (rtn true) (eCB dStr (aCons (eVar 3) aNil)))))) aNil)))))))
def sem_p_row_text : FS := semOf (List.length (["row"] : List Str)) (List.length n_p_row_text) m_p_row_text
theorem fd_p_row_text (T : Txt K mg) : FnD P w K mg base 2 "row_text" ["row"] [] sem_p_row_text := by
  obtain ⟨f, fd, F, hm⟩ := T.f_p_row_text
  refine ⟨f, fd, fnD_of (m := m_p_row_text) F sc_p_row_text (fun cdv A outer s H E hr => ?_), hm, F.kp, ?_, ?_⟩
  · show XS _ _ _
    refine xs_cons ?_ ?_
    · exact x_lf (ds_asg (de_bin (k_add (K := K)) do_add (DN.de (dn_lst (da_cons (de_bin (k_add (K := K)) do_add de_str (de_Ty call_str_int do_str (by rfl) T.b_str (by decide +kernel) (da_cons (k_ix (K := K) (de_var 0) de_int) da_nil))) da_nil))) (DN.de (dn_lc (own := [("step", 2)]) rfl sc_p_row_text.nd (k_seq (K := K) (k_ix (K := K) (de_var 0) de_int)) (blkOk_by (own := [("step", 2)]) (N := n_p_row_text) (sc := defScope s_p_row_text) (by decide +kernel)) (fun _ _ _ _ _ => (dg_name 2 sc_p_row_text.nd)) (by decide) (fun _ _ _ _ _ => dts_nil) (fun _ _ _ _ _ => (k_call (K := K) (B := []) (fd_p_step_text T) (hr.mono (by omega)) (by rfl) (dv_dat (de_var 2) dv_nil)))))) (dg_name 1 sc_p_row_text.nd))
    refine xs_one ?_
    · exact x_lf (ds_ret (k_join (K := K) de_str (de_bin (k_add (K := K)) do_add (de_var 1) (DN.de (dn_lst (da_cons (de_bin (k_add (K := K)) do_add de_str (k_join (K := K) de_str (DN.de (dn_lc (own := [("end", 3)]) rfl sc_p_row_text.nd (k_seq (K := K) (k_ix (K := K) (de_var 0) de_int)) (blkOk_by (own := [("end", 3)]) (N := n_p_row_text) (sc := defScope s_p_row_text) (by decide +kernel)) (fun _ _ _ _ _ => (dg_name 3 sc_p_row_text.nd)) (by decide) (fun _ _ _ _ _ => dts_nil) (fun _ _ _ _ _ => (de_Ty call_str_int do_str (by rfl) T.b_str (by decide +kernel) (da_cons (de_var 3) da_nil))))))) da_nil))))))
  · exact F.binds (ps := ["row"]) fun _ _ _ _ _ _ us hl => match us, hl with | [_], _ => rfl
  · exact fun q hq => by simp at hq
def m_p_number_of : M Fl :=
  (sSeq (sAsg (eIf (tV (eOp2 dEq (eSlS (eVar 0) oN (oS (eC (.int 1)))) (eC (.str "-")))) (eSlS (eVar 0) (oS (eC (.int 1))) oN) (eVar 0)) (gN 1))
    (sSeq (sIf (tOrM (tV (eOp2 dEq (eVar 1) (eC (.str "")))) (tOrM (tV (eOp2 dGt (eCB dLen (aCons (eVar 1) aNil)) (eC (.int 21)))) (tNotM (tV (eCB dAll (aCons (eL (nLc [2] (asS (eVar 1)) (gN 2) (rtn true) (eOp2 dInC (eVar 2) (eC (.str "0123456789"))))) aNil))))))
      (sRet (eC .none))
      sNx)
    (sSeq (sIf (tOrM (tAndM (tV (eOp2 dGt (eCB dLen (aCons (eVar 1) aNil)) (eC (.int 1)))) (tV (eOp2 dEq (eOp2 dIxS (eVar 1) (eC (.int 0))) (eC (.str "0"))))) (tV (eOp2 dEq (eVar 0) (eC (.str "-0")))))
      (sRet (eC .none))
      sNx)
    (sRet (eCB dIntS (aCons (eVar 0) aNil))))))
def sem_p_number_of : FS := semOf (List.length (["word"] : List Str)) (List.length n_p_number_of) m_p_number_of
theorem fd_p_number_of (T : Txt K mg) : FnD P w K mg base 1 "number_of" ["word"] [] sem_p_number_of := by
  obtain ⟨f, fd, F, hm⟩ := T.f_p_number_of
  obtain ⟨v_FIGURES, u_FIGURES, h_FIGURES⟩ := T.c_FIGURES
  refine ⟨f, fd, fnD_of (m := m_p_number_of) F sc_p_number_of (fun cdv A outer s H E hr => ?_), hm, F.kp, ?_, ?_⟩
  · show XS _ _ _
    refine xs_cons ?_ ?_
    · exact x_lf (ds_asg (de_if (dt_cmp (k_eq (K := K) hr.units) do_eq (k_slS (de_var 0) do_none (do_some de_int)) de_str (nomark _)) (k_slS (de_var 0) (do_some de_int) do_none) (de_var 0)) (dg_name 1 sc_p_number_of.nd))
    refine xs_cons ?_ ?_
    · refine x_if (DW.pt (dw_or (dt_cmp (k_eq (K := K) hr.units) do_eq (de_var 1) de_str (nomark _)) (dw_or (dt_cmp (k_gt (K := K) hr.units) do_gt (de_B (k_len (K := K)) do_len (by rfl) T.b_len (by decide +kernel) (da_cons (de_var 1) da_nil)) de_int (nomark _)) (dw_or1 (dt_not (dt_val (de_B (k_all (K := K)) do_all (by rfl) T.b_all (by decide +kernel) (da_cons (DN.de (dn_lc (own := [("sign", 2)]) rfl sc_p_number_of.nd (k_signs (de_var 1)) (blkOk_by (own := [("sign", 2)]) (N := n_p_number_of) (sc := defScope s_p_number_of) (by decide +kernel)) (fun _ _ _ _ _ => (dg_name 2 sc_p_number_of.nd)) (by decide) (fun _ _ _ _ _ => dts_nil) (fun _ _ _ _ _ => (de_cmp k_inC do_inC (de_var 2) (de_glob (by rfl) h_FIGURES.1 h_FIGURES.2.1 h_FIGURES.2.2) (by rfl))))) da_nil)))))))) ?_ ?_
      · refine xs_one ?_
        · exact x_lf (ds_ret de_non)
      · exact xs_nil
    refine xs_cons ?_ ?_
    · refine x_if (DW.pt (dw_or (DW.pt (dw_and (dt_cmp (k_gt (K := K) hr.units) do_gt (de_B (k_len (K := K)) do_len (by rfl) T.b_len (by decide +kernel) (da_cons (de_var 1) da_nil)) de_int (nomark _)) (dw_and1 (dt_cmp (k_eq (K := K) hr.units) do_eq (k_ixS (K := K) (de_var 1) de_int) de_str (nomark _))))) (dw_or1 (dt_cmp (k_eq (K := K) hr.units) do_eq (de_var 0) de_str (nomark _))))) ?_ ?_
      · refine xs_one ?_
        · exact x_lf (ds_ret de_non)
      · exact xs_nil
    refine xs_one ?_
    · exact x_lf (ds_ret (de_Ty k_intS do_intS (by rfl) T.b_int (by decide +kernel) (da_cons (de_var 0) da_nil)))
  · exact F.binds (ps := ["word"]) fun _ _ _ _ _ _ us hl => match us, hl with | [_], _ => rfl
  · exact fun q hq => by simp at hq
def m_p_numbers_of : M Fl :=
  (sSeq (sAsg (eL (nLc [2] (asQ (eVar 0)) (gN 2) (rtn true) (eCallB [] sem_p_number_of (vDat (eVar 2) vNil)))) (gN 1))
    (sRet (eIf (tV (eOp2 dIn (eC .none) (eVar 1))) (eC .none) (eCB dTupleOf (aCons (eVar 1) aNil)))))
def sem_p_numbers_of : FS := semOf (List.length (["words"] : List Str)) (List.length n_p_numbers_of) m_p_numbers_of
theorem fd_p_numbers_of (T : Txt K mg) : FnD P w K mg base 2 "numbers_of" ["words"] [] sem_p_numbers_of := by
  obtain ⟨f, fd, F, hm⟩ := T.f_p_numbers_of
  refine ⟨f, fd, fnD_of (m := m_p_numbers_of) F sc_p_numbers_of (fun cdv A outer s H E hr => ?_), hm, F.kp, ?_, ?_⟩
  · show XS _ _ _
    refine xs_cons ?_ ?_
    · exact x_lf (ds_lcD 1 (own := [("word", 2)]) rfl sc_p_numbers_of.nd (k_seq (K := K) (de_var 0)) (blkOk_by (own := [("word", 2)]) (N := n_p_numbers_of) (sc := defScope s_p_numbers_of) (by decide +kernel)) (fun _ _ _ _ _ => (dg_name 2 sc_p_numbers_of.nd)) (by decide) (fun _ _ _ _ _ => dts_nil) (fun _ _ _ _ _ => (k_call (K := K) (B := []) (fd_p_number_of T) (hr.mono (by omega)) (by rfl) (dv_dat (de_var 2) dv_nil))) (sw_true rfl rfl rfl (by decide +kernel)))
    refine xs_one ?_
    · exact x_lf (ds_ret (de_if (dt_cmp (k_in (K := K)) do_in de_non (de_var 1) (by rfl)) de_non (de_Ty (k_tupleOf (K := K)) do_tupleOf (by rfl) T.b_tuple (by decide +kernel) (da_cons (de_var 1) da_nil))))
  · exact F.binds (ps := ["words"]) fun _ _ _ _ _ _ us hl => match us, hl with | [_], _ => rfl
  · exact fun q hq => by simp at hq
def m_p_read_step : M Fl :=
  (sSeq (sAsg (eOp2 dSplit (eVar 0) (eC (.str " "))) (gN 1))
    (sSeq (sAsg (eDisp (prCons (eC (.str "in")) (eC (.int 1)) (prCons (eC (.str "set")) (eC (.int 1)) (prCons (eC (.str "neg")) (eC (.int 1)) (prCons (eC (.str "+")) (eC (.int 2)) (prCons (eC (.str "-")) (eC (.int 2)) (prCons (eC (.str "*")) (eC (.int 2)) prNil))))))) (gN 2))
    (sSeq (sAsg (eCallB [] sem_p_numbers_of (vDat (eSl (eVar 1) (oS (eC (.int 1))) oN) vNil)) (gN 3))
    (sSeq (sIf (tOrM (tV (eOp2 dDNotIn (eOp2 dIx (eVar 1) (eC (.int 0))) (eVar 2))) (tOrM (tV (eOp2 dIs (eVar 3) (eC .none))) (tV (eOp2 dNe (eCB dLen (aCons (eVar 3) aNil)) (eOp2 dDGet (eVar 2) (eOp2 dIx (eVar 1) (eC (.int 0))))))))
      (sRet (eC .none))
      sNx)
    (sRet (eOp2 dAdd (eTup (aCons (eOp2 dIx (eVar 1) (eC (.int 0))) aNil)) (eVar 3)))))))
def sem_p_read_step : FS := semOf (List.length (["line"] : List Str)) (List.length n_p_read_step) m_p_read_step
theorem fd_p_read_step (T : Txt K mg) : FnD P w K mg base 3 "read_step" ["line"] [] sem_p_read_step := by
  obtain ⟨f, fd, F, hm⟩ := T.f_p_read_step
  refine ⟨f, fd, fnD_of (m := m_p_read_step) F sc_p_read_step (fun cdv A outer s H E hr => ?_), hm, F.kp, ?_, ?_⟩
  · show XS _ _ _
    refine xs_cons ?_ ?_
    · exact x_lf (ds_asg (k_split (de_var 0) de_str) (dg_name 1 sc_p_read_step.nd))
    refine xs_cons ?_ ?_
    · exact x_lf (ds_asg (de_disp (dpr_cons de_str de_int (dpr_cons de_str de_int (dpr_cons de_str de_int (dpr_cons de_str de_int (dpr_cons de_str de_int (dpr_cons de_str de_int dpr_nil))))))) (dg_name 2 sc_p_read_step.nd))
    refine xs_cons ?_ ?_
    · exact x_lf (ds_asg (k_call (K := K) (B := []) (fd_p_numbers_of T) (hr.mono (by omega)) (by rfl) (dv_dat (k_sl (K := K) (de_var 1) (do_some de_int) do_none) dv_nil)) (dg_name 3 sc_p_read_step.nd))
    refine xs_cons ?_ ?_
    · refine x_if (DW.pt (dw_or (dt_dnotIn (un1 hr.units) (k_ix (K := K) (de_var 1) de_int) (de_var 2) (by rfl)) (dw_or (dt_cmp op_isN do_is (de_var 3) de_non (nomark _)) (dw_or1 (dt_cmp (k_ne (K := K) hr.units) do_ne (de_B (k_len (K := K)) do_len (by rfl) T.b_len (by decide +kernel) (da_cons (de_var 3) da_nil)) (de_dget (un1 hr.units) (de_var 2) (k_ix (K := K) (de_var 1) de_int)) (nomark _)))))) ?_ ?_
      · refine xs_one ?_
        · exact x_lf (ds_ret de_non)
      · exact xs_nil
    refine xs_one ?_
    · exact x_lf (ds_ret (de_bin (k_add (K := K)) do_add (de_tup (da_cons (k_ix (K := K) (de_var 1) de_int) da_nil)) (de_var 3)))
  · exact F.binds (ps := ["line"]) fun _ _ _ _ _ _ us hl => match us, hl with | [_], _ => rfl
  · exact fun q hq => by simp at hq
def m_p_read_head : M Fl :=
  (sSeq (sAsg (eOp2 dSplit (eVar 0) (eC (.str " "))) (gN 1))
    (sSeq (sAsg (eCallB [] sem_p_numbers_of (vDat (eSl (eVar 1) (oS (eC (.int 1))) oN) vNil)) (gN 2))
    (sRet (eIf (tAndM (tV (eOp2 dEq (eOp2 dIx (eVar 1) (eC (.int 0))) (eC (.str "inputs")))) (tAndM (tV (eOp2 dIsNot (eVar 2) (eC .none))) (tV (eOp2 dEq (eCB dLen (aCons (eVar 2) aNil)) (eC (.int 1)))))) (eOp2 dIx (eVar 2) (eC (.int 0))) (eC .none)))))
def sem_p_read_head : FS := semOf (List.length (["line"] : List Str)) (List.length n_p_read_head) m_p_read_head
theorem fd_p_read_head (T : Txt K mg) : FnD P w K mg base 3 "read_head" ["line"] [] sem_p_read_head := by
  obtain ⟨f, fd, F, hm⟩ := T.f_p_read_head
  refine ⟨f, fd, fnD_of (m := m_p_read_head) F sc_p_read_head (fun cdv A outer s H E hr => ?_), hm, F.kp, ?_, ?_⟩
  · show XS _ _ _
    refine xs_cons ?_ ?_
    · exact x_lf (ds_asg (k_split (de_var 0) de_str) (dg_name 1 sc_p_read_head.nd))
    refine xs_cons ?_ ?_
    · exact x_lf (ds_asg (k_call (K := K) (B := []) (fd_p_numbers_of T) (hr.mono (by omega)) (by rfl) (dv_dat (k_sl (K := K) (de_var 1) (do_some de_int) do_none) dv_nil)) (dg_name 2 sc_p_read_head.nd))
    refine xs_one ?_
    · exact x_lf (ds_ret (de_if (DW.pt (dw_and (dt_cmp (k_eq (K := K) hr.units) do_eq (k_ix (K := K) (de_var 1) de_int) de_str (nomark _)) (dw_and (dt_cmp op_notN do_isNot (de_var 2) de_non (nomark _)) (dw_and1 (dt_cmp (k_eq (K := K) hr.units) do_eq (de_B (k_len (K := K)) do_len (by rfl) T.b_len (by decide +kernel) (da_cons (de_var 2) da_nil)) de_int (nomark _)))))) (k_ix (K := K) (de_var 2) de_int) de_non))
  · exact F.binds (ps := ["line"]) fun _ _ _ _ _ _ us hl => match us, hl with | [_], _ => rfl
  · exact fun q hq => by simp at hq
def m_p_read_ends : M Fl :=
  (sSeq (sAsg (eOp2 dSplit (eVar 0) (eC (.str " "))) (gN 1))
    (sRet (eIf (tAndM (tV (eOp2 dEq (eOp2 dIx (eVar 1) (eC (.int 0))) (eC (.str "ends")))) (tV (eOp2 dGt (eCB dLen (aCons (eVar 1) aNil)) (eC (.int 1))))) (eCallB [] sem_p_numbers_of (vDat (eSl (eVar 1) (oS (eC (.int 1))) oN) vNil)) (eC .none))))
def sem_p_read_ends : FS := semOf (List.length (["line"] : List Str)) (List.length n_p_read_ends) m_p_read_ends
theorem fd_p_read_ends (T : Txt K mg) : FnD P w K mg base 3 "read_ends" ["line"] [] sem_p_read_ends := by
  obtain ⟨f, fd, F, hm⟩ := T.f_p_read_ends
  refine ⟨f, fd, fnD_of (m := m_p_read_ends) F sc_p_read_ends (fun cdv A outer s H E hr => ?_), hm, F.kp, ?_, ?_⟩
  · show XS _ _ _
    refine xs_cons ?_ ?_
    · exact x_lf (ds_asg (k_split (de_var 0) de_str) (dg_name 1 sc_p_read_ends.nd))
    refine xs_one ?_
    · exact x_lf (ds_ret (de_if (DW.pt (dw_and (dt_cmp (k_eq (K := K) hr.units) do_eq (k_ix (K := K) (de_var 1) de_int) de_str (nomark _)) (dw_and1 (dt_cmp (k_gt (K := K) hr.units) do_gt (de_B (k_len (K := K)) do_len (by rfl) T.b_len (by decide +kernel) (da_cons (de_var 1) da_nil)) de_int (nomark _))))) (k_call (K := K) (B := []) (fd_p_numbers_of T) (hr.mono (by omega)) (by rfl) (dv_dat (k_sl (K := K) (de_var 1) (do_some de_int) do_none) dv_nil)) de_non))
  · exact F.binds (ps := ["line"]) fun _ _ _ _ _ _ us hl => match us, hl with | [_], _ => rfl
  · exact fun q hq => by simp at hq
theorem fd_p_BadText_init (T : Txt K mg) : ErB P w K mg base 1 "BadText" "place" := by
  obtain ⟨C, fI, fd, F, hm, hn, hx, hno, hi, ht⟩ := T.i_BadText
  refine ⟨C, fI, fd, hm, hn, hx, hno, hi, ht, ?_, F.binds (ps := ["self", "place"]) fun _ _ _ _ _ _ us hl => match us, hl with | [_, _], _ => rfl⟩
  refine F.ok sc_p_BadText_init (fun vs H Q E h => ?_) (fun cdv A outer s H vs Q E hr h => ?_)
  · obtain ⟨a, C2, y, rfl, _⟩ := h
    rfl
  · obtain ⟨a, C2, y, rfl, h1, h2, h3, q⟩ := h
    refine ⟨_, pss_one (ps_ost (pv 0) (pv 1)), ?_⟩
    exact ⟨y, rfl, .ref a, rfl, a, C2, rfl, h1, h2, .inl ⟨h3, fun dx n1 n2 => q dx n1 n2⟩⟩
theorem fd_p_BadRow_init (T : Txt K mg) : ErB P w K mg base 1 "BadRow" "error" := by
  obtain ⟨C, fI, fd, F, hm, hn, hx, hno, hi, ht⟩ := T.i_BadRow
  refine ⟨C, fI, fd, hm, hn, hx, hno, hi, ht, ?_, F.binds (ps := ["self", "error"]) fun _ _ _ _ _ _ us hl => match us, hl with | [_, _], _ => rfl⟩
  refine F.ok sc_p_BadRow_init (fun vs H Q E h => ?_) (fun cdv A outer s H vs Q E hr h => ?_)
  · obtain ⟨a, C2, y, rfl, _⟩ := h
    rfl
  · obtain ⟨a, C2, y, rfl, h1, h2, h3, q⟩ := h
    refine ⟨_, pss_one (ps_ost (pv 0) (pv 1)), ?_⟩
    exact ⟨y, rfl, .ref a, rfl, a, C2, rfl, h1, h2, .inl ⟨h3, fun dx n1 n2 => q dx n1 n2⟩⟩
def m_p_read_row : MX Fl :=
  (xSeq (xIf (tNotM (tV (eIsi "str" (eVar 0))))
      (xRaiseF "BadText" "place" (eC .none))
      (xLf sNx))
    (xSeq (xLf (sAsg (eOp2 dSplit (eVar 0) (eC (.str "\n"))) (gN 1)))
    (xSeq (xLf (sPar 2 3 (pDat (eCallB [] sem_p_read_head (vDat (eOp2 dIx (eVar 1) (eC (.int 0))) vNil)) (pNew (nLst aNil) pNil))))
    (xSeq (xIf (tV (eOp2 dIs (eVar 2) (eC .none)))
      (xRaiseF "BadText" "place" (eC (.int 0)))
      (xLf sNx))
    (xSeq (xFor (rgW (aCons (eC (.int 1)) (aCons (eOp2 dSub (eCB dLen (aCons (eVar 1) aNil)) (eC (.int 1))) aNil))) (gN 4)
      (xSeq (xLf (sAsg (eCallB [] sem_p_read_step (vDat (eOp2 dIx (eVar 1) (eVar 4)) vNil)) (gN 5)))
        (xSeq (xIf (tV (eOp2 dIs (eVar 5) (eC .none)))
          (xRaiseF "BadText" "place" (eVar 4))
          (xLf sNx))
        (xLf (sApp 3 (eVar 5))))))
    (xSeq (xLf (sAsg (eIf (tV (eOp2 dGt (eCB dLen (aCons (eVar 1) aNil)) (eC (.int 1)))) (eCallB [] sem_p_read_ends (vDat (eOp2 dIx (eVar 1) (eOp1 dNeg (eC (.int 1)))) vNil)) (eC .none)) (gN 6)))
    (xSeq (xIf (tV (eOp2 dIs (eVar 6) (eC .none)))
      (xRaiseF "BadText" "place" (eCB dMax2 (aCons (eC (.int 1)) (aCons (eOp2 dSub (eCB dLen (aCons (eVar 1) aNil)) (eC (.int 1))) aNil))))
      (xLf sNx))
    (xSeq (xLf (sAsg (eTup (aCons (eVar 2) (aCons (eCB dTupleOf (aCons (eGive 3) aNil)) (aCons (eVar 6) aNil)))) (gN 7)))
    (xSeq (xLf (sAsg (eCallB [] sem_p_long_error (vDat (eVar 7) vNil)) (gN 8)))
    (xSeq (xIf (tV (eOp2 dIsNot (eVar 8) (eC .none)))
      (xRaiseF "BadRow" "error" (eVar 8))
      (xLf sNx))
    (xLf (sRet (eVar 7)))))))))))))
def sem_p_read_row : FSX := semOX (List.length (["value"] : List Str)) (List.length n_p_read_row) m_p_read_row
theorem fd_p_read_row (T : Txt K mg) : FnX P w K mg base 5 "read_row" ["value"] [] sem_p_read_row := by
  obtain ⟨f, fd, F, hm⟩ := T.f_p_read_row
  refine ⟨f, fd, fnX_of' (m := m_p_read_row) F sc_p_read_row (fun cdv A outer s H E hr tk => ?_), hm, F.kp, ?_, ?_⟩
  · show XSX _ _ _ _
    refine xx_cons ?_ ?_
    · refine xx_if (dt_not (dt_val (k_isi (K := K) "str" (by decide) (by rfl) T.b_isinstance (by decide +kernel) (de_var 0) (by rfl) T.b_str (by decide +kernel)))) ?_ ?_
      · refine xx_one ?_
        · exact xx_raiseF (fd_p_BadText_init T) tk (hr.mono (by omega)) de_non
      · refine xx_lfs ?_
        exact xs_nil
    refine xx_cons ?_ ?_
    · refine xx_lf ?_
      exact x_lf (ds_asg (k_split (de_var 0) de_str) (dg_name 1 sc_p_read_row.nd))
    refine xx_cons ?_ ?_
    · refine xx_lf ?_
      exact x_lf (ds_par 2 3 rfl sc_p_read_row.nd (dp_dat (k_call (K := K) (B := []) (fd_p_read_head T) (hr.mono (by omega)) (by rfl) (dv_dat (k_ix (K := K) (de_var 1) de_int) dv_nil)) (dp_new (dn_lst da_nil) dp_nil)))
    refine xx_cons ?_ ?_
    · refine xx_if (dt_cmp op_isN do_is (de_var 2) de_non (nomark _)) ?_ ?_
      · refine xx_one ?_
        · exact xx_raiseF (fd_p_BadText_init T) tk (hr.mono (by omega)) de_int
      · refine xx_lfs ?_
        exact xs_nil
    refine xx_cons ?_ ?_
    · refine xx_for (passes_of rfl) (k_rgW (by rfl) T.b_range (da_cons de_int (da_cons (de_bin op_sub do_sub (de_B (k_len (K := K)) do_len (by rfl) T.b_len (by decide +kernel) (da_cons (de_var 1) da_nil)) de_int) da_nil))) (dg_name 4 sc_p_read_row.nd) ?_
      · refine xx_cons ?_ ?_
        · refine xx_lf ?_
          exact x_lf (ds_asg (k_call (K := K) (B := []) (fd_p_read_step T) (hr.mono (by omega)) (by rfl) (dv_dat (k_ix (K := K) (de_var 1) (de_var 4)) dv_nil)) (dg_name 5 sc_p_read_row.nd))
        refine xx_cons ?_ ?_
        · refine xx_if (dt_cmp op_isN do_is (de_var 5) de_non (nomark _)) ?_ ?_
          · refine xx_one ?_
            · exact xx_raiseF (fd_p_BadText_init T) tk (hr.mono (by omega)) (de_var 4)
          · refine xx_lfs ?_
            exact xs_nil
        refine xx_lfs ?_
        refine xs_one ?_
        · exact x_lf (ds_append 3 (de_var 5))
    refine xx_cons ?_ ?_
    · refine xx_lf ?_
      exact x_lf (ds_asg (de_if (dt_cmp (k_gt (K := K) hr.units) do_gt (de_B (k_len (K := K)) do_len (by rfl) T.b_len (by decide +kernel) (da_cons (de_var 1) da_nil)) de_int (nomark _)) (k_call (K := K) (B := []) (fd_p_read_ends T) (hr.mono (by omega)) (by rfl) (dv_dat (k_ix (K := K) (de_var 1) (de_neg de_int)) dv_nil)) de_non) (dg_name 6 sc_p_read_row.nd))
    refine xx_cons ?_ ?_
    · refine xx_if (dt_cmp op_isN do_is (de_var 6) de_non (nomark _)) ?_ ?_
      · refine xx_one ?_
        · exact xx_raiseF (fd_p_BadText_init T) tk (hr.mono (by omega)) (de_B (call_max2 rfl) do_max2 (by rfl) T.b_max (by decide +kernel) (da_cons de_int (da_cons (de_bin op_sub do_sub (de_B (k_len (K := K)) do_len (by rfl) T.b_len (by decide +kernel) (da_cons (de_var 1) da_nil)) de_int) da_nil)))
      · refine xx_lfs ?_
        exact xs_nil
    refine xx_cons ?_ ?_
    · refine xx_lf ?_
      exact x_lf (ds_asg (de_tup (da_cons (de_var 2) (da_cons (de_Ty (k_tupleOf (K := K)) do_tupleOf (by rfl) T.b_tuple (by decide +kernel) (da_cons (de_give 3) da_nil)) (da_cons (de_var 6) da_nil)))) (dg_name 7 sc_p_read_row.nd))
    refine xx_cons ?_ ?_
    · refine xx_lf ?_
      exact x_lf (ds_asg (k_call (K := K) (B := []) (fd_p_long_error T) (hr.mono (by omega)) (by rfl) (dv_dat (de_var 7) dv_nil)) (dg_name 8 sc_p_read_row.nd))
    refine xx_cons ?_ ?_
    · refine xx_if (dt_cmp op_notN do_isNot (de_var 8) de_non (nomark _)) ?_ ?_
      · refine xx_one ?_
        · exact xx_raiseF (fd_p_BadRow_init T) tk (hr.mono (by omega)) (de_var 8)
      · refine xx_lfs ?_
        exact xs_nil
    refine xx_lfs ?_
    refine xs_one ?_
    · exact x_lf (ds_ret (de_var 7))
  · exact F.binds (ps := ["value"]) fun _ _ _ _ _ _ us hl => match us, hl with | [_], _ => rfl
  · exact fun q hq => by simp at hq
theorem fd_l_draw (T : Txt K mg) : FnD P w K mg base 1 "_law_draw" ["_law_deck_here", "_law_many"] [] drawSem := by
  obtain ⟨f, fd, F, hm⟩ := T.f_l_draw
  exact ⟨f, fd, ok_draw F T.b_int T.b_len, hm, F.kp, F.binds (ps := ["_law_deck_here", "_law_many"]) fun _ _ _ _ _ _ us hl => match us, hl with | [_, _], _ => rfl, fun q hq => by simp at hq
⟩
abbrev sem_l_draw : FS := drawSem
def m_l_one : M Fl :=
  (sRet (eOp2 dIx (eVar 1) (eCallB [] sem_l_draw (vDeck 0 (vDat (eCB dLen (aCons (eVar 1) aNil)) vNil)))))
def sem_l_one : FS := semOf (List.length (["_law_deck_here", "_law_items"] : List Str)) (List.length n_l_one) m_l_one
theorem fd_l_one (T : Txt K mg) : FnD P w K mg base 2 "_law_one" ["_law_deck_here", "_law_items"] [] sem_l_one := by
  obtain ⟨f, fd, F, hm⟩ := T.f_l_one
  refine ⟨f, fd, fnD_of (m := m_l_one) F sc_l_one (fun cdv A outer s H E hr => ?_), hm, F.kp, ?_, ?_⟩
  · show XS _ _ _
    refine xs_one ?_
    · exact x_lf (ds_ret (k_ix (K := K) (de_var 1) (k_call (K := K) (B := []) (fd_l_draw T) (hr.mono (by omega)) (by rfl) (dv_deck 0 (dv_dat (de_B (k_len (K := K)) do_len (by rfl) T.b_len (by decide +kernel) (da_cons (de_var 1) da_nil)) dv_nil)))))
  · exact F.binds (ps := ["_law_deck_here", "_law_items"]) fun _ _ _ _ _ _ us hl => match us, hl with | [_, _], _ => rfl
  · exact fun q hq => by simp at hq
def m_l_whole : M Fl :=
  (sRet (eAnd (eIsi "int" (eVar 0)) (eAnd (eNot (eIsi "bool" (eVar 0))) (eChain dLe dLe (eVar 1) (eVar 0) (eVar 2)))))
def sem_l_whole : FS := semOf (List.length (["_law_value", "_law_least", "_law_most"] : List Str)) (List.length n_l_whole) m_l_whole
theorem fd_l_whole (T : Txt K mg) : FnD P w K mg base 1 "_law_whole" ["_law_value", "_law_least", "_law_most"] [] sem_l_whole := by
  obtain ⟨f, fd, F, hm⟩ := T.f_l_whole
  refine ⟨f, fd, fnD_of (m := m_l_whole) F sc_l_whole (fun cdv A outer s H E hr => ?_), hm, F.kp, ?_, ?_⟩
  · show XS _ _ _
    refine xs_one ?_
    · exact x_lf (ds_ret (de_and (k_isi (K := K) "int" (by decide) (by rfl) T.b_isinstance (by decide +kernel) (de_var 0) (by rfl) T.b_int (by decide +kernel)) (de_and (de_not (k_isi (K := K) "bool" (by decide) (by rfl) T.b_isinstance (by decide +kernel) (de_var 0) (by rfl) T.b_bool (by decide +kernel))) (de_one (de_chain (k_le (K := K) hr.units) (k_le (K := K) hr.units) do_le do_le (de_var 1) (de_var 0) (de_var 2))))))
  · exact F.binds (ps := ["_law_value", "_law_least", "_law_most"]) fun _ _ _ _ _ _ us hl => match us, hl with | [_, _, _], _ => rfl
  · exact fun q hq => by simp at hq
def m_l_odd : M Fl :=
  (sSeq (sAsg (eL (nLst (aCons (eC .none) (aCons (eC (.bool true)) (aCons (eC (.bool false)) (aCons (eC (.int 0)) (aCons (eC (.int 1)) (aCons (eC (.int 2)) (aCons (eOp1 dNeg (eC (.int 1))) (aCons (eOp2 dPow (eC (.int 10)) (eC (.int 30))) (aCons (eC (.str "")) (aCons (eC (.str "0")) (aCons (eC (.str "in")) (aCons (eTup aNil) (aCons (eL (nLst aNil)) (aCons (eC (.dict [])) (aCons (eTup (aCons (eC (.int 0)) aNil)) (aCons (eTup (aCons (eC (.int 1)) aNil)) (aCons (eTup (aCons (eC (.int 0)) (aCons (eC (.int 1)) aNil))) (aCons (eTup (aCons (eC (.bool true)) (aCons (eC (.int 0)) aNil))) (aCons (eL (nLst (aCons (eC (.int 0)) aNil))) aNil))))))))))))))))))))) (gN 1))
    (sSeq (sAsg (eOp2 dAdd (eVar 1) (eL (nLst (aCons (eTup (aCons (eC (.str "in")) (aCons (eC (.int 0)) aNil))) (aCons (eTup (aCons (eC (.str "set")) (aCons (eC (.int 1)) aNil))) (aCons (eTup (aCons (eC (.str "neg")) (aCons (eC (.int 0)) aNil))) (aCons (eTup (aCons (eC (.str "+")) (aCons (eC (.int 0)) (aCons (eC (.int 0)) aNil)))) (aCons (eTup (aCons (eC (.str "*")) (aCons (eC (.int 0)) aNil))) (aCons (eTup (aCons (eC (.str "in")) (aCons (eC (.bool true)) aNil))) (aCons (eTup (aCons (eC (.str "+")) (aCons (eC (.int 0)) (aCons (eOp1 dNeg (eC (.int 1))) aNil)))) (aCons (eTup (aCons (eC (.str "/")) (aCons (eC (.int 0)) (aCons (eC (.int 0)) aNil)))) aNil))))))))))) (gN 1))
    (sRet (eCallB [] sem_l_one (vDeck 0 (vDat (eOp2 dAdd (eVar 1) (eL (nLst (aCons (eTup (aCons (eC .none) aNil)) (aCons (eTup (aCons (eOp1 dNeg (eC (.int 1))) aNil)) (aCons (eTup (aCons (eC (.int 1)) (aCons (eTup (aCons (eTup (aCons (eC (.str "in")) (aCons (eC (.int 0)) aNil))) aNil)) (aCons (eTup (aCons (eC (.int 0)) aNil)) aNil)))) (aCons (eTup (aCons (eC (.int 0)) (aCons (eTup aNil) (aCons (eTup aNil) aNil)))) (aCons (eTup (aCons (eTup (aCons (eC (.int 0)) aNil)) (aCons (eC (.int 1)) aNil))) (aCons (eTup (aCons (eC (.str "in")) aNil)) (aCons (eC (.int 64)) (aCons (eC (.int 65)) aNil))))))))))) vNil))))))
def sem_l_odd : FS := semOf (List.length (["_law_deck_here"] : List Str)) (List.length n_l_odd) m_l_odd
theorem fd_l_odd (T : Txt K mg) : FnD P w K mg base 3 "_law_odd" ["_law_deck_here"] [] sem_l_odd := by
  obtain ⟨f, fd, F, hm⟩ := T.f_l_odd
  refine ⟨f, fd, fnD_of (m := m_l_odd) F sc_l_odd (fun cdv A outer s H E hr => ?_), hm, F.kp, ?_, ?_⟩
  · show XS _ _ _
    refine xs_cons ?_ ?_
    · exact x_lf (ds_asg (DN.de (dn_lst (da_cons de_non (da_cons de_bl (da_cons de_bl (da_cons de_int (da_cons de_int (da_cons de_int (da_cons (de_neg de_int) (da_cons (de_bin op_pow do_pow de_int de_int) (da_cons de_str (da_cons de_str (da_cons de_str (da_cons (de_tup da_nil) (da_cons (DN.de (dn_lst da_nil)) (da_cons de_dnew (da_cons (de_tup (da_cons de_int da_nil)) (da_cons (de_tup (da_cons de_int da_nil)) (da_cons (de_tup (da_cons de_int (da_cons de_int da_nil))) (da_cons (de_tup (da_cons de_bl (da_cons de_int da_nil))) (da_cons (DN.de (dn_lst (da_cons de_int da_nil))) da_nil))))))))))))))))))))) (dg_name 1 sc_l_odd.nd))
    refine xs_cons ?_ ?_
    · exact x_lf (ds_asg (de_bin (k_add (K := K)) do_add (de_var 1) (DN.de (dn_lst (da_cons (de_tup (da_cons de_str (da_cons de_int da_nil))) (da_cons (de_tup (da_cons de_str (da_cons de_int da_nil))) (da_cons (de_tup (da_cons de_str (da_cons de_int da_nil))) (da_cons (de_tup (da_cons de_str (da_cons de_int (da_cons de_int da_nil)))) (da_cons (de_tup (da_cons de_str (da_cons de_int da_nil))) (da_cons (de_tup (da_cons de_str (da_cons de_bl da_nil))) (da_cons (de_tup (da_cons de_str (da_cons de_int (da_cons (de_neg de_int) da_nil)))) (da_cons (de_tup (da_cons de_str (da_cons de_int (da_cons de_int da_nil)))) da_nil))))))))))) (dg_name 1 sc_l_odd.nd))
    refine xs_one ?_
    · exact x_lf (ds_ret (k_call (K := K) (B := []) (fd_l_one T) (hr.mono (by omega)) (by rfl) (dv_deck 0 (dv_dat (de_bin (k_add (K := K)) do_add (de_var 1) (DN.de (dn_lst (da_cons (de_tup (da_cons de_non da_nil)) (da_cons (de_tup (da_cons (de_neg de_int) da_nil)) (da_cons (de_tup (da_cons de_int (da_cons (de_tup (da_cons (de_tup (da_cons de_str (da_cons de_int da_nil))) da_nil)) (da_cons (de_tup (da_cons de_int da_nil)) da_nil)))) (da_cons (de_tup (da_cons de_int (da_cons (de_tup da_nil) (da_cons (de_tup da_nil) da_nil)))) (da_cons (de_tup (da_cons (de_tup (da_cons de_int da_nil)) (da_cons de_int da_nil))) (da_cons (de_tup (da_cons de_str da_nil)) (da_cons de_int (da_cons de_int da_nil))))))))))) dv_nil))))
  · exact F.binds (ps := ["_law_deck_here"]) fun _ _ _ _ _ _ us hl => match us, hl with | [_], _ => rfl
  · exact fun q hq => by simp at hq
def m_l_size : M Fl :=
  (sSeq (sIf (tV (eOp2 dIn (eOp2 dIx (eVar 0) (eC (.int 0))) (eTup (aCons (eC (.str "in")) (aCons (eC (.str "set")) aNil)))))
      (sRet (eC (.int 1)))
      sNx)
    (sSeq (sIf (tV (eOp2 dEq (eOp2 dIx (eVar 0) (eC (.int 0))) (eC (.str "neg"))))
      (sRet (eOp2 dIx (eVar 1) (eOp2 dIx (eVar 0) (eC (.int 1)))))
      sNx)
    (sRet (eIf (tV (eOp2 dEq (eOp2 dIx (eVar 0) (eC (.int 0))) (eC (.str "*")))) (eOp2 dAdd (eOp2 dIx (eVar 1) (eOp2 dIx (eVar 0) (eC (.int 1)))) (eOp2 dIx (eVar 1) (eOp2 dIx (eVar 0) (eC (.int 2))))) (eCB dMax2 (aCons (eCB dInt (aCons (eOp2 dIx (eVar 1) (eOp2 dIx (eVar 0) (eC (.int 1)))) aNil)) (aCons (eCB dInt (aCons (eOp2 dIx (eVar 1) (eOp2 dIx (eVar 0) (eC (.int 2)))) aNil)) aNil)))))))
def sem_l_size : FS := semOf (List.length (["_law_step", "_law_found_here"] : List Str)) (List.length n_l_size) m_l_size
theorem fd_l_size (T : Txt K mg) : FnD P w K mg base 1 "_law_size" ["_law_step", "_law_found_here"] [] sem_l_size := by
  obtain ⟨f, fd, F, hm⟩ := T.f_l_size
  refine ⟨f, fd, fnD_of (m := m_l_size) F sc_l_size (fun cdv A outer s H E hr => ?_), hm, F.kp, ?_, ?_⟩
  · show XS _ _ _
    refine xs_cons ?_ ?_
    · refine x_if (dt_cmp (k_in (K := K)) do_in (k_ix (K := K) (de_var 0) de_int) (de_tup (da_cons de_str (da_cons de_str da_nil))) (by rfl)) ?_ ?_
      · refine xs_one ?_
        · exact x_lf (ds_ret de_int)
      · exact xs_nil
    refine xs_cons ?_ ?_
    · refine x_if (dt_cmp (k_eq (K := K) hr.units) do_eq (k_ix (K := K) (de_var 0) de_int) de_str (nomark _)) ?_ ?_
      · refine xs_one ?_
        · exact x_lf (ds_ret (k_ix (K := K) (de_var 1) (k_ix (K := K) (de_var 0) de_int)))
      · exact xs_nil
    refine xs_one ?_
    · exact x_lf (ds_ret (de_if (dt_cmp (k_eq (K := K) hr.units) do_eq (k_ix (K := K) (de_var 0) de_int) de_str (nomark _)) (de_bin (k_add (K := K)) do_add (k_ix (K := K) (de_var 1) (k_ix (K := K) (de_var 0) de_int)) (k_ix (K := K) (de_var 1) (k_ix (K := K) (de_var 0) de_int))) (de_B (call_max2 rfl) do_max2 (by rfl) T.b_max (by decide +kernel) (da_cons (de_Ty call_int1 do_int (by rfl) T.b_int (by decide +kernel) (da_cons (k_ix (K := K) (de_var 1) (k_ix (K := K) (de_var 0) de_int)) da_nil)) (da_cons (de_Ty call_int1 do_int (by rfl) T.b_int (by decide +kernel) (da_cons (k_ix (K := K) (de_var 1) (k_ix (K := K) (de_var 0) de_int)) da_nil)) da_nil)))))
  · exact F.binds (ps := ["_law_step", "_law_found_here"]) fun _ _ _ _ _ _ us hl => match us, hl with | [_, _], _ => rfl
  · exact fun q hq => by simp at hq
def m_l_row : M Fl :=
  (sSeq (sPar 4 5 (pNew (nLst aNil) (pNew (nLst aNil) pNil)))
    (sSeq (sFor (rg1 (aCons (eOp2 dAdd (eC (.int 1)) (eCallB [] sem_l_draw (vDeck 0 (vDat (eVar 2) vNil)))) aNil)) (gN 6)
      (sSeq (sAsg (eCallB [] sem_l_one (vDeck 0 (vDat (eL (nLst (aCons (eC (.str "in")) (aCons (eC (.str "in")) (aCons (eC (.str "set")) (aCons (eC (.str "neg")) (aCons (eC (.str "+")) (aCons (eC (.str "+")) (aCons (eC (.str "-")) (aCons (eC (.str "-")) (aCons (eC (.str "*")) (aCons (eC (.str "*")) (aCons (eC (.str "*")) aNil))))))))))))) vNil))) (gN 7))
        (sSeq (sIf (tAndM (tV (eOp2 dLt (eVar 6) (eVar 1))) (tV (eOp2 dGt (eCallB [] sem_l_draw (vDeck 0 (vDat (eC (.int 4)) vNil))) (eC (.int 0)))))
          (sAsg (eC (.str "in")) (gN 7))
          sNx)
        (sSeq (sAsg (eTup (aCons (eC (.str "set")) (aCons (eOp2 dSub (eCallB [] sem_l_draw (vDeck 0 (vDat (eC (.int 9)) vNil))) (eC (.int 4))) aNil))) (gN 8))
        (sSeq (sIf (tAndM (tV (eOp2 dEq (eVar 7) (eC (.str "in")))) (tV (eOp2 dGt (eVar 1) (eC (.int 0)))))
          (sAsg (eTup (aCons (eC (.str "in")) (aCons (eIf (tV (eOp2 dLt (eVar 6) (eVar 1))) (eVar 6) (eCallB [] sem_l_draw (vDeck 0 (vDat (eVar 1) vNil)))) aNil))) (gN 8))
          sNx)
        (sSeq (sIf (tAndM (tV (eOp2 dEq (eVar 7) (eC (.str "neg")))) (tV (eOp2 dGt (eVar 6) (eC (.int 0)))))
          (sAsg (eTup (aCons (eC (.str "neg")) (aCons (eCallB [] sem_l_draw (vDeck 0 (vDat (eVar 6) vNil))) aNil))) (gN 8))
          sNx)
        (sSeq (sIf (tAndM (tV (eOp2 dIn (eVar 7) (eTup (aCons (eC (.str "+")) (aCons (eC (.str "-")) (aCons (eC (.str "*")) aNil)))))) (tV (eOp2 dGt (eVar 6) (eC (.int 0)))))
          (sAsg (eTup (aCons (eVar 7) (aCons (eCallB [] sem_l_draw (vDeck 0 (vDat (eVar 6) vNil))) (aCons (eOp2 dSub (eOp2 dSub (eVar 6) (eC (.int 1))) (eCallB [] sem_l_draw (vDeck 0 (vDat (eCB dMin2 (aCons (eVar 6) (aCons (eC (.int 3)) aNil))) vNil)))) aNil)))) (gN 8))
          sNx)
        (sSeq (sIf (tV (eOp2 dGt (eCallB [5] sem_l_size (vDat (eVar 8) (vBor 5 vNil))) (eVar 3)))
          (sAsg (eOp2 dAdd (eTup (aCons (eC (.str "+")) aNil)) (eSl (eVar 8) (oS (eC (.int 1))) oN)) (gN 8))
          sNx)
        (sSeq (sApp 4 (eVar 8))
        (sApp 5 (eCallB [5] sem_l_size (vDat (eVar 8) (vBor 5 vNil)))))))))))))
    (sSeq (sAsg (eOp2 dAdd (eL (nLst (aCons (eOp2 dSub (eBC dLen 4) (eC (.int 1))) aNil))) (eL (nLc [10] (rg1 (aCons (eCallB [] sem_l_draw (vDeck 0 (vDat (eC (.int 3)) vNil))) aNil)) (gN 10) (rtn true) (eCallB [] sem_l_draw (vDeck 0 (vDat (eBC dLen 4) vNil)))))) (gN 9))
    (sRet (eTup (aCons (eVar 1) (aCons (eCB dTupleOf (aCons (eGive 4) aNil)) (aCons (eCB dTupleOf (aCons (eVar 9) aNil)) aNil))))))))
def sem_l_row : FS := semOf (List.length (["_law_deck_here", "_law_inputs", "_law_many", "_law_most"] : List Str)) (List.length n_l_row) m_l_row
theorem fd_l_row (T : Txt K mg) : FnD P w K mg base 3 "_law_row" ["_law_deck_here", "_law_inputs", "_law_many", "_law_most"] [] sem_l_row := by
  obtain ⟨f, fd, F, hm⟩ := T.f_l_row
  refine ⟨f, fd, fnD_of (m := m_l_row) F sc_l_row (fun cdv A outer s H E hr => ?_), hm, F.kp, ?_, ?_⟩
  · show XS _ _ _
    refine xs_cons ?_ ?_
    · exact x_lf (k_parT (K := K) 4 5 sc_l_row.nd (dp_new (dn_lst da_nil) (dp_new (dn_lst da_nil) dp_nil)))
    refine xs_cons ?_ ?_
    · refine x_for (di_rg1 (by rfl) T.b_range (da_cons (de_bin (k_add (K := K)) do_add de_int (k_call (K := K) (B := []) (fd_l_draw T) (hr.mono (by omega)) (by rfl) (dv_deck 0 (dv_dat (de_var 2) dv_nil)))) da_nil)) (dg_name 6 sc_l_row.nd) ?_
      · refine xs_cons ?_ ?_
        · exact x_lf (ds_asg (k_call (K := K) (B := []) (fd_l_one T) (hr.mono (by omega)) (by rfl) (dv_deck 0 (dv_dat (DN.de (dn_lst (da_cons de_str (da_cons de_str (da_cons de_str (da_cons de_str (da_cons de_str (da_cons de_str (da_cons de_str (da_cons de_str (da_cons de_str (da_cons de_str (da_cons de_str da_nil))))))))))))) dv_nil))) (dg_name 7 sc_l_row.nd))
        refine xs_cons ?_ ?_
        · refine x_if (DW.pt (dw_and (dt_cmp (k_lt (K := K) hr.units) do_lt (de_var 6) (de_var 1) (nomark _)) (dw_and1 (dt_cmp (k_gt (K := K) hr.units) do_gt (k_call (K := K) (B := []) (fd_l_draw T) (hr.mono (by omega)) (by rfl) (dv_deck 0 (dv_dat de_int dv_nil))) de_int (nomark _))))) ?_ ?_
          · refine xs_one ?_
            · exact x_lf (ds_asg de_str (dg_name 7 sc_l_row.nd))
          · exact xs_nil
        refine xs_cons ?_ ?_
        · exact x_lf (ds_asg (de_tup (da_cons de_str (da_cons (de_bin op_sub do_sub (k_call (K := K) (B := []) (fd_l_draw T) (hr.mono (by omega)) (by rfl) (dv_deck 0 (dv_dat de_int dv_nil))) de_int) da_nil))) (dg_name 8 sc_l_row.nd))
        refine xs_cons ?_ ?_
        · refine x_if (DW.pt (dw_and (dt_cmp (k_eq (K := K) hr.units) do_eq (de_var 7) de_str (nomark _)) (dw_and1 (dt_cmp (k_gt (K := K) hr.units) do_gt (de_var 1) de_int (nomark _))))) ?_ ?_
          · refine xs_one ?_
            · exact x_lf (ds_asg (de_tup (da_cons de_str (da_cons (de_if (dt_cmp (k_lt (K := K) hr.units) do_lt (de_var 6) (de_var 1) (nomark _)) (de_var 6) (k_call (K := K) (B := []) (fd_l_draw T) (hr.mono (by omega)) (by rfl) (dv_deck 0 (dv_dat (de_var 1) dv_nil)))) da_nil))) (dg_name 8 sc_l_row.nd))
          · exact xs_nil
        refine xs_cons ?_ ?_
        · refine x_if (DW.pt (dw_and (dt_cmp (k_eq (K := K) hr.units) do_eq (de_var 7) de_str (nomark _)) (dw_and1 (dt_cmp (k_gt (K := K) hr.units) do_gt (de_var 6) de_int (nomark _))))) ?_ ?_
          · refine xs_one ?_
            · exact x_lf (ds_asg (de_tup (da_cons de_str (da_cons (k_call (K := K) (B := []) (fd_l_draw T) (hr.mono (by omega)) (by rfl) (dv_deck 0 (dv_dat (de_var 6) dv_nil))) da_nil))) (dg_name 8 sc_l_row.nd))
          · exact xs_nil
        refine xs_cons ?_ ?_
        · refine x_if (DW.pt (dw_and (dt_cmp (k_in (K := K)) do_in (de_var 7) (de_tup (da_cons de_str (da_cons de_str (da_cons de_str da_nil)))) (by rfl)) (dw_and1 (dt_cmp (k_gt (K := K) hr.units) do_gt (de_var 6) de_int (nomark _))))) ?_ ?_
          · refine xs_one ?_
            · exact x_lf (ds_asg (de_tup (da_cons (de_var 7) (da_cons (k_call (K := K) (B := []) (fd_l_draw T) (hr.mono (by omega)) (by rfl) (dv_deck 0 (dv_dat (de_var 6) dv_nil))) (da_cons (de_bin op_sub do_sub (de_bin op_sub do_sub (de_var 6) de_int) (k_call (K := K) (B := []) (fd_l_draw T) (hr.mono (by omega)) (by rfl) (dv_deck 0 (dv_dat (de_B (call_min2 rfl) do_min2 (by rfl) T.b_min (by decide +kernel) (da_cons (de_var 6) (da_cons de_int da_nil))) dv_nil)))) da_nil)))) (dg_name 8 sc_l_row.nd))
          · exact xs_nil
        refine xs_cons ?_ ?_
        · refine x_if (dt_cmp (k_gt (K := K) hr.units) do_gt (k_call (K := K) (B := [5]) (fd_l_size T) (hr.mono (by omega)) (by rfl) (dv_dat (de_var 8) (dv_bor 5 (by decide) dv_nil))) (de_var 3) (nomark _)) ?_ ?_
          · refine xs_one ?_
            · exact x_lf (ds_asg (de_bin (k_add (K := K)) do_add (de_tup (da_cons de_str da_nil)) (k_sl (K := K) (de_var 8) (do_some de_int) do_none)) (dg_name 8 sc_l_row.nd))
          · exact xs_nil
        refine xs_cons ?_ ?_
        · exact x_lf (ds_append 4 (de_var 8))
        refine xs_one ?_
        · exact x_lf (ds_append 5 (k_call (K := K) (B := [5]) (fd_l_size T) (hr.mono (by omega)) (by rfl) (dv_dat (de_var 8) (dv_bor 5 (by decide) dv_nil))))
    refine xs_cons ?_ ?_
    · exact x_lf (ds_asg (de_bin (k_add (K := K)) do_add (DN.de (dn_lst (da_cons (de_bin op_sub do_sub (de_bc 4 (k_len (K := K)) do_len (by rfl) T.b_len (by decide +kernel)) de_int) da_nil))) (DN.de (dn_lc (own := [("_law_k", 10)]) rfl sc_l_row.nd (di_rg1 (by rfl) T.b_range (da_cons (k_call (K := K) (B := []) (fd_l_draw T) (hr.mono (by omega)) (by rfl) (dv_deck 0 (dv_dat de_int dv_nil))) da_nil)) (blkOk_by (own := [("_law_k", 10)]) (N := n_l_row) (sc := defScope s_l_row) (by decide +kernel)) (fun _ _ _ _ _ => (dg_name 10 sc_l_row.nd)) (by decide) (fun _ _ _ _ _ => dts_nil) (fun _ _ _ _ _ => (k_call (K := K) (B := []) (fd_l_draw T) (hr.mono (by omega)) (by rfl) (dv_deck 0 (dv_dat (de_bc 4 (k_len (K := K)) do_len (by rfl) T.b_len (by decide +kernel)) dv_nil))))))) (dg_name 9 sc_l_row.nd))
    refine xs_one ?_
    · exact x_lf (ds_ret (de_tup (da_cons (de_var 1) (da_cons (de_Ty (k_tupleOf (K := K)) do_tupleOf (by rfl) T.b_tuple (by decide +kernel) (da_cons (de_give 4) da_nil)) (da_cons (de_Ty (k_tupleOf (K := K)) do_tupleOf (by rfl) T.b_tuple (by decide +kernel) (da_cons (de_var 9) da_nil)) da_nil)))))
  · exact F.binds (ps := ["_law_deck_here", "_law_inputs", "_law_many", "_law_most"]) fun _ _ _ _ _ _ us hl => match us, hl with | [_, _, _, _], _ => rfl
  · exact fun q hq => by simp at hq
def m_l_is_step : M Fl :=
  (sSeq (sIf (tOrM (tNotM (tV (eIsi "tuple" (eVar 0)))) (tOrM (tV (eOp2 dNotIn (eCB dLen (aCons (eVar 0) aNil)) (eTup (aCons (eC (.int 2)) (aCons (eC (.int 3)) aNil))))) (tNotM (tV (eIsi "str" (eOp2 dIx (eVar 0) (eC (.int 0))))))))
      (sRet (eC (.bool false)))
      sNx)
    (sSeq (sIf (tV (eOp2 dEq (eCB dLen (aCons (eVar 0) aNil)) (eC (.int 3))))
      (sRet (eAnd (eOp2 dIn (eOp2 dIx (eVar 0) (eC (.int 0))) (eTup (aCons (eC (.str "+")) (aCons (eC (.str "-")) (aCons (eC (.str "*")) aNil))))) (eOp2 dEq (eL (nLc [4] (asQ (eSl (eVar 0) (oS (eC (.int 1))) oN)) (gN 4) (tNotM (tV (eCallB [] sem_l_whole (vDat (eVar 4) (vDat (eC (.int 0)) (vDat (eOp2 dSub (eVar 2) (eC (.int 1))) vNil)))))) (eC (.int 1)))) (eL (nLst aNil)))))
      sNx)
    (sSeq (sAsg (eDisp (prCons (eC (.str "in")) (eTup (aCons (eC (.int 0)) (aCons (eOp2 dSub (eVar 1) (eC (.int 1))) aNil))) (prCons (eC (.str "set")) (eTup (aCons (eOp2 dSub (eC (.int 0)) (eOp2 dPow (eC (.int 10)) (eC (.int 20)))) (aCons (eOp2 dPow (eC (.int 10)) (eC (.int 20))) aNil))) (prCons (eC (.str "neg")) (eTup (aCons (eC (.int 0)) (aCons (eOp2 dSub (eVar 2) (eC (.int 1))) aNil))) prNil)))) (gN 3))
    (sRet (eAnd (eOp2 dDIn (eOp2 dIx (eVar 0) (eC (.int 0))) (eVar 3)) (eCallB [] sem_l_whole (vDat (eOp2 dIx (eVar 0) (eC (.int 1))) (vDat (eOp2 dIx (eOp2 dDGet (eVar 3) (eOp2 dIx (eVar 0) (eC (.int 0)))) (eC (.int 0))) (vDat (eOp2 dIx (eOp2 dDGet (eVar 3) (eOp2 dIx (eVar 0) (eC (.int 0)))) (eC (.int 1))) vNil)))))))))
def sem_l_is_step : FS := semOf (List.length (["_law_value", "_law_inputs", "_law_number"] : List Str)) (List.length n_l_is_step) m_l_is_step
theorem fd_l_is_step (T : Txt K mg) : FnD P w K mg base 2 "_law_is_step" ["_law_value", "_law_inputs", "_law_number"] [] sem_l_is_step := by
  obtain ⟨f, fd, F, hm⟩ := T.f_l_is_step
  refine ⟨f, fd, fnD_of (m := m_l_is_step) F sc_l_is_step (fun cdv A outer s H E hr => ?_), hm, F.kp, ?_, ?_⟩
  · show XS _ _ _
    refine xs_cons ?_ ?_
    · refine x_if (DW.pt (dw_or (dt_not (dt_val (k_isi (K := K) "tuple" (by decide) (by rfl) T.b_isinstance (by decide +kernel) (de_var 0) (by rfl) T.b_tuple (by decide +kernel)))) (dw_or (dt_cmp (k_notIn (K := K)) do_notIn (de_B (k_len (K := K)) do_len (by rfl) T.b_len (by decide +kernel) (da_cons (de_var 0) da_nil)) (de_tup (da_cons de_int (da_cons de_int da_nil))) (by rfl)) (dw_or1 (dt_not (dt_val (k_isi (K := K) "str" (by decide) (by rfl) T.b_isinstance (by decide +kernel) (k_ix (K := K) (de_var 0) de_int) (by rfl) T.b_str (by decide +kernel)))))))) ?_ ?_
      · refine xs_one ?_
        · exact x_lf (ds_ret de_bl)
      · exact xs_nil
    refine xs_cons ?_ ?_
    · refine x_if (dt_cmp (k_eq (K := K) hr.units) do_eq (de_B (k_len (K := K)) do_len (by rfl) T.b_len (by decide +kernel) (da_cons (de_var 0) da_nil)) de_int (nomark _)) ?_ ?_
      · refine xs_one ?_
        · exact x_lf (ds_ret (de_and (de_cmp (k_in (K := K)) do_in (k_ix (K := K) (de_var 0) de_int) (de_tup (da_cons de_str (da_cons de_str (da_cons de_str da_nil)))) (by rfl)) (de_one (de_cmp (k_eq (K := K) hr.units) do_eq (DN.de (dn_lc (own := [("_law_one_here", 4)]) rfl sc_l_is_step.nd (k_seq (K := K) (k_sl (K := K) (de_var 0) (do_some de_int) do_none)) (blkOk_by (own := [("_law_one_here", 4)]) (N := n_l_is_step) (sc := defScope s_l_is_step) (by decide +kernel)) (fun _ _ _ _ _ => (dg_name 4 sc_l_is_step.nd)) (by decide) (fun _ _ _ _ _ => (dts_one (dt_not (dt_val (k_call (K := K) (B := []) (fd_l_whole T) (hr.mono (by omega)) (by rfl) (dv_dat (de_var 4) (dv_dat de_int (dv_dat (de_bin op_sub do_sub (de_var 2) de_int) dv_nil)))))))) (fun _ _ _ _ _ => de_int))) (DN.de (dn_lst da_nil)) (nomark _)))))
      · exact xs_nil
    refine xs_cons ?_ ?_
    · exact x_lf (ds_asg (de_disp (dpr_cons de_str (de_tup (da_cons de_int (da_cons (de_bin op_sub do_sub (de_var 1) de_int) da_nil))) (dpr_cons de_str (de_tup (da_cons (de_bin op_sub do_sub de_int (de_bin op_pow do_pow de_int de_int)) (da_cons (de_bin op_pow do_pow de_int de_int) da_nil))) (dpr_cons de_str (de_tup (da_cons de_int (da_cons (de_bin op_sub do_sub (de_var 2) de_int) da_nil))) dpr_nil)))) (dg_name 3 sc_l_is_step.nd))
    refine xs_one ?_
    · exact x_lf (ds_ret (de_and (de_din (un1 hr.units) (k_ix (K := K) (de_var 0) de_int) (de_var 3) (by rfl)) (de_one (k_call (K := K) (B := []) (fd_l_whole T) (hr.mono (by omega)) (by rfl) (dv_dat (k_ix (K := K) (de_var 0) de_int) (dv_dat (k_ix (K := K) (de_dget (un1 hr.units) (de_var 3) (k_ix (K := K) (de_var 0) de_int)) de_int) (dv_dat (k_ix (K := K) (de_dget (un1 hr.units) (de_var 3) (k_ix (K := K) (de_var 0) de_int)) de_int) dv_nil)))))))
  · exact F.binds (ps := ["_law_value", "_law_inputs", "_law_number"]) fun _ _ _ _ _ _ us hl => match us, hl with | [_, _, _], _ => rfl
  · exact fun q hq => by simp at hq
def m_l_row_error : M Fl :=
  (sSeq (sIf (tOrM (tNotM (tV (eIsi "tuple" (eVar 0)))) (tV (eOp2 dNe (eCB dLen (aCons (eVar 0) aNil)) (eC (.int 3)))))
      (sRet (eTup (aCons (eC .none) (aCons (eC (.str "row")) aNil))))
      sNx)
    (sSeq (sIf (tNotM (tV (eCallB [] sem_l_whole (vDat (eOp2 dIx (eVar 0) (eC (.int 0))) (vDat (eC (.int 0)) (vDat (eVar 1) vNil))))))
      (sRet (eTup (aCons (eC .none) (aCons (eC (.str "inputs")) aNil))))
      sNx)
    (sSeq (sIf (tOrM (tNotM (tV (eIsi "tuple" (eOp2 dIx (eVar 0) (eC (.int 1)))))) (tNotM (tV (eChain dLe dLe (eC (.int 1)) (eCB dLen (aCons (eOp2 dIx (eVar 0) (eC (.int 1))) aNil)) (eVar 2)))))
      (sRet (eTup (aCons (eC .none) (aCons (eC (.str "steps")) aNil))))
      sNx)
    (sSeq (sNew 4 (nLst aNil))
    (sSeq (sFor (rg1 (aCons (eCB dLen (aCons (eOp2 dIx (eVar 0) (eC (.int 1))) aNil)) aNil)) (gN 5)
      (sSeq (sIf (tNotM (tV (eCallB [] sem_l_is_step (vDat (eOp2 dIx (eOp2 dIx (eVar 0) (eC (.int 1))) (eVar 5)) (vDat (eOp2 dIx (eVar 0) (eC (.int 0))) (vDat (eVar 5) vNil))))))
          (sRet (eTup (aCons (eVar 5) (aCons (eC (.str "step")) aNil))))
          sNx)
        (sSeq (sApp 4 (eCallB [4] sem_l_size (vDat (eOp2 dIx (eOp2 dIx (eVar 0) (eC (.int 1))) (eVar 5)) (vBor 4 vNil))))
        (sIf (tV (eOp2 dGt (eIxC 4 (eOp1 dNeg (eC (.int 1)))) (eC (.int 64))))
          (sRet (eTup (aCons (eVar 5) (aCons (eC (.str "size")) aNil))))
          sNx))))
    (sSeq (sIf (tOrM (tNotM (tV (eIsi "tuple" (eOp2 dIx (eVar 0) (eC (.int 2)))))) (tNotM (tV (eChain dLe dLe (eC (.int 1)) (eCB dLen (aCons (eOp2 dIx (eVar 0) (eC (.int 2))) aNil)) (eVar 3)))))
      (sRet (eTup (aCons (eC .none) (aCons (eC (.str "ends")) aNil))))
      sNx)
    (sRet (eIf (tV (eOp2 dNe (eL (nLc [6] (asQ (eOp2 dIx (eVar 0) (eC (.int 2)))) (gN 6) (tNotM (tV (eCallB [] sem_l_whole (vDat (eVar 6) (vDat (eC (.int 0)) (vDat (eOp2 dSub (eCB dLen (aCons (eOp2 dIx (eVar 0) (eC (.int 1))) aNil)) (eC (.int 1))) vNil)))))) (eC (.int 1)))) (eL (nLst aNil)))) (eTup (aCons (eC .none) (aCons (eC (.str "ends")) aNil))) (eC .none)))))))))
def sem_l_row_error : FS := semOf (List.length (["_law_value", "_law_inputs", "_law_steps", "_law_ends"] : List Str)) (List.length n_l_row_error) m_l_row_error
theorem fd_l_row_error (T : Txt K mg) : FnD P w K mg base 3 "_law_row_error" ["_law_value", "_law_inputs", "_law_steps", "_law_ends"] [] sem_l_row_error := by
  obtain ⟨f, fd, F, hm⟩ := T.f_l_row_error
  refine ⟨f, fd, fnD_of (m := m_l_row_error) F sc_l_row_error (fun cdv A outer s H E hr => ?_), hm, F.kp, ?_, ?_⟩
  · show XS _ _ _
    refine xs_cons ?_ ?_
    · refine x_if (DW.pt (dw_or (dt_not (dt_val (k_isi (K := K) "tuple" (by decide) (by rfl) T.b_isinstance (by decide +kernel) (de_var 0) (by rfl) T.b_tuple (by decide +kernel)))) (dw_or1 (dt_cmp (k_ne (K := K) hr.units) do_ne (de_B (k_len (K := K)) do_len (by rfl) T.b_len (by decide +kernel) (da_cons (de_var 0) da_nil)) de_int (nomark _))))) ?_ ?_
      · refine xs_one ?_
        · exact x_lf (ds_ret (de_tup (da_cons de_non (da_cons de_str da_nil))))
      · exact xs_nil
    refine xs_cons ?_ ?_
    · refine x_if (dt_not (dt_val (k_call (K := K) (B := []) (fd_l_whole T) (hr.mono (by omega)) (by rfl) (dv_dat (k_ix (K := K) (de_var 0) de_int) (dv_dat de_int (dv_dat (de_var 1) dv_nil)))))) ?_ ?_
      · refine xs_one ?_
        · exact x_lf (ds_ret (de_tup (da_cons de_non (da_cons de_str da_nil))))
      · exact xs_nil
    refine xs_cons ?_ ?_
    · refine x_if (DW.pt (dw_or (dt_not (dt_val (k_isi (K := K) "tuple" (by decide) (by rfl) T.b_isinstance (by decide +kernel) (k_ix (K := K) (de_var 0) de_int) (by rfl) T.b_tuple (by decide +kernel)))) (dw_or1 (dt_not (dt_chain (k_le (K := K) hr.units) (k_le (K := K) hr.units) do_le do_le de_int (de_B (k_len (K := K)) do_len (by rfl) T.b_len (by decide +kernel) (da_cons (k_ix (K := K) (de_var 0) de_int) da_nil)) (de_var 2)))))) ?_ ?_
      · refine xs_one ?_
        · exact x_lf (ds_ret (de_tup (da_cons de_non (da_cons de_str da_nil))))
      · exact xs_nil
    refine xs_cons ?_ ?_
    · exact x_lf (ds_new 4 (dn_lst da_nil) sc_l_row_error.nd)
    refine xs_cons ?_ ?_
    · refine x_for (di_rg1 (by rfl) T.b_range (da_cons (de_B (k_len (K := K)) do_len (by rfl) T.b_len (by decide +kernel) (da_cons (k_ix (K := K) (de_var 0) de_int) da_nil)) da_nil)) (dg_name 5 sc_l_row_error.nd) ?_
      · refine xs_cons ?_ ?_
        · refine x_if (dt_not (dt_val (k_call (K := K) (B := []) (fd_l_is_step T) (hr.mono (by omega)) (by rfl) (dv_dat (k_ix (K := K) (k_ix (K := K) (de_var 0) de_int) (de_var 5)) (dv_dat (k_ix (K := K) (de_var 0) de_int) (dv_dat (de_var 5) dv_nil)))))) ?_ ?_
          · refine xs_one ?_
            · exact x_lf (ds_ret (de_tup (da_cons (de_var 5) (da_cons de_str da_nil))))
          · exact xs_nil
        refine xs_cons ?_ ?_
        · exact x_lf (ds_append 4 (k_call (K := K) (B := [4]) (fd_l_size T) (hr.mono (by omega)) (by rfl) (dv_dat (k_ix (K := K) (k_ix (K := K) (de_var 0) de_int) (de_var 5)) (dv_bor 4 (by decide) dv_nil))))
        refine xs_one ?_
        · refine x_if (dt_cmp (k_gt (K := K) hr.units) do_gt (k_ixC (K := K) 4 (de_neg de_int)) de_int (nomark _)) ?_ ?_
          · refine xs_one ?_
            · exact x_lf (ds_ret (de_tup (da_cons (de_var 5) (da_cons de_str da_nil))))
          · exact xs_nil
    refine xs_cons ?_ ?_
    · refine x_if (DW.pt (dw_or (dt_not (dt_val (k_isi (K := K) "tuple" (by decide) (by rfl) T.b_isinstance (by decide +kernel) (k_ix (K := K) (de_var 0) de_int) (by rfl) T.b_tuple (by decide +kernel)))) (dw_or1 (dt_not (dt_chain (k_le (K := K) hr.units) (k_le (K := K) hr.units) do_le do_le de_int (de_B (k_len (K := K)) do_len (by rfl) T.b_len (by decide +kernel) (da_cons (k_ix (K := K) (de_var 0) de_int) da_nil)) (de_var 3)))))) ?_ ?_
      · refine xs_one ?_
        · exact x_lf (ds_ret (de_tup (da_cons de_non (da_cons de_str da_nil))))
      · exact xs_nil
    refine xs_one ?_
    · exact x_lf (ds_ret (de_if (dt_cmp (k_ne (K := K) hr.units) do_ne (DN.de (dn_lc (own := [("_law_end", 6)]) rfl sc_l_row_error.nd (k_seq (K := K) (k_ix (K := K) (de_var 0) de_int)) (blkOk_by (own := [("_law_end", 6)]) (N := n_l_row_error) (sc := defScope s_l_row_error) (by decide +kernel)) (fun _ _ _ _ _ => (dg_name 6 sc_l_row_error.nd)) (by decide) (fun _ _ _ _ _ => (dts_one (dt_not (dt_val (k_call (K := K) (B := []) (fd_l_whole T) (hr.mono (by omega)) (by rfl) (dv_dat (de_var 6) (dv_dat de_int (dv_dat (de_bin op_sub do_sub (de_B (k_len (K := K)) do_len (by rfl) T.b_len (by decide +kernel) (da_cons (k_ix (K := K) (de_var 0) de_int) da_nil)) de_int) dv_nil)))))))) (fun _ _ _ _ _ => de_int))) (DN.de (dn_lst da_nil)) (nomark _)) (de_tup (da_cons de_non (da_cons de_str da_nil))) de_non))
  · exact F.binds (ps := ["_law_value", "_law_inputs", "_law_steps", "_law_ends"]) fun _ _ _ _ _ _ us hl => match us, hl with | [_, _, _, _], _ => rfl
  · exact fun q hq => by simp at hq
def m_l_numbers : M Fl :=
  (sSeq (sNew 1 (nLst aNil))
    (sSeq (sFor (asQ (eVar 0)) (gN 2)
      (sSeq (sAsg (eIf (tV (eOp2 dEq (eSlS (eVar 2) oN (oS (eC (.int 1)))) (eC (.str "-")))) (eSlS (eVar 2) (oS (eC (.int 1))) oN) (eVar 2)) (gN 3))
        (sSeq (sIf (tOrM (tNotM (tV (eChain dLe dLe (eC (.int 1)) (eCB dLen (aCons (eVar 3) aNil)) (eC (.int 21))))) (tV (eOp2 dNe (eL (nLc [4] (asS (eVar 3)) (gN 4) (tV (eOp2 dNotInC (eVar 4) (eC (.str "0123456789")))) (eC (.int 1)))) (eL (nLst aNil)))))
          (sRet (eC .none))
          sNx)
        (sSeq (sIf (tOrM (tV (eOp2 dEq (eVar 2) (eC (.str "-0")))) (tAndM (tV (eOp2 dGt (eCB dLen (aCons (eVar 3) aNil)) (eC (.int 1)))) (tV (eOp2 dEq (eOp2 dIxS (eVar 3) (eC (.int 0))) (eC (.str "0"))))))
          (sRet (eC .none))
          sNx)
        (sApp 1 (eCB dIntS (aCons (eVar 2) aNil)))))))
    (sRet (eCB dTupleOf (aCons (eGive 1) aNil)))))
def sem_l_numbers : FS := semOf (List.length (["_law_words"] : List Str)) (List.length n_l_numbers) m_l_numbers
theorem fd_l_numbers (T : Txt K mg) : FnD P w K mg base 1 "_law_numbers" ["_law_words"] [] sem_l_numbers := by
  obtain ⟨f, fd, F, hm⟩ := T.f_l_numbers
  refine ⟨f, fd, fnD_of (m := m_l_numbers) F sc_l_numbers (fun cdv A outer s H E hr => ?_), hm, F.kp, ?_, ?_⟩
  · show XS _ _ _
    refine xs_cons ?_ ?_
    · exact x_lf (ds_new 1 (dn_lst da_nil) sc_l_numbers.nd)
    refine xs_cons ?_ ?_
    · refine x_for (k_seq (K := K) (de_var 0)) (dg_name 2 sc_l_numbers.nd) ?_
      · refine xs_cons ?_ ?_
        · exact x_lf (ds_asg (de_if (dt_cmp (k_eq (K := K) hr.units) do_eq (k_slS (de_var 2) do_none (do_some de_int)) de_str (nomark _)) (k_slS (de_var 2) (do_some de_int) do_none) (de_var 2)) (dg_name 3 sc_l_numbers.nd))
        refine xs_cons ?_ ?_
        · refine x_if (DW.pt (dw_or (dt_not (dt_chain (k_le (K := K) hr.units) (k_le (K := K) hr.units) do_le do_le de_int (de_B (k_len (K := K)) do_len (by rfl) T.b_len (by decide +kernel) (da_cons (de_var 3) da_nil)) de_int)) (dw_or1 (dt_cmp (k_ne (K := K) hr.units) do_ne (DN.de (dn_lc (own := [("_law_sign", 4)]) rfl sc_l_numbers.nd (k_signs (de_var 3)) (blkOk_by (own := [("_law_sign", 4)]) (N := n_l_numbers) (sc := defScope s_l_numbers) (by decide +kernel)) (fun _ _ _ _ _ => (dg_name 4 sc_l_numbers.nd)) (by decide) (fun _ _ _ _ _ => (dts_one (dt_cmp k_notInC do_notInC (de_var 4) de_str (by rfl)))) (fun _ _ _ _ _ => de_int))) (DN.de (dn_lst da_nil)) (nomark _))))) ?_ ?_
          · refine xs_one ?_
            · exact x_lf (ds_ret de_non)
          · exact xs_nil
        refine xs_cons ?_ ?_
        · refine x_if (DW.pt (dw_or (dt_cmp (k_eq (K := K) hr.units) do_eq (de_var 2) de_str (nomark _)) (dw_or1 (DW.pt (dw_and (dt_cmp (k_gt (K := K) hr.units) do_gt (de_B (k_len (K := K)) do_len (by rfl) T.b_len (by decide +kernel) (da_cons (de_var 3) da_nil)) de_int (nomark _)) (dw_and1 (dt_cmp (k_eq (K := K) hr.units) do_eq (k_ixS (K := K) (de_var 3) de_int) de_str (nomark _)))))))) ?_ ?_
          · refine xs_one ?_
            · exact x_lf (ds_ret de_non)
          · exact xs_nil
        refine xs_one ?_
        · exact x_lf (ds_append 1 (de_Ty k_intS do_intS (by rfl) T.b_int (by decide +kernel) (da_cons (de_var 2) da_nil)))
    refine xs_one ?_
    · exact x_lf (ds_ret (de_Ty (k_tupleOf (K := K)) do_tupleOf (by rfl) T.b_tuple (by decide +kernel) (da_cons (de_give 1) da_nil)))
  · exact F.binds (ps := ["_law_words"]) fun _ _ _ _ _ _ us hl => match us, hl with | [_], _ => rfl
  · exact fun q hq => by simp at hq
def m_l_line : M Fl :=
  (sSeq (sAsg (eOp2 dSplit (eVar 0) (eC (.str " "))) (gN 3))
    (sSeq (sAsg (eCallB [] sem_l_numbers (vDat (eSl (eVar 3) (oS (eC (.int 1))) oN) vNil)) (gN 4))
    (sSeq (sIf (tV (eOp2 dIs (eVar 4) (eC .none)))
      (sRet (eC .none))
      sNx)
    (sSeq (sIf (tV (eOp2 dEq (eVar 1) (eC (.int 0))))
      (sRet (eIf (tAndM (tV (eOp2 dEq (eOp2 dIx (eVar 3) (eC (.int 0))) (eC (.str "inputs")))) (tV (eOp2 dEq (eCB dLen (aCons (eVar 4) aNil)) (eC (.int 1))))) (eOp2 dIx (eVar 4) (eC (.int 0))) (eC .none)))
      sNx)
    (sSeq (sIf (tV (eOp2 dEq (eVar 1) (eVar 2)))
      (sRet (eIf (tAndM (tV (eOp2 dEq (eOp2 dIx (eVar 3) (eC (.int 0))) (eC (.str "ends")))) (tV (eOp2 dNe (eVar 4) (eTup aNil)))) (eVar 4) (eC .none)))
      sNx)
    (sSeq (sAsg (eOp3 dDGetD (eDisp (prCons (eC (.str "in")) (eC (.int 1)) (prCons (eC (.str "set")) (eC (.int 1)) (prCons (eC (.str "neg")) (eC (.int 1)) (prCons (eC (.str "+")) (eC (.int 2)) (prCons (eC (.str "-")) (eC (.int 2)) (prCons (eC (.str "*")) (eC (.int 2)) prNil))))))) (eOp2 dIx (eVar 3) (eC (.int 0))) (eC (.int 0))) (gN 5))
    (sRet (eIf (tAndM (tV (eOp2 dEq (eVar 5) (eCB dLen (aCons (eVar 4) aNil)))) (tV (eOp2 dGt (eVar 5) (eC (.int 0))))) (eOp2 dAdd (eTup (aCons (eOp2 dIx (eVar 3) (eC (.int 0))) aNil)) (eVar 4)) (eC .none)))))))))
def sem_l_line : FS := semOf (List.length (["_law_line_here", "_law_number", "_law_last"] : List Str)) (List.length n_l_line) m_l_line
theorem fd_l_line (T : Txt K mg) : FnD P w K mg base 2 "_law_line" ["_law_line_here", "_law_number", "_law_last"] [] sem_l_line := by
  obtain ⟨f, fd, F, hm⟩ := T.f_l_line
  refine ⟨f, fd, fnD_of (m := m_l_line) F sc_l_line (fun cdv A outer s H E hr => ?_), hm, F.kp, ?_, ?_⟩
  · show XS _ _ _
    refine xs_cons ?_ ?_
    · exact x_lf (ds_asg (k_split (de_var 0) de_str) (dg_name 3 sc_l_line.nd))
    refine xs_cons ?_ ?_
    · exact x_lf (ds_asg (k_call (K := K) (B := []) (fd_l_numbers T) (hr.mono (by omega)) (by rfl) (dv_dat (k_sl (K := K) (de_var 3) (do_some de_int) do_none) dv_nil)) (dg_name 4 sc_l_line.nd))
    refine xs_cons ?_ ?_
    · refine x_if (dt_cmp op_isN do_is (de_var 4) de_non (nomark _)) ?_ ?_
      · refine xs_one ?_
        · exact x_lf (ds_ret de_non)
      · exact xs_nil
    refine xs_cons ?_ ?_
    · refine x_if (dt_cmp (k_eq (K := K) hr.units) do_eq (de_var 1) de_int (nomark _)) ?_ ?_
      · refine xs_one ?_
        · exact x_lf (ds_ret (de_if (DW.pt (dw_and (dt_cmp (k_eq (K := K) hr.units) do_eq (k_ix (K := K) (de_var 3) de_int) de_str (nomark _)) (dw_and1 (dt_cmp (k_eq (K := K) hr.units) do_eq (de_B (k_len (K := K)) do_len (by rfl) T.b_len (by decide +kernel) (da_cons (de_var 4) da_nil)) de_int (nomark _))))) (k_ix (K := K) (de_var 4) de_int) de_non))
      · exact xs_nil
    refine xs_cons ?_ ?_
    · refine x_if (dt_cmp (k_eq (K := K) hr.units) do_eq (de_var 1) (de_var 2) (nomark _)) ?_ ?_
      · refine xs_one ?_
        · exact x_lf (ds_ret (de_if (DW.pt (dw_and (dt_cmp (k_eq (K := K) hr.units) do_eq (k_ix (K := K) (de_var 3) de_int) de_str (nomark _)) (dw_and1 (dt_cmp (k_ne (K := K) hr.units) do_ne (de_var 4) (de_tup da_nil) (nomark _))))) (de_var 4) de_non))
      · exact xs_nil
    refine xs_cons ?_ ?_
    · exact x_lf (ds_asg (de_dgetD (un1 hr.units) (de_disp (dpr_cons de_str de_int (dpr_cons de_str de_int (dpr_cons de_str de_int (dpr_cons de_str de_int (dpr_cons de_str de_int (dpr_cons de_str de_int dpr_nil))))))) (k_ix (K := K) (de_var 3) de_int) de_int) (dg_name 5 sc_l_line.nd))
    refine xs_one ?_
    · exact x_lf (ds_ret (de_if (DW.pt (dw_and (dt_cmp (k_eq (K := K) hr.units) do_eq (de_var 5) (de_B (k_len (K := K)) do_len (by rfl) T.b_len (by decide +kernel) (da_cons (de_var 4) da_nil)) (nomark _)) (dw_and1 (dt_cmp (k_gt (K := K) hr.units) do_gt (de_var 5) de_int (nomark _))))) (de_bin (k_add (K := K)) do_add (de_tup (da_cons (k_ix (K := K) (de_var 3) de_int) da_nil)) (de_var 4)) de_non))
  · exact F.binds (ps := ["_law_line_here", "_law_number", "_law_last"]) fun _ _ _ _ _ _ us hl => match us, hl with | [_, _, _], _ => rfl
  · exact fun q hq => by simp at hq
def m_l_due : M Fl :=
  (sSeq (sIf (tNotM (tV (eIsi "str" (eVar 0))))
      (sRet (eL (nLst (aCons (eC (.str "text")) (aCons (eC .none) aNil)))))
      sNx)
    (sSeq (sAsg (eOp2 dSplit (eVar 0) (eC (.str "\n"))) (gN 1))
    (sSeq (sNew 2 (nLst aNil))
    (sSeq (sFor (rg1 (aCons (eCB dLen (aCons (eVar 1) aNil)) aNil)) (gN 3)
      (sSeq (sApp 2 (eCallB [] sem_l_line (vDat (eOp2 dIx (eVar 1) (eVar 3)) (vDat (eVar 3) (vDat (eOp2 dSub (eCB dLen (aCons (eVar 1) aNil)) (eC (.int 1))) vNil)))))
        (sIf (tV (eOp2 dIs (eIxC 2 (eOp1 dNeg (eC (.int 1)))) (eC .none)))
          (sRet (eL (nLst (aCons (eC (.str "text")) (aCons (eVar 3) aNil)))))
          sNx)))
    (sSeq (sIf (tV (eOp2 dEq (eCB dLen (aCons (eVar 1) aNil)) (eC (.int 1))))
      (sRet (eL (nLst (aCons (eC (.str "text")) (aCons (eC (.int 1)) aNil)))))
      sNx)
    (sSeq (sAsg (eTup (aCons (eIxC 2 (eC (.int 0))) (aCons (eCB dTupleOf (aCons (eSlC 2 (oS (eC (.int 1))) (oS (eOp1 dNeg (eC (.int 1))))) aNil)) (aCons (eIxC 2 (eOp1 dNeg (eC (.int 1)))) aNil)))) (gN 4))
    (sSeq (sAsg (eCallB [] sem_l_row_error (vDat (eVar 4) (vDat (eC (.int 20)) (vDat (eC (.int 400)) (vDat (eC (.int 20)) vNil))))) (gN 5))
    (sRet (eIf (tV (eOp2 dIs (eVar 5) (eC .none))) (eL (nLst (aCons (eC (.str "ok")) (aCons (eVar 4) aNil)))) (eL (nLst (aCons (eC (.str "row")) (aCons (eVar 5) aNil)))))))))))))
def sem_l_due : FS := semOf (List.length (["_law_value"] : List Str)) (List.length n_l_due) m_l_due
theorem fd_l_due (T : Txt K mg) : FnD P w K mg base 4 "_law_due" ["_law_value"] [] sem_l_due := by
  obtain ⟨f, fd, F, hm⟩ := T.f_l_due
  refine ⟨f, fd, fnD_of (m := m_l_due) F sc_l_due (fun cdv A outer s H E hr => ?_), hm, F.kp, ?_, ?_⟩
  · show XS _ _ _
    refine xs_cons ?_ ?_
    · refine x_if (dt_not (dt_val (k_isi (K := K) "str" (by decide) (by rfl) T.b_isinstance (by decide +kernel) (de_var 0) (by rfl) T.b_str (by decide +kernel)))) ?_ ?_
      · refine xs_one ?_
        · exact x_lf (ds_ret (DN.de (dn_lst (da_cons de_str (da_cons de_non da_nil)))))
      · exact xs_nil
    refine xs_cons ?_ ?_
    · exact x_lf (ds_asg (k_split (de_var 0) de_str) (dg_name 1 sc_l_due.nd))
    refine xs_cons ?_ ?_
    · exact x_lf (ds_new 2 (dn_lst da_nil) sc_l_due.nd)
    refine xs_cons ?_ ?_
    · refine x_for (di_rg1 (by rfl) T.b_range (da_cons (de_B (k_len (K := K)) do_len (by rfl) T.b_len (by decide +kernel) (da_cons (de_var 1) da_nil)) da_nil)) (dg_name 3 sc_l_due.nd) ?_
      · refine xs_cons ?_ ?_
        · exact x_lf (ds_append 2 (k_call (K := K) (B := []) (fd_l_line T) (hr.mono (by omega)) (by rfl) (dv_dat (k_ix (K := K) (de_var 1) (de_var 3)) (dv_dat (de_var 3) (dv_dat (de_bin op_sub do_sub (de_B (k_len (K := K)) do_len (by rfl) T.b_len (by decide +kernel) (da_cons (de_var 1) da_nil)) de_int) dv_nil)))))
        refine xs_one ?_
        · refine x_if (dt_cmp op_isN do_is (k_ixC (K := K) 2 (de_neg de_int)) de_non (nomark _)) ?_ ?_
          · refine xs_one ?_
            · exact x_lf (ds_ret (DN.de (dn_lst (da_cons de_str (da_cons (de_var 3) da_nil)))))
          · exact xs_nil
    refine xs_cons ?_ ?_
    · refine x_if (dt_cmp (k_eq (K := K) hr.units) do_eq (de_B (k_len (K := K)) do_len (by rfl) T.b_len (by decide +kernel) (da_cons (de_var 1) da_nil)) de_int (nomark _)) ?_ ?_
      · refine xs_one ?_
        · exact x_lf (ds_ret (DN.de (dn_lst (da_cons de_str (da_cons de_int da_nil)))))
      · exact xs_nil
    refine xs_cons ?_ ?_
    · exact x_lf (ds_asg (de_tup (da_cons (k_ixC (K := K) 2 de_int) (da_cons (de_Ty (k_tupleOf (K := K)) do_tupleOf (by rfl) T.b_tuple (by decide +kernel) (da_cons (k_slC (K := K) (i := 2) (do_some de_int) (do_some (de_neg de_int))) da_nil)) (da_cons (k_ixC (K := K) 2 (de_neg de_int)) da_nil)))) (dg_name 4 sc_l_due.nd))
    refine xs_cons ?_ ?_
    · exact x_lf (ds_asg (k_call (K := K) (B := []) (fd_l_row_error T) (hr.mono (by omega)) (by rfl) (dv_dat (de_var 4) (dv_dat de_int (dv_dat de_int (dv_dat de_int dv_nil))))) (dg_name 5 sc_l_due.nd))
    refine xs_one ?_
    · exact x_lf (ds_ret (de_if (dt_cmp op_isN do_is (de_var 5) de_non (nomark _)) (DN.de (dn_lst (da_cons de_str (da_cons (de_var 4) da_nil)))) (DN.de (dn_lst (da_cons de_str (da_cons (de_var 5) da_nil))))))
  · exact F.binds (ps := ["_law_value"]) fun _ _ _ _ _ _ us hl => match us, hl with | [_], _ => rfl
  · exact fun q hq => by simp at hq
def m_l_found : M Fl :=
  (sTryN 1 (xRet (xLst (xaCons (xE (eC (.str "ok"))) (xaCons (xCall sem_p_read_row (vDat (eVar 0) vNil)) xaNil))))
      [(tblOf [("BadText", true), ("BadRow", false)], (hD (hLst (hCons (hStr "text") (hCons (hFld "BadText" "place") hNil))) fun d => rtn (.rt d))), (tblOf [("BadText", false), ("BadRow", true)], (hD (hLst (hCons (hStr "row") (hCons (hFld "BadRow" "error") hNil))) fun d => rtn (.rt d)))])
def sem_l_found : FS := semOf (List.length (["_law_value"] : List Str)) (List.length n_l_found) m_l_found
theorem fd_l_found (T : Txt K mg) : FnD P w K mg base 6 "_law_found" ["_law_value"] [] sem_l_found := by
  obtain ⟨f, fd, F, hm⟩ := T.f_l_found
  refine ⟨f, fd, fnD_of (m := m_l_found) F sc_l_found (fun cdv A outer s H E hr => ?_), hm, F.kp, ?_, ?_⟩
  · show XS _ _ _
    refine xs_one ?_
    · refine x1_tryN (i := 1) (n := "_law_error") (hs := [(tblOf [("BadText", true), ("BadRow", false)], (hD (hLst (hCons (hStr "text") (hCons (hFld "BadText" "place") hNil))) fun d => rtn (.rt d))), (tblOf [("BadText", false), ("BadRow", true)], (hD (hLst (hCons (hStr "row") (hCons (hFld "BadRow" "error") hNil))) fun d => rtn (.rt d)))]) (fun W pn xe tk => ?_) (.cons T.n_BadText (su_ret (hs_lst (hs_cons hs_str (hs_cons (hs_fld T.g_BadText) hs_nil)))) (.cons T.n_BadRow (su_ret (hs_lst (hs_cons hs_str (hs_cons (hs_fld T.g_BadRow) hs_nil)))) .nil)) sc_l_found.nd
      · show XSX _ _ _ _
        refine xx_one ?_
        · exact xx_ret (dex_lst (dax_cons (dex_e de_str) (dax_cons (de_xcall (fd_p_read_row T) tk (hr.mono (by omega)) (by rfl) (dv_dat (de_var 0) dv_nil)) dax_nil)))
  · exact F.binds (ps := ["_law_value"]) fun _ _ _ _ _ _ us hl => match us, hl with | [_], _ => rfl
  · exact fun q hq => by simp at hq
def m_l_spoilt : M Fl :=
  (sSeq (sPar3 2 3 4 (pDat (eCallB [] sem_l_draw (vDeck 0 (vDat (eOp2 dAdd (eCB dLen (aCons (eVar 1) aNil)) (eC (.int 1))) vNil))) (pDat (eCallB [] sem_l_draw (vDeck 0 (vDat (eC (.int 6)) vNil))) (pDat (eOp2 dSplit (eVar 1) (eC (.str "\n"))) pNil))))
    (sSeq (sAsg (eCallB [] sem_l_draw (vDeck 0 (vDat (eCB dLen (aCons (eVar 4) aNil)) vNil))) (gN 5))
    (sSeq (sAsg (eCallB [] sem_l_one (vDeck 0 (vDat (eL (nLst (aCons (eC (.str "0")) (aCons (eC (.str "1")) (aCons (eC (.str " ")) (aCons (eC (.str "\n")) (aCons (eC (.str "-")) (aCons (eC (.str "in")) (aCons (eC (.str "ends")) (aCons (eC (.str "set")) (aCons (eC (.str "*")) (aCons (eC (.str "x")) (aCons (eC (.str "")) (aCons (eC (.str "  ")) (aCons (eOp2 dMulS (eC (.str "9")) (eC (.int 20))) aNil))))))))))))))) vNil))) (gN 6))
    (sSeq (sIf (tV (eOp2 dLt (eVar 3) (eC (.int 3))))
      (sRet (eOp2 dAdd (eOp2 dAdd (eSlS (eVar 1) oN (oS (eVar 2))) (eVar 6)) (eSlS (eVar 1) (oS (eOp2 dAdd (eVar 2) (eOp2 dIx (eL (nLst (aCons (eC (.int 0)) (aCons (eC (.int 1)) (aCons (eC (.int 0)) aNil))))) (eVar 3)))) oN)))
      sNx)
    (sSeq (sIf (tV (eOp2 dEq (eVar 3) (eC (.int 3))))
      (sRet (eOp2 dJoin (eC (.str "\n")) (eOp2 dAdd (eSl (eVar 4) oN (oS (eVar 5))) (eSl (eVar 4) (oS (eOp2 dAdd (eVar 5) (eC (.int 1)))) oN))))
      sNx)
    (sSeq (sAsg (eL (nLst (aCons (eC (.str "in 0")) (aCons (eC (.str "set -5")) (aCons (eC (.str "neg 0")) (aCons (eC (.str "+ 0 0")) (aCons (eC (.str "inputs 3")) (aCons (eC (.str "")) (aCons (eC (.str "ends 0")) (aCons (eC (.str "ends")) (aCons (eC (.str "* 0")) (aCons (eC (.str "in 00")) (aCons (eC (.str "set +1")) (aCons (eC (.str "set")) aNil)))))))))))))) (gN 7))
    (sRet (eOp2 dJoin (eC (.str "\n")) (eOp2 dAdd (eOp2 dAdd (eSl (eVar 4) oN (oS (eVar 5))) (eL (nLst (aCons (eCallB [] sem_l_one (vDeck 0 (vDat (eVar 7) vNil))) aNil)))) (eSl (eVar 4) (oS (eOp2 dSub (eOp2 dAdd (eVar 5) (eVar 3)) (eC (.int 4)))) oN))))))))))
def sem_l_spoilt : FS := semOf (List.length (["_law_deck_here", "_law_text"] : List Str)) (List.length n_l_spoilt) m_l_spoilt
theorem fd_l_spoilt (T : Txt K mg) : FnD P w K mg base 3 "_law_spoilt" ["_law_deck_here", "_law_text"] [] sem_l_spoilt := by
  obtain ⟨f, fd, F, hm⟩ := T.f_l_spoilt
  refine ⟨f, fd, fnD_of (m := m_l_spoilt) F sc_l_spoilt (fun cdv A outer s H E hr => ?_), hm, F.kp, ?_, ?_⟩
  · show XS _ _ _
    refine xs_cons ?_ ?_
    · exact x_lf (ds_par3 2 3 4 rfl sc_l_spoilt.nd (dp_dat (k_call (K := K) (B := []) (fd_l_draw T) (hr.mono (by omega)) (by rfl) (dv_deck 0 (dv_dat (de_bin (k_add (K := K)) do_add (de_B (k_len (K := K)) do_len (by rfl) T.b_len (by decide +kernel) (da_cons (de_var 1) da_nil)) de_int) dv_nil))) (dp_dat (k_call (K := K) (B := []) (fd_l_draw T) (hr.mono (by omega)) (by rfl) (dv_deck 0 (dv_dat de_int dv_nil))) (dp_dat (k_split (de_var 1) de_str) dp_nil))))
    refine xs_cons ?_ ?_
    · exact x_lf (ds_asg (k_call (K := K) (B := []) (fd_l_draw T) (hr.mono (by omega)) (by rfl) (dv_deck 0 (dv_dat (de_B (k_len (K := K)) do_len (by rfl) T.b_len (by decide +kernel) (da_cons (de_var 4) da_nil)) dv_nil))) (dg_name 5 sc_l_spoilt.nd))
    refine xs_cons ?_ ?_
    · exact x_lf (ds_asg (k_call (K := K) (B := []) (fd_l_one T) (hr.mono (by omega)) (by rfl) (dv_deck 0 (dv_dat (DN.de (dn_lst (da_cons de_str (da_cons de_str (da_cons de_str (da_cons de_str (da_cons de_str (da_cons de_str (da_cons de_str (da_cons de_str (da_cons de_str (da_cons de_str (da_cons de_str (da_cons de_str (da_cons (de_bin k_mulS do_mulS de_str de_int) da_nil))))))))))))))) dv_nil))) (dg_name 6 sc_l_spoilt.nd))
    refine xs_cons ?_ ?_
    · refine x_if (dt_cmp (k_lt (K := K) hr.units) do_lt (de_var 3) de_int (nomark _)) ?_ ?_
      · refine xs_one ?_
        · exact x_lf (ds_ret (de_bin (k_add (K := K)) do_add (de_bin (k_add (K := K)) do_add (k_slS (de_var 1) do_none (do_some (de_var 2))) (de_var 6)) (k_slS (de_var 1) (do_some (de_bin (k_add (K := K)) do_add (de_var 2) (k_ix (K := K) (DN.de (dn_lst (da_cons de_int (da_cons de_int (da_cons de_int da_nil))))) (de_var 3)))) do_none)))
      · exact xs_nil
    refine xs_cons ?_ ?_
    · refine x_if (dt_cmp (k_eq (K := K) hr.units) do_eq (de_var 3) de_int (nomark _)) ?_ ?_
      · refine xs_one ?_
        · exact x_lf (ds_ret (k_join (K := K) de_str (de_bin (k_add (K := K)) do_add (k_sl (K := K) (de_var 4) do_none (do_some (de_var 5))) (k_sl (K := K) (de_var 4) (do_some (de_bin (k_add (K := K)) do_add (de_var 5) de_int)) do_none))))
      · exact xs_nil
    refine xs_cons ?_ ?_
    · exact x_lf (ds_asg (DN.de (dn_lst (da_cons de_str (da_cons de_str (da_cons de_str (da_cons de_str (da_cons de_str (da_cons de_str (da_cons de_str (da_cons de_str (da_cons de_str (da_cons de_str (da_cons de_str (da_cons de_str da_nil)))))))))))))) (dg_name 7 sc_l_spoilt.nd))
    refine xs_one ?_
    · exact x_lf (ds_ret (k_join (K := K) de_str (de_bin (k_add (K := K)) do_add (de_bin (k_add (K := K)) do_add (k_sl (K := K) (de_var 4) do_none (do_some (de_var 5))) (DN.de (dn_lst (da_cons (k_call (K := K) (B := []) (fd_l_one T) (hr.mono (by omega)) (by rfl) (dv_deck 0 (dv_dat (de_var 7) dv_nil))) da_nil)))) (k_sl (K := K) (de_var 4) (do_some (de_bin op_sub do_sub (de_bin (k_add (K := K)) do_add (de_var 5) (de_var 3)) de_int)) do_none))))
  · exact F.binds (ps := ["_law_deck_here", "_law_text"]) fun _ _ _ _ _ _ us hl => match us, hl with | [_, _], _ => rfl
  · exact fun q hq => by simp at hq
def law_1 : M Fl :=
  (sAsg (eCallB [] sem_l_row (vDeck 1 (vDat (eCallB [] sem_l_one (vDeck 1 (vDat (eL (nLst (aCons (eC (.int 0)) (aCons (eC (.int 1)) (aCons (eC (.int 3)) aNil))))) vNil))) (vDat (eCallB [] sem_l_one (vDeck 1 (vDat (eL (nLst (aCons (eC (.int 1)) (aCons (eC (.int 6)) (aCons (eC (.int 30)) aNil))))) vNil))) (vDat (eC (.int 20)) vNil))))) (gN 3))
def law_2 : M Fl :=
  (sAsg (eCallB [] sem_p_row_text (vDat (eVar 3) vNil)) (gN 4))
def law_3 : M Fl :=
  (sAsg (eCallB [] sem_l_spoilt (vDeck 1 (vDat (eVar 4) vNil))) (gN 5))
def law_4 : M Fl :=
  (sAsg (eL (nLst (aCons (eVar 4) (aCons (eVar 5) (aCons (eCallB [] sem_l_spoilt (vDeck 1 (vDat (eVar 5) vNil))) (aCons (eCallB [] sem_l_spoilt (vDeck 1 (vDat (eVar 4) vNil))) (aCons (eCallB [] sem_l_spoilt (vDeck 1 (vDat (eVar 4) vNil))) (aCons (eOp2 dAdd (eVar 4) (eC (.str "\n"))) aNil)))))))) (gN 6))
def law_5 : M Fl :=
  (sAsg (eOp2 dAdd (eVar 6) (eL (nLst (aCons (eOp2 dAdd (eC (.str "\n")) (eVar 4)) (aCons (eC (.str "")) (aCons (eC (.str "inputs 1")) (aCons (eC (.str "inputs 21\nin 20\nends 0")) (aCons (eC (.str "inputs 20\nin 19\nends 0")) aNil)))))))) (gN 6))
def law_6 : M Fl :=
  (sAsg (eOp2 dAdd (eVar 6) (eL (nLst (aCons (eC (.str "inputs 1\nends 0")) (aCons (eC (.str "inputs -1\nin 0\nends 0")) (aCons (eOp2 dAdd (eOp2 dAdd (eC (.str "inputs 0\nset ")) (eOp2 dMulS (eC (.str "9")) (eC (.int 21)))) (eC (.str "\nends 0"))) aNil)))))) (gN 6))
def law_7 : M Fl :=
  (sAsg (eOp2 dAdd (eVar 6) (eL (nLst (aCons (eOp2 dAdd (eOp2 dAdd (eC (.str "inputs 0\nset 1")) (eOp2 dMulS (eC (.str "0")) (eC (.int 20)))) (eC (.str "\nends 0"))) (aCons (eC (.str "inputs 0\nset 1\nends 1")) aNil))))) (gN 6))
def law_8 : M Fl :=
  (sRet (eC (.bool false)))
def law_9 : M Fl :=
  (sIf (tV (eOp2 dNe (eCB dRepr (aCons (eCallB [] sem_l_found (vDat (eVar 7) vNil)) aNil)) (eCB dRepr (aCons (eCallB [] sem_l_due (vDat (eVar 7) vNil)) aNil))))
            law_8
            sNx)
def law_10 : M Fl :=
  (sFor (asQ (eOp2 dAdd (eVar 6) (eL (nLst (aCons (eC (.str "inputs 0\nset 1\nends -1")) (aCons (eCallB [] sem_l_odd (vDeck 1 vNil)) (aCons (eC .none) (aCons (eL (nLst (aCons (eVar 4) aNil))) (aCons (eVar 3) aNil))))))))) (gN 7)
        law_9)
def law_11 : M Fl :=
  (sFor (rg1 (aCons (eC (.int 7)) aNil)) (gN 2)
    (sSeq law_1
      (sSeq law_2
      (sSeq law_3
      (sSeq law_4
      (sSeq law_5
      (sSeq law_6
      (sSeq law_7
      law_10))))))))
def law_12 : M Fl :=
  (sRet (eC (.bool true)))
def m_law : M Fl :=
  (sSeq law_11
  law_12)
theorem ds_law (T : Txt K mg) {f : Addr} {cdv : Value} {A : Around} {outer : List Env} {s : Shared} {H : Hp} {E : XK} (LT : LawTab K mg base cdv) (hG : (A.deeper (envOfC "law" (defScope s_p_law) s.heap.objs.size f cdv)).guards = some []) (hr : Room 6 (A.deeper (envOfC "law" (defScope s_p_law) s.heap.objs.size f cdv))) :
    ∃ t, DSs (cxOf CX0 P w K mg base n_p_law "law" (defScope s_p_law) f cdv A outer s H E).nox ((defBody s_p_law).drop 1) t m_law := by
  show XS _ _ _
  refine xs_cons ?_ ?_
  · refine x_for (di_rg1 (by rfl) T.b_range (da_cons de_int da_nil)) (dg_name 2 sc_p_law.nd) ?_
    · refine xs_cons ?_ ?_
      · exact x_lf (ds_asg (k_call (K := K) (B := []) (fd_l_row T) (hr.mono (by omega)) (by rfl) (dv_deck 1 (dv_dat (k_call (K := K) (B := []) (fd_l_one T) (hr.mono (by omega)) (by rfl) (dv_deck 1 (dv_dat (DN.de (dn_lst (da_cons de_int (da_cons de_int (da_cons de_int da_nil))))) dv_nil))) (dv_dat (k_call (K := K) (B := []) (fd_l_one T) (hr.mono (by omega)) (by rfl) (dv_deck 1 (dv_dat (DN.de (dn_lst (da_cons de_int (da_cons de_int (da_cons de_int da_nil))))) dv_nil))) (dv_dat de_int dv_nil))))) (dg_name 3 sc_p_law.nd))
      refine xs_cons ?_ ?_
      · exact x_lf (ds_asg (k_call (K := K) (B := []) (fd_p_row_text T) (hr.mono (by omega)) (by rfl) (dv_dat (de_var 3) dv_nil)) (dg_name 4 sc_p_law.nd))
      refine xs_cons ?_ ?_
      · exact x_lf (ds_asg (k_call (K := K) (B := []) (fd_l_spoilt T) (hr.mono (by omega)) (by rfl) (dv_deck 1 (dv_dat (de_var 4) dv_nil))) (dg_name 5 sc_p_law.nd))
      refine xs_cons ?_ ?_
      · exact x_lf (ds_asg (DN.de (dn_lst (da_cons (de_var 4) (da_cons (de_var 5) (da_cons (k_call (K := K) (B := []) (fd_l_spoilt T) (hr.mono (by omega)) (by rfl) (dv_deck 1 (dv_dat (de_var 5) dv_nil))) (da_cons (k_call (K := K) (B := []) (fd_l_spoilt T) (hr.mono (by omega)) (by rfl) (dv_deck 1 (dv_dat (de_var 4) dv_nil))) (da_cons (k_call (K := K) (B := []) (fd_l_spoilt T) (hr.mono (by omega)) (by rfl) (dv_deck 1 (dv_dat (de_var 4) dv_nil))) (da_cons (de_bin (k_add (K := K)) do_add (de_var 4) de_str) da_nil)))))))) (dg_name 6 sc_p_law.nd))
      refine xs_cons ?_ ?_
      · exact x_lf (ds_asg (de_bin (k_add (K := K)) do_add (de_var 6) (DN.de (dn_lst (da_cons (de_bin (k_add (K := K)) do_add de_str (de_var 4)) (da_cons de_str (da_cons de_str (da_cons de_str (da_cons de_str da_nil)))))))) (dg_name 6 sc_p_law.nd))
      refine xs_cons ?_ ?_
      · exact x_lf (ds_asg (de_bin (k_add (K := K)) do_add (de_var 6) (DN.de (dn_lst (da_cons de_str (da_cons de_str (da_cons (de_bin (k_add (K := K)) do_add (de_bin (k_add (K := K)) do_add de_str (de_bin k_mulS do_mulS de_str de_int)) de_str) da_nil)))))) (dg_name 6 sc_p_law.nd))
      refine xs_cons ?_ ?_
      · exact x_lf (ds_asg (de_bin (k_add (K := K)) do_add (de_var 6) (DN.de (dn_lst (da_cons (de_bin (k_add (K := K)) do_add (de_bin (k_add (K := K)) do_add de_str (de_bin k_mulS do_mulS de_str de_int)) de_str) (da_cons de_str da_nil))))) (dg_name 6 sc_p_law.nd))
      refine xs_one ?_
      · refine x_for (k_seq (K := K) (de_bin (k_add (K := K)) do_add (de_var 6) (DN.de (dn_lst (da_cons de_str (da_cons (k_call (K := K) (B := []) (fd_l_odd T) (hr.mono (by omega)) (by rfl) (dv_deck 1 dv_nil)) (da_cons de_non (da_cons (DN.de (dn_lst (da_cons (de_var 4) da_nil))) (da_cons (de_var 3) da_nil))))))))) (dg_name 7 sc_p_law.nd) ?_
        · refine xs_one ?_
          · refine x_if (dt_cmp (k_ne (K := K) hr.units) do_ne (de_B (k_repr (K := K) T.zd hG hr.u100) do_repr (by rfl) T.b_repr (by decide +kernel) (da_cons (k_call (K := K) (B := []) (fd_l_found T) (hr.mono (by omega)) (by rfl) (dv_dat (de_var 7) dv_nil)) da_nil)) (de_B (k_repr (K := K) T.zd hG hr.u100) do_repr (by rfl) T.b_repr (by decide +kernel) (da_cons (k_call (K := K) (B := []) (fd_l_due T) (hr.mono (by omega)) (by rfl) (dv_dat (de_var 7) dv_nil)) da_nil)) (nomark _)) ?_ ?_
            · refine xs_one ?_
              · exact x_lf (ds_ret de_bl)
            · exact xs_nil
  refine xs_one ?_
  · exact x_lf (ds_ret de_bl)
abbrev lvLaw : Nat := 6
end
end Lw
namespace Lw
open PySem PySem.Spec PyProof.Rows L2 DL
theorem fp_one {l : List D} {k : Dk} {Q : D → Dk → Prop} (hk : DkV k) (h0 : l ≠ []) (h1 : l.length < 1000000000) (h : ∀ d k', d ∈ l → DkV k' → Q d k') : fp sem_l_one [.deck, .dat (.list l)] k Q := by
  refine fp_of rfl ?_
  unfold m_l_one
  simp
  have hp : 0 < l.length := List.length_pos_iff.mpr h0
  refine fp_draw hk (by omega) (by omega) fun r k' h2 h3 hv => ?_
  simp
  exact ⟨_, atI_int h2 h3, h _ _ (List.getElem_mem _) hv⟩
theorem sem_isint (v : D) (a b : Int) (k : Dk) : sem_p_is_integer [.dat v, .dat (.int a), .dat (.int b)] k = some (.bool (isI v a b), k) := by
  refine eq_fp (fp_of rfl ?_)
  unfold m_p_is_integer
  simp
  cases v <;> simp [isI] <;> omega
@[simp ↓] theorem fp_isint {v : D} {a b : Int} {k : Dk} {Q : D → Dk → Prop} : fp sem_p_is_integer [.dat v, .dat (.int a), .dat (.int b)] k Q ↔ Q (.bool (isI v a b)) k := fp_eq (sem_isint v a b k)
theorem sem_whole (v : D) (a b : Int) (k : Dk) : sem_l_whole [.dat v, .dat (.int a), .dat (.int b)] k = some (.bool (isI v a b), k) := sem_isint v a b k
@[simp ↓] theorem fp_whole {v : D} {a b : Int} {k : Dk} {Q : D → Dk → Prop} : fp sem_l_whole [.dat v, .dat (.int a), .dat (.int b)] k Q ↔ Q (.bool (isI v a b)) k := fp_eq (sem_whole v a b k)
theorem sem_step (v : D) (n m : Int) (k : Dk) (nd : ∀ kvs, v ≠ .dict kvs) : sem_p_is_step [.dat v, .dat (.int n), .dat (.int m)] k = some (.bool (isStep v n m), k) := by
  refine eq_fp (fp_of rfl ?_)
  unfold m_p_is_step
  cases v with
  | tuple l =>
    match l with
    | [] => simp [lim, isStep]
    | [a] => simp [lim, isStep]
    | [a, b] =>
      simp [lim]
      cases a with
      | str w =>
        simp [isStep]
        by_cases h1 : w = Str.ofString "in"
        · simp [h1]
        · by_cases h2 : w = Str.ofString "set"
          · simp [h1, h2]
          · by_cases h3 : w = Str.ofString "neg"
            · simp [h1, h2, h3]
            · simp [h1, h2, h3]
      | _ => simp [isStep]
    | [a, b, c] =>
      simp [lim]
      cases a with
      | str w =>
        simp [isStep]
        by_cases h1 : (w = Str.ofString "+" ∨ w = Str.ofString "-") ∨ w = Str.ofString "*"
        · have h2 : (w == Str.ofString "+" || w == Str.ofString "-" || w == Str.ofString "*") = true := by simpa using h1
          refine .inr ⟨h1, ?_⟩
          simp only [h2, h1, Bool.true_and, forall_const]
          cases isI b 0 (m - 1) <;> simp
        · refine .inl ⟨by simpa using h1, fun h => absurd h h1⟩
      | _ => simp [isStep]
    | a :: b :: c :: d :: r =>
      simp [lim, isStep]
      exact .inr (by omega)
  | dict kvs => exact absurd rfl (nd kvs)
  | _ => simp [isStep]
@[simp ↓] theorem fp_step {v : D} {n m : Int} {k : Dk} {Q : D → Dk → Prop} (nd : ∀ kvs, v ≠ .dict kvs) : fp sem_p_is_step [.dat v, .dat (.int n), .dat (.int m)] k Q ↔ Q (.bool (isStep v n m)) k := fp_eq (sem_step v n m k nd)
theorem sem_measure {n m : Nat} {s : Rs} {f : List Nat} {l : Nat} {k : Dk} (h : s.ok n m) (hf : m ≤ f.length) : sem_p_measure [.dat s.d, .dat (.list (intsD f)), .dat (.int (l : Nat))] k = some (.int (s.ms l f : Nat), k) := by
  refine eq_fp (fp_of rfl ?_)
  unfold m_p_measure
  cases s with
  | inp j => simp [Rs.d, Rs.ms, lim]
  | set c => simp [Rs.d, Rs.ms, lim]
  | neg i =>
    have hi : i < m := h
    simp [Rs.d, Rs.ms, lim, intsD_get (show i < f.length by omega)]
  | add i j =>
    have hi : i < m ∧ j < m := h
    simp [Rs.d, Rs.ms, lim, intsD_get (show i < f.length by omega), intsD_get (show j < f.length by omega)]
    split <;> omega
  | sub i j =>
    have hi : i < m ∧ j < m := h
    simp [Rs.d, Rs.ms, lim, intsD_get (show i < f.length by omega), intsD_get (show j < f.length by omega)]
    split <;> omega
  | mul i j =>
    have hi : i < m ∧ j < m := h
    simp [Rs.d, Rs.ms, lim, intsD_get (show i < f.length by omega), intsD_get (show j < f.length by omega)]
theorem sem_within {x : D} {l es : List D} (I S E : Int) (k : Dk) (hnd : ∀ d ∈ l, ∀ kvs, d ≠ .dict kvs) (hv : sz (.tuple [x, .tuple l, .tuple es]) ≤ 500000) : sem_p_error_within [.dat (.tuple [x, .tuple l, .tuple es]), .dat (.int I), .dat (.int S), .dat (.int E)] k = some (rowErr I S E (.tuple [x, .tuple l, .tuple es]), k) := by
  refine eq_fp (fp_of rfl ?_)
  unfold m_p_error_within
  simp [lim]
  by_cases hx : isI x 0 I = true
  · obtain ⟨n, rfl, h1, h2⟩ := isI_int hx
    obtain ⟨n, rfl⟩ := Int.eq_ofNat_of_zero_le h1
    simp [hx]
    try simp
    by_cases hl : 1 ≤ (l.length : Int) ∧ (l.length : Int) ≤ S
    · have hr : rowErr I S E (.tuple [.int n, .tuple l, .tuple es]) = (stepsErr n l []).getD (endsErr E l.length (.tuple es)) := by simp [rowErr, hx, hl]
      refine .inr ⟨hl.1, .inr ⟨hl.2, ?_⟩⟩
      rw [hr]
      have hsz : szA l ≤ 500000 := by
        simp only [sz_tup, szA] at hv; omega
      have hll := szA_len l
      refine wp_loop (fun r s => ∃ (f : List Nat) (o5 o6 : Option Val), s = ⟨[some (.dat (.tuple [.int n, .tuple l, .tuple es])), some (.dat (.int I)), some (.dat (.int S)), some (.dat (.int E)), some (.lst (intsD f)), o5, o6, none], k⟩ ∧ r = (enmD l).drop f.length ∧ stepsErr n l [] = stepsErr n (l.drop f.length) f) (fun x r s hI => ?_) (fun s hI => ?_) _ _ ⟨[], none, none, rfl, rfl, rfl⟩
      · obtain ⟨f, o5, o6, rfl, hr, he⟩ := hI
        obtain ⟨hi, rfl, rfl⟩ := enm_drop hr.symm
        rw [drop_at hi] at he
        rw [he]
        have nd := hnd _ (List.getElem_mem hi)
        generalize l[f.length] = v at nd ⊢
        simp [lim, fp_step nd]
        by_cases hs : isStep v n f.length = true
        · refine .inr ⟨hs, ?_⟩
          obtain ⟨e1, ok⟩ := isStep_sp hs
          have e2 : ∀ Q, fp sem_p_measure [.dat v, .dat (.list (intsD f)), .dat (.int 1)] k Q ↔ Q (.int ((spOf v).size f : Nat)) k := fun Q => by
            have := sem_measure (l := 1) (k := k) ok (Nat.le_refl _)
            rw [← e1, Rs.ms1] at this
            exact fp_eq this
          simp [e2, L2.atI_last, stepsErr, hs, intsD_len]
          refine ⟨by omega, ?_⟩
          by_cases hz : (spOf v).size f ≤ 64
          · refine .inl ⟨by omega, f ++ [(spOf v).size f], intsD_snoc, by simp, ?_⟩
            rw [if_neg (by omega)]; simp
          · refine .inr ⟨by omega, ?_⟩
            rw [if_pos (by omega)]; rfl
        · refine .inl ⟨by simpa using hs, ?_⟩
          simp [stepsErr, hs]
      · obtain ⟨f, o5, o6, rfl, hr, he⟩ := hI
        have hn := enm_nil hr.symm
        rw [List.drop_of_length_le hn] at he
        rw [he]
        simp [stepsErr]
        have hse : szA es ≤ 500000 := by
          simp only [sz_tup, szA] at hv; omega
        have hle := szA_len es
        simp [endsErr]
        by_cases he : 1 ≤ (es.length : Int) ∧ (es.length : Int) ≤ E
        · refine .inr ⟨he.1, .inr ⟨he.2, ?_⟩⟩
          refine wp_lc_map (fun d => .bool (isI d 0 ((l.length : Int) - 1))) (fun x hx => ?_) (by show _ ≤ 1000000; omega) ?_
          · simp
          · simp [he]
            by_cases hA : ∀ x, x ∈ es → isI x 0 ((l.length : Int) - 1) = true
            · exact .inr ⟨hA, fun x hx h => by rw [hA x hx] at h; cases h⟩
            · exact .inl ⟨by simpa using hA, by rw [if_neg hA]; rfl⟩
        · simp [er, he]
          omega
    · have hr : rowErr I S E (.tuple [.int n, .tuple l, .tuple es]) = er "steps" := by simp [rowErr, hx, hl]
      rw [hr]
      simp [er]
      omega
  · simp [rowErr, hx, er]
theorem fp_longerr {x : D} {l es : List D} {k : Dk} {Q : D → Dk → Prop} (hnd : ∀ d ∈ l, ∀ kvs, d ≠ .dict kvs) (hv : sz (.tuple [x, .tuple l, .tuple es]) ≤ 500000) : fp sem_p_long_error [.dat (.tuple [x, .tuple l, .tuple es])] k Q ↔ Q (rowErr 20 400 20 (.tuple [x, .tuple l, .tuple es])) k := by
  refine fp_eq (eq_fp (fp_of rfl ?_))
  unfold m_p_long_error
  simp [fp_eq (sem_within 20 400 20 k hnd hv)]
theorem disp3 {a b c x : Str} {u v w : D} (h1 : a ≠ b) (h2 : a ≠ c) (h3 : b ≠ c) : dDisp [(.str a, u), (.str b, v), (.str c, w)] = some (.dict [(.str a, u), (.str b, v), (.str c, w)]) ∧
    lookD [(.str a, u), (.str b, v), (.str c, w)] (.str x) = (if x = a then some u else if x = b then some v else if x = c then some w else none) := by
  constructor
  · simp [dDisp, mergeD, putD, sameK, kD, h1, h2, h3]
  · simp only [lookD, List.find?_cons, sameK, kD]
    by_cases e1 : x = a
    · simp [e1]
    · by_cases e2 : x = b
      · simp [e2, h1, h1.symm]
      · by_cases e3 : x = c
        · simp [e3, h2, h3, h2.symm, h3.symm]
        · simp [e1, e2, e3, Ne.symm e1, Ne.symm e2, Ne.symm e3]
theorem sem_lstep (v : D) (n m : Int) (k : Dk) (nd : ∀ kvs, v ≠ .dict kvs) : sem_l_is_step [.dat v, .dat (.int n), .dat (.int m)] k = some (.bool (isStep v n m), k) := by
  refine eq_fp (fp_of rfl ?_)
  unfold m_l_is_step
  cases v with
  | tuple l =>
    match l with
    | [] => simp [lim, isStep]
    | [a] => simp [lim, isStep]
    | [a, b] =>
      simp [lim]
      cases a with
      | str w =>
        obtain ⟨e1, e2⟩ := disp3 (a := "in") (b := "set") (c := "neg") (x := w) (u := .tuple [.int 0, .int (n - 1)]) (v := .tuple [.int (-100000000000000000000), .int 100000000000000000000]) (w := .tuple [.int 0, .int (m - 1)]) (by simp) (by simp) (by simp)
        simp [isStep, e1, dDIn, dDGet, flatKs, kD, e2]
        by_cases h1 : w = Str.ofString "in"
        · simp [h1]
        · by_cases h2 : w = Str.ofString "set"
          · simp [h1, h2]
          · by_cases h3 : w = Str.ofString "neg"
            · simp [h1, h2, h3]
            · simp [h1, h2, h3]
      | _ => simp [isStep]
    | [a, b, c] =>
      simp [lim]
      cases a with
      | str w =>
        simp [isStep, wipeS, wipeL]
        by_cases h1 : (w = Str.ofString "+" ∨ w = Str.ofString "-") ∨ w = Str.ofString "*"
        · have h2 : (w == Str.ofString "+" || w == Str.ofString "-" || w == Str.ofString "*") = true := by simpa using h1
          refine .inr ⟨h1, ?_⟩
          simp only [h2, h1, Bool.true_and, forall_const]
          cases isI b 0 (m - 1) <;> cases isI c 0 (m - 1) <;> simp [dEq, SeqAt.shaped, PyData.canLay0, PyData.canLayAll0, PyData.depth, PyData.depthAll, PyData.eqv, PyData.eqvAll]
        · refine .inl ⟨by simpa using h1, fun h => absurd h h1⟩
      | _ => simp [isStep]
    | a :: b :: c :: d :: r =>
      simp [lim, isStep]
      exact .inr (by omega)
  | dict kvs => exact absurd rfl (nd kvs)
  | _ => simp [isStep]
theorem fp_lstep {v : D} {n m : Int} {k : Dk} {Q : D → Dk → Prop} (nd : ∀ kvs, v ≠ .dict kvs) : fp sem_l_is_step [.dat v, .dat (.int n), .dat (.int m)] k Q ↔ Q (.bool (isStep v n m)) k := fp_eq (sem_lstep v n m k nd)
theorem fp_odd {k : Dk} {Q : D → Dk → Prop} (hk : DkV k) (h : ∀ d k', sz d ≤ 200 → d.depth ≤ 4 → DkV k' → Q d k') : fp sem_l_odd [.deck] k Q := by
  refine fp_of rfl ?_
  unfold m_l_odd
  simp [lim]
  refine fp_one hk (by simp) (by decide) fun d k' hd hv => ?_
  obtain ⟨h1, h2⟩ := odd_small d hd
  exact h d k' h1 h2 hv
theorem sem_lsize {n m : Nat} {s : Rs} {f : List Nat} {k : Dk} (h : s.ok n m) (hf : m ≤ f.length) : sem_l_size [.dat s.d, .dat (.list (intsD f))] k = some (.int (s.size f : Nat), k) := by
  refine eq_fp (fp_of rfl ?_)
  unfold m_l_size
  cases s with
  | inp j => simp [Rs.d, Rs.size, lim]
  | set c => simp [Rs.d, Rs.size, lim]
  | neg i =>
    have hi : i < m := h
    simp [Rs.d, Rs.size, lim, intsD_get (show i < f.length by omega)]
  | add i j =>
    have hi : i < m ∧ j < m := h
    simp [Rs.d, Rs.size, lim, intsD_get (show i < f.length by omega), intsD_get (show j < f.length by omega)]
    split <;> omega
  | sub i j =>
    have hi : i < m ∧ j < m := h
    simp [Rs.d, Rs.size, lim, intsD_get (show i < f.length by omega), intsD_get (show j < f.length by omega)]
    split <;> omega
  | mul i j =>
    have hi : i < m ∧ j < m := h
    simp [Rs.d, Rs.size, lim, intsD_get (show i < f.length by omega), intsD_get (show j < f.length by omega)]
def rowSt (n many most : Nat) (a : List Rs) (o6 o7 o8 o9 : Option Val) (k : Dk) : S := ⟨[some .deck, some (.dat (.int (n : Nat))), some (.dat (.int (many : Nat))), some (.dat (.int (most : Nat))), some (.lst (spsD a)), some (.lst (intsD (sizesS a))), o6, o7, o8, o9, none], k⟩
theorem fp_row {n many most : Nat} {k : Dk} {Q : D → Dk → Prop} (hk : DkV k) (hn : n ≤ 1000) (h1 : 1 ≤ many) (h2 : many ≤ 1000) (h3 : 1 ≤ most) (h : ∀ a e k', RowOk n many most a e → DkV k' → Q (rowD n a e) k') : fp sem_l_row [.deck, .dat (.int (n : Nat)), .dat (.int (many : Nat)), .dat (.int (most : Nat))] k Q := by
  refine fp_of rfl ?_
  unfold m_l_row
  refine wp_seqM (fun s => s = rowSt n many most [] none none none none k) ?_ (fun s1 e => ?_)
  · simp [lim, rowSt, spsD, intsD, sizesS, runS]
  subst e
  rw [wp_sSeq]
  simp only [wp_sFor]
  unfold rowSt
  simp only [↓wp_rg1, ↓wp_eOp2, ↓wp_eC, ↓wp_callE, ↓wp_vDeck, ↓wp_vDat, ↓wp_vNil, ↓wp_eVar]
  simp
  refine fp_draw hk (by omega) (by omega) fun q k1 q0 q1 hv1 => ?_
  obtain ⟨q, rfl⟩ := Int.eq_ofNat_of_zero_le q0
  refine ⟨_, rfl, 1 + (q : Int), rfl, by omega, ?_⟩
  have eM : (1 + (q : Int)).toNat = q + 1 := by omega
  rw [eM]
  refine wp_loop (fun r s => ∃ (a : List Rs) (o6 o7 o8 : Option Val) (k : Dk), s = rowSt n many most a o6 o7 o8 none k ∧ RowIn n most a ∧ r = (rngD 0 (q + 1)).drop a.length ∧ a.length ≤ q + 1 ∧ DkV k) (fun x r s hI => ?_) (fun s hI => ?_) _ _ ⟨[], none, none, none, k1, rfl, ⟨trivial, by simp [sizesS, runS], by simp⟩, rfl, by simp, hv1⟩
  · obtain ⟨a, o6, o7, o8, k2, rfl, hr, hx, hal, hv2⟩ := hI
    obtain ⟨hi, rfl, rfl⟩ := rng_drop hx.symm
    simp only [↓wp_gN, rowSt, List.set_cons_succ, List.set_cons_zero, Int.zero_add]
    refine wp_seqM (fun s => ∃ (w : Str) (k : Dk), s = rowSt n many most a (some (.dat (.int (a.length : Nat)))) (some (.dat (.str w))) o8 none k ∧ DkV k) ?_ (fun s1 hs => ?_)
    · simp [lim]
      refine fp_one hv2 (by simp) (by simp) fun d k3 hd hv3 => ?_
      have : ∃ w : Str, d = .str w := by
        simp at hd
        rcases hd with rfl | rfl | rfl | rfl | rfl | rfl | rfl | rfl | rfl | rfl | rfl <;> exact ⟨_, rfl⟩
      obtain ⟨w, rfl⟩ := this
      exact ⟨w, _, rfl, hv3⟩
    obtain ⟨w, k3, rfl, hv3⟩ := hs
    refine wp_seqM (fun s => ∃ (w : Str) (k : Dk), s = rowSt n many most a (some (.dat (.int (a.length : Nat)))) (some (.dat (.str w))) o8 none k ∧ DkV k) ?_ (fun s1 hs => ?_)
    · simp [rowSt]
      by_cases hc : a.length < n
      · exact .inr ⟨hc, fp_draw hv3 (by decide) (by decide) fun u k4 u0 u1 hv4 => ⟨_, rfl, by by_cases z : 0 < u <;> simp [z] <;> omega, hv4⟩⟩
      · exact .inl ⟨by omega, hv3⟩
    obtain ⟨w, k4, rfl, hv4⟩ := hs
    refine wp_seqM (fun s => ∃ (st : Rs) (k : Dk), s = rowSt n many most a (some (.dat (.int (a.length : Nat)))) (some (.dat (.str w))) (some (.dat st.d)) none k ∧ st.ok n a.length ∧ st.small ∧ DkV k) ?_ (fun s1 hs => ?_)
    · simp [rowSt, lim]
      exact fp_draw hv4 (by decide) (by decide) fun u k5 u0 u1 hv5 => ⟨_, rfl, .set (u - 4), rfl, (show _ ∧ _ by omega), (show (u - 4).natAbs ≤ 4 by omega), hv5⟩
    obtain ⟨st, k5, rfl, ok5, sm5, hv5⟩ := hs
    refine wp_seqM (fun s => ∃ (st : Rs) (k : Dk), s = rowSt n many most a (some (.dat (.int (a.length : Nat)))) (some (.dat (.str w))) (some (.dat st.d)) none k ∧ st.ok n a.length ∧ st.small ∧ DkV k) ?_ (fun s1 hs => ?_)
    · simp [rowSt, lim]
      by_cases hw : w = Str.ofString "in"
      · refine .inr ⟨hw, ?_⟩
        by_cases h0 : n = 0
        · exact .inl ⟨h0, st, rfl, ok5, sm5, hv5⟩
        · refine .inr ⟨by omega, ?_⟩
          by_cases hc : a.length < n
          · exact .inr ⟨hc, .inp a.length, rfl, hc, trivial, hv5⟩
          · refine .inl ⟨by omega, fp_draw hv5 (by omega) (by omega) fun u k6 u0 u1 hv6 => ?_⟩
            obtain ⟨u, rfl⟩ := Int.eq_ofNat_of_zero_le u0
            exact ⟨.inp u, rfl, (show u < n by omega), trivial, hv6⟩
      · exact .inl ⟨hw, st, rfl, ok5, sm5, hv5⟩
    obtain ⟨st, k6, rfl, ok6, sm6, hv6⟩ := hs
    refine wp_seqM (fun s => ∃ (st : Rs) (k : Dk), s = rowSt n many most a (some (.dat (.int (a.length : Nat)))) (some (.dat (.str w))) (some (.dat st.d)) none k ∧ st.ok n a.length ∧ st.small ∧ DkV k) ?_ (fun s1 hs => ?_)
    · simp [rowSt, lim]
      by_cases hw : w = Str.ofString "neg"
      · refine .inr ⟨hw, ?_⟩
        by_cases h0 : a = []
        · exact .inl ⟨h0, st, rfl, ok6, sm6, hv6⟩
        · have hp : 0 < a.length := List.length_pos_iff.mpr h0
          refine .inr ⟨hp, fp_draw hv6 (by omega) (by omega) fun u k7 u0 u1 hv7 => ?_⟩
          obtain ⟨u, rfl⟩ := Int.eq_ofNat_of_zero_le u0
          exact ⟨.neg u, rfl, (show u < a.length by omega), trivial, hv7⟩
      · exact .inl ⟨hw, st, rfl, ok6, sm6, hv6⟩
    obtain ⟨st, k7, rfl, ok7, sm7, hv7⟩ := hs
    refine wp_seqM (fun s => ∃ (st : Rs) (k : Dk), s = rowSt n many most a (some (.dat (.int (a.length : Nat)))) (some (.dat (.str w))) (some (.dat st.d)) none k ∧ st.ok n a.length ∧ st.small ∧ DkV k) ?_ (fun s1 hs => ?_)
    · simp [rowSt, lim]
      by_cases hw : (w = Str.ofString "+" ∨ w = Str.ofString "-") ∨ w = Str.ofString "*"
      · refine .inr ⟨hw, ?_⟩
        by_cases h0 : a = []
        · exact .inl ⟨h0, st, rfl, ok7, sm7, hv7⟩
        · have hp : 0 < a.length := List.length_pos_iff.mpr h0
          refine .inr ⟨hp, fp_draw hv7 (by omega) (by omega) fun u k8 u0 u1 hv8 => ?_⟩
          refine fp_draw hv8 (by split <;> omega) (by split <;> omega) fun v k9 v0 v1 hv9 => ⟨_, rfl, ?_⟩
          have v2 : v < a.length := by split at v1 <;> omega
          obtain ⟨u, rfl⟩ := Int.eq_ofNat_of_zero_le u0
          obtain ⟨y, hy⟩ := Int.eq_ofNat_of_zero_le (show 0 ≤ (a.length : Int) - 1 - v by omega)
          rw [hy]
          rcases hw with (rfl | rfl) | rfl
          · exact ⟨.add u y, rfl, (show u < a.length ∧ y < a.length by omega), trivial, hv9⟩
          · exact ⟨.sub u y, rfl, (show u < a.length ∧ y < a.length by omega), trivial, hv9⟩
          · exact ⟨.mul u y, rfl, (show u < a.length ∧ y < a.length by omega), trivial, hv9⟩
      · exact .inl ⟨by simpa using hw, st, rfl, ok7, sm7, hv7⟩
    obtain ⟨st, k8, rfl, ok8, sm8, hv8⟩ := hs
    refine wp_seqM (fun s => ∃ (st : Rs) (k : Dk), s = rowSt n many most a (some (.dat (.int (a.length : Nat)))) (some (.dat (.str w))) (some (.dat st.d)) none k ∧ st.ok n a.length ∧ st.small ∧ st.size (sizesS a) ≤ most ∧ DkV k) ?_ (fun s1 hs => ?_)
    · simp [rowSt, lim]
      rw [fp_eq (sem_lsize ok8 (by rw [sizesS_len]; exact Nat.le_refl _))]
      refine ⟨by simp, _, rfl, ?_⟩
      by_cases hz : st.size (sizesS a) ≤ most
      · exact .inl ⟨by simp; omega, st, rfl, ok8, sm8, hz, hv8⟩
      · refine .inr ⟨by simp; omega, ?_⟩
        cases st with
        | mul i j =>
          have ho : i < a.length ∧ j < a.length := ok8
          refine ⟨.tuple [.int (i : Nat), .int (j : Nat)], by simp [Rs.d], .tuple [.str "+", .int (i : Nat), .int (j : Nat)], by simp [lim], .add i j, rfl, ho, trivial, ?_, hv8⟩
          exact Rs.size_le hr.siz h3 fun _ _ z => nomatch z
        | _ => exact absurd (Rs.size_le hr.siz h3 (fun _ _ z => by cases z)) hz
    obtain ⟨st, k9, rfl, ok9, sm9, sz9, hv9⟩ := hs
    simp [rowSt, lim]
    rw [fp_eq (sem_lsize ok9 (by rw [sizesS_len]; exact Nat.le_refl _))]
    refine ⟨by rw [spsD_len]; omega, by simp, by rw [intsD_len, sizesS_len]; omega, a ++ [st], ⟨spsD_snoc, ?_⟩, hr.snoc ok9 sz9 sm9, by simp, by simp; omega, hv9⟩
    rw [sizesS_snoc, intsD_snoc]
  · obtain ⟨a, o6, o7, o8, k2, rfl, hr, hx, hal, hv2⟩ := hI
    have hn := rng_nil hx.symm
    simp [rowSt, lim]
    refine fp_draw hv2 (by decide) (by decide) fun j k3 j0 j1 hv3 => ⟨j, rfl, by omega, ?_⟩
    refine wp_lc (fun r acc s => ∃ (e : List Nat) (k : Dk), acc = intsD e ∧ (∀ x ∈ e, x < a.length) ∧ e.length + r.length ≤ 2 ∧ s = rowSt n many most a o6 o7 o8 none k ∧ DkV k) (fun x r acc s hI => ?_) (fun acc s hI => ?_) _ _ _ ⟨[], k3, rfl, by simp, by rw [rng_len]; simp; omega, rfl, hv3⟩
    · obtain ⟨e, k4, rfl, he, hl, rfl, hv4⟩ := hI
      simp [rowSt, spsD_len]
      rw [List.length_cons] at hl
      refine fp_draw hv4 (by omega) (by omega) fun u k5 u0 u1 hv5 => ?_
      obtain ⟨u, rfl⟩ := Int.eq_ofNat_of_zero_le u0
      refine ⟨by rw [intsD_len]; show _ ≤ 1000000; omega, e ++ [u], intsD_snoc, fun x hx => ?_, by simp; omega, hv5⟩
      rcases List.mem_append.mp hx with hx | hx
      · exact he x hx
      · simp at hx; omega
    · obtain ⟨e, k4, rfl, he, hl, rfl, hv4⟩ := hI
      simp [rowSt, spsD_len]
      rw [List.length_nil] at hl
      refine ⟨by rw [intsD_len]; omega, ?_⟩
      have e1 : ((a.length : Int) - 1) = ((a.length - 1 : Nat) : Int) := by omega
      rw [e1]
      refine h a ((a.length - 1) :: e) k4 ⟨hr.ok, by omega, hr.siz, fun x hx => ?_, by simp; omega, hr.sml⟩ hv4
      rcases List.mem_cons.mp hx with rfl | hx
      · omega
      · exact he x hx
theorem sem_lerr {x : D} {l es : List D} (I S E : Int) (k : Dk) (hnd : ∀ d ∈ l, ∀ kvs, d ≠ .dict kvs) (hv : sz (.tuple [x, .tuple l, .tuple es]) ≤ 500000) : sem_l_row_error [.dat (.tuple [x, .tuple l, .tuple es]), .dat (.int I), .dat (.int S), .dat (.int E)] k = some (rowErr I S E (.tuple [x, .tuple l, .tuple es]), k) := by
  refine eq_fp (fp_of rfl ?_)
  unfold m_l_row_error
  simp [lim]
  by_cases hx : isI x 0 I = true
  · obtain ⟨n, rfl, h1, h2⟩ := isI_int hx
    obtain ⟨n, rfl⟩ := Int.eq_ofNat_of_zero_le h1
    simp [hx]
    try simp
    by_cases hl : 1 ≤ (l.length : Int) ∧ (l.length : Int) ≤ S
    · have hr : rowErr I S E (.tuple [.int n, .tuple l, .tuple es]) = (stepsErr n l []).getD (endsErr E l.length (.tuple es)) := by simp [rowErr, hx, hl]
      have hsz : szA l ≤ 500000 := by
        simp only [sz_tup, szA] at hv; omega
      have hll := szA_len l
      refine .inr ⟨hl.1, .inr ⟨hl.2, by omega, ?_⟩⟩
      rw [hr]
      refine wp_loop (fun r s => ∃ (f : List Nat) (o5 : Option Val), s = ⟨[some (.dat (.tuple [.int n, .tuple l, .tuple es])), some (.dat (.int I)), some (.dat (.int S)), some (.dat (.int E)), some (.lst (intsD f)), o5, none], k⟩ ∧ r = (rngD 0 l.length).drop f.length ∧ stepsErr n l [] = stepsErr n (l.drop f.length) f) (fun x r s hI => ?_) (fun s hI => ?_) _ _ ⟨[], none, rfl, rfl, rfl⟩
      · obtain ⟨f, o5, rfl, hr, he⟩ := hI
        obtain ⟨hi, rfl, rfl⟩ := rng_drop hr.symm
        rw [drop_at hi] at he
        rw [he]
        have hat := atI_at hi
        have nd := hnd _ (List.getElem_mem hi)
        generalize l[f.length] = v at hat nd ⊢
        simp [lim, hat, fp_lstep nd]
        by_cases hs : isStep v n f.length = true
        · refine .inr ⟨hs, ?_⟩
          obtain ⟨e1, ok⟩ := isStep_sp hs
          have e2 : ∀ Q, fp sem_l_size [.dat v, .dat (.list (intsD f))] k Q ↔ Q (.int ((spOf v).size f : Nat)) k := fun Q => by
            have := sem_lsize (k := k) ok (Nat.le_refl _)
            rw [← e1] at this
            exact fp_eq this
          simp [e2, L2.atI_last, stepsErr, hs, intsD_len]
          refine ⟨by omega, ?_⟩
          by_cases hz : (spOf v).size f ≤ 64
          · refine .inl ⟨by omega, f ++ [(spOf v).size f], intsD_snoc, by simp, ?_⟩
            rw [if_neg (by omega)]; simp
          · refine .inr ⟨by omega, ?_⟩
            rw [if_pos (by omega)]; rfl
        · refine .inl ⟨by simpa using hs, ?_⟩
          simp [stepsErr, hs]
      · obtain ⟨f, o5, rfl, hr, he⟩ := hI
        have hn := rng_nil hr.symm
        rw [List.drop_of_length_le hn] at he
        rw [he]
        simp [stepsErr]
        have hse : szA es ≤ 500000 := by
          simp only [sz_tup, szA] at hv; omega
        have hle := szA_len es
        simp [endsErr]
        by_cases he : 1 ≤ (es.length : Int) ∧ (es.length : Int) ≤ E
        · refine .inr ⟨he.1, .inr ⟨he.2, ?_⟩⟩
          refine wp_lc_fm (fun d => !isI d 0 ((l.length : Int) - 1)) (fun _ => .int 1) (fun x hx => ?_) (by show _ ≤ 1000000; omega) ?_
          · simp
          · rw [dNe_ones]
            simp [he]
            by_cases hA : ∀ x, x ∈ es → isI x 0 ((l.length : Int) - 1) = true
            · exact .inl ⟨hA, fun x hx h => by rw [hA x hx] at h; cases h⟩
            · exact .inr ⟨by simpa using hA, by rw [if_neg hA]; rfl⟩
        · simp [er, he]
          omega
    · have hr : rowErr I S E (.tuple [.int n, .tuple l, .tuple es]) = er "steps" := by simp [rowErr, hx, hl]
      rw [hr]
      simp [er]
      omega
  · simp [rowErr, hx, er]
end Lw
namespace Lw
open PySem PySem.Spec PyProof.Rows L2 DL
/-! numbers of words -/
theorem slS {w : Str} {lo hi : Option Int} (h : w.length ≤ 100000) : dSlS (.str w) lo hi = some (.str (cutS w lo hi)) := by
  have hs : (100000 : Nat) ≤ sizeLine := by decide
  show (if w.length ≤ sizeLine then _ else _) = _
  rw [if_pos (by omega)]
theorem ixS {w : Str} {c : Nat} {r : List Nat} (h : w.length ≤ 100000) (e : w.cps.toList = c :: r) : dIxS (.str w) (.int 0) = some (.str ⟨#[c]⟩) := by
  have hs : (100000 : Nat) ≤ sizeLine := by decide
  show (if w.length ≤ sizeLine then (atI w.cps.toList 0).map fun c => PyData.str ⟨#[c]⟩ else none) = _
  rw [if_pos (by omega), e]
  simp
theorem fig_len {w : Str} : (figT w).length ≤ w.length := by
  obtain ⟨neg, h⟩ := fig_parts w
  have := congrArg List.length h
  rw [str_len, List.length_append, str_len] at this
  omega
def gDg : D → D
  | .str s => .bool (s.cps.toList.all digB)
  | d => d
def pDg : D → Bool
  | .str s => s.cps.toList.all digB
  | _ => false
def pNd : D → Bool
  | .str s => !(s.cps.toList.all digB)
  | _ => true
theorem sgns_len {w : Str} : (sgnsD w).length = w.length := by unfold sgnsD; rw [List.length_map, str_len]
theorem sgns_all {w : Str} : (sgnsD w).all pDg = w.cps.toList.all digB := by
  unfold sgnsD
  rw [List.all_map]
  congr 1
  funext c
  show ([c].all digB) = digB c
  simp
theorem sgns_map {w : Str} : (sgnsD w).map gDg = (sgnsD w).map fun d => .bool (pDg d) := by
  unfold sgnsD
  rw [List.map_map, List.map_map]
  rfl
theorem numR_bad {w : Str} (h : NumBad w) : numR w = .none := by
  unfold numR numT
  rw [if_pos h]
theorem numR_odd {w : Str} (h : NumOdd w) : numR w = .none := by
  unfold numR numT
  by_cases hb : NumBad w
  · rw [if_pos hb]
  · rw [if_neg hb, if_pos h]
theorem intS {w : Str} (hb : ¬ NumBad w) (ho : ¬ NumOdd w) : dIntS [.str w] = some (numR w) := by
  obtain ⟨n, e, b, hl⟩ := num_reads hb
  show (if w.length ≤ 640 then (intText? w).map PyData.int else none) = _
  unfold numR numT
  rw [if_pos (by omega), if_neg hb, if_neg ho, e]
  rfl
theorem sem_numberof {w : Str} {k : Dk} (hl : w.length ≤ 100000) : sem_p_number_of [.dat (.str w)] k = some (numR w, k) := by
  refine eq_fp (fp_of rfl ?_)
  unfold m_p_number_of
  have fl := fig_len (w := w)
  have dl : dLen [.str (figT w)] = some (.int (figT w).length) := by
    show (if (figT w).length ≤ lim then _ else _) = _
    rw [if_pos (by show _ ≤ 1000000; omega)]
  refine wp_seqM (fun s => s = ⟨[some (.dat (.str w)), some (.dat (.str (figT w))), none], k⟩) ?_ (fun s1 hs => ?_)
  · simp [slS hl]
    by_cases h : cutS w none (some 1) = ("-" : Str)
    · simp [h, slS hl, figT]
    · simp [h, figT]
  subst hs
  by_cases hA : figT w = ("" : Str)
  · rw [numR_bad (.inl hA)]
    simp [hA]
  by_cases hB : 21 < (figT w).length
  · rw [numR_bad (.inr (.inl hB))]
    simp [hA, hB, dl]
    omega
  have key : ∀ (Q : List D → S → Prop), Q ((sgnsD (figT w)).map fun d => .bool (pDg d)) ⟨[some (.dat (.str w)), some (.dat (.str (figT w))), none], k⟩ → wp (lcLoop [2] (gN 2) (rtn true) (eOp2 dInC (eVar 2) (eC (.str "0123456789"))) (sgnsD (figT w)) []) ⟨[some (.dat (.str w)), some (.dat (.str (figT w))), none], k⟩ Q := fun Q q => by
    refine wp_lc_map gDg (fun x hx => ?_) (by rw [sgns_len]; show _ ≤ 1000000; omega) (by rw [sgns_map]; exact q)
    obtain ⟨c, hc, rfl⟩ := List.mem_map.mp (show x ∈ (figT w).cps.toList.map fun c => PyData.str ⟨#[c]⟩ from hx)
    have e : dInC (.str ⟨#[c]⟩) (.str "0123456789") = some (.bool (digB c)) := rfl
    simp [e, gDg]
  by_cases hC : (figT w).cps.toList.all digB = true
  · have hb : ¬ NumBad w := fun z => by
      rcases z with z | z | z
      · exact hA z
      · exact hB z
      · rw [hC] at z; cases z
    have n0 : ∃ c r, (figT w).cps.toList = c :: r := by
      cases hh : (figT w).cps.toList with
      | nil => exact absurd (str_eta hh) hA
      | cons c r => exact ⟨c, r, rfl⟩
    obtain ⟨c, r, hcr⟩ := n0
    have ix := ixS (w := figT w) (by omega) hcr
    have c0 : ((⟨#[c]⟩ : Str) = ("0" : Str)) ↔ c = 48 := by
      constructor
      · intro z
        have := congrArg (fun s : Str => s.cps.toList) z
        have e2 : ("0" : Str).cps.toList = [48] := rfl
        simp only [e2] at this
        simpa using this
      · rintro rfl; rfl
    have od : NumOdd w ↔ (1 < (figT w).length ∧ c = 48) ∨ w = ("-0" : Str) := by
      unfold NumOdd
      rw [hcr]
      simp
    have is := intS hb
    rw [od] at is
    have no := numR_odd (w := w)
    rw [od] at no
    have hB2 : ¬ (21 : Int) < ((figT w).length : Nat) := by omega
    simp [hA, hB2, dl]
    refine key _ ?_
    have al : dAll [.list ((sgnsD (figT w)).map fun d => .bool (pDg d))] = some (.bool true) := by rw [dAll_map, sgns_all, hC]
    simp [al, dl, ix, c0]
    by_cases h1 : 1 < (figT w).length
    · by_cases h2 : c = 48
      · exact .inr ⟨by omega, .inr ⟨h2, (no (.inl ⟨h1, h2⟩)).symm⟩⟩
      · by_cases h3 : w = ("-0" : Str)
        · exact .inr ⟨by omega, .inl ⟨h2, .inr ⟨h3, (no (.inr h3)).symm⟩⟩⟩
        · exact .inr ⟨by omega, .inl ⟨h2, .inl ⟨h3, is (by rintro (z | z); exact h2 z.2; exact h3 z)⟩⟩⟩
    · by_cases h3 : w = ("-0" : Str)
      · exact .inl ⟨by omega, .inr ⟨h3, (no (.inr h3)).symm⟩⟩
      · exact .inl ⟨by omega, .inl ⟨h3, is (by rintro (z | z); exact h1 z.1; exact h3 z)⟩⟩
  · have hC2 : (figT w).cps.toList.all digB = false := by simpa using hC
    rw [numR_bad (.inr (.inr hC2))]
    have hB2 : ¬ (21 : Int) < ((figT w).length : Nat) := by omega
    simp [hA, hB2, dl]
    refine key _ ?_
    have al : dAll [.list ((sgnsD (figT w)).map fun d => .bool (pDg d))] = some (.bool false) := by rw [dAll_map, sgns_all, hC2]
    simp [al]
def stsD (ws : List Str) : List D := ws.map PyData.str
noncomputable def gNm : D → D
  | .str w => numR w
  | d => d
theorem numR_flat {w : Str} : flatD (numR w) = true ∧ isNone (numR w) = (numT w).isNone := by
  unfold numR
  cases numT w <;> exact ⟨rfl, rfl⟩
theorem numsR_eq : ∀ {ws : List Str}, numsR ws = if (ws.any fun w => (numT w).isNone) = true then .none else .tuple (ws.map numR)
  | [] => rfl
  | w :: r => by
    have ih := numsR_eq (ws := r)
    unfold numsR at ih ⊢
    unfold numsT
    cases hw : numT w with
    | none => simp [hw]
    | some n =>
      cases hr : numsT r with
      | none =>
        rw [hr] at ih
        simp only at ih
        split at ih
        · rename_i h; simp [h]
        · cases ih
      | some l =>
        rw [hr] at ih
        simp only at ih
        split at ih
        · cases ih
        · rename_i h
          injection ih with ih
          have h2 : (r.any fun w => (numT w).isNone) = false := by simpa using h
          rw [List.any_cons, hw, h2]
          simp only [Option.isNone_some, Bool.or_false, Bool.false_eq_true, if_false, List.map_cons, ih]
          rw [show numR w = .int n by unfold numR; rw [hw]]
theorem sem_numbersof {ws : List Str} {k : Dk} (hl : ws.length ≤ 100000) (hw : ∀ w ∈ ws, w.length ≤ 100000) : sem_p_numbers_of [.dat (.list (stsD ws))] k = some (numsR ws, k) := by
  refine eq_fp (fp_of rfl ?_)
  unfold m_p_numbers_of
  refine wp_seqM (fun s => s = ⟨[some (.dat (.list (stsD ws))), some (.dat (.list (ws.map numR))), none], k⟩) ?_ (fun s1 hs => ?_)
  · simp
    refine wp_lc_map gNm (fun x hx => ?_) (by simp [stsD]; show _ ≤ 1000000; omega) ?_
    · obtain ⟨w, h, rfl⟩ := List.mem_map.mp (show x ∈ ws.map PyData.str from hx)
      simp [fp_eq (sem_numberof (k := k) (hw w h)), gNm]
    · have e : (stsD ws).map gNm = ws.map numR := by simp [stsD, gNm, Function.comp_def]
      rw [e]
      simp
  subst hs
  have fl : (ws.map numR).all flatD = true := by
    rw [List.all_map, List.all_eq_true]
    exact fun w _ => numR_flat.1
  have inn : dIn .none (.list (ws.map numR)) = some (.bool (ws.any fun w => (numT w).isNone)) := by
    show (if (flatD .none && (ws.map numR).all flatD) = true then _ else _ : Option Bool).map _ = _
    rw [fl]
    simp only [flatD, Bool.and_self, if_true, Option.map_some]
    congr 2
    unfold inD
    rw [List.any_map]
    congr 1
    funext w
    show PyData.eqv (numR w) .none = _
    unfold numR
    cases numT w <;> rfl
  rw [numsR_eq]
  simp [inn]
  by_cases h : ∃ x, x ∈ ws ∧ numT x = none
  · exact .inr h
  · exact .inl fun x hx z => h ⟨x, hx, z⟩
/-! the law's own -/
theorem numsT_snoc : ∀ {a : List Str} {w : Str}, numsT (a ++ [w]) = match numsT a, numT w with
    | some l, some n => some (l ++ [n])
    | _, _ => none
  | [], w => by
    show numsT [w] = _
    unfold numsT
    cases numT w <;> rfl
  | x :: a, w => by
    have ih := numsT_snoc (a := a) (w := w)
    show numsT (x :: (a ++ [w])) = _
    unfold numsT
    rw [ih]
    cases numT x <;> cases numsT a <;> cases numT w <;> rfl
theorem numsT_none : ∀ {a b : List Str}, numsT a = none → numsT (a ++ b) = none
  | [], b, h => by cases h
  | x :: a, b, h => by
    show numsT (x :: (a ++ b)) = none
    unfold numsT at h ⊢
    cases hx : numT x with
    | none => rfl
    | some n =>
      rw [hx] at h
      cases ha : numsT a with
      | none => rw [numsT_none ha]
      | some l => rw [ha] at h; cases h
def lnI (ws : List Str) (k : Dk) (r : List D) (s : S) : Prop := ∃ (a b : List Str) (l : List Int) (o2 o3 : Option Val), ws = a ++ b ∧ r = stsD b ∧ numsT a = some l ∧ s = ⟨[some (.dat (.list (stsD ws))), some (.lst (l.map PyData.int)), o2, o3, none], k⟩
theorem sem_lnumbers {ws : List Str} {k : Dk} (hl : ws.length ≤ 100000) (hw : ∀ w ∈ ws, w.length ≤ 100000) : sem_l_numbers [.dat (.list (stsD ws))] k = some (numsR ws, k) := by
  refine eq_fp (fp_of rfl ?_)
  unfold m_l_numbers
  simp
  refine wp_loop (lnI ws k) (fun x r s hI => ?_) (fun s hI => ?_) _ _ ⟨[], ws, [], none, none, rfl, rfl, rfl, rfl⟩
  · obtain ⟨a, b, l, o2, o3, e, er, ha, rfl⟩ := hI
    cases b with
    | nil => cases er
    | cons w b =>
      have er : x :: r = .str w :: stsD b := er
      obtain ⟨rfl, rfl⟩ := List.cons.inj er
      have hwl := hw w (by rw [e]; simp)
      have fl := fig_len (w := w)
      have dl : dLen [.str (figT w)] = some (.int (figT w).length) := by
        show (if (figT w).length ≤ lim then _ else _) = _
        rw [if_pos (by show _ ≤ 1000000; omega)]
      have al : a.length + (b.length + 1) = ws.length := by rw [e]; simp
      have ll := (numsT_lt ha).2
      have sn := numsT_snoc (a := a) (w := w)
      rw [ha] at sn
      have bad : numT w = none → numsR ws = .none := fun z => by
        rw [z] at sn
        have := numsT_none (b := b) sn
        unfold numsR
        rw [e, show a ++ w :: b = a ++ [w] ++ b by simp, this]
      have numN : numR w = .none → numT w = none := fun z => by
        unfold numR at z
        cases hh : numT w with
        | none => rfl
        | some n => rw [hh] at z; cases z
      refine wp_gN.mpr ?_
      show wp _ ⟨[some (.dat (.list (stsD ws))), some (.lst (l.map PyData.int)), some (.dat (.str w)), o3, none], k⟩ _
      refine wp_seqM (fun s => s = ⟨[some (.dat (.list (stsD ws))), some (.lst (l.map PyData.int)), some (.dat (.str w)), some (.dat (.str (figT w))), none], k⟩) ?_ (fun s1 hs => ?_)
      · simp [slS hwl]
        by_cases h : cutS w none (some 1) = ("-" : Str)
        · simp [h, slS hwl, figT]
        · simp [h, figT]
      subst hs
      have key : ∀ (Q : List D → S → Prop), Q (((sgnsD (figT w)).filter pNd).map fun _ => .int 1) ⟨[some (.dat (.list (stsD ws))), some (.lst (l.map PyData.int)), some (.dat (.str w)), some (.dat (.str (figT w))), none], k⟩ → wp (lcLoop [4] (gN 4) (tV (eOp2 dNotInC (eVar 4) (eC (.str "0123456789")))) (eC (.int 1)) (sgnsD (figT w)) []) ⟨[some (.dat (.list (stsD ws))), some (.lst (l.map PyData.int)), some (.dat (.str w)), some (.dat (.str (figT w))), none], k⟩ Q := fun Q q => by
        refine wp_lc_fm pNd (fun _ => .int 1) (fun x hx => ?_) (by rw [sgns_len]; show _ ≤ 1000000; omega) q
        obtain ⟨c, hc, rfl⟩ := List.mem_map.mp (show x ∈ (figT w).cps.toList.map fun c => PyData.str ⟨#[c]⟩ from hx)
        have e : dNotInC (.str ⟨#[c]⟩) (.str "0123456789") = some (.bool (!digB c)) := rfl
        have e2 : pNd (.str ⟨#[c]⟩) = !digB c := by
          show (!([c].all digB)) = _
          simp
        simp [e, e2]
        try (cases digB c <;> simp)
      have an : ((sgnsD (figT w)).all fun d => !pNd d) = (figT w).cps.toList.all digB := by
        rw [← sgns_all]
        congr 1
        funext d
        cases d <;> first | rfl | (show (!(!_)) = _; rw [Bool.not_not]; rfl)
      by_cases hA : figT w = ("" : Str)
      · rw [bad (numN (numR_bad (.inl hA)))]
        have l0 : (figT w).length = 0 := by rw [hA]; rfl
        simp [dl, l0]
      have l1 : 1 ≤ (figT w).length := by
        rcases Nat.eq_zero_or_pos (figT w).length with z | z
        · rw [← str_len] at z
          exact absurd (str_eta (List.eq_nil_of_length_eq_zero z)) hA
        · exact z
      by_cases hB : 21 < (figT w).length
      · rw [bad (numN (numR_bad (.inr (.inl hB))))]
        have hB2 : ¬ ((figT w).length : Int) ≤ 21 := by omega
        simp [dl, hB2]
        omega
      have b1 : (1 : Int) ≤ ((figT w).length : Nat) := by omega
      have b2 : ((figT w).length : Int) ≤ 21 := by omega
      by_cases hC : (figT w).cps.toList.all digB = true
      · have hb : ¬ NumBad w := fun z => by
          rcases z with z | z | z
          · exact hA z
          · exact hB z
          · rw [hC] at z; cases z
        have n0 : ∃ c r, (figT w).cps.toList = c :: r := by
          cases hh : (figT w).cps.toList with
          | nil => exact absurd (str_eta hh) hA
          | cons c r => exact ⟨c, r, rfl⟩
        obtain ⟨c, r, hcr⟩ := n0
        have ix := ixS (w := figT w) (by omega) hcr
        have c0 : ((⟨#[c]⟩ : Str) = ("0" : Str)) ↔ c = 48 := by
          constructor
          · intro z
            have := congrArg (fun s : Str => s.cps.toList) z
            have e2 : ("0" : Str).cps.toList = [48] := rfl
            simp only [e2] at this
            simpa using this
          · rintro rfl; rfl
        have od : NumOdd w ↔ (1 < (figT w).length ∧ c = 48) ∨ w = ("-0" : Str) := by
          unfold NumOdd
          rw [hcr]
          simp
        simp [dl, b1, b2]
        refine key _ ?_
        rw [dNe_ones, an, hC]
        simp [dl, ix, c0]
        by_cases h3 : w = ("-0" : Str)
        · exact .inr ⟨h3, (bad (numN (numR_odd (od.mpr (.inr h3))))).symm⟩
        have cont : ¬ NumOdd w → ∃ d, dIntS [.str w] = some d ∧ l.length ≤ lim ∧ lnI ws k (stsD b) ⟨[some (.dat (.list (stsD ws))), some (.lst (l.map PyData.int ++ [d])), some (.dat (.str w)), some (.dat (.str (figT w))), none], k⟩ := fun ho => by
          obtain ⟨n, en, -, -⟩ := num_reads hb
          have nt : numT w = some n := by
            unfold numT
            rw [if_neg hb, if_neg ho, en]
          have nr : numR w = .int n := by unfold numR; rw [nt]
          rw [nt] at sn
          refine ⟨_, intS hb ho, by show _ ≤ 1000000; omega, a ++ [w], b, l ++ [n], some (.dat (.str w)), some (.dat (.str (figT w))), by rw [e]; simp, rfl, sn, by rw [nr]; simp⟩
        refine .inl ⟨h3, ?_⟩
        by_cases h1 : 1 < (figT w).length
        · by_cases h2 : c = 48
          · exact .inr ⟨by omega, .inr ⟨h2, (bad (numN (numR_odd (od.mpr (.inl ⟨h1, h2⟩))))).symm⟩⟩
          · exact .inr ⟨by omega, .inl ⟨h2, cont (by rw [od]; rintro (z | z); exact h2 z.2; exact h3 z)⟩⟩
        · exact .inl ⟨by omega, cont (by rw [od]; rintro (z | z); exact h1 z.1; exact h3 z)⟩
      · have hC2 : (figT w).cps.toList.all digB = false := by simpa using hC
        rw [bad (numN (numR_bad (.inr (.inr hC2))))]
        simp [dl, b1, b2]
        refine key _ ?_
        rw [dNe_ones, an, hC2]
        simp
  · obtain ⟨a, b, l, o2, o3, e, er, ha, rfl⟩ := hI
    cases b with
    | cons w b => cases er
    | nil =>
      rw [List.append_nil] at e
      subst e
      unfold numsR
      rw [ha]
      simp
end Lw
namespace Lw
open PySem PySem.Spec PyProof.Rows L2 DL
/-! lines -/
theorem dSplit_sp {line : Str} (h : line.length ≤ 100000) : dSplit (.str line) (.str " ") = some (.list (.str (w0 line) :: stsD (wr line))) := by
  have hs : (100002 : Nat) ≤ sizeLine := by decide
  have e : ((" " : Str).length == 0) = false := by decide
  show (if _ ∧ _ then some (PyData.list ((Txt.split line (" " : Str)).map PyData.str)) else none) = _
  rw [if_pos ⟨e, by omega⟩, wds_eq]
  rfl
theorem wr_ok {line : Str} (h : line.length ≤ 90000) : (wr line).length ≤ 100000 ∧ ∀ w ∈ wr line, w.length ≤ 100000 := by
  have h1 := split_le line (" " : Str)
  rw [wds_eq, List.length_cons] at h1
  refine ⟨by omega, fun w hw => ?_⟩
  have := split_mem (a := line) (b := (" " : Str)) (y := w) (by rw [wds_eq]; exact List.mem_cons_of_mem _ hw)
  omega
theorem numsR_cases (ws : List Str) : (numsT ws = none ∧ numsR ws = .none) ∨ ∃ l, numsT ws = some l ∧ numsR ws = .tuple (l.map PyData.int) := by
  unfold numsR
  cases numsT ws with
  | none => exact .inl ⟨rfl, rfl⟩
  | some l => exact .inr ⟨l, rfl, rfl⟩
theorem isN0 : dIs .none .none = some (.bool true) := rfl
theorem isN1 {l : List D} : dIs (.tuple l) .none = some (.bool false) := rfl
theorem notN0 : dIsNot .none .none = some (.bool false) := rfl
theorem notN1 {l : List D} : dIsNot (.tuple l) .none = some (.bool true) := rfl
theorem sem_readhead {line : Str} {k : Dk} (h : line.length ≤ 90000) : sem_p_read_head [.dat (.str line)] k = some (headR line, k) := by
  refine eq_fp (fp_of rfl ?_)
  unfold m_p_read_head
  obtain ⟨h1, h2⟩ := wr_ok h
  have sn := sem_numbersof (k := k) h1 h2
  simp [dSplit_sp (show line.length ≤ 100000 by omega), fp_eq sn]
  unfold headR
  by_cases h0 : w0 line = ("inputs" : Str)
  · rcases numsR_cases (wr line) with ⟨a, b⟩ | ⟨l, a, b⟩
    · rw [a, b]
      simp [h0, notN0]
    · rw [a, b]
      match l with
      | [] => simp [h0, notN1]
      | [n] => simp [h0, notN1]
      | n :: m :: r =>
        simp [h0, notN1]
        omega
  · simp [h0]
theorem stsD_len {ws : List Str} : (stsD ws).length = ws.length := by simp [stsD]
theorem sem_readends {line : Str} {k : Dk} (h : line.length ≤ 90000) : sem_p_read_ends [.dat (.str line)] k = some (endsR line, k) := by
  refine eq_fp (fp_of rfl ?_)
  unfold m_p_read_ends
  obtain ⟨h1, h2⟩ := wr_ok h
  have sn := sem_numbersof (k := k) h1 h2
  simp [dSplit_sp (show line.length ≤ 100000 by omega), fp_eq sn, stsD_len]
  unfold endsR
  by_cases h0 : w0 line = ("ends" : Str)
  · rcases numsR_cases (wr line) with ⟨a, b⟩ | ⟨l, a, b⟩
    · rw [a, b]
      simp [h0]
      omega
    · have ll := (numsT_lt a).2
      rw [a, b]
      match l, ll with
      | [], ll =>
        simp at ll
        simp [h0, ← ll]
      | n :: r, ll =>
        simp at ll
        simp [h0, ← ll]
        omega
  · simp [h0]
def wantL : List (D × D) := [(.str "in", .int 1), (.str "set", .int 1), (.str "neg", .int 1), (.str "+", .int 2), (.str "-", .int 2), (.str "*", .int 2)]
theorem want_disp : dDisp [(.str "in", .int 1), (.str "set", .int 1), (.str "neg", .int 1), (.str "+", .int 2), (.str "-", .int 2), (.str "*", .int 2)] = some (.dict wantL) := by rfl
theorem want_look {w : Str} : lookD wantL (.str w) = if wantT w = 0 then none else some (.int (wantT w : Nat)) := by
  unfold wantL wantT
  simp only [lookD, List.find?_cons, sameK, kD]
  by_cases e1 : w = ("in" : Str)
  · subst e1; rfl
  by_cases e2 : w = ("set" : Str)
  · subst e2; rfl
  by_cases e3 : w = ("neg" : Str)
  · subst e3; rfl
  by_cases e4 : w = ("+" : Str)
  · subst e4; rfl
  by_cases e5 : w = ("-" : Str)
  · subst e5; rfl
  by_cases e6 : w = ("*" : Str)
  · subst e6; rfl
  simp [e1, e2, e3, e4, e5, e6, Ne.symm e1, Ne.symm e2, Ne.symm e3, Ne.symm e4, Ne.symm e5, Ne.symm e6]
theorem want_flat : flatKs wantL = true := by rfl
theorem want_in {w : Str} : dDNotIn (.str w) (.dict wantL) = some (.bool (decide (wantT w = 0))) := by
  have := want_look (w := w)
  unfold dDNotIn
  simp [want_flat, this, kD]
  by_cases h : wantT w = 0
  · simp [h]
  · simp [h]
theorem want_get {w : Str} (h : wantT w ≠ 0) : dDGet (.dict wantL) (.str w) = some (.int (wantT w : Nat)) := by
  have := want_look (w := w)
  unfold dDGet
  simp [want_flat, this, kD, h]
theorem want_getD {w : Str} : dDGetD (.dict wantL) (.str w) (.int 0) = some (.int (wantT w : Nat)) := by
  have := want_look (w := w)
  unfold dDGetD
  simp [want_flat, this, kD]
  by_cases h : wantT w = 0
  · simp [h]
  · simp [h]
theorem sem_readstep {line : Str} {k : Dk} (h : line.length ≤ 90000) : sem_p_read_step [.dat (.str line)] k = some (stepR line, k) := by
  refine eq_fp (fp_of rfl ?_)
  unfold m_p_read_step
  obtain ⟨h1, h2⟩ := wr_ok h
  have sn := sem_numbersof (k := k) h1 h2
  simp [dSplit_sp (show line.length ≤ 100000 by omega), fp_eq sn, want_disp, want_in]
  unfold stepR
  by_cases h0 : wantT (w0 line) = 0
  · rcases numsR_cases (wr line) with ⟨a, b⟩ | ⟨l, a, b⟩
    · rw [a]; simp [h0]
    · rw [a]; simp [h0]
  · rcases numsR_cases (wr line) with ⟨a, b⟩ | ⟨l, a, b⟩
    · rw [a, b]; simp [h0, isN0]
    · have ll := (numsT_lt a).2
      rw [a, b]
      have hp : 0 < wantT (w0 line) := by omega
      by_cases hw : wantT (w0 line) = l.length
      · simp [h0, isN1, want_get h0, hw, lim]
        by_cases hl : l = []
        · exact .inr hl
        · exact .inl ⟨hl, by omega, hl⟩
      · simp [h0, isN1, want_get h0, hw, lim]
        omega
theorem ints_ne {l : List Int} : dNe (.tuple (l.map PyData.int)) (.tuple []) = some (.bool (!l.isEmpty)) := by
  have h : SeqAt.shaped (.tuple (l.map PyData.int)) = true := by
    rw [shaped_lt]
    exact shaped_ofInts fun d hd => by
      obtain ⟨i, _, rfl⟩ := List.mem_map.mp hd
      exact ⟨i, rfl⟩
  rw [dNe_nilT h]
  cases l <;> rfl
theorem sem_lline {line : Str} {n last : Nat} {k : Dk} (h : line.length ≤ 90000) : sem_l_line [.dat (.str line), .dat (.int (n : Nat)), .dat (.int (last : Nat))] k = some (lineR n last line, k) := by
  refine eq_fp (fp_of rfl ?_)
  unfold m_l_line
  obtain ⟨h1, h2⟩ := wr_ok h
  have sn := sem_lnumbers (k := k) h1 h2
  simp [dSplit_sp (show line.length ≤ 100000 by omega), fp_eq sn, want_disp, want_getD]
  unfold lineR
  rcases numsR_cases (wr line) with ⟨a, b⟩ | ⟨l, a, b⟩
  · have e1 : headR line = .none := by unfold headR; rw [a]; simp
    have e2 : endsR line = .none := by unfold endsR; rw [a]; simp
    have e3 : stepR line = .none := by unfold stepR; rw [a]
    rw [b, e1, e2, e3]
    simp [isN0]
  · have ll := (numsT_lt a).2
    rw [b]
    simp [isN1, ints_ne]
    by_cases n0 : n = 0
    · subst n0
      simp
      unfold headR
      rw [a]
      by_cases h0 : w0 line = ("inputs" : Str)
      · match l with
        | [] => simp [h0]
        | [x] => simp [h0]
        | x :: y :: r =>
          simp [h0]
          omega
      · simp [h0]
    · by_cases nl : n = last
      · subst nl
        simp [n0]
        unfold endsR
        rw [a]
        by_cases h0 : w0 line = ("ends" : Str)
        · match l with
          | [] => simp [h0]
          | x :: r => simp [h0]
        · simp [h0]
      · have nl2 : ¬ (n : Int) = (last : Nat) := by omega
        simp [n0, nl, nl2]
        unfold stepR
        rw [a]
        by_cases hw : wantT (w0 line) = l.length
        · have hw2 : ((wantT (w0 line) : Nat) : Int) = (l.length : Nat) := by omega
          by_cases h0 : wantT (w0 line) = 0
          · simp [h0]
            exact (Classical.em _).symm
          · have hp : 0 < wantT (w0 line) := by omega
            simp [hw2, hp, lim]
            exact .inr ⟨by omega, hw⟩
        · have hw2 : ¬ ((wantT (w0 line) : Nat) : Int) = (l.length : Nat) := by omega
          simp [hw, hw2]
end Lw
namespace Lw
open PySem PySem.Spec PyProof.Rows L2 DL
/-! rows read of texts -/
def lns (v : Str) : List Str := Txt.split v ("\n" : Str)
theorem lns_ok {v : Str} (h : v.length ≤ 1000) : lns v ≠ [] ∧ (lns v).length ≤ 1002 ∧ ∀ y ∈ lns v, y.length ≤ 1000 := by
  refine ⟨split_ne _ _, ?_, fun y hy => ?_⟩
  · have := split_le v ("\n" : Str)
    unfold lns; omega
  · have := split_mem hy
    omega
theorem dSplit_nl {v : Str} (h : v.length ≤ 1000) : dSplit (.str v) (.str "\n") = some (.list (stsD (lns v))) := by
  have hs : (100002 : Nat) ≤ sizeLine := by decide
  have e : (("\n" : Str).length == 0) = false := by decide
  show (if _ ∧ _ then some (PyData.list ((Txt.split v ("\n" : Str)).map PyData.str)) else none) = _
  rw [if_pos ⟨e, by omega⟩]
  rfl
def lnA (v : Str) (i : Nat) : Str := (lns v).getD i ("" : Str)
theorem lns_at {v : Str} {i : Nat} (h : i < (lns v).length) : atI (stsD (lns v)) (i : Nat) = some (.str (lnA v i)) := by
  refine atI_nat ?_
  unfold stsD lnA
  rw [List.getElem?_map, List.getElem?_eq_getElem h, List.getD_eq_getElem?_getD, List.getElem?_eq_getElem h]
  rfl
theorem lns_get {v : Str} {i : Nat} (h : v.length ≤ 1000) (hi : i < (lns v).length) : (lnA v i).length ≤ 1000 := by
  have : (lns v).getD i ("" : Str) ∈ lns v := by
    rw [List.getD_eq_getElem?_getD, List.getElem?_eq_getElem hi]
    exact List.getElem_mem _
  exact (lns_ok h).2.2 _ this
/-! sizes of what is told -/
theorem sz_num {n : Int} (h : n.natAbs < 10 ^ 21) : sz (.int n) ≤ 72 := sz_intB (n := 70) (by decide) (by decide) (by
  have e : (10 : Nat) ^ 21 ≤ 2 ^ 70 := by decide
  omega)
theorem sz_words {w : Str} (h : 0 < wantT w) : sz (.str w) ≤ 100 := by
  unfold wantT at h
  split at h
  · rename_i z
    rcases z with rfl | rfl | rfl <;> decide +kernel
  · split at h
    · rename_i z
      rcases z with rfl | rfl | rfl <;> decide +kernel
    · omega
theorem szA_nums : ∀ {l : List Int}, (∀ n ∈ l, n.natAbs < 10 ^ 21) → szA (l.map PyData.int) ≤ 74 * l.length
  | [], _ => by simp [szA]
  | n :: l, h => by
    have ih := szA_nums (l := l) fun m hm => h m (List.mem_cons_of_mem _ hm)
    have h1 := sz_num (h n (List.mem_cons_self ..))
    simp only [List.map_cons, szA, List.length_cons]
    omega
theorem head_sz {line : Str} : sz (headR line) ≤ 72 ∧ (headR line).depth ≤ 1 := by
  unfold headR
  split
  · split
    · rename_i n h
      exact ⟨sz_num ((numsT_lt h).1 n (by simp)), by simp [PyData.depth]⟩
    · exact ⟨by decide +kernel, by simp [PyData.depth]⟩
  · exact ⟨by decide +kernel, by simp [PyData.depth]⟩
theorem dpA_nums {l : List Int} : PyData.depthAll (l.map PyData.int) ≤ 1 := depthA_le_of fun d hd => by
  obtain ⟨n, _, rfl⟩ := List.mem_map.mp hd
  simp [PyData.depth]
theorem step_sz {line : Str} : sz (stepR line) ≤ 400 ∧ (stepR line).depth ≤ 3 ∧ ∀ kvs, stepR line ≠ .dict kvs := by
  unfold stepR
  split
  · rename_i l h
    split
    · rename_i hw
      have h1 := szA_nums (numsT_lt h).1
      have h2 := sz_words hw.2
      have h3 : wantT (w0 line) ≤ 2 := by
        unfold wantT
        split
        · omega
        · split <;> omega
      refine ⟨?_, ?_, fun kvs z => nomatch z⟩
      · rw [sz_tup]
        simp only [szA]
        omega
      · rw [dp_tup]
        have := dpA_nums (l := l)
        simp only [PyData.depthAll, PyData.depth]
        omega
    · exact ⟨by decide +kernel, by simp [PyData.depth], fun kvs z => nomatch z⟩
  · exact ⟨by decide +kernel, by simp [PyData.depth], fun kvs z => nomatch z⟩
theorem ends_sz {line : Str} (h : line.length ≤ 1000) : sz (endsR line) ≤ 80000 ∧ (endsR line).depth ≤ 3 ∧ (endsR line ≠ .none → ∃ l, endsR line = .tuple l) := by
  have hl : (wr line).length ≤ 1002 := by
    have h1 := split_le line (" " : Str)
    rw [wds_eq, List.length_cons] at h1
    omega
  unfold endsR
  split
  · split
    · rename_i n l hn
      have h1 := szA_nums (numsT_lt hn).1
      have h2 := (numsT_lt hn).2
      refine ⟨?_, ?_, fun _ => ⟨_, rfl⟩⟩
      · rw [sz_tup]
        rw [h2] at h1
        omega
      · rw [dp_tup]
        have := dpA_nums (l := n :: l)
        omega
    · exact ⟨by decide +kernel, by simp [PyData.depth], fun z => absurd rfl z⟩
  · exact ⟨by decide +kernel, by simp [PyData.depth], fun z => absurd rfl z⟩
theorem stepsErr_at {n : Nat} : ∀ {l : List D} {f : List Nat} {x : D}, stepsErr n l f = some x → ∃ (m : Nat) (s : String), m < f.length + l.length ∧ (s = "size" ∨ s = "step") ∧ x = .tuple [.int (m : Nat), .str s]
  | [], f, x, h => by simp [stepsErr] at h
  | v :: r, f, x, h => by
    unfold stepsErr at h
    split at h
    · split at h
      · cases h; exact ⟨_, "size", by simp, .inl rfl, rfl⟩
      · obtain ⟨m, s, h1, h2, h3⟩ := stepsErr_at h
        exact ⟨m, s, by simp at h1 ⊢; omega, h2, h3⟩
    · cases h; exact ⟨_, "step", by simp, .inr rfl, rfl⟩
theorem er_gd {s : String} (h : sz (.str s) ≤ 80) : sz (er s) ≤ 200 ∧ (er s).depth ≤ 1 := by
  unfold er
  constructor
  · have : sz .none = 5 := by decide
    simp only [sz_tup, szA]; omega
  · simp [PyData.depth, PyData.depthAll]
theorem rowErr_gd {I S E : Int} {v : D} (hS : S ≤ 400) : sz (rowErr I S E v) ≤ 200 ∧ (rowErr I S E v).depth ≤ 1 := by
  have e1 : sz (.str "row") ≤ 80 := by decide
  have e2 : sz (.str "inputs") ≤ 80 := by decide
  have e3 : sz (.str "steps") ≤ 80 := by decide
  have e4 : sz (.str "ends") ≤ 80 := by decide
  have e5 : sz (.str "size") ≤ 80 := by decide
  have e6 : sz (.str "step") ≤ 80 := by decide
  have hen : ∀ m z, sz (endsErr E m z) ≤ 200 ∧ (endsErr E m z).depth ≤ 1 := fun m z => by
    unfold endsErr
    split
    · split
      · exact ⟨by decide, by decide⟩
      · exact er_gd e4
    · exact er_gd e4
  unfold rowErr
  split
  · split
    · split
      · rename_i n l _
        split
        · rename_i hl
          cases hs : stepsErr n.toNat l [] with
          | none => exact hen _ _
          | some x =>
            obtain ⟨m, s, h1, h2, rfl⟩ := stepsErr_at hs
            simp only [Option.getD_some]
            have := sz_nat (i := m) (by simp at h1; omega)
            constructor
            · simp only [sz_tup, szA]
              rcases h2 with rfl | rfl <;> omega
            · simp [PyData.depth, PyData.depthAll]
        · exact er_gd e3
      · exact er_gd e3
    · exact er_gd e2
  · exact er_gd e1
end Lw
namespace Lw
open PySem PySem.Spec PyProof.Rows L2 DL
/-! rows read of texts: the walks -/
theorem dIs_any (x : D) : dIs x .none = some (.bool (isNone x)) := by cases x <;> rfl
theorem dIsNot_any (x : D) : dIsNot x .none = some (.bool (!isNone x)) := by cases x <;> rfl
theorem isNone_iff {x : D} : isNone x = true ↔ x = .none := by cases x <;> simp [isNone]
theorem rng_st {d m : Nat} : rngD ((d : Nat) : Int) (m + 1) = .int (d : Nat) :: rngD ((d + 1 : Nat) : Int) m := by
  unfold rngD
  rw [List.range_succ_eq_map, List.map_cons, List.map_map]
  simp only [List.cons.injEq]
  refine ⟨by simp, List.map_congr_left fun n _ => ?_⟩
  simp only [Function.comp, PyData.int.injEq]; omega
noncomputable def fdL (v : Str) (j : Nat) : List D := (List.range j).map (rsF (lns v))
theorem fdL_snoc {v : Str} {j : Nat} : fdL v (j + 1) = fdL v j ++ [rsF (lns v) j] := by simp [fdL, List.range_succ]
theorem fdL_len {v : Str} {j : Nat} : (fdL v j).length = j := by simp [fdL]
theorem fdL_mid {v : Str} (h : 2 ≤ (lns v).length) : cutG (fdL v (lns v).length) (some 1) (some (-1)) = midR (lns v) := by
  generalize hL : (lns v).length = L at *
  have e1 : HT.sIx L 0 (some 1) = 1 := by
    rw [show (1 : Int) = ((1 : Nat) : Int) from rfl, HT.sIx_nat]; omega
  have e2 : HT.sIx L L (some (-1)) = L - 1 := by
    show (if (-1 : Int) < 0 then ((-1 : Int) + (L : Int)).toNat else min (-1 : Int).toNat L) = _
    rw [if_pos (by decide)]; omega
  unfold cutG
  rw [fdL_len, e1, e2]
  unfold fdL midR
  rw [hL]
  apply List.ext_getElem?
  intro i
  rw [List.getElem?_take, List.getElem?_drop, List.getElem?_map, List.getElem?_map]
  by_cases hi : i < L - 2
  · rw [if_pos (by omega), List.getElem?_range (by omega), List.getElem?_range hi]
    simp [Nat.add_comm]
  · rw [if_neg (by omega), List.getElem?_eq_none (l := List.range (L - 2)) (by rw [List.length_range]; omega)]
    rfl
theorem row_sz {v : Str} (h : v.length ≤ 1000) (h2 : 2 ≤ (lns v).length) (ha : ∀ i, i < (lns v).length → rsF (lns v) i ≠ .none) :
    ∃ x l es, rowR (lns v) = .tuple [x, .tuple l, .tuple es] ∧ (∀ d ∈ l, ∀ kvs, d ≠ .dict kvs) ∧ sz (rowR (lns v)) ≤ 500000 ∧ (rowR (lns v)).depth ≤ 10 := by
  obtain ⟨n0, n1, n2⟩ := lns_ok h
  have e0 : rsF (lns v) 0 = headR (lnA v 0) := rfl
  have eL : rsF (lns v) ((lns v).length - 1) = endsR (lnA v ((lns v).length - 1)) := by
    unfold rsF lineR
    rw [if_neg (by omega), if_pos rfl]; rfl
  have em : ∀ i, i < (lns v).length - 2 → rsF (lns v) (i + 1) = stepR (lnA v (i + 1)) := fun i hi => by
    unfold rsF lineR
    rw [if_neg (by omega), if_neg (by omega)]; rfl
  have q1 := head_sz (line := lnA v 0)
  have q2 := ends_sz (lns_get h (show (lns v).length - 1 < (lns v).length by omega))
  have nl := ha ((lns v).length - 1) (by omega)
  rw [eL] at nl
  obtain ⟨es, hes⟩ := q2.2.2 nl
  have md : ∀ d ∈ midR (lns v), sz d ≤ 400 ∧ d.depth ≤ 3 ∧ ∀ kvs, d ≠ .dict kvs := fun d hd => by
    obtain ⟨i, hi, rfl⟩ := List.mem_map.mp (show d ∈ (List.range ((lns v).length - 2)).map fun i => rsF (lns v) (i + 1) from hd)
    rw [em i (List.mem_range.mp hi)]
    exact step_sz
  have ml : (midR (lns v)).length = (lns v).length - 2 := by simp [midR]
  have s1 := szA_le_of (n := 400) (l := midR (lns v)) fun d hd => (md d hd).1
  have s2 : PyData.depthAll (midR (lns v)) ≤ 3 := depthA_le_of fun d hd => (md d hd).2.1
  have s3 : (midR (lns v)).length * (400 + 2) ≤ 1000 * 402 := Nat.mul_le_mul_right _ (by omega)
  refine ⟨headR (lnA v 0), midR (lns v), es, ?_, fun d hd => (md d hd).2.2, ?_, ?_⟩
  · unfold rowR
    rw [e0, eL, hes]
  · unfold rowR
    rw [e0, eL]
    simp only [sz_tup, szA]
    omega
  · unfold rowR
    rw [e0, eL]
    simp only [dp_tup, PyData.depthAll]
    omega
def ldI (v : Str) (k : Dk) (r : List D) (st : S) : Prop := ∃ (j : Nat) (o3 : Option Val), j ≤ (lns v).length ∧ r = rngD (j : Nat) ((lns v).length - j) ∧ (∀ i, i < j → rsF (lns v) i ≠ .none) ∧ st = ⟨[some (.dat (.str v)), some (.dat (.list (stsD (lns v)))), some (.lst (fdL v j)), o3, none, none], k⟩
theorem fp_ldue {v : Str} {k : Dk} (h : v.length ≤ 1000) : fp sem_l_due [.dat (.str v)] k fun d k' => k' = k ∧ Res (lns v) d := by
  refine fp_of rfl ?_
  unfold m_l_due
  obtain ⟨n0, n1, n2⟩ := lns_ok h
  have n3 : 1 ≤ (lns v).length := by
    rcases Nat.eq_zero_or_pos (lns v).length with z | z
    · exact absurd (List.eq_nil_of_length_eq_zero z) n0
    · exact z
  have ec : ((lns v).length : Int) - 1 = (((lns v).length - 1 : Nat) : Int) := by omega
  simp [dSplit_nl h, stsD_len]
  refine ⟨by omega, ?_⟩
  refine wp_loop (ldI v k) (fun x r s hI => ?_) (fun s hI => ?_) _ _ ⟨0, none, by omega, rfl, by simp, rfl⟩
  · obtain ⟨j, o3, hj, er, ha, rfl⟩ := hI
    cases hm : (lns v).length - j with
    | zero => rw [hm] at er; cases er
    | succ m =>
      rw [hm, rng_st] at er
      obtain ⟨rfl, rfl⟩ := List.cons.inj er
      have hjl : j < (lns v).length := by omega
      have ll := sem_lline (n := j) (last := (lns v).length - 1) (k := k) (show (lnA v j).length ≤ 90000 by have := lns_get h hjl; omega)
      have la := lns_at hjl
      simp [la, stsD_len, ec, fp_eq ll, L2.atI_last, dIs_any, lim]
      refine ⟨by rw [fdL_len]; omega, ?_⟩
      have er2 : lineR j ((lns v).length - 1) (lnA v j) = rsF (lns v) j := rfl
      rw [er2]
      by_cases hn : rsF (lns v) j = .none
      · exact .inr ⟨isNone_iff.mpr hn, .bad hjl hn ha⟩
      · refine .inl ⟨by cases hh : isNone (rsF (lns v) j); rfl; exact absurd (isNone_iff.mp hh) hn, j + 1, some (.dat (.int (j : Nat))), by omega, by congr 1; omega, fun i hi => ?_, by rw [fdL_snoc]⟩
        rcases Nat.lt_succ_iff_lt_or_eq.mp hi with z | rfl
        · exact ha i z
        · exact hn
  · obtain ⟨j, o3, hj, er, ha, rfl⟩ := hI
    have hj2 : j = (lns v).length := by
      have := congrArg List.length er
      rw [rng_len] at this
      simp at this; omega
    subst hj2
    have lr := fun x l es => sem_lerr (x := x) (l := l) (es := es) 20 400 20 k
    have l2 : 2 ≤ lim := by show 2 ≤ 1000000; decide
    have l3 : 3 ≤ lim := by show 3 ≤ 1000000; decide
    simp [stsD_len]
    by_cases one : (lns v).length = 1
    · exact .inr ⟨by omega, l2, .one one (ha 0 (by omega))⟩
    · have two : 2 ≤ (lns v).length := by omega
      obtain ⟨x, l, es, e, nd, sz_, dp⟩ := row_sz h two ha
      have a0 : atI (fdL v (lns v).length) 0 = some (rsF (lns v) 0) := atI_nat (j := 0) (by unfold fdL; rw [List.getElem?_map, List.getElem?_range (by omega)]; rfl)
      have a1 : atI (fdL v (lns v).length) (-1) = some (rsF (lns v) ((lns v).length - 1)) := by
        have e3 : fdL v (lns v).length = fdL v ((lns v).length - 1) ++ [rsF (lns v) ((lns v).length - 1)] := by
          rw [← fdL_snoc]; congr 1; omega
        rw [e3]; exact L2.atI_last _ _
      refine .inl ⟨by omega, _, a0, _, a1, l3, ?_⟩
      rw [fdL_mid two]
      have er3 : PyData.tuple [rsF (lns v) 0, .tuple (midR (lns v)), rsF (lns v) ((lns v).length - 1)] = rowR (lns v) := rfl
      rw [er3]
      have le := lr x l es nd (by rw [← e]; exact sz_)
      rw [← e] at le
      rw [fp_eq le]
      refine ⟨_, dIs_any _, ?_⟩
      by_cases hn : rowErr 20 400 20 (rowR (lns v)) = .none
      · exact .inr ⟨by rw [hn]; rfl, l2, rfl, .ok two ha hn⟩
      · exact .inl ⟨by cases hh : isNone (rowErr 20 400 20 (rowR (lns v))); rfl; exact absurd (isNone_iff.mp hh) hn, l2, rfl, .row two ha hn⟩
end Lw
namespace Lw
open PySem PySem.Spec PyProof.Rows L2 DL
/-! the program's reading -/
/-- what reading tells, or how it is refused -/
def Rdd (L : List Str) (r : RX D) : Prop := (∃ d, r = .ok d ∧ Res L (.list [.str "ok", d])) ∨ (∃ d, r = .xc ⟨"BadText", some ("place", d)⟩ ∧ Res L (.list [.str "text", d])) ∨ ∃ d, r = .xc ⟨"BadRow", some ("error", d)⟩ ∧ Res L (.list [.str "row", d])
theorem rdd_text {L : List Str} {d : D} (h : Res L (.list [.str "text", d])) : Rdd L (.xc ⟨"BadText", some ("place", d)⟩) := .inr (.inl ⟨d, rfl, h⟩)
def rrI (v : Str) (k : Dk) (r : List D) (st : S) : Prop := ∃ (j : Nat) (o4 o5 : Option Val), 1 ≤ j ∧ (j ≤ (lns v).length - 1 ∨ j = 1) ∧ r = rngD (j : Nat) ((lns v).length - 1 - j) ∧ (∀ i, i < j → rsF (lns v) i ≠ .none) ∧ st = ⟨[some (.dat (.str v)), some (.dat (.list (stsD (lns v)))), some (.dat (rsF (lns v) 0)), some (.lst (fdL v j).tail), o4, o5, none, none, none], k⟩
theorem fx_readrow {v : Str} {k : Dk} (h : v.length ≤ 1000) : fx sem_p_read_row [.dat (.str v)] k fun r k' => k' = k ∧ Rdd (lns v) r := by
  refine fx_of rfl ?_
  unfold m_p_read_row
  obtain ⟨n0, n1, n2⟩ := lns_ok h
  have n3 : 1 ≤ (lns v).length := by
    rcases Nat.eq_zero_or_pos (lns v).length with z | z
    · exact absurd (List.eq_nil_of_length_eq_zero z) n0
    · exact z
  have rh := sem_readhead (k := k) (show (lnA v 0).length ≤ 90000 by have := lns_get h (show 0 < (lns v).length by omega); omega)
  have la0 := lns_at (v := v) (i := 0) (by omega)
  have la0' : atI (stsD (lns v)) 0 = some (.str (lnA v 0)) := la0
  have e0 : headR (lnA v 0) = rsF (lns v) 0 := rfl
  rw [e0] at rh
  simp [dSplit_nl h, la0', fp_eq rh, dIs_any, putP]
  by_cases hn : rsF (lns v) 0 = .none
  · exact .inr ⟨isNone_iff.mpr hn, rdd_text (d := .int ((0 : Nat) : Int)) (.bad n3 hn fun i hi => absurd hi (Nat.not_lt_zero _))⟩
  have hn2 : isNone (rsF (lns v) 0) = false := by cases hh : isNone (rsF (lns v) 0); rfl; exact absurd (isNone_iff.mp hh) hn
  simp [hn2, stsD_len]
  have h0 : ∀ i, i < 1 → rsF (lns v) i ≠ .none := fun i hi => by
    obtain rfl : i = 0 := by omega
    exact hn
  refine wp_xloop (rrI v k) (fun x r s hI => ?_) (fun s hI => ?_) _ _ ⟨1, none, none, Nat.le_refl _, .inr rfl, rfl, h0, by simp [fdL]⟩
  · obtain ⟨j, o4, o5, j1, j2, er, ha, rfl⟩ := hI
    cases hm : (lns v).length - 1 - j with
    | zero => rw [hm] at er; cases er
    | succ m =>
      rw [hm, rng_st] at er
      obtain ⟨rfl, rfl⟩ := List.cons.inj er
      have hjl : j < (lns v).length := by omega
      have rs := sem_readstep (k := k) (show (lnA v j).length ≤ 90000 by have := lns_get h hjl; omega)
      have ej : stepR (lnA v j) = rsF (lns v) j := by
        unfold rsF lineR
        rw [if_neg (by omega), if_neg (by omega)]; rfl
      rw [ej] at rs
      have la := lns_at hjl
      simp [la, fp_eq rs, dIs_any]
      by_cases hj : rsF (lns v) j = .none
      · exact .inr ⟨isNone_iff.mpr hj, rdd_text (.bad hjl hj ha)⟩
      · have hj2 : isNone (rsF (lns v) j) = false := by cases hh : isNone (rsF (lns v) j); rfl; exact absurd (isNone_iff.mp hh) hj
        have ltj : (fdL v j).length ≤ lim + 1 := by rw [fdL_len]; show _ ≤ 1000001; omega
        have h1 : ∀ i, i < j + 1 → rsF (lns v) i ≠ .none := fun i hi => by
          rcases Nat.lt_succ_iff_lt_or_eq.mp hi with z | rfl
          · exact ha i z
          · exact hj
        have tl : (fdL v j).tail ++ [rsF (lns v) j] = (fdL v (j + 1)).tail := by
          rw [fdL_snoc, List.tail_append_of_ne_nil (fun z => by have := congrArg List.length z; rw [fdL_len] at this; simp at this; omega)]
        refine .inl ⟨hj2, ltj, j + 1, some (.dat (.int (j : Nat))), some (.dat (rsF (lns v) j)), by omega, by omega, by congr 1; omega, h1, ?_⟩
        rw [tl]
  · obtain ⟨j, o4, o5, j1, j2, er, ha, rfl⟩ := hI
    have hj0 : (lns v).length - 1 - j = 0 := by
      have := congrArg List.length er
      rw [rng_len] at this
      simpa using this.symm
    by_cases one : (lns v).length = 1
    · have o1 : ¬ (1 : Int) < ((lns v).length : Nat) := by omega
      have rb : Rdd (lns v) (.xc ⟨"BadText", some ("place", .int 1)⟩) := rdd_text (.one one (ha 0 (by omega)))
      have o2 : (if (1 : Int) < ((lns v).length : Nat) - 1 then (((lns v).length : Nat) : Int) - 1 else 1) = 1 := if_neg (by omega)
      simp [o1, stsD_len]
      rw [o2]
      exact .inr ⟨rfl, rb⟩
    · have two : 2 ≤ (lns v).length := by omega
      obtain rfl : j = (lns v).length - 1 := by omega
      have o1 : (1 : Int) < ((lns v).length : Nat) := by omega
      have hjl : (lns v).length - 1 < (lns v).length := by omega
      have re := sem_readends (k := k) (show (lnA v ((lns v).length - 1)).length ≤ 90000 by have := lns_get h hjl; omega)
      have ej : endsR (lnA v ((lns v).length - 1)) = rsF (lns v) ((lns v).length - 1) := by
        unfold rsF lineR
        rw [if_neg (by omega), if_pos rfl]; rfl
      rw [ej] at re
      have la : atI (stsD (lns v)) (-1) = some (.str (lnA v ((lns v).length - 1))) := by
        have e3 : lns v = (lns v).take ((lns v).length - 1) ++ [lnA v ((lns v).length - 1)] := by
          conv => lhs; rw [← List.take_append_drop ((lns v).length - 1) (lns v)]
          congr 1
          rw [List.drop_eq_getElem_cons hjl]
          unfold lnA
          rw [List.getD_eq_getElem?_getD, List.getElem?_eq_getElem hjl]
          rw [List.drop_eq_nil_of_le (by omega)]
          rfl
        have e4 : stsD (lns v) = stsD ((lns v).take ((lns v).length - 1)) ++ [.str (lnA v ((lns v).length - 1))] := by
          conv => lhs; rw [e3]
          simp [stsD]
        rw [e4]; exact L2.atI_last _ _
      have ml : (fdL v ((lns v).length - 1)).tail = midR (lns v) := by
        unfold fdL midR
        apply List.ext_getElem?
        intro i
        rw [List.getElem?_tail, List.getElem?_map, List.getElem?_map]
        by_cases hi : i < (lns v).length - 2
        · rw [List.getElem?_range (by omega), List.getElem?_range hi]
          simp
        · rw [List.getElem?_eq_none (by rw [List.length_range]; omega), List.getElem?_eq_none (by rw [List.length_range]; omega)]
          rfl
      have er3 : PyData.tuple [rsF (lns v) 0, .tuple (midR (lns v)), rsF (lns v) ((lns v).length - 1)] = rowR (lns v) := rfl
      simp [o1, stsD_len, la, fp_eq re, dIs_any, ml, er3]
      by_cases hn3 : rsF (lns v) ((lns v).length - 1) = .none
      · refine .inr ⟨isNone_iff.mpr hn3, ?_⟩
        have o2 : (if (1 : Int) < ((lns v).length : Nat) - 1 then (((lns v).length : Nat) : Int) - 1 else 1) = (((lns v).length - 1 : Nat) : Int) := by
          split <;> omega
        rw [o2]
        exact rdd_text (.bad hjl hn3 ha)
      · have hn4 : isNone (rsF (lns v) ((lns v).length - 1)) = false := by cases hh : isNone (rsF (lns v) ((lns v).length - 1)); rfl; exact absurd (isNone_iff.mp hh) hn3
        have ha2 : ∀ i, i < (lns v).length → rsF (lns v) i ≠ .none := fun i hi => by
          rcases Nat.lt_or_ge i ((lns v).length - 1) with z | z
          · exact ha i z
          · obtain rfl : i = (lns v).length - 1 := by omega
            exact hn3
        obtain ⟨x, l, es, e, nd, sz_, dp⟩ := row_sz h two ha2
        have le := fun Q => fp_longerr (x := x) (l := l) (es := es) (k := k) (Q := Q) nd (by rw [← e]; exact sz_)
        rw [← e] at le
        simp [hn4, le, dIsNot_any]
        refine ⟨by show 3 ≤ 1000000; decide, ?_⟩
        by_cases hn5 : rowErr 20 400 20 (rowR (lns v)) = .none
        · exact .inl ⟨isNone_iff.mpr hn5, .inl ⟨_, rfl, .ok two ha2 hn5⟩⟩
        · exact .inr ⟨by cases hh : isNone (rowErr 20 400 20 (rowR (lns v))); rfl; exact absurd (isNone_iff.mp hh) hn5, .inr (.inr ⟨_, rfl, .row two ha2 hn5⟩)⟩
end Lw
namespace Lw
open PySem PySem.Spec PyProof.Rows L2 DL
/-! what read_row tells -/
theorem fx_monoo {sem : FSX} {xs : List Val} {k : Dk} {Q R : RX D → Dk → Prop} (h : fx sem xs k Q) (m : ∀ r k', Q r k' → R r k') : fx sem xs k R := by
  obtain ⟨r, k', e, q⟩ := h
  exact ⟨r, k', e, m r k' q⟩
theorem notStr {d : D} (h : ∀ s, d ≠ .str s) : isiD "str" d = false := by
  cases d with
  | str s => exact absurd rfl (h s)
  | dict kvs =>
    show isiT "str" (if isP kvs = true then "tuple" else "dict") = false
    cases isP kvs <;> rfl
  | _ => rfl
theorem fx_readodd {d : D} {k : Dk} (h : ∀ s, d ≠ .str s) : fx sem_p_read_row [.dat d] k fun r k' => k' = k ∧ r = .xc ⟨"BadText", some ("place", .none)⟩ := by
  refine fx_of rfl ?_
  unfold m_p_read_row
  have e := notStr h
  simp [e, putP]
theorem fp_foundodd {d : D} {k : Dk} (h : ∀ s, d ≠ .str s) : sem_l_found [.dat d] k = some (.list [.str "text", .none], k) := by
  refine eq_fp (fp_of rfl ?_)
  unfold m_l_found
  simp
  refine fx_monoo (fx_readodd h) fun r k' e12 => ?_
  obtain ⟨e1, e2⟩ := e12
  subst e1; subst e2
  simp
  refine ⟨_, rfl, ?_⟩
  simp
  try rfl
theorem fp_dueodd {d : D} {k : Dk} (h : ∀ s, d ≠ .str s) : sem_l_due [.dat d] k = some (.list [.str "text", .none], k) := by
  refine eq_fp (fp_of rfl ?_)
  unfold m_l_due
  have e := notStr h
  simp [e, lim]
theorem fp_found {v : Str} {k : Dk} (h : v.length ≤ 1000) : fp sem_l_found [.dat (.str v)] k fun d k' => k' = k ∧ Res (lns v) d := by
  refine fp_of rfl ?_
  unfold m_l_found
  simp
  refine fx_monoo (fx_readrow h) fun r k' e12 => ?_
  obtain ⟨e1, e2⟩ := e12
  subst e1
  rcases e2 with ⟨d, rfl, hr⟩ | ⟨d, rfl, hr⟩ | ⟨d, rfl, hr⟩
  · simp
    exact ⟨by show 2 ≤ 1000000; decide, hr⟩
  · simp
    refine ⟨_, rfl, ?_⟩
    simp
    exact ⟨_, rfl, hr⟩
  · simp
    refine ⟨_, rfl, ?_⟩
    simp
    exact ⟨_, rfl, hr⟩
/-- what is told is small -/
theorem res_gd {v : Str} {d : D} (h : v.length ≤ 1000) (hr : Res (lns v) d) : okR d = true := by
  have t1 : sz (.str "text") ≤ 80 := by decide
  have t2 : sz (.str "ok") ≤ 80 := by decide
  have t3 : sz (.str "row") ≤ 80 := by decide
  have n1 := (lns_ok h).2.1
  cases hr with
  | @bad j h0 _ _ =>
    have := sz_nat (i := j) (by omega)
    exact okR_of (by simp only [sz_lst, szA]; omega) (by simp [PyData.depth, PyData.depthAll])
  | one _ _ => exact okR_of (by decide) (by decide)
  | ok h2 ha _ =>
    obtain ⟨x, l, es, e, nd, s1, dp⟩ := row_sz h h2 ha
    refine okR_of (by simp only [sz_lst, szA]; omega) ?_
    simp only [dp_lst, PyData.depthAll, PyData.depth]; omega
  | row h2 ha _ =>
    have q := rowErr_gd (I := 20) (S := 400) (E := 20) (v := rowR (lns v)) (by decide)
    refine okR_of (by simp only [sz_lst, szA]; omega) ?_
    simp only [dp_lst, PyData.depthAll, PyData.depth]; omega
end Lw
namespace Lw
open PySem PySem.Spec PyProof.Rows L2 DL
/-! lengths of texts -/
def tl (l : List Str) : Nat := (l.map fun x => x.length + 1).sum
theorem tl_nil : tl [] = 0 := rfl
theorem tl_cons {x : Str} {l : List Str} : tl (x :: l) = x.length + 1 + tl l := by simp [tl]
theorem tl_app {a b : List Str} : tl (a ++ b) = tl a + tl b := by simp [tl]
theorem tl_le {n : Nat} : ∀ {l : List Str}, (∀ x ∈ l, x.length ≤ n) → tl l ≤ l.length * (n + 1)
  | [], _ => by simp [tl]
  | x :: l, h => by
    have ih := tl_le (l := l) fun y hy => h y (List.mem_cons_of_mem _ hy)
    have := h x (List.mem_cons_self ..)
    rw [tl_cons, List.length_cons, Nat.succ_mul]; omega
theorem tl_take : ∀ (l : List Str) (n : Nat), tl (l.take n) + tl (l.drop n) = tl l := fun l n => by
  rw [← tl_app, List.take_append_drop]
theorem tl_drop {l : List Str} {n m : Nat} (h : n ≤ m) : tl (l.drop m) ≤ tl (l.drop n) := by
  obtain ⟨c, rfl⟩ := Nat.exists_eq_add_of_le h
  rw [← List.drop_drop]
  have := tl_take (l.drop n) c
  omega
theorem tl_len : ∀ (l : List Str), l.length ≤ tl l ∧ (l.map fun x : Str => x.length).sum + l.length = tl l
  | [] => ⟨by simp [tl], by simp [tl]⟩
  | x :: l => by
    obtain ⟨h1, h2⟩ := tl_len l
    rw [tl_cons, List.length_cons, List.map_cons, List.sum_cons]
    omega
theorem join_le {sep : Str} (h : sep.length = 1) : ∀ (l : List Str), (Str.join sep l).length ≤ tl l - 1
  | [] => Nat.zero_le _
  | [x] => by rw [tl_cons]; show x.length ≤ _; omega
  | x :: z :: r => by
    show (x ++ sep ++ Str.join sep (z :: r)).length ≤ _
    have ih := join_le h (z :: r)
    rw [Str.length_append, Str.length_append, tl_cons, h]
    rw [tl_cons] at ih ⊢
    omega
theorem join_ge {sep : Str} (h : sep.length = 1) : ∀ (l : List Str), tl l ≤ (Str.join sep l).length + 1
  | [] => by simp [tl]
  | [x] => by rw [tl_cons, tl_nil]; show _ ≤ x.length + 1; omega
  | x :: z :: r => by
    show _ ≤ (x ++ sep ++ Str.join sep (z :: r)).length + 1
    have ih := join_ge h (z :: r)
    rw [Str.length_append, Str.length_append, tl_cons, h]
    omega
theorem tl_lns {v : Str} : tl (lns v) ≤ v.length + 1 := by
  have := join_ge (sep := ("\n" : Str)) (by decide) (lns v)
  unfold lns at this ⊢
  rwa [PySem.StrLaws.join_split] at this
theorem dJoin_sts {sep : Str} {l : List Str} (h : sep.length = 1) (hl : tl l ≤ 100000) : dJoin (.str sep) (.list (stsD l)) = some (.str (Str.join sep l)) := by
  obtain ⟨h1, h2⟩ := tl_len l
  show (match ssD (l.map PyData.str) with
    | some ys => if (ys.map fun x : Str => x.length).sum + ys.length * sep.length ≤ 16777216 then some (PyData.str (Txt.join sep ys)) else none
    | none => none) = _
  rw [ssD_map]
  simp only
  rw [if_pos (by rw [h]; omega)]
  exact congrArg (fun x => some (PyData.str x)) (PySem.StrLaws.glued_eq_join sep l)
/-! texts of rows -/
def tS : D → Str
  | .str x => x
  | .int i => toString i
  | _ => ("" : Str)
def gTx : D → D := fun d => .str (tS d)
def gSt : D → D
  | .tuple l => .str (Str.join (" " : Str) (l.map tS))
  | d => d
def TxOk (d : D) : Prop := (∃ x : Str, d = .str x ∧ x.length ≤ 3) ∨ ∃ i : Int, d = .int i ∧ i.natAbs < 32
theorem int_tx {i : Int} (h : i.natAbs < 32) : i.natAbs.log2 < 1920 ∧ ((toString i : String) : Str).length ≤ 6 := by
  have hl : i.natAbs.log2 < 5 := lg_lt (n := 5) (by decide) h
  have hlen := int_text_length_le (a := i) (k := 5) (by decide) hl
  refine ⟨by omega, ?_⟩
  have e : (Str.ofString (toString i)).length = (toString i).length := PySem.ofString_length _
  show (Str.ofString (toString i)).length ≤ _
  omega
theorem TxOk.len {d : D} (h : TxOk d) : dStrW [d] = some (.str (tS d)) ∧ (tS d).length ≤ 6 := by
  rcases h with ⟨x, rfl, hx⟩ | ⟨i, rfl, hi⟩
  · exact ⟨rfl, by show x.length ≤ 6; omega⟩
  · obtain ⟨h1, h2⟩ := int_tx hi
    refine ⟨?_, h2⟩
    show (if i.natAbs.log2 < 1920 then _ else _) = _
    rw [if_pos h1]; rfl
theorem sem_steptext {l : List D} {k : Dk} (h : ∀ d ∈ l, TxOk d) (hl : l.length ≤ 10) : sem_p_step_text [.dat (.tuple l)] k = some (gSt (.tuple l), k) := by
  refine eq_fp (fp_of rfl ?_)
  unfold m_p_step_text
  have e : l.map gTx = stsD (l.map tS) := by simp [stsD, gTx, Function.comp_def]
  have t : tl (l.map tS) ≤ 1000 := by
    have := tl_le (n := 6) (l := l.map tS) fun x hx => by
      obtain ⟨d, hd, rfl⟩ := List.mem_map.mp hx
      exact (h d hd).len.2
    rw [List.length_map] at this
    omega
  simp
  refine wp_lc_map gTx (fun x hx => ?_) (by show _ ≤ 1000000; omega) ?_
  · have := (h x hx).len.1
    simp [this, gTx]
  · rw [e, dJoin_sts (by decide) (by omega)]
    simp [gSt]
theorem St_tx {n : Nat} {m : Nat} {s : Rs} (ho : s.ok n m) (hn : n ≤ 31) (hm : m ≤ 31) (hc : ∀ c, s = Rs.set c → c.natAbs ≤ 4) : ∃ l : List D, s.d = .tuple l ∧ l.length ≤ 3 ∧ ∀ d ∈ l, TxOk d := by
  cases s with
  | inp i =>
    have : i < n := ho
    exact ⟨_, rfl, by simp, by
      intro d hd
      simp only [List.mem_cons, List.not_mem_nil, or_false] at hd
      rcases hd with rfl | rfl
      · exact .inl ⟨_, rfl, by decide⟩
      · exact .inr ⟨_, rfl, by omega⟩⟩
  | set c =>
    have := hc c rfl
    exact ⟨_, rfl, by simp, by
      intro d hd
      simp only [List.mem_cons, List.not_mem_nil, or_false] at hd
      rcases hd with rfl | rfl
      · exact .inl ⟨_, rfl, by decide⟩
      · exact .inr ⟨_, rfl, by omega⟩⟩
  | neg i =>
    have : i < m := ho
    exact ⟨_, rfl, by simp, by
      intro d hd
      simp only [List.mem_cons, List.not_mem_nil, or_false] at hd
      rcases hd with rfl | rfl
      · exact .inl ⟨_, rfl, by decide⟩
      · exact .inr ⟨_, rfl, by omega⟩⟩
  | add i j =>
    have : i < m ∧ j < m := ho
    exact ⟨_, rfl, by simp, by
      intro d hd
      simp only [List.mem_cons, List.not_mem_nil, or_false] at hd
      rcases hd with rfl | rfl | rfl
      · exact .inl ⟨_, rfl, by decide⟩
      · exact .inr ⟨_, rfl, by omega⟩
      · exact .inr ⟨_, rfl, by omega⟩⟩
  | sub i j =>
    have : i < m ∧ j < m := ho
    exact ⟨_, rfl, by simp, by
      intro d hd
      simp only [List.mem_cons, List.not_mem_nil, or_false] at hd
      rcases hd with rfl | rfl | rfl
      · exact .inl ⟨_, rfl, by decide⟩
      · exact .inr ⟨_, rfl, by omega⟩
      · exact .inr ⟨_, rfl, by omega⟩⟩
  | mul i j =>
    have : i < m ∧ j < m := ho
    exact ⟨_, rfl, by simp, by
      intro d hd
      simp only [List.mem_cons, List.not_mem_nil, or_false] at hd
      rcases hd with rfl | rfl | rfl
      · exact .inl ⟨_, rfl, by decide⟩
      · exact .inr ⟨_, rfl, by omega⟩
      · exact .inr ⟨_, rfl, by omega⟩⟩
theorem okFrom_mem {n : Nat} : ∀ {m : Nat} {a : List Rs} {s : Rs}, okFrom n m a → s ∈ a → ∃ i, i < m + a.length ∧ s.ok n i
  | m, x :: r, s, ho, hs => by
    rcases List.mem_cons.mp hs with rfl | hs
    · exact ⟨m, by simp, ho.1⟩
    · obtain ⟨i, h1, h2⟩ := okFrom_mem ho.2 hs
      exact ⟨i, by rw [List.length_cons]; omega, h2⟩
/-- the text of a number -/
def nT (i : Nat) : Str := ((toString ((i : Nat) : Int) : String) : Str)
theorem nT_ok {i : Nat} (h : i < 32) : dStr [.int (i : Nat)] = some (.str (nT i)) ∧ (nT i).length ≤ 6 := by
  obtain ⟨h1, h2⟩ := int_tx (i := (i : Int)) (by omega)
  refine ⟨?_, h2⟩
  show (if ((i : Nat) : Int).natAbs.log2 < 1920 then _ else _) = _
  rw [if_pos h1]; rfl
def rowLs (n : Nat) (a : List Rs) (e : List Nat) : List Str := (("inputs " : Str) ++ nT n) :: (a.map (fun s => tS (gSt (Rs.d s))) ++ [("ends " : Str) ++ Str.join (" " : Str) (e.map fun i => nT i)])
theorem sem_rowtext {n : Nat} {a : List Rs} {e : List Nat} {k : Dk} (hr : RowOk n 30 20 a e) (hn : n ≤ 3) : sem_p_row_text [.dat (rowD n a e)] k = some (.str (Str.join ("\n" : Str) (rowLs n a e)), k) ∧ tl (rowLs n a e) ≤ 900 := by
  have al := hr.len.2
  have el := hr.elen.2
  have hs : ∀ s ∈ a, ∃ l : List D, s.d = .tuple l ∧ l.length ≤ 3 ∧ ∀ d ∈ l, TxOk d := fun s hs => by
    obtain ⟨i, h1, h2⟩ := okFrom_mem hr.ok hs
    exact St_tx h2 (by omega) (by omega) fun c hc => hr.sml c (hc ▸ hs)
  have ht : ∀ s ∈ a, (tS (gSt s.d)).length ≤ 20 := fun s hs' => by
    obtain ⟨l, e1, e2, e3⟩ := hs s hs'
    have := tl_le (n := 6) (l := l.map tS) fun x hx => by
      obtain ⟨d, hd, rfl⟩ := List.mem_map.mp hx
      exact (e3 d hd).len.2
    have j := join_le (sep := (" " : Str)) (by decide) (l.map tS)
    rw [List.length_map] at this
    rw [e1]
    show (Str.join (" " : Str) (l.map tS)).length ≤ 20
    omega
  have he : ∀ i ∈ e, i < 32 := fun i hi => by have := hr.ends i hi; omega
  obtain ⟨i1, i2⟩ := nT_ok (i := n) (by omega)
  have t2 : tl (e.map fun i => nT i) ≤ 21 := by
    have := tl_le (n := 6) (l := e.map fun i => nT i) fun x hx => by
      obtain ⟨i, hi, rfl⟩ := List.mem_map.mp hx
      exact (nT_ok (he i hi)).2
    rw [List.length_map] at this
    omega
  have j2 := join_le (sep := (" " : Str)) (by decide) (e.map fun i => nT i)
  have t1 : tl (a.map fun s => tS (gSt s.d)) ≤ 630 := by
    have := tl_le (n := 20) (l := a.map fun s => tS (gSt s.d)) fun x hx => by
      obtain ⟨s, hs, rfl⟩ := List.mem_map.mp hx
      exact ht s hs
    rw [List.length_map] at this
    omega
  have l1 : ("inputs " : Str).length = 7 := by decide
  have l2 : ("ends " : Str).length = 5 := by decide
  have tot : tl (rowLs n a e) ≤ 900 := by
    unfold rowLs
    rw [tl_cons, tl_app, tl_cons, tl_nil, Str.length_append, Str.length_append]
    omega
  refine ⟨?_, tot⟩
  refine eq_fp (fp_of rfl ?_)
  unfold m_p_row_text
  have e1 : (spsD a).map gSt = stsD (a.map fun s => tS (gSt s.d)) := by
    unfold spsD stsD
    rw [List.map_map, List.map_map]
    refine List.map_congr_left fun s hs' => ?_
    obtain ⟨l, e1, e2, e3⟩ := hs s hs'
    simp only [Function.comp, e1]; rfl
  have e2 : (intsD e).map gTx = stsD (e.map fun i => nT i) := by
    unfold intsD stsD
    rw [List.map_map, List.map_map]; rfl
  have a0 : atI [(.int (n : Nat) : D), .tuple (spsD a), .tuple (intsD e)] 2 = some (.tuple (intsD e)) := rfl
  refine wp_seqM (fun s => s = ⟨[some (.dat (rowD n a e)), some (.dat (.list (stsD ((("inputs " : Str) ++ nT n) :: a.map (fun s => tS (gSt (Rs.d s))))))), none, none], k⟩) ?_ (fun s1 hs1 => ?_)
  · have dS := i1
    have b1 : ("inputs " : Str).length + (nT n).length ≤ lim := by show _ ≤ 1000000; omega
    unfold rowD
    simp only [wp_sAsg, wp_eOp2, wp_eL, wp_nLst, wp_aCons, wp_aNil, wp_eC, wp_eCB, wp_eVar]
    simp [dS, b1]
    refine ⟨by show 1 ≤ 1000000; decide, ?_⟩
    refine wp_lc_map gSt (fun x hx => ?_) (by show (spsD a).length ≤ 1000000; rw [spsD_len]; omega) ?_
    · obtain ⟨s, h1, rfl⟩ := List.mem_map.mp (show x ∈ a.map Rs.d from hx)
      obtain ⟨l, q1, q2, q3⟩ := hs s h1
      rw [q1]
      simp [fp_eq (sem_steptext (k := k) q3 (by omega))]
    · rw [e1]
      simp [stsD, lim]
      omega
  subst hs1
  have b2 : ("ends " : Str).length + (Str.join (" " : Str) (e.map fun i => nT i)).length ≤ lim := by show _ ≤ 1000000; omega
  unfold rowD
  simp [a0]
  refine wp_lc_map gTx (fun x hx => ?_) (by show (intsD e).length ≤ 1000000; rw [intsD_len]; omega) ?_
  · obtain ⟨i, h1, rfl⟩ := List.mem_map.mp (show x ∈ e.map (fun i => PyData.int ((i : Nat) : Int)) from hx)
    have dS := (nT_ok (he i h1)).1
    simp [dS, gTx]
    rfl
  · rw [e2, dJoin_sts (by decide) (by omega)]
    have dj := dJoin_sts (sep := ("\n" : Str)) (l := rowLs n a e) (by decide) (by omega)
    refine ⟨_, rfl, _, (by rw [dAdd_str, if_pos b2]), by show _ ≤ 1000000; decide, by show _ ≤ 1000000; simp [stsD]; omega, ?_⟩
    have ee : stsD ((("inputs " : Str) ++ nT n) :: a.map (fun s => tS (gSt (Rs.d s)))) ++ [.str (("ends " : Str) ++ Str.join (" " : Str) (e.map fun i => nT i))] = stsD (rowLs n a e) := by
      unfold rowLs stsD
      simp
    rw [ee, dj]
    exact ⟨_, rfl, rfl, rfl⟩
end Lw
namespace Lw
open PySem PySem.Spec PyProof.Rows L2 DL
/-! the law -/
theorem cutS_to {z : Str} {n : Nat} (h : n ≤ z.length) : (cutS z none (some (n : Nat))).length = n := by
  have e1 : HT.sIx z.length 0 none = 0 := rfl
  have e2 : HT.sIx z.length z.length (some ((n : Nat) : Int)) = min n z.length := HT.sIx_nat z.length z.length n
  have hl : z.cps.toList.length = z.length := str_len
  unfold cutS
  rw [e1, e2, ← str_len, List.toList_toArray, List.length_take, List.length_drop, hl]
  omega
theorem cutS_from {z : Str} {n : Nat} : (cutS z (some (n : Nat)) none).length ≤ z.length - n := by
  have e1 : HT.sIx z.length 0 (some ((n : Nat) : Int)) = min n z.length := HT.sIx_nat z.length 0 n
  have e2 : HT.sIx z.length z.length none = z.length := rfl
  have hl : z.cps.toList.length = z.length := str_len
  unfold cutS
  rw [e1, e2, ← str_len, List.toList_toArray, List.length_take, List.length_drop, hl]
  omega
theorem dSlS_ok {z : Str} {lo hi : Option Int} (h : z.length ≤ 100000) : dSlS (.str z) lo hi = some (.str (cutS z lo hi)) := by
  have hs : (100000 : Nat) ≤ sizeLine := by decide
  show (if z.length ≤ sizeLine then _ else _) = _
  rw [if_pos (by omega)]
def TV (n : Nat) (d : D) : Prop := ∃ v : Str, d = .str v ∧ v.length ≤ n
theorem TV.mono {n m : Nat} {d : D} (h : TV n d) (hm : n ≤ m) : TV m d := by
  obtain ⟨v, rfl, hv⟩ := h
  exact ⟨v, rfl, by omega⟩
theorem cut_sts {l : List Str} {lo hi : Option Int} : cutG (stsD l) lo hi = stsD (cutG l lo hi) := by
  unfold cutG stsD
  rw [List.length_map, ← List.map_drop, ← List.map_take]
theorem cutG_to {l : List Str} {n : Nat} (h : n ≤ l.length) : cutG l none (some (n : Nat)) = l.take n := by
  have e1 : HT.sIx l.length 0 none = 0 := rfl
  have e2 : HT.sIx l.length l.length (some ((n : Nat) : Int)) = min n l.length := HT.sIx_nat l.length l.length n
  unfold cutG
  rw [e1, e2, List.drop_zero, Nat.sub_zero, Nat.min_eq_left h]
theorem cutG_fr {l : List Str} {n : Nat} : cutG l (some (n : Nat)) none = l.drop n := by
  have e1 : HT.sIx l.length 0 (some ((n : Nat) : Int)) = min n l.length := HT.sIx_nat l.length 0 n
  have e2 : HT.sIx l.length l.length none = l.length := rfl
  unfold cutG
  rw [e1, e2]
  by_cases h : n ≤ l.length
  · rw [Nat.min_eq_left h, List.take_of_length_le (by rw [List.length_drop]; exact Nat.le_refl _)]
  · rw [Nat.min_eq_right (by omega), List.drop_eq_nil_of_le (Nat.le_refl _), List.drop_eq_nil_of_le (by omega)]; simp
theorem fp_spoilt {v : Str} {k : Dk} {Q : D → Dk → Prop} (hk : DkV k) (h : v.length ≤ 940) (q : ∀ d k', TV (v.length + 20) d → DkV k' → Q d k') : fp sem_l_spoilt [.deck, .dat (.str v)] k Q := by
  refine fp_of rfl ?_
  unfold m_l_spoilt
  have h1 : v.length ≤ 1000 := by omega
  obtain ⟨n0, n1, n2⟩ := lns_ok h1
  have n3 : 1 ≤ (lns v).length := by
    rcases Nat.eq_zero_or_pos (lns v).length with z | z
    · exact absurd (List.eq_nil_of_length_eq_zero z) n0
    · exact z
  have tv := tl_lns (v := v)
  have dl : dLen [.str v] = some (.int v.length) := by
    show (if v.length ≤ lim then _ else _) = _
    rw [if_pos (by show _ ≤ 1000000; omega)]
  have mu : dMulS (.str "9") (.int 20) = some (.str "99999999999999999999") := by rfl
  refine wp_seqM (fun s => ∃ (a : Nat) (w : Int) (k2 : Dk), a ≤ v.length ∧ 0 ≤ w ∧ w < 6 ∧ DkV k2 ∧ s = ⟨[some .deck, some (.dat (.str v)), some (.dat (.int (a : Nat))), some (.dat (.int w)), some (.dat (.list (stsD (lns v)))), none, none, none], k2⟩) ?_ (fun s1 hs => ?_)
  · simp [dl, dSplit_nl h1]
    refine fp_draw hk (by omega) (by omega) fun at_ k1 a0 a1 hv1 => ?_
    refine fp_draw hv1 (by decide) (by decide) fun way k2 b0 b1 hv2 => ?_
    obtain ⟨a, rfl⟩ := Int.eq_ofNat_of_zero_le a0
    refine ⟨_, _, _, ⟨rfl, rfl, rfl⟩, ?_⟩
    exact ⟨a, by omega, way, b0, b1, k2, hv2, rfl⟩
  obtain ⟨a, w, k2, a1, w0, w1, hv2, rfl⟩ := hs
  simp [stsD_len, mu, lim]
  refine fp_draw hv2 (by omega) (by omega) fun p_ k3 p0 p1 hv3 => ?_
  obtain ⟨p, rfl⟩ := Int.eq_ofNat_of_zero_le p0
  refine fp_one hv3 (by simp) (by decide) fun sg k4 hsg hv4 => ?_
  obtain ⟨s, rfl, hs⟩ : ∃ s : Str, sg = .str s ∧ s.length ≤ 20 := by
    simp only [List.mem_cons, List.not_mem_nil, or_false] at hsg
    rcases hsg with rfl | rfl | rfl | rfl | rfl | rfl | rfl | rfl | rfl | rfl | rfl | rfl | rfl
    all_goals exact ⟨_, rfl, by decide⟩
  have c1 := cutS_to a1
  have c2 := cutS_from (z := v) (n := a)
  have c3 := cutS_from (z := v) (n := a + 1)
  have g1 : cutG (stsD (lns v)) none (some (p : Nat)) = stsD ((lns v).take p) := by rw [cut_sts, cutG_to (by omega)]
  have g2 : ∀ m : Nat, cutG (stsD (lns v)) (some (m : Nat)) none = stsD ((lns v).drop m) := fun m => by rw [cut_sts, cutG_fr]
  have tt := tl_take (lns v) p
  have td := tl_drop (l := lns v) (show p ≤ p + 1 by omega)
  have six : w = 0 ∨ w = 1 ∨ w = 2 ∨ w = 3 ∨ w = 4 ∨ w = 5 := by omega
  have c4 : (cutS v (some ((a : Nat) + 1)) none).length ≤ v.length - (a + 1) := c3
  have g3 : cutG (stsD (lns v)) (some ((p : Int) + 1)) none = stsD ((lns v).drop (p + 1)) := g2 (p + 1)
  have g4 : cutG (stsD (lns v)) (some (p : Int)) none = stsD ((lns v).drop p) := g2 p
  have k1 : ∀ l : List Str, (stsD l).length = l.length := fun l => by simp [stsD]
  have le1 : ((lns v).take p).length ≤ 1002 := by rw [List.length_take]; omega
  have le2 : ∀ m, ((lns v).drop m).length ≤ 1002 := fun m => by rw [List.length_drop]; omega
  have jn : ∀ l, tl l ≤ 100000 → dJoin (.str "\n") (.list (stsD l)) = some (.str (Str.join ("\n" : Str) l)) := fun l hl => dJoin_sts (by decide) hl
  have jl := fun l => join_le (sep := ("\n" : Str)) (by decide) l
  have app : ∀ a b : List Str, stsD a ++ stsD b = stsD (a ++ b) := fun a b => by simp [stsD]
  have app1 : ∀ (a : List Str) (x : Str) (b : List Str), stsD a ++ .str x :: stsD b = stsD (a ++ x :: b) := fun a x b => by simp [stsD]
  have odds : ∀ d ∈ [PyData.str "in 0", .str "set -5", .str "neg 0", .str "+ 0 0", .str "inputs 3", .str "", .str "ends 0", .str "ends", .str "* 0", .str "in 00", .str "set +1", .str "set"], ∃ x : Str, d = .str x ∧ x.length ≤ 8 := by
    intro d hd
    simp only [List.mem_cons, List.not_mem_nil, or_false] at hd
    rcases hd with rfl | rfl | rfl | rfl | rfl | rfl | rfl | rfl | rfl | rfl | rfl | rfl
    all_goals exact ⟨_, rfl, by decide⟩
  rcases six with rfl | rfl | rfl | rfl | rfl | rfl
  · simp [dSlS_ok (z := v) (show v.length ≤ 100000 by omega), c1]
    refine ⟨by show _ ≤ 1000000; omega, by show _ ≤ 1000000; rw [Str.length_append]; omega, q _ _ ⟨_, rfl, ?_⟩ hv4⟩
    rw [Str.length_append, Str.length_append]; omega
  · simp [dSlS_ok (z := v) (show v.length ≤ 100000 by omega), c1]
    refine ⟨by show _ ≤ 1000000; omega, by show _ ≤ 1000000; rw [Str.length_append]; omega, q _ _ ⟨_, rfl, ?_⟩ hv4⟩
    rw [Str.length_append, Str.length_append]; omega
  · simp [dSlS_ok (z := v) (show v.length ≤ 100000 by omega), c1]
    refine ⟨by show _ ≤ 1000000; omega, by show _ ≤ 1000000; rw [Str.length_append]; omega, q _ _ ⟨_, rfl, ?_⟩ hv4⟩
    rw [Str.length_append, Str.length_append]; omega
  · have tj := jl ((lns v).take p ++ (lns v).drop (p + 1))
    rw [tl_app] at tj
    simp [dSlS_ok (z := v) (show v.length ≤ 100000 by omega), c1]
    rw [g1, g3, k1, k1, app]
    have := le2 (p + 1)
    refine ⟨_, if_pos (by omega), _, jn _ (by rw [tl_app]; omega), q _ _ ⟨_, rfl, by omega⟩ hv4⟩
  · simp [dSlS_ok (z := v) (show v.length ≤ 100000 by omega), c1, lim]
    refine fp_one hv4 (by simp) (by decide) fun d k5 hd hv5 => ?_
    obtain ⟨x, rfl, hx⟩ := odds d hd
    have tj := jl ((lns v).take p ++ x :: (lns v).drop p)
    rw [tl_app, tl_cons] at tj
    rw [g1, g4, k1, k1, app1]
    have := le2 p
    exact ⟨by omega, by omega, _, jn _ (by rw [tl_app, tl_cons]; omega), q _ _ ⟨_, rfl, by omega⟩ hv5⟩
  · simp [dSlS_ok (z := v) (show v.length ≤ 100000 by omega), c1, lim]
    refine fp_one hv4 (by simp) (by decide) fun d k5 hd hv5 => ?_
    obtain ⟨x, rfl, hx⟩ := odds d hd
    have tj := jl ((lns v).take p ++ x :: (lns v).drop (p + 1))
    rw [tl_app, tl_cons] at tj
    have e5 : (p : Int) + 5 - 4 = (p : Int) + 1 := by omega
    try rw [e5]
    rw [g1, g3, k1, k1, app1]
    have := le2 (p + 1)
    exact ⟨by omega, by omega, _, jn _ (by rw [tl_app, tl_cons]; omega), q _ _ ⟨_, rfl, by omega⟩ hv5⟩
def VOk (d : D) : Prop := TV 1000 d ∨ ∀ s, d ≠ .str s
section
variable {c2 c3 c4 c5 c6 c7 : Option Val} {k : Dk} {Z : Fl → S → Prop}
def lw (c2 c3 c4 c5 c6 c7 : Option Val) (k : Dk) : S := ⟨[none, some .deck, c2, c3, c4, c5, c6, c7], k⟩
theorem w9 {d : D} (hd : VOk d) (h : Z .nx (lw c2 c3 c4 c5 c6 (some (.dat d)) k)) : wp law_9 (lw c2 c3 c4 c5 c6 (some (.dat d)) k) Z := by
  unfold law_9 law_8 lw
  rcases hd with ⟨v, rfl, hv⟩ | ho
  · obtain ⟨d1, k1, e1, rfl, r1⟩ := fp_found (k := k) hv
    obtain ⟨d2, k2, e2, rfl, r2⟩ := fp_ldue (k := k1) hv
    obtain rfl := res_one r1 r2
    have ok := res_gd hv r1
    simp [fp_eq e1, fp_eq e2, ok]
    exact h
  · have ok : okR (.list [.str "text", .none]) = true := okR_of (by decide) (by decide)
    simp [fp_eq (fp_foundodd (k := k) ho), fp_eq (fp_dueodd (k := k) ho), ok]
    exact h
theorem w1 (hk : DkV k) (h : ∀ n a e k', n ≤ 3 → RowOk n 30 20 a e → DkV k' → Z .nx (lw c2 (some (.dat (rowD n a e))) c4 c5 c6 c7 k')) : wp law_1 (lw c2 c3 c4 c5 c6 c7 k) Z := by
  unfold law_1 lw
  simp [lim]
  refine fp_one hk (by simp) (by decide) fun d1 k1 h1 hv1 => ?_
  obtain ⟨n, rfl, hn⟩ : ∃ n : Nat, d1 = .int (n : Nat) ∧ n ≤ 3 := by
    simp at h1
    rcases h1 with rfl | rfl | rfl
    · exact ⟨0, rfl, by omega⟩
    · exact ⟨1, rfl, by omega⟩
    · exact ⟨3, rfl, by omega⟩
  refine fp_one hv1 (by simp) (by decide) fun d2 k2 h2 hv2 => ?_
  obtain ⟨m, rfl, hm, hm1⟩ : ∃ n : Nat, d2 = .int (n : Nat) ∧ n ≤ 30 ∧ 1 ≤ n := by
    simp at h2
    rcases h2 with rfl | rfl | rfl
    · exact ⟨1, rfl, by omega, by omega⟩
    · exact ⟨6, rfl, by omega, by omega⟩
    · exact ⟨30, rfl, by omega, by omega⟩
  refine fp_row (n := n) (many := m) (most := 20) hv2 (by omega) hm1 (by omega) (by omega) fun a e k3 hr hv3 => ?_
  exact h n a e k3 hn ⟨hr.ok, ⟨hr.len.1, by have := hr.len.2; omega⟩, hr.siz, hr.ends, hr.elen, hr.sml⟩ hv3
theorem w2 {n : Nat} {a : List Rs} {e : List Nat} (hn : n ≤ 3) (hr : RowOk n 30 20 a e) (h : ∀ v : Str, v.length ≤ 900 → Z .nx (lw c2 (some (.dat (rowD n a e))) (some (.dat (.str v))) c5 c6 c7 k)) : wp law_2 (lw c2 (some (.dat (rowD n a e))) c4 c5 c6 c7 k) Z := by
  unfold law_2 lw
  obtain ⟨s, t⟩ := sem_rowtext (k := k) hr hn
  have jl := join_le (sep := ("\n" : Str)) (by decide) (rowLs n a e)
  simp [fp_eq s]
  exact h _ (by omega)
theorem w3 {v : Str} (hk : DkV k) (hv : v.length ≤ 900) (h : ∀ d k', TV 920 d → DkV k' → Z .nx (lw c2 c3 (some (.dat (.str v))) (some (.dat d)) c6 c7 k')) : wp law_3 (lw c2 c3 (some (.dat (.str v))) c5 c6 c7 k) Z := by
  unfold law_3 lw
  simp
  exact fp_spoilt hk (by omega) fun d k' hd hk' => by exact h d k' (hd.mono (by omega)) hk'
theorem w4 {v : Str} {d : D} (hk : DkV k) (hv : v.length ≤ 900) (hd : TV 920 d) (h : ∀ L k', L.length ≤ 6 → (∀ d ∈ L, TV 1000 d) → DkV k' → Z .nx (lw c2 c3 (some (.dat (.str v))) (some (.dat d)) (some (.dat (.list L))) c7 k')) : wp law_4 (lw c2 c3 (some (.dat (.str v))) (some (.dat d)) c6 c7 k) Z := by
  obtain ⟨u, rfl, hu⟩ := hd
  unfold law_4 lw
  simp [lim]
  refine fp_spoilt hk (by omega) fun d1 k1 hd1 hk1 => ?_
  refine fp_spoilt hk1 (by omega) fun d2 k2 hd2 hk2 => ?_
  refine fp_spoilt hk2 (by omega) fun d3 k3 hd3 hk3 => ?_
  have nl : ("\n" : Str).length = 1 := by decide
  refine ⟨_, if_pos (by omega), ?_⟩
  refine h _ k3 (by simp) (fun x hx => ?_) hk3
  simp only [List.mem_cons, List.not_mem_nil, or_false] at hx
  rcases hx with rfl | rfl | rfl | rfl | rfl | rfl
  · exact ⟨_, rfl, by omega⟩
  · exact ⟨_, rfl, by omega⟩
  · exact hd1.mono (by omega)
  · exact hd2.mono (by omega)
  · exact hd3.mono (by omega)
  · exact ⟨_, rfl, by rw [Str.length_append]; omega⟩
theorem tc {s : String} (h : (Str.ofString s).length ≤ 1000 := by decide) : TV 1000 (.str s) := ⟨_, rfl, h⟩
theorem w5 {v : Str} {L : List D} (hv : v.length ≤ 900) (hl : L.length ≤ 6) (hL : ∀ d ∈ L, TV 1000 d) (h : ∀ L, L.length ≤ 11 → (∀ d ∈ L, TV 1000 d) → Z .nx (lw c2 c3 (some (.dat (.str v))) c5 (some (.dat (.list L))) c7 k)) : wp law_5 (lw c2 c3 (some (.dat (.str v))) c5 (some (.dat (.list L))) c7 k) Z := by
  have nl : ("\n" : Str).length = 1 := by decide
  unfold law_5 lw
  simp [lim]
  refine ⟨_, if_pos (by omega), by omega, ?_⟩
  refine h _ (by simp; omega) (fun x hx => ?_)
  rcases List.mem_append.mp hx with hx | hx
  · exact hL x hx
  simp only [List.mem_cons, List.not_mem_nil, or_false] at hx
  rcases hx with rfl | rfl | rfl | rfl | rfl
  · exact ⟨_, rfl, by rw [Str.length_append]; omega⟩
  all_goals exact tc
theorem w6 {L : List D} (hl : L.length ≤ 11) (hL : ∀ d ∈ L, TV 1000 d) (h : ∀ L, L.length ≤ 14 → (∀ d ∈ L, TV 1000 d) → Z .nx (lw c2 c3 c4 c5 (some (.dat (.list L))) c7 k)) : wp law_6 (lw c2 c3 c4 c5 (some (.dat (.list L))) c7 k) Z := by
  have mu : dMulS (.str "9") (.int 21) = some (.str "999999999999999999999") := by rfl
  unfold law_6 lw
  simp [lim, mu]
  refine ⟨_, if_pos (by decide), _, (by rw [dAdd_str, if_pos (by decide)]), by omega, ?_⟩
  refine h _ (by simp; omega) (fun x hx => ?_)
  rcases List.mem_append.mp hx with hx | hx
  · exact hL x hx
  simp only [List.mem_cons, List.not_mem_nil, or_false] at hx
  rcases hx with rfl | rfl | rfl
  · exact tc
  · exact tc
  · exact ⟨_, rfl, by rw [Str.length_append, Str.length_append]; decide⟩
theorem w7 {L : List D} (hl : L.length ≤ 14) (hL : ∀ d ∈ L, TV 1000 d) (h : ∀ L, L.length ≤ 16 → (∀ d ∈ L, TV 1000 d) → Z .nx (lw c2 c3 c4 c5 (some (.dat (.list L))) c7 k)) : wp law_7 (lw c2 c3 c4 c5 (some (.dat (.list L))) c7 k) Z := by
  have mu : dMulS (.str "0") (.int 20) = some (.str "00000000000000000000") := by rfl
  unfold law_7 lw
  simp [lim, mu]
  refine ⟨_, if_pos (by decide), _, (by rw [dAdd_str, if_pos (by decide)]), by omega, ?_⟩
  refine h _ (by simp; omega) (fun x hx => ?_)
  rcases List.mem_append.mp hx with hx | hx
  · exact hL x hx
  simp only [List.mem_cons, List.not_mem_nil, or_false] at hx
  rcases hx with rfl | rfl
  · exact ⟨_, rfl, by rw [Str.length_append, Str.length_append]; decide⟩
  · exact tc
theorem w10 {v : Str} {x : D} {L : List D} (hk : DkV k) (hv : v.length ≤ 900) (hx : ∀ s, x ≠ .str s) (hl : L.length ≤ 16) (hL : ∀ d ∈ L, TV 1000 d) (h : ∀ c7 k', DkV k' → Z .nx (lw c2 (some (.dat x)) (some (.dat (.str v))) c5 (some (.dat (.list L))) c7 k')) : wp law_10 (lw c2 (some (.dat x)) (some (.dat (.str v))) c5 (some (.dat (.list L))) c7 k) Z := by
  unfold law_10 lw
  rw [wp_sFor]
  simp [lim]
  refine fp_odd hk fun d1 k1 a1 a2 hv1 => ?_
  refine ⟨by omega, ?_⟩
  refine wp_loop (fun r s => (∀ x ∈ r, VOk x) ∧ ∃ c7, s = lw c2 (some (.dat x)) (some (.dat (.str v))) c5 (some (.dat (.list L))) c7 k1) (fun y r s hI => ?_) (fun s hI => ?_) _ _ ⟨fun y hy => ?_, _, rfl⟩
  · obtain ⟨hr, c7, rfl⟩ := hI
    rw [wp_gN]
    refine w9 (hr y (List.mem_cons_self ..)) ?_
    exact ⟨fun z hz => hr z (List.mem_cons_of_mem _ hz), _, rfl⟩
  · obtain ⟨-, c7, rfl⟩ := hI
    exact h c7 k1 hv1
  · rcases List.mem_append.mp hy with hy | hy
    · exact .inl (hL y hy)
    simp only [List.mem_cons, List.not_mem_nil, or_false] at hy
    rcases hy with rfl | rfl | rfl | rfl | rfl
    · exact .inl tc
    · cases y with
      | str s =>
        refine .inl ⟨s, rfl, ?_⟩
        unfold sz at a1
        split at a1 <;> omega
      | _ => exact .inr fun s z => nomatch z
    · exact .inr fun s z => nomatch z
    · exact .inr fun s z => nomatch z
    · exact .inr hx
end
def tnI (r : List D) (s : S) : Prop := ∃ (t : Nat) (c2 c3 c4 c5 c6 c7 : Option Val) (k : Dk), r = rngD (t : Nat) (7 - t) ∧ t ≤ 7 ∧ DkV k ∧ s = lw c2 c3 c4 c5 c6 c7 k
theorem pure_law : ∀ k0, DkV k0 → ∃ s', m_law (st0 (List.length n_p_law) k0) = some (.rt (.bool true), s') := by
  intro k0 hk
  have h : wp m_law (st0 (List.length n_p_law) k0) fun fl _ => fl = .rt (.bool true) := by
    unfold m_law law_12 law_11
    rw [wp_sSeq]
    show wp _ (lw none none none none none none k0) _
    rw [wp_sFor]
    simp
    refine wp_loop tnI (fun x r s hI_ => ?_) (fun s hI_ => by simp) _ _ ⟨0, none, none, none, none, none, none, k0, rfl, by decide, hk, rfl⟩
    obtain ⟨t, c2, c3, c4, c5, c6, c7, k, er, ht, hk, rfl⟩ := hI_
    cases hm : 7 - t with
    | zero => rw [hm] at er; cases er
    | succ m =>
      rw [hm, rng_st] at er
      obtain ⟨rfl, rfl⟩ := List.cons.inj er
      rw [wp_gN]
      show wp _ (lw (some (.dat (.int (t : Nat)))) c3 c4 c5 c6 c7 k) _
      rw [wp_sSeq]
      refine w1 hk fun n a e k1 hn hr hk1 => ?_
      show wp (sSeq law_2 _) _ _
      rw [wp_sSeq]
      refine w2 hn hr fun v hv => ?_
      show wp (sSeq law_3 _) _ _
      rw [wp_sSeq]
      refine w3 hk1 hv fun d k2 hd hk2 => ?_
      show wp (sSeq law_4 _) _ _
      rw [wp_sSeq]
      refine w4 hk2 hv hd fun L k3 hl hL hk3 => ?_
      show wp (sSeq law_5 _) _ _
      rw [wp_sSeq]
      refine w5 hv hl hL fun L hl hL => ?_
      show wp (sSeq law_6 _) _ _
      rw [wp_sSeq]
      refine w6 hl hL fun L hl hL => ?_
      show wp (sSeq law_7 _) _ _
      rw [wp_sSeq]
      refine w7 hl hL fun L hl hL => ?_
      refine w10 hk3 hv (fun s z => nomatch z) hl hL fun c7 k4 hk4 => ?_
      exact ⟨t + 1, _, _, _, _, _, _, k4, by congr 1; omega, by omega, hk4, rfl⟩
  obtain ⟨fl, s', e, rfl⟩ := h
  exact ⟨s', e⟩
end Lw
set_option pp.maxSteps 300
namespace Lw
open PySem PySem.Spec PyProof.Rows L2 DL
theorem all_mk {l : PySem.W.OpenLaw} {w : World} {K : PySem.W.Frag} {h : Heap} {mg : Str → Option Value} {fa cL TL f1 f2 f3 f4 f5 f6 f7 f8 f9 f10 f11 f12 f13 f14 f15 f16 f17 f18 f19 f20 f21 f22 f23 f24 f25 f26 f27 f28 f29 f30 : Addr} {ocL : Value} {odL : Option Addr} {vsL : Array Value} {slL : Array (Option Value)} (X : K.In h) (G : h.Ns mainGlobals mg) (hfa : mg "law" = some (.ref fa))
    {od1 an1 od2 an2 od3 an3 od4 an4 od5 an5 od6 an6 od7 an7 od8 an8 od9 an9 od10 an10 od11 an11 od12 an12 od13 an13 od14 an14 od15 an15 od16 an16 od17 an17 od18 an18 od19 an19 od20 an20 od21 an21 od22 an22 od23 an23 od24 an24 od25 an25 od26 an26 od27 an27 od28 an28 od29 an29 od30 an30 : Option Addr} {sl1 sl2 sl3 sl4 sl5 sl6 sl7 sl8 sl9 sl10 sl11 sl12 sl13 sl14 sl15 sl16 sl17 sl18 sl19 sl20 sl21 sl22 sl23 sl24 sl25 sl26 sl27 sl28 sl29 sl30 : Array (Option Value)} {oc1 kV1 dc1 pm1 cd1 ct1 oc2 kV2 dc2 pm2 cd2 ct2 oc3 kV3 dc3 pm3 cd3 ct3 oc4 kV4 dc4 pm4 cd4 ct4 oc5 kV5 dc5 pm5 cd5 ct5 oc6 kV6 dc6 pm6 cd6 ct6 oc7 kV7 dc7 pm7 cd7 ct7 oc8 kV8 dc8 pm8 cd8 ct8 oc9 kV9 dc9 pm9 cd9 ct9 oc10 kV10 dc10 pm10 cd10 ct10 oc11 kV11 dc11 pm11 cd11 ct11 oc12 kV12 dc12 pm12 cd12 ct12 oc13 kV13 dc13 pm13 cd13 ct13 oc14 kV14 dc14 pm14 cd14 ct14 oc15 kV15 dc15 pm15 cd15 ct15 oc16 kV16 dc16 pm16 cd16 ct16 oc17 kV17 dc17 pm17 cd17 ct17 oc18 kV18 dc18 pm18 cd18 ct18 oc19 kV19 dc19 pm19 cd19 ct19 oc20 kV20 dc20 pm20 cd20 ct20 oc21 kV21 dc21 pm21 cd21 ct21 oc22 kV22 dc22 pm22 cd22 ct22 oc23 kV23 dc23 pm23 cd23 ct23 oc24 kV24 dc24 pm24 cd24 ct24 oc25 kV25 dc25 pm25 cd25 ct25 oc26 kV26 dc26 pm26 cd26 ct26 oc27 kV27 dc27 pm27 cd27 ct27 oc28 kV28 dc28 pm28 ct28 oc29 kV29 dc29 pm29 cd29 ct29 oc30 kV30 dc30 pm30 cd30 ct30 u_MAX_WIDE u_MAX_LONG u_MAX_SIZE u_MAX_NUMBER oc_SIGNS u_FIGURES : Value} {a_SIGNS : Addr} {od_SIGNS : Option Addr} {is_SIGNS : Array Value} {n_SIGNS : Nat} {sl_SIGNS : Array (Option Value)} {C_RowError : Addr} {C_BadRow : Addr} {C_BadText : Addr}
    (aC_RowError : PySem.W.nsIn K mainGlobals "RowError" = some (some (.ref C_RowError)))
    (aC_BadRow : PySem.W.nsIn K mainGlobals "BadRow" = some (some (.ref C_BadRow)))
    (aC_BadText : PySem.W.nsIn K mainGlobals "BadText" = some (some (.ref C_BadText)))
    (hn_x : PySem.W.specialIn K (.builtin "object.__class__") "__get__" = some (some (.builtin "getset_descriptor.__get__"))) (ht_x : PySem.W.takesIn K (.builtin "object.__class__") = some true)
    {nm_BadText q_BadText : Str} {N_BadText : Addr} {bs_BadText bm_BadText : List Value} {sn_BadText : List Str} {sub_BadText : List Value} {ab_BadText : Bool} {col_BadText : Option Bool} {dd_BadText : Option Addr} {m0_BadText m1_BadText m2_BadText m3_BadText m5_BadText : Option Value}
    (xL_BadText : K.lookup C_BadText = some (excClassObj nm_BadText q_BadText C_BadText N_BadText bs_BadText bm_BadText true sn_BadText sub_BadText ab_BadText col_BadText dd_BadText m0_BadText m1_BadText m2_BadText m3_BadText m5_BadText "ValueError.__new__")) (rv_BadText : PySem.HandSPX.refsVE bm_BadText = true) (sa_BadText : PySem.W.findIn K (.ref C_BadText) "__setattr__" = some (some (.builtin "object.__setattr__"))) (nf_BadText : PySem.W.findIn K (.ref C_BadText) "place" = some none) (kF_BadText : PySem.W.keepIn K (.ref C_BadText) = true) (bF_BadText : PySem.W.subIn K (.ref C_BadText) (.type "BaseException") = some true) (tF_BadText : PySem.W.typeIn K (.ref C_BadText) = some (.type "type"))
    (hg_BadText : PySem.W.findIn K (.ref C_BadText) "__getattribute__" = some (some (.builtin "BaseException.__getattribute__"))) (hk_BadText : PySem.W.findIn K (.ref C_BadText) "__getattr__" = some none) (hd_BadText : PySem.W.hasDictIn K C_BadText = true) (ha_BadText : PySem.W.findIn K (.ref C_BadText) "__class__" = some (some (.builtin "object.__class__"))) (hm_BadText : PySem.W.mroIn K C_BadText (.type "object") = some true)
    (su_BadText_BadText : PySem.W.subIn K (.ref C_BadText) (.ref C_BadText) = some true)
    {nm_BadRow q_BadRow : Str} {N_BadRow : Addr} {bs_BadRow bm_BadRow : List Value} {sn_BadRow : List Str} {sub_BadRow : List Value} {ab_BadRow : Bool} {col_BadRow : Option Bool} {dd_BadRow : Option Addr} {m0_BadRow m1_BadRow m2_BadRow m3_BadRow m5_BadRow : Option Value}
    (xL_BadRow : K.lookup C_BadRow = some (excClassObj nm_BadRow q_BadRow C_BadRow N_BadRow bs_BadRow bm_BadRow true sn_BadRow sub_BadRow ab_BadRow col_BadRow dd_BadRow m0_BadRow m1_BadRow m2_BadRow m3_BadRow m5_BadRow "ValueError.__new__")) (rv_BadRow : PySem.HandSPX.refsVE bm_BadRow = true) (sa_BadRow : PySem.W.findIn K (.ref C_BadRow) "__setattr__" = some (some (.builtin "object.__setattr__"))) (nf_BadRow : PySem.W.findIn K (.ref C_BadRow) "error" = some none) (kF_BadRow : PySem.W.keepIn K (.ref C_BadRow) = true) (bF_BadRow : PySem.W.subIn K (.ref C_BadRow) (.type "BaseException") = some true) (tF_BadRow : PySem.W.typeIn K (.ref C_BadRow) = some (.type "type"))
    (hg_BadRow : PySem.W.findIn K (.ref C_BadRow) "__getattribute__" = some (some (.builtin "BaseException.__getattribute__"))) (hk_BadRow : PySem.W.findIn K (.ref C_BadRow) "__getattr__" = some none) (hd_BadRow : PySem.W.hasDictIn K C_BadRow = true) (ha_BadRow : PySem.W.findIn K (.ref C_BadRow) "__class__" = some (some (.builtin "object.__class__"))) (hm_BadRow : PySem.W.mroIn K C_BadRow (.type "object") = some true)
    (su_BadRow_BadRow : PySem.W.subIn K (.ref C_BadRow) (.ref C_BadRow) = some true)
    (su_BadText_BadRow : PySem.W.subIn K (.ref C_BadText) (.ref C_BadRow) = some false)
    (su_BadRow_BadText : PySem.W.subIn K (.ref C_BadRow) (.ref C_BadText) = some false)
    (a1 : PySem.W.nsIn K mainGlobals "is_integer" = some (some (.ref f1))) (l1 : K.lookup f1 = some ⟨oc1, od1, .func (PySem.W.fnOf "is_integer" "is_integer" (defArgs s_p_is_integer) (defBody s_p_is_integer) (defScope s_p_is_integer) .none kV1 dc1 pm1 an1 cd1 ct1), sl1⟩) (c1 : PySem.W.codeIn K cd1 "is_integer" = true) (k1 : PySem.W.keepIn K (.ref f1) = true)
    (a2 : PySem.W.nsIn K mainGlobals "is_step" = some (some (.ref f2))) (l2 : K.lookup f2 = some ⟨oc2, od2, .func (PySem.W.fnOf "is_step" "is_step" (defArgs s_p_is_step) (defBody s_p_is_step) (defScope s_p_is_step) .none kV2 dc2 pm2 an2 cd2 ct2), sl2⟩) (c2 : PySem.W.codeIn K cd2 "is_step" = true) (k2 : PySem.W.keepIn K (.ref f2) = true)
    (a3 : PySem.W.nsIn K mainGlobals "measure" = some (some (.ref f3))) (l3 : K.lookup f3 = some ⟨oc3, od3, .func (PySem.W.fnOf "measure" "measure" (defArgs s_p_measure) (defBody s_p_measure) (defScope s_p_measure) .none kV3 dc3 pm3 an3 cd3 ct3), sl3⟩) (c3 : PySem.W.codeIn K cd3 "measure" = true) (k3 : PySem.W.keepIn K (.ref f3) = true)
    (a4 : PySem.W.nsIn K mainGlobals "error_within" = some (some (.ref f4))) (l4 : K.lookup f4 = some ⟨oc4, od4, .func (PySem.W.fnOf "error_within" "error_within" (defArgs s_p_error_within) (defBody s_p_error_within) (defScope s_p_error_within) .none kV4 dc4 pm4 an4 cd4 ct4), sl4⟩) (c4 : PySem.W.codeIn K cd4 "error_within" = true) (k4 : PySem.W.keepIn K (.ref f4) = true)
    (a5 : PySem.W.nsIn K mainGlobals "long_error" = some (some (.ref f5))) (l5 : K.lookup f5 = some ⟨oc5, od5, .func (PySem.W.fnOf "long_error" "long_error" (defArgs s_p_long_error) (defBody s_p_long_error) (defScope s_p_long_error) .none kV5 dc5 pm5 an5 cd5 ct5), sl5⟩) (c5 : PySem.W.codeIn K cd5 "long_error" = true) (k5 : PySem.W.keepIn K (.ref f5) = true)
    (a6 : PySem.W.nsIn K mainGlobals "step_text" = some (some (.ref f6))) (l6 : K.lookup f6 = some ⟨oc6, od6, .func (PySem.W.fnOf "step_text" "step_text" (defArgs s_p_step_text) (defBody s_p_step_text) (defScope s_p_step_text) .none kV6 dc6 pm6 an6 cd6 ct6), sl6⟩) (c6 : PySem.W.codeIn K cd6 "step_text" = true) (k6 : PySem.W.keepIn K (.ref f6) = true)
    (a7 : PySem.W.nsIn K mainGlobals "row_text" = some (some (.ref f7))) (l7 : K.lookup f7 = some ⟨oc7, od7, .func (PySem.W.fnOf "row_text" "row_text" (defArgs s_p_row_text) (defBody s_p_row_text) (defScope s_p_row_text) .none kV7 dc7 pm7 an7 cd7 ct7), sl7⟩) (c7 : PySem.W.codeIn K cd7 "row_text" = true) (k7 : PySem.W.keepIn K (.ref f7) = true)
    (a8 : PySem.W.nsIn K mainGlobals "number_of" = some (some (.ref f8))) (l8 : K.lookup f8 = some ⟨oc8, od8, .func (PySem.W.fnOf "number_of" "number_of" (defArgs s_p_number_of) (defBody s_p_number_of) (defScope s_p_number_of) .none kV8 dc8 pm8 an8 cd8 ct8), sl8⟩) (c8 : PySem.W.codeIn K cd8 "number_of" = true) (k8 : PySem.W.keepIn K (.ref f8) = true)
    (a9 : PySem.W.nsIn K mainGlobals "numbers_of" = some (some (.ref f9))) (l9 : K.lookup f9 = some ⟨oc9, od9, .func (PySem.W.fnOf "numbers_of" "numbers_of" (defArgs s_p_numbers_of) (defBody s_p_numbers_of) (defScope s_p_numbers_of) .none kV9 dc9 pm9 an9 cd9 ct9), sl9⟩) (c9 : PySem.W.codeIn K cd9 "numbers_of" = true) (k9 : PySem.W.keepIn K (.ref f9) = true)
    (a10 : PySem.W.nsIn K mainGlobals "read_step" = some (some (.ref f10))) (l10 : K.lookup f10 = some ⟨oc10, od10, .func (PySem.W.fnOf "read_step" "read_step" (defArgs s_p_read_step) (defBody s_p_read_step) (defScope s_p_read_step) .none kV10 dc10 pm10 an10 cd10 ct10), sl10⟩) (c10 : PySem.W.codeIn K cd10 "read_step" = true) (k10 : PySem.W.keepIn K (.ref f10) = true)
    (a11 : PySem.W.nsIn K mainGlobals "read_head" = some (some (.ref f11))) (l11 : K.lookup f11 = some ⟨oc11, od11, .func (PySem.W.fnOf "read_head" "read_head" (defArgs s_p_read_head) (defBody s_p_read_head) (defScope s_p_read_head) .none kV11 dc11 pm11 an11 cd11 ct11), sl11⟩) (c11 : PySem.W.codeIn K cd11 "read_head" = true) (k11 : PySem.W.keepIn K (.ref f11) = true)
    (a12 : PySem.W.nsIn K mainGlobals "read_ends" = some (some (.ref f12))) (l12 : K.lookup f12 = some ⟨oc12, od12, .func (PySem.W.fnOf "read_ends" "read_ends" (defArgs s_p_read_ends) (defBody s_p_read_ends) (defScope s_p_read_ends) .none kV12 dc12 pm12 an12 cd12 ct12), sl12⟩) (c12 : PySem.W.codeIn K cd12 "read_ends" = true) (k12 : PySem.W.keepIn K (.ref f12) = true)
    (a13 : PySem.W.nsIn K mainGlobals "read_row" = some (some (.ref f13))) (l13 : K.lookup f13 = some ⟨oc13, od13, .func (PySem.W.fnOf "read_row" "read_row" (defArgs s_p_read_row) (defBody s_p_read_row) (defScope s_p_read_row) .none kV13 dc13 pm13 an13 cd13 ct13), sl13⟩) (c13 : PySem.W.codeIn K cd13 "read_row" = true) (k13 : PySem.W.keepIn K (.ref f13) = true)
    (a14 : PySem.W.nsIn K mainGlobals "_law_deck" = some (some (.ref f14))) (l14 : K.lookup f14 = some ⟨oc14, od14, .func (PySem.W.fnOf "_law_deck" "_law_deck" (defArgs s_l_deck) (defBody s_l_deck) (defScope s_l_deck) .none kV14 dc14 pm14 an14 cd14 ct14), sl14⟩) (c14 : PySem.W.codeIn K cd14 "_law_deck" = true) (k14 : PySem.W.keepIn K (.ref f14) = true)
    (a15 : PySem.W.nsIn K mainGlobals "_law_draw" = some (some (.ref f15))) (l15 : K.lookup f15 = some ⟨oc15, od15, .func (PySem.W.fnOf "_law_draw" "_law_draw" (defArgs s_l_draw) (defBody s_l_draw) (defScope s_l_draw) .none kV15 dc15 pm15 an15 cd15 ct15), sl15⟩) (c15 : PySem.W.codeIn K cd15 "_law_draw" = true) (k15 : PySem.W.keepIn K (.ref f15) = true)
    (a16 : PySem.W.nsIn K mainGlobals "_law_one" = some (some (.ref f16))) (l16 : K.lookup f16 = some ⟨oc16, od16, .func (PySem.W.fnOf "_law_one" "_law_one" (defArgs s_l_one) (defBody s_l_one) (defScope s_l_one) .none kV16 dc16 pm16 an16 cd16 ct16), sl16⟩) (c16 : PySem.W.codeIn K cd16 "_law_one" = true) (k16 : PySem.W.keepIn K (.ref f16) = true)
    (a17 : PySem.W.nsIn K mainGlobals "_law_whole" = some (some (.ref f17))) (l17 : K.lookup f17 = some ⟨oc17, od17, .func (PySem.W.fnOf "_law_whole" "_law_whole" (defArgs s_l_whole) (defBody s_l_whole) (defScope s_l_whole) .none kV17 dc17 pm17 an17 cd17 ct17), sl17⟩) (c17 : PySem.W.codeIn K cd17 "_law_whole" = true) (k17 : PySem.W.keepIn K (.ref f17) = true)
    (a18 : PySem.W.nsIn K mainGlobals "_law_odd" = some (some (.ref f18))) (l18 : K.lookup f18 = some ⟨oc18, od18, .func (PySem.W.fnOf "_law_odd" "_law_odd" (defArgs s_l_odd) (defBody s_l_odd) (defScope s_l_odd) .none kV18 dc18 pm18 an18 cd18 ct18), sl18⟩) (c18 : PySem.W.codeIn K cd18 "_law_odd" = true) (k18 : PySem.W.keepIn K (.ref f18) = true)
    (a19 : PySem.W.nsIn K mainGlobals "_law_size" = some (some (.ref f19))) (l19 : K.lookup f19 = some ⟨oc19, od19, .func (PySem.W.fnOf "_law_size" "_law_size" (defArgs s_l_size) (defBody s_l_size) (defScope s_l_size) .none kV19 dc19 pm19 an19 cd19 ct19), sl19⟩) (c19 : PySem.W.codeIn K cd19 "_law_size" = true) (k19 : PySem.W.keepIn K (.ref f19) = true)
    (a20 : PySem.W.nsIn K mainGlobals "_law_row" = some (some (.ref f20))) (l20 : K.lookup f20 = some ⟨oc20, od20, .func (PySem.W.fnOf "_law_row" "_law_row" (defArgs s_l_row) (defBody s_l_row) (defScope s_l_row) .none kV20 dc20 pm20 an20 cd20 ct20), sl20⟩) (c20 : PySem.W.codeIn K cd20 "_law_row" = true) (k20 : PySem.W.keepIn K (.ref f20) = true)
    (a21 : PySem.W.nsIn K mainGlobals "_law_is_step" = some (some (.ref f21))) (l21 : K.lookup f21 = some ⟨oc21, od21, .func (PySem.W.fnOf "_law_is_step" "_law_is_step" (defArgs s_l_is_step) (defBody s_l_is_step) (defScope s_l_is_step) .none kV21 dc21 pm21 an21 cd21 ct21), sl21⟩) (c21 : PySem.W.codeIn K cd21 "_law_is_step" = true) (k21 : PySem.W.keepIn K (.ref f21) = true)
    (a22 : PySem.W.nsIn K mainGlobals "_law_row_error" = some (some (.ref f22))) (l22 : K.lookup f22 = some ⟨oc22, od22, .func (PySem.W.fnOf "_law_row_error" "_law_row_error" (defArgs s_l_row_error) (defBody s_l_row_error) (defScope s_l_row_error) .none kV22 dc22 pm22 an22 cd22 ct22), sl22⟩) (c22 : PySem.W.codeIn K cd22 "_law_row_error" = true) (k22 : PySem.W.keepIn K (.ref f22) = true)
    (a23 : PySem.W.nsIn K mainGlobals "_law_numbers" = some (some (.ref f23))) (l23 : K.lookup f23 = some ⟨oc23, od23, .func (PySem.W.fnOf "_law_numbers" "_law_numbers" (defArgs s_l_numbers) (defBody s_l_numbers) (defScope s_l_numbers) .none kV23 dc23 pm23 an23 cd23 ct23), sl23⟩) (c23 : PySem.W.codeIn K cd23 "_law_numbers" = true) (k23 : PySem.W.keepIn K (.ref f23) = true)
    (a24 : PySem.W.nsIn K mainGlobals "_law_line" = some (some (.ref f24))) (l24 : K.lookup f24 = some ⟨oc24, od24, .func (PySem.W.fnOf "_law_line" "_law_line" (defArgs s_l_line) (defBody s_l_line) (defScope s_l_line) .none kV24 dc24 pm24 an24 cd24 ct24), sl24⟩) (c24 : PySem.W.codeIn K cd24 "_law_line" = true) (k24 : PySem.W.keepIn K (.ref f24) = true)
    (a25 : PySem.W.nsIn K mainGlobals "_law_due" = some (some (.ref f25))) (l25 : K.lookup f25 = some ⟨oc25, od25, .func (PySem.W.fnOf "_law_due" "_law_due" (defArgs s_l_due) (defBody s_l_due) (defScope s_l_due) .none kV25 dc25 pm25 an25 cd25 ct25), sl25⟩) (c25 : PySem.W.codeIn K cd25 "_law_due" = true) (k25 : PySem.W.keepIn K (.ref f25) = true)
    (a26 : PySem.W.nsIn K mainGlobals "_law_found" = some (some (.ref f26))) (l26 : K.lookup f26 = some ⟨oc26, od26, .func (PySem.W.fnOf "_law_found" "_law_found" (defArgs s_l_found) (defBody s_l_found) (defScope s_l_found) .none kV26 dc26 pm26 an26 cd26 ct26), sl26⟩) (c26 : PySem.W.codeIn K cd26 "_law_found" = true) (k26 : PySem.W.keepIn K (.ref f26) = true)
    (a27 : PySem.W.nsIn K mainGlobals "_law_spoilt" = some (some (.ref f27))) (l27 : K.lookup f27 = some ⟨oc27, od27, .func (PySem.W.fnOf "_law_spoilt" "_law_spoilt" (defArgs s_l_spoilt) (defBody s_l_spoilt) (defScope s_l_spoilt) .none kV27 dc27 pm27 an27 cd27 ct27), sl27⟩) (c27 : PySem.W.codeIn K cd27 "_law_spoilt" = true) (k27 : PySem.W.keepIn K (.ref f27) = true)
    (a28 : PySem.W.nsIn K mainGlobals "law" = some (some (.ref f28))) (l28 : K.lookup f28 = some ⟨oc28, od28, .func (PySem.W.fnOf "law" "law" (defArgs s_p_law) (defBody s_p_law) (defScope s_p_law) .none kV28 dc28 pm28 an28 (.ref cL) ct28), sl28⟩) (c28 : PySem.W.codeIn K (.ref cL) "law" = true) (k28 : PySem.W.keepIn K (.ref f28) = true)
    (lC : K.lookup cL = some ⟨ocL, odL, .fields vsL, slL⟩) (vC : vsL[11]? = some (.ref TL)) (nC : K.lookup TL = none)
    (a29 : PySem.W.findIn K (.ref C_BadRow) "__init__" = some (some (.ref f29))) (i29 : PySem.W.typeIn K (.ref f29) = some (.type "function")) (l29 : K.lookup f29 = some ⟨oc29, od29, .func (PySem.W.fnOf "__init__" "BadRow.__init__" (defArgs s_p_BadRow_init) (defBody s_p_BadRow_init) (defScope s_p_BadRow_init) .none kV29 dc29 pm29 an29 cd29 ct29), sl29⟩) (c29 : PySem.W.codeIn K cd29 "BadRow.__init__" = true) (k29 : PySem.W.keepIn K (.ref f29) = true)
    (a30 : PySem.W.findIn K (.ref C_BadText) "__init__" = some (some (.ref f30))) (i30 : PySem.W.typeIn K (.ref f30) = some (.type "function")) (l30 : K.lookup f30 = some ⟨oc30, od30, .func (PySem.W.fnOf "__init__" "BadText.__init__" (defArgs s_p_BadText_init) (defBody s_p_BadText_init) (defScope s_p_BadText_init) .none kV30 dc30 pm30 an30 cd30 ct30), sl30⟩) (c30 : PySem.W.codeIn K cd30 "BadText.__init__" = true) (k30 : PySem.W.keepIn K (.ref f30) = true)
    (zc : NoDig K)
    (z0 : PySem.W.nsIn K mainGlobals "abs" = some none)
    (z1 : PySem.W.nsIn K mainGlobals "all" = some none)
    (z2 : PySem.W.nsIn K mainGlobals "bool" = some none)
    (z3 : PySem.W.nsIn K mainGlobals "enumerate" = some none)
    (z4 : PySem.W.nsIn K mainGlobals "int" = some none)
    (z5 : PySem.W.nsIn K mainGlobals "isinstance" = some none)
    (z6 : PySem.W.nsIn K mainGlobals "len" = some none)
    (z7 : PySem.W.nsIn K mainGlobals "max" = some none)
    (z8 : PySem.W.nsIn K mainGlobals "min" = some none)
    (z9 : PySem.W.nsIn K mainGlobals "range" = some none)
    (z10 : PySem.W.nsIn K mainGlobals "repr" = some none)
    (z11 : PySem.W.nsIn K mainGlobals "str" = some none)
    (z12 : PySem.W.nsIn K mainGlobals "tuple" = some none)
    (y0 : PySem.W.nsIn K mainGlobals "MAX_WIDE" = some (some u_MAX_WIDE)) (r0 : RelV (.int 20) u_MAX_WIDE)
    (y1 : PySem.W.nsIn K mainGlobals "MAX_LONG" = some (some u_MAX_LONG)) (r1 : RelV (.int 400) u_MAX_LONG)
    (y2 : PySem.W.nsIn K mainGlobals "MAX_SIZE" = some (some u_MAX_SIZE)) (r2 : RelV (.int 64) u_MAX_SIZE)
    (y3 : PySem.W.nsIn K mainGlobals "MAX_NUMBER" = some (some u_MAX_NUMBER)) (r3 : RelV (.int 100000000000000000000) u_MAX_NUMBER)
    (y4 : PySem.W.nsIn K mainGlobals "SIGNS" = some (some (.ref a_SIGNS))) (x4 : K.lookup a_SIGNS = some ⟨oc_SIGNS, od_SIGNS, .seq is_SIGNS n_SIGNS, sl_SIGNS⟩) (w4 : oc_SIGNS = .type "tuple") (v4 : Vals [.str "+", .str "-", .str "*"] is_SIGNS.toList)
    (y5 : PySem.W.nsIn K mainGlobals "FIGURES" = some (some u_FIGURES)) (r5 : RelV (.str "0123456789") u_FIGURES)
    : ∃ (fd : FuncData) (c T0 : Addr), PySem.W.tabIn K "law" = some (c, T0) ∧ K.lookup T0 = none ∧ (∀ (s : Shared) (v : Value), BindsTo s fd ⟨[v], []⟩ [("_law_script", v)]) ∧ ∀ base : Heap, K.In base → base.Ns mainGlobals mg → LamX.TabB base mg c T0 → FnG l.prog w K mg base (lvLaw + 1) fa fd ["_law_script"] (spLaw K) := by
  have e := hfa.symm.trans (PySem.W.mg_of X G a28)
  cases e
  have F1 := fun_mk (st := s_p_is_integer) l1 c1 k1
  have F2 := fun_mk (st := s_p_is_step) l2 c2 k2
  have F3 := fun_mk (st := s_p_measure) l3 c3 k3
  have F4 := fun_mk (st := s_p_error_within) l4 c4 k4
  have F5 := fun_mk (st := s_p_long_error) l5 c5 k5
  have F6 := fun_mk (st := s_p_step_text) l6 c6 k6
  have F7 := fun_mk (st := s_p_row_text) l7 c7 k7
  have F8 := fun_mk (st := s_p_number_of) l8 c8 k8
  have F9 := fun_mk (st := s_p_numbers_of) l9 c9 k9
  have F10 := fun_mk (st := s_p_read_step) l10 c10 k10
  have F11 := fun_mk (st := s_p_read_head) l11 c11 k11
  have F12 := fun_mk (st := s_p_read_ends) l12 c12 k12
  have F13 := fun_mk (st := s_p_read_row) l13 c13 k13
  have F14 := fun_mk (st := s_l_deck) l14 c14 k14
  have F15 := fun_mk (st := s_l_draw) l15 c15 k15
  have F16 := fun_mk (st := s_l_one) l16 c16 k16
  have F17 := fun_mk (st := s_l_whole) l17 c17 k17
  have F18 := fun_mk (st := s_l_odd) l18 c18 k18
  have F19 := fun_mk (st := s_l_size) l19 c19 k19
  have F20 := fun_mk (st := s_l_row) l20 c20 k20
  have F21 := fun_mk (st := s_l_is_step) l21 c21 k21
  have F22 := fun_mk (st := s_l_row_error) l22 c22 k22
  have F23 := fun_mk (st := s_l_numbers) l23 c23 k23
  have F24 := fun_mk (st := s_l_line) l24 c24 k24
  have F25 := fun_mk (st := s_l_due) l25 c25 k25
  have F26 := fun_mk (st := s_l_found) l26 c26 k26
  have F27 := fun_mk (st := s_l_spoilt) l27 c27 k27
  have F28 := fun_mk (st := s_p_law) l28 c28 k28
  have F29 := fun_mk (st := s_p_BadRow_init) l29 c29 k29
  have F30 := fun_mk (st := s_p_BadText_init) l30 c30 k30
  have tn_BadText : ∀ c b, tblOf [("BadText", true), ("BadRow", false)] c = some b → ∃ C0, PySem.W.nsIn K mainGlobals c = some (some (.ref C0)) ∧ PySem.W.exmOne K (.ref C0) (.ref C_BadText) = some b := by
    intro c b hb
    unfold tblOf at hb
    rw [List.lookup_cons] at hb
    split at hb
    · rename_i hq
      cases hb
      obtain rfl := eq_of_beq hq
      exact ⟨C_BadText, aC_BadText, PySem.W.exm_ref bF_BadText hd_BadText tF_BadText su_BadText_BadText⟩
    rw [List.lookup_cons] at hb
    split at hb
    · rename_i hq
      cases hb
      obtain rfl := eq_of_beq hq
      exact ⟨C_BadRow, aC_BadRow, PySem.W.exm_ref bF_BadText hd_BadText tF_BadText su_BadRow_BadText⟩
    cases hb
  have tn_BadRow : ∀ c b, tblOf [("BadText", false), ("BadRow", true)] c = some b → ∃ C0, PySem.W.nsIn K mainGlobals c = some (some (.ref C0)) ∧ PySem.W.exmOne K (.ref C0) (.ref C_BadRow) = some b := by
    intro c b hb
    unfold tblOf at hb
    rw [List.lookup_cons] at hb
    split at hb
    · rename_i hq
      cases hb
      obtain rfl := eq_of_beq hq
      exact ⟨C_BadText, aC_BadText, PySem.W.exm_ref bF_BadRow hd_BadRow tF_BadRow su_BadText_BadRow⟩
    rw [List.lookup_cons] at hb
    split at hb
    · rename_i hq
      cases hb
      obtain rfl := eq_of_beq hq
      exact ⟨C_BadRow, aC_BadRow, PySem.W.exm_ref bF_BadRow hd_BadRow tF_BadRow su_BadRow_BadRow⟩
    cases hb
  have T : Txt K mg := ⟨⟨_, _, F1, PySem.W.mg_of X G a1⟩, ⟨_, _, F2, PySem.W.mg_of X G a2⟩, ⟨_, _, F3, PySem.W.mg_of X G a3⟩, ⟨_, _, F4, PySem.W.mg_of X G a4⟩, ⟨_, _, F5, PySem.W.mg_of X G a5⟩, ⟨_, _, F6, PySem.W.mg_of X G a6⟩, ⟨_, _, F7, PySem.W.mg_of X G a7⟩, ⟨_, _, F8, PySem.W.mg_of X G a8⟩, ⟨_, _, F9, PySem.W.mg_of X G a9⟩, ⟨_, _, F10, PySem.W.mg_of X G a10⟩, ⟨_, _, F11, PySem.W.mg_of X G a11⟩, ⟨_, _, F12, PySem.W.mg_of X G a12⟩, ⟨_, _, F13, PySem.W.mg_of X G a13⟩, ⟨_, _, F14, PySem.W.mg_of X G a14⟩, ⟨_, _, F15, PySem.W.mg_of X G a15⟩, ⟨_, _, F16, PySem.W.mg_of X G a16⟩, ⟨_, _, F17, PySem.W.mg_of X G a17⟩, ⟨_, _, F18, PySem.W.mg_of X G a18⟩, ⟨_, _, F19, PySem.W.mg_of X G a19⟩, ⟨_, _, F20, PySem.W.mg_of X G a20⟩, ⟨_, _, F21, PySem.W.mg_of X G a21⟩, ⟨_, _, F22, PySem.W.mg_of X G a22⟩, ⟨_, _, F23, PySem.W.mg_of X G a23⟩, ⟨_, _, F24, PySem.W.mg_of X G a24⟩, ⟨_, _, F25, PySem.W.mg_of X G a25⟩, ⟨_, _, F26, PySem.W.mg_of X G a26⟩, ⟨_, _, F27, PySem.W.mg_of X G a27⟩, ⟨_, _, F28, PySem.W.mg_of X G a28⟩, ⟨C_BadRow, _, _, F29, PySem.W.mg_of X G aC_BadRow, aC_BadRow, ⟨⟨_, _, _, _, _, _, _, _, _, _, _, _, _, _, _, xL_BadRow, rv_BadRow⟩, sa_BadRow, bF_BadRow, tF_BadRow, kF_BadRow⟩, nf_BadRow, a29, i29⟩, ⟨⟨C_BadRow, aC_BadRow, ⟨hg_BadRow, hk_BadRow, bF_BadRow, hd_BadRow⟩, nf_BadRow⟩⟩, ⟨C_BadText, _, _, F30, PySem.W.mg_of X G aC_BadText, aC_BadText, ⟨⟨_, _, _, _, _, _, _, _, _, _, _, _, _, _, _, xL_BadText, rv_BadText⟩, sa_BadText, bF_BadText, tF_BadText, kF_BadText⟩, nf_BadText, a30, i30⟩, ⟨⟨C_BadText, aC_BadText, ⟨hg_BadText, hk_BadText, bF_BadText, hd_BadText⟩, nf_BadText⟩⟩, ⟨⟨C_BadText, PySem.W.mg_of X G aC_BadText, tn_BadText⟩⟩, ⟨⟨C_BadRow, PySem.W.mg_of X G aC_BadRow, tn_BadRow⟩⟩, zc, PySem.W.mg_none_of X G z0, PySem.W.mg_none_of X G z1, PySem.W.mg_none_of X G z2, PySem.W.mg_none_of X G z3, PySem.W.mg_none_of X G z4, PySem.W.mg_none_of X G z5, PySem.W.mg_none_of X G z6, PySem.W.mg_none_of X G z7, PySem.W.mg_none_of X G z8, PySem.W.mg_none_of X G z9, PySem.W.mg_none_of X G z10, PySem.W.mg_none_of X G z11, PySem.W.mg_none_of X G z12, ⟨_, _, PySem.W.mg_of X G y0, r0, fun _ => .int _⟩, ⟨_, _, PySem.W.mg_of X G y1, r1, fun _ => .int _⟩, ⟨_, _, PySem.W.mg_of X G y2, r2, fun _ => .int _⟩, ⟨_, _, PySem.W.mg_of X G y3, r3, fun _ => .int _⟩, ⟨⟨a_SIGNS, _, _, PySem.W.mg_of X G y4, rfl, fun _ => .inr ⟨_, _, _, x4, w4, rfl, by have := v4.length; simp at this; rw [sizeLine_eq]; omega, v4⟩, fun _ => .cons (.str _) (.cons (.str _) (.cons (.str _) (.nil)))⟩⟩, ⟨_, _, PySem.W.mg_of X G y5, r5, fun _ => .str _⟩⟩
  have bD := F14.binds (ps := ["_law_script"]) fun _ _ _ _ _ _ us hl => match us, hl with | [_], _ => rfl
  have tL : PySem.W.tabIn K "law" = some (cL, TL) := by
    unfold PySem.W.tabIn
    rw [a28]
    simp only [l28, lC, vC]
  refine ⟨_, cL, TL, tL, nC, fun s v => .of_eq rfl, fun base _ _ tbl => law_of (N := ["_law_deck_here", "_law_turn", "_law_row_here", "_law_text", "_law_one_here", "_law_some", "_law_value"]) (m := m_law) F28 sc_p_law (by decide) rfl (lawTab_of a28 tL tbl) (fun cdv A outer s H E hr => ?_) (fun cdv A outer s H E LT hG hr => ds_law T LT hG hr) pure_law⟩
  exact ps_set (i := 1) sc_p_law.nd rfl (by first | exact Or.inl rfl | exact Or.inr rfl) (pe_call (k := 1) (ok_deck (k := 0) F14 T.b_abs T.b_len) (hr.mono (by decide)) (by rfl) (PySem.W.mg_of X G a14) F14.kp bD .nil pass0 (pa_cons (pv 0) pa_nil))
end Lw
open PySem PySem.W PyProof.Rows
set_option maxHeartbeats 0 in
theorem PySem.Challenge.cw_rowsback_k09_texts_of_none_holds : PySem.Challenge.rw_rowsback_k09_texts_of_none.Holds := by
  w_on; o_law; k_head; (case hw => w_witness2)
  k_fill
  refine DL.walk_GT (l := PySem.Challenge.rw_rowsback_k09_texts_of_none) (n := 63) (k := Lw.lvLaw + 1) (x := "_law_script") (sp := DL.spLaw) rfl (by decide) rfl ⟨rfl, by decide, by decide⟩ rfl (fun w h Y => PySem.W.kIn_of Y) ?F (fun _ _ a ns hl hT hS => ⟨a, ns, rfl, hS, hl, hT, fun _ => rfl⟩)
  case F =>
    intro w mg fa h KX G hmg
    refine' Lw.all_mk KX G hmg ?aC_RowError ?aC_BadRow ?aC_BadText ?hn_x ?ht_x ?xL_BadText ?rv_BadText ?sa_BadText ?nf_BadText ?kF_BadText ?bF_BadText ?tF_BadText ?hg_BadText ?hk_BadText ?hd_BadText ?ha_BadText ?hm_BadText ?su_BadText_BadText ?xL_BadRow ?rv_BadRow ?sa_BadRow ?nf_BadRow ?kF_BadRow ?bF_BadRow ?tF_BadRow ?hg_BadRow ?hk_BadRow ?hd_BadRow ?ha_BadRow ?hm_BadRow ?su_BadRow_BadRow ?su_BadText_BadRow ?su_BadRow_BadText ?a1 ?l1 ?c1 ?k1 ?a2 ?l2 ?c2 ?k2 ?a3 ?l3 ?c3 ?k3 ?a4 ?l4 ?c4 ?k4 ?a5 ?l5 ?c5 ?k5 ?a6 ?l6 ?c6 ?k6 ?a7 ?l7 ?c7 ?k7 ?a8 ?l8 ?c8 ?k8 ?a9 ?l9 ?c9 ?k9 ?a10 ?l10 ?c10 ?k10 ?a11 ?l11 ?c11 ?k11 ?a12 ?l12 ?c12 ?k12 ?a13 ?l13 ?c13 ?k13 ?a14 ?l14 ?c14 ?k14 ?a15 ?l15 ?c15 ?k15 ?a16 ?l16 ?c16 ?k16 ?a17 ?l17 ?c17 ?k17 ?a18 ?l18 ?c18 ?k18 ?a19 ?l19 ?c19 ?k19 ?a20 ?l20 ?c20 ?k20 ?a21 ?l21 ?c21 ?k21 ?a22 ?l22 ?c22 ?k22 ?a23 ?l23 ?c23 ?k23 ?a24 ?l24 ?c24 ?k24 ?a25 ?l25 ?c25 ?k25 ?a26 ?l26 ?c26 ?k26 ?a27 ?l27 ?c27 ?k27 ?a28 ?l28 ?c28 ?k28 ?lC ?vC ?nC ?a29 ?i29 ?l29 ?c29 ?k29 ?a30 ?i30 ?l30 ?c30 ?k30 ?zc ?z0 ?z1 ?z2 ?z3 ?z4 ?z5 ?z6 ?z7 ?z8 ?z9 ?z10 ?z11 ?z12 ?y0 ?r0 ?y1 ?r1 ?y2 ?r2 ?y3 ?r3 ?y4 ?x4 ?w4 ?v4 ?y5 ?r5
    (case aC_RowError => k_is); (case aC_BadRow => k_is); (case aC_BadText => k_is); (case hn_x => k_is); (case ht_x => k_is); (case xL_BadText => k_is); (case rv_BadText => first | rfl | decide +kernel); (case sa_BadText => k_is); (case nf_BadText => k_is); (case kF_BadText => k_is); (case bF_BadText => k_is); (case tF_BadText => k_is); (case hg_BadText => k_is); (case hk_BadText => k_is); (case hd_BadText => k_is); (case ha_BadText => k_is); (case hm_BadText => k_is); (case su_BadText_BadText => first | rfl | k_is); (case xL_BadRow => k_is); (case rv_BadRow => first | rfl | decide +kernel); (case sa_BadRow => k_is); (case nf_BadRow => k_is); (case kF_BadRow => k_is); (case bF_BadRow => k_is); (case tF_BadRow => k_is); (case hg_BadRow => k_is); (case hk_BadRow => k_is); (case hd_BadRow => k_is); (case ha_BadRow => k_is); (case hm_BadRow => k_is); (case su_BadRow_BadRow => first | rfl | k_is); (case su_BadText_BadRow => k_is); (case su_BadRow_BadText => k_is); (case a1 => k_is); (case l1 => k_is); (case c1 => k_is); (case k1 => k_is); (case a2 => k_is); (case l2 => k_is); (case c2 => k_is); (case k2 => k_is); (case a3 => k_is); (case l3 => k_is); (case c3 => k_is); (case k3 => k_is); (case a4 => k_is); (case l4 => k_is); (case c4 => k_is); (case k4 => k_is); (case a5 => k_is); (case l5 => k_is); (case c5 => k_is); (case k5 => k_is); (case a6 => k_is); (case l6 => k_is); (case c6 => k_is); (case k6 => k_is); (case a7 => k_is); (case l7 => k_is); (case c7 => k_is); (case k7 => k_is); (case a8 => k_is); (case l8 => k_is); (case c8 => k_is); (case k8 => k_is); (case a9 => k_is); (case l9 => k_is); (case c9 => k_is); (case k9 => k_is); (case a10 => k_is); (case l10 => k_is); (case c10 => k_is); (case k10 => k_is); (case a11 => k_is); (case l11 => k_is); (case c11 => k_is); (case k11 => k_is); (case a12 => k_is); (case l12 => k_is); (case c12 => k_is); (case k12 => k_is); (case a13 => k_is); (case l13 => k_is); (case c13 => k_is); (case k13 => k_is); (case a14 => k_is); (case l14 => k_is); (case c14 => k_is); (case k14 => k_is); (case a15 => k_is); (case l15 => k_is); (case c15 => k_is); (case k15 => k_is); (case a16 => k_is); (case l16 => k_is); (case c16 => k_is); (case k16 => k_is); (case a17 => k_is); (case l17 => k_is); (case c17 => k_is); (case k17 => k_is); (case a18 => k_is); (case l18 => k_is); (case c18 => k_is); (case k18 => k_is); (case a19 => k_is); (case l19 => k_is); (case c19 => k_is); (case k19 => k_is); (case a20 => k_is); (case l20 => k_is); (case c20 => k_is); (case k20 => k_is); (case a21 => k_is); (case l21 => k_is); (case c21 => k_is); (case k21 => k_is); (case a22 => k_is); (case l22 => k_is); (case c22 => k_is); (case k22 => k_is); (case a23 => k_is); (case l23 => k_is); (case c23 => k_is); (case k23 => k_is); (case a24 => k_is); (case l24 => k_is); (case c24 => k_is); (case k24 => k_is); (case a25 => k_is); (case l25 => k_is); (case c25 => k_is); (case k25 => k_is); (case a26 => k_is); (case l26 => k_is); (case c26 => k_is); (case k26 => k_is); (case a27 => k_is); (case l27 => k_is); (case c27 => k_is); (case k27 => k_is); (case a28 => k_is); (case l28 => k_is); (case c28 => k_is); (case k28 => k_is); (case lC => k_is); (case vC => rfl); (case nC => rfl); (case a29 => k_is); (case i29 => k_is); (case l29 => k_is); (case c29 => k_is); (case k29 => k_is); (case a30 => k_is); (case i30 => k_is); (case l30 => k_is); (case c30 => k_is); (case k30 => k_is); (case zc => (show PySem.W.nsIn _ _ _ = some none; k_is)); (case z0 => k_is); (case z1 => k_is); (case z2 => k_is); (case z3 => k_is); (case z4 => k_is); (case z5 => k_is); (case z6 => k_is); (case z7 => k_is); (case z8 => k_is); (case z9 => k_is); (case z10 => k_is); (case z11 => k_is); (case z12 => k_is); (case y0 => k_is); (case r0 => exact ⟨_, rfl⟩); (case y1 => k_is); (case r1 => exact ⟨_, rfl⟩); (case y2 => k_is); (case r2 => exact ⟨_, rfl⟩); (case y3 => k_is); (case r3 => exact ⟨_, rfl⟩); (case y4 => k_is); (case x4 => k_is); (case w4 => rfl); (case v4 => exact .cons ⟨_, rfl⟩ (.cons ⟨_, rfl⟩ (.cons ⟨_, rfl⟩ (.nil)))); (case y5 => k_is); (case r5 => exact ⟨_, rfl⟩)
