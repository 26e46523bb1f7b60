import PyProof.Rows.All
import Wide.All
import OpenK.AllK
import Wide.FinOn
import HandS.ForMost
import HandS.Walk
import HandS.IsInst
import HandS.TupAny
import HandS.TupMul
import HandS.Style
import HandS.Lambda
import KE.DataCmp
import HandS.Wide
import KE.GoesEnum
import HandS.Zip
import PyProof.StrLawsRepr
import HandS.SortInts
import PyProof.LongRange
import KE.KDictZip
import HandS.ListItems
import HandS.Conv
import HandS.ExcIs
import HandS.ExcOwn
import HandS.TryOnly
import HandS.WordsExc
import HandS.Small
import HandS.SetFor
import KE.SortData
import KE.DataMinMax
import HandS.Iter
import HandS.Deep
import PyProof.NeKinds
import PyProof.EqKinds
import PyProof.SumWalkG
import PyProof.Rows.SumAny
import KE.KDictPairs
import HandS.HeadHook3
import KE.KDictDisplayH
import KE.KDictCopyH
import KE.KDictOf
import HandS.WordsDict
import KE.KTupSum
import HandS.DictEq
import HandS.TryMany
import KE.GoesZip
import HandS.ExcInit
import HandS.ExcField
import KE.KExcIs
import HandS.CallLocal
import PyProof.P3Eq
import PySem.Challenge.RW_rowsback_k61_leasts
set_option Elab.async false
set_option linter.all false
set_option maxRecDepth 100000
set_option maxHeartbeats 4000000
namespace DL
open PySem PySem.Spec PyProof.Rows L2
/-! DL1: data over the abstract heap; the pure state; the judgements. -/
abbrev D := PyData
abbrev St := L2.St
def keyD : Key → D
  | .inl i => .int i
  | .inr x => .str x
mutual
inductive Rp (K : PySem.W.Frag) (H : Hp) : V → D → Prop
  | non : Rp K H .non .none
  | bl (b : Bool) : Rp K H (.bl b) (.bool b)
  | int (i : Int) : Rp K H (.int i) (.int i)
  | str (x : Str) : Rp K H (.str x) (.str x)
  | lst {a : Addr} {vs : List V} {ds : List D} : H a = some (.lst vs) → RpA K H vs ds → Rp K H (.ref a) (.list ds)
  | tup {a : Addr} {vs : List V} {ds : List D} : H a = some (.tup vs) → RpA K H vs ds → Rp K H (.ref a) (.tuple ds)
  | dK {a : Addr} {kvs : List (Key × V)} {ds : List (D × D)} : Rd H a (.dK kvs) → RpK K H kvs ds → Rp K H (.ref a) (.dict ds)
  | dT {a : Addr} {kvs : List (List Key × V)} {ds : List (D × D)} : Rd H a (.dT kvs) → RpT K H kvs ds → Rp K H (.ref a) (.dict ds)
  /-- a tuple known to have no dict: told as a dict that cannot be -/
  | pl {a : Addr} {o : Obj} {vs : List V} {ds : List D} : H a = some (.frz o (.tup vs)) → o.dict = none → RpA K H vs ds → Rp K H (.ref a) (.dict [(.none, .tuple ds)])
inductive RpA (K : PySem.W.Frag) (H : Hp) : List V → List D → Prop
  | nil : RpA K H [] []
  | cons {v : V} {vs : List V} {d : D} {ds : List D} : Rp K H v d → RpA K H vs ds → RpA K H (v :: vs) (d :: ds)
inductive RpK (K : PySem.W.Frag) (H : Hp) : List (Key × V) → List (D × D) → Prop
  | nil : RpK K H [] []
  | cons {k : Key} {v : V} {r : List (Key × V)} {d : D} {ds : List (D × D)} : Rp K H v d → RpK K H r ds → RpK K H ((k, v) :: r) ((keyD k, d) :: ds)
inductive RpT (K : PySem.W.Frag) (H : Hp) : List (List Key × V) → List (D × D) → Prop
  | nil : RpT K H [] []
  | cons {k : List Key} {v : V} {r : List (List Key × V)} {d : D} {ds : List (D × D)} : Rp K H v d → RpT K H r ds → RpT K H ((k, v) :: r) ((.tuple (k.map keyD), d) :: ds)
end
/-- all that was tracked stays -/
abbrev Grw (H H' : Hp) : Prop := ∀ (a : Addr) (o : HO), H a = some o → H' a = some o
theorem rd_grw {H H' : Hp} {a : Addr} {u : HO} (g : Grw H H') (h : Rd H a u) : Rd H' a u := h.imp (g _ _) fun ⟨o, e⟩ => ⟨o, g _ _ e⟩
theorem Grw.refl (H : Hp) : Grw H H := fun _ _ h => h
theorem Grw.trans {H H1 H2 : Hp} (a : Grw H H1) (b : Grw H1 H2) : Grw H H2 := fun x o h => b x o (a x o h)
theorem Grw.new {H : Hp} {p : Addr} {o : HO} (h : H p = none) : Grw H (upd H p o) := fun a u e => by
  rw [upd_ne (ne_of_none e h)]; exact e
theorem SqT.grw {K : PySem.W.Frag} {H H' : Hp} {a : Addr} {xs : List V} (g : Grw H H') (h : SqT K H a xs) : SqT K H' a xs := by
  rcases h with (h | ⟨o, h⟩) | h
  · exact .inl (.inl (g _ _ h))
  · exact .inl (.inr ⟨o, g _ _ h⟩)
  · exact .inr h
mutual
theorem Rp.mono {K : PySem.W.Frag} {H H' : Hp} (g : Grw H H') : ∀ {v : V} {d : D}, Rp K H v d → Rp K H' v d
  | _, _, .non => .non
  | _, _, .bl b => .bl b
  | _, _, .int i => .int i
  | _, _, .str x => .str x
  | _, _, .lst h r => .lst (g _ _ h) (RpA.mono g r)
  | _, _, .tup h r => .tup (g _ _ h) (RpA.mono g r)
  | _, _, .dK h r => .dK (rd_grw g h) (RpK.mono g r)
  | _, _, .dT h r => .dT (rd_grw g h) (RpT.mono g r)
  | _, _, .pl h n r => .pl (g _ _ h) n (RpA.mono g r)
theorem RpA.mono {K : PySem.W.Frag} {H H' : Hp} (g : Grw H H') : ∀ {v : List V} {d : List D}, RpA K H v d → RpA K H' v d
  | _, _, .nil => .nil
  | _, _, .cons a b => .cons (Rp.mono g a) (RpA.mono g b)
theorem RpK.mono {K : PySem.W.Frag} {H H' : Hp} (g : Grw H H') : ∀ {v : List (Key × V)} {d : List (D × D)}, RpK K H v d → RpK K H' v d
  | _, _, .nil => .nil
  | _, _, .cons a b => .cons (Rp.mono g a) (RpK.mono g b)
theorem RpT.mono {K : PySem.W.Frag} {H H' : Hp} (g : Grw H H') : ∀ {v : List (List Key × V)} {d : List (D × D)}, RpT K H v d → RpT K H' v d
  | _, _, .nil => .nil
  | _, _, .cons a b => .cons (Rp.mono g a) (RpT.mono g b)
end
/-- a plain tuple's mark -/
def isP : List (D × D) → Bool
  | [(.none, .tuple _)] => true
  | _ => false
@[simp] theorem isP_nil : isP [] = false := rfl
@[simp] theorem isP_int {i : Int} {d : D} {r : List (D × D)} : isP ((.int i, d) :: r) = false := rfl
@[simp] theorem isP_str {i : Str} {d : D} {r : List (D × D)} : isP ((.str i, d) :: r) = false := rfl
@[simp] theorem isP_tup {i : List D} {d : D} {r : List (D × D)} : isP ((.tuple i, d) :: r) = false := rfl
@[simp] theorem isP_pln {ds : List D} : isP [(.none, .tuple ds)] = true := rfl
theorem RpK.notP {K : PySem.W.Frag} {H : Hp} : ∀ {v : List (Key × V)} {d : List (D × D)}, RpK K H v d → isP d = false
  | _, _, .nil => rfl
  | (k, _) :: _, _, .cons _ _ => by cases k <;> rfl
theorem RpT.notP {K : PySem.W.Frag} {H : Hp} : ∀ {v : List (List Key × V)} {d : List (D × D)}, RpT K H v d → isP d = false
  | _, _, .nil => rfl
  | _, _, .cons _ _ => rfl
theorem RpA.length {K : PySem.W.Frag} {H : Hp} : ∀ {vs : List V} {ds : List D}, RpA K H vs ds → vs.length = ds.length
  | _, _, .nil => rfl
  | _, _, .cons _ r => by simp [RpA.length r]
theorem RpA.get {K : PySem.W.Frag} {H : Hp} : ∀ {vs : List V} {ds : List D} {i : Nat} {d : D}, RpA K H vs ds → ds[i]? = some d → ∃ v, vs[i]? = some v ∧ Rp K H v d
  | _, _, _, _, .nil, e => by simp at e
  | _, _, 0, _, .cons h _, e => by simp at e; subst e; exact ⟨_, rfl, h⟩
  | _, _, i + 1, d, .cons _ r, e => by
    obtain ⟨v, h1, h2⟩ := RpA.get (i := i) r (by simpa using e)
    exact ⟨v, by simpa using h1, h2⟩
theorem RpA.getv {K : PySem.W.Frag} {H : Hp} : ∀ {vs : List V} {ds : List D} {i : Nat} {v : V}, RpA K H vs ds → vs[i]? = some v → ∃ d, ds[i]? = some d ∧ Rp K H v d
  | _, _, _, _, .nil, e => by simp at e
  | _, _, 0, _, .cons h _, e => by simp at e; subst e; exact ⟨_, rfl, h⟩
  | _, _, i + 1, d, .cons _ r, e => by
    obtain ⟨v, h1, h2⟩ := RpA.getv (i := i) r (by simpa using e)
    exact ⟨v, by simpa using h1, h2⟩
theorem RpA.append {K : PySem.W.Frag} {H : Hp} : ∀ {vs us : List V} {ds es : List D}, RpA K H vs ds → RpA K H us es → RpA K H (vs ++ us) (ds ++ es)
  | _, _, _, _, .nil, r => r
  | _, _, _, _, .cons h t, r => .cons h (RpA.append t r)
theorem RpA.take {K : PySem.W.Frag} {H : Hp} : ∀ {vs : List V} {ds : List D} (n : Nat), RpA K H vs ds → RpA K H (vs.take n) (ds.take n)
  | _, _, 0, _ => .nil
  | _, _, _ + 1, .nil => .nil
  | _, _, n + 1, .cons h t => .cons h (RpA.take n t)
theorem RpA.drop {K : PySem.W.Frag} {H : Hp} : ∀ {vs : List V} {ds : List D} (n : Nat), RpA K H vs ds → RpA K H (vs.drop n) (ds.drop n)
  | _, _, 0, h => h
  | _, _, _ + 1, .nil => .nil
  | _, _, n + 1, .cons _ t => RpA.drop n t
theorem RpA.set {K : PySem.W.Frag} {H : Hp} {v : V} {d : D} (h : Rp K H v d) : ∀ {vs : List V} {ds : List D} (n : Nat), RpA K H vs ds → RpA K H (vs.set n v) (ds.set n d)
  | _, _, _, .nil => .nil
  | _, _, 0, .cons _ t => .cons h t
  | _, _, n + 1, .cons q t => .cons q (RpA.set h n t)
theorem RpA.rep {K : PySem.W.Frag} {H : Hp} {vs : List V} {ds : List D} (h : RpA K H vs ds) : ∀ n : Nat, RpA K H (List.replicate n vs).flatten (List.replicate n ds).flatten
  | 0 => .nil
  | n + 1 => by
    rw [List.replicate_succ, List.replicate_succ, List.flatten_cons, List.flatten_cons]
    exact h.append (RpA.rep h n)
theorem RpA.ints {K : PySem.W.Frag} {H : Hp} : ∀ ns : List Int, RpA K H (ns.map V.int) (ns.map PyData.int)
  | [] => .nil
  | n :: r => .cons (.int n) (RpA.ints r)
/-! ### what is reserved is hidden -/
open Classical in
noncomputable def mask (P : Addr → Prop) (H : Hp) : Hp := fun a => if P a then none else H a
theorem mask_some {P : Addr → Prop} {H : Hp} {a : Addr} {o : HO} : mask P H a = some o ↔ ¬ P a ∧ H a = some o := by
  unfold mask
  by_cases h : P a
  · simp [h]
  · simp [h]
theorem mask_grw {P P' : Addr → Prop} {H H' : Hp} (h : ∀ a o, H a = some o → ¬ P a → ¬ P' a ∧ H' a = some o) : Grw (mask P H) (mask P' H') := fun a o e => by
  obtain ⟨h1, h2⟩ := mask_some.mp e
  exact mask_some.mpr (h a o h2 h1)
theorem mask_le {P : Addr → Prop} {H : Hp} : Grw (mask P H) H := fun _ _ e => (mask_some.mp e).2
/-! ### the pure state -/
structure Dk where
  great : List Int
  cells : List Int
  n : Int
/-- a field of an object: data, or a list of its own -/
inductive OV where
  | dat (d : D)
  | lst (ds : List D)
structure Ob where
  cls : Str
  fs : List (Str × OV)
inductive Val where
  | dat (d : D)
  | lst (ds : List D)
  | dct (t : Bool) (kvs : List (D × D))
  | deck
  | obj (o : Ob)
  | gst (ds : List D)
  | fn (c : Str)
structure S where
  g : List (Option Val)
  k : Dk
abbrev M (α : Type) := S → Option (α × S)
/-- where an object stands: itself, its dict, its class, the lists of its own -/
structure OA where
  p : Addr
  q : Addr
  C : Addr
  ls : List Addr
structure DA where
  o : Addr
  g : Addr
  c : Addr
  x : Option OA
  t : List (Addr × Str) := []
  gs : Option Addr := none
def OA.is (y : OA) (a : Addr) : Prop := a = y.p ∨ a = y.q ∨ a ∈ y.ls
def DA.is (A : DA) (a : Addr) : Prop := a = A.o ∨ a = A.g ∨ a = A.c ∨ (∃ y, A.x = some y ∧ y.is a) ∨ (∃ p ∈ A.t, a = p.1) ∨ A.gs = some a
/-- without the object -/
def DA.no (A : DA) : DA := ⟨A.o, A.g, A.c, none, A.t, none⟩
theorem DA.no_is {A : DA} {a : Addr} (h : A.no.is a) : A.is a := by
  rcases h with h | h | h | ⟨y, h, _⟩ | h | h
  · exact .inl h
  · exact .inr (.inl h)
  · exact .inr (.inr (.inl h))
  · cases h
  · exact .inr (.inr (.inr (.inr (.inl h))))
  · cases h
/-- without the guest -/
def DA.ng (A : DA) : DA := ⟨A.o, A.g, A.c, A.x, A.t, none⟩
/-- without the object, with the guest -/
def DA.nx (A : DA) : DA := ⟨A.o, A.g, A.c, none, A.t, A.gs⟩
inductive FldsOk (K : PySem.W.Frag) (P : Addr → Prop) (H : Hp) : List (Str × V) → List (Str × OV) → List Addr → Prop
  | nil : FldsOk K P H [] [] []
  | dat {f : Str} {v : V} {d : D} {fs : List (Str × V)} {o : List (Str × OV)} {ls : List Addr} : Rp K (mask P H) v d → FldsOk K P H fs o ls → FldsOk K P H ((f, v) :: fs) ((f, .dat d) :: o) ls
  | lst {f : Str} {l : Addr} {vs : List V} {ds : List D} {fs : List (Str × V)} {o : List (Str × OV)} {ls : List Addr} : H l = some (.lst vs) → RpA K (mask P H) vs ds → FldsOk K P H fs o ls → FldsOk K P H ((f, .ref l) :: fs) ((f, .lst ds) :: o) (l :: ls)
theorem FldsOk.move {K : PySem.W.Frag} {P P' : Addr → Prop} {H H' : Hp} {fs : List (Str × V)} {o : List (Str × OV)} {ls : List Addr} (g : Grw (mask P H) (mask P' H')) (h : FldsOk K P H fs o ls) (k : ∀ l ∈ ls, ∀ u, H l = some u → H' l = some u) : FldsOk K P' H' fs o ls := by
  induction h with
  | nil => exact .nil
  | dat r _ ih => exact .dat (r.mono g) (ih k)
  | lst e r _ ih => exact .lst (k _ (List.mem_cons_self ..) _ e) (r.mono g) (ih fun l hl => k l (List.mem_cons_of_mem _ hl))
/-- the object of y holds o -/
def ObOk (K : PySem.W.Frag) (y : OA) (A : DA) (P : Addr → Prop) (H : Hp) (o : Ob) : Prop := ∃ fs, H y.p = some (.ins y.C y.q fs) ∧ H y.q = some (.own y.p) ∧ FldsOk K P H fs o.fs y.ls ∧ fs.length ≤ 900 ∧ y.ls.Nodup ∧ (∀ l ∈ y.ls, l ≠ A.o ∧ l ≠ A.g ∧ l ≠ A.c) ∧ PySem.W.nsIn K mainGlobals o.cls = some (some (.ref y.C))
theorem ObOk.move {K : PySem.W.Frag} {y : OA} {A : DA} {P P' : Addr → Prop} {H H' : Hp} {o : Ob} (h : ObOk K y A P H o) (g : Grw (mask P H) (mask P' H')) (k : ∀ a, y.is a → ∀ u, H a = some u → H' a = some u) : ObOk K y A P' H' o := by
  obtain ⟨fs, h1, h2, h3, h4, h5, h6, h7⟩ := h
  exact ⟨fs, k _ (.inl rfl) _ h1, k _ (.inr (.inl rfl)) _ h2, h3.move g fun l hl => k l (.inr (.inr hl)), h4, h5, h6, h7⟩
/-- the defs of a law whose lambdas stand in tables -/
def lamDefs : List Str := ["law"]
/-- where these tables stand -/
def tbsOf (K : PySem.W.Frag) : List (Addr × Str) := lamDefs.filterMap fun x => (PySem.W.tabIn K x).map fun q => (q.2, x ++ ".<locals>.<lambda>")
/-- a deck as it was made -/
structure DkB (A : DA) (P : Addr → Prop) (H : Hp) (k : Dk) : Prop where
  ho : H A.o = some (.lst [.ref A.g, .ref A.c, .int k.n])
  hg : H A.g = some (.lst (k.great.map V.int))
  hc : H A.c = some (.lst (k.cells.map V.int))
  rs : ∀ a, A.is a → P a
  og : A.o ≠ A.g
  oc : A.o ≠ A.c
  gc : A.g ≠ A.c
structure DkOk (K : PySem.W.Frag) (A : DA) (P : Addr → Prop) (H : Hp) (k : Dk) : Prop where
  ho : H A.o = some (.lst [.ref A.g, .ref A.c, .int k.n])
  hg : H A.g = some (.lst (k.great.map V.int))
  hc : H A.c = some (.lst (k.cells.map V.int))
  rs : ∀ a, A.is a → P a
  og : A.o ≠ A.g
  oc : A.o ≠ A.c
  gc : A.g ≠ A.c
  tb : LamX.Tabs A.t H
  tk : A.t = tbsOf K
/-- one slot -/
def SlotOk (K : PySem.W.Frag) (A : DA) (hid P : Addr → Prop) (H : Hp) (x : Option (Option V)) : Val → Prop
  | .dat d => ∃ v, x = some (some v) ∧ Rp K (mask P H) v d
  | .lst ds => ∃ a vs, x = some (some (.ref a)) ∧ H a = some (.lst vs) ∧ P a ∧ ¬ hid a ∧ ¬ A.is a ∧ RpA K (mask P H) vs ds
  | .dct t kvs => ∃ a, x = some (some (.ref a)) ∧ P a ∧ ¬ hid a ∧ ¬ A.is a ∧ ((t = false ∧ ∃ ks, H a = some (.dK ks) ∧ RpK K (mask P H) ks kvs) ∨ t = true ∧ ∃ ks, H a = some (.dT ks) ∧ RpT K (mask P H) ks kvs)
  | .deck => x = some (some (.ref A.o))
  | .obj o => ∃ y, A.x = some y ∧ x = some (some (.ref y.p)) ∧ ObOk K y A P H o
  | .gst ds => ∃ l vs, A.gs = some l ∧ x = some (some (.ref l)) ∧ H l = some (.lst vs) ∧ RpA K (mask P H) vs ds ∧ l ≠ A.o ∧ l ≠ A.g ∧ l ≠ A.c ∧ ∀ y, A.x = some y → l ∉ y.ls
  | .fn c => ∃ a, x = some (some (.ref a)) ∧ PySem.W.nsIn K mainGlobals c = some (some (.ref a))
def isCell : Val → Bool
  | .lst _ | .dct _ _ => true
  | _ => false
/-- no tuple -/
def NoT : HO → Prop
  | .tup _ => False
  | .ext _ => False
  | _ => True
/-- tables and their code objects stand when another thing is put otherwise -/
theorem tabs_put {T : List (Addr × Str)} {H H' : Hp} {a : Addr} {o : HO} (h : LamX.Tabs T H) (e : H a = some o) (n1 : NoT o) (n2 : ∀ ps, o ≠ .tbl ps) (k : ∀ b, b ≠ a → H' b = H b) : LamX.Tabs T H' := fun p hp => by
  obtain ⟨ps, h1, h2, h3⟩ := h p hp
  have ne1 : p.1 ≠ a := fun z => by rw [z, e] at h1; cases h1; exact n2 _ rfl
  refine ⟨ps, by rw [k _ ne1]; exact h1, h2, fun pos cv hc => ?_⟩
  obtain ⟨c, e1, e2⟩ := h3 pos cv hc
  have ne2 : c ≠ a := fun z => by
    rw [z, e] at e2
    have e2 := Option.some.inj e2
    subst e2
    exact n1
  exact ⟨c, e1, by rw [k _ ne2]; exact e2⟩
theorem tabs_upd {T : List (Addr × Str)} {H : Hp} {a : Addr} {o u : HO} (h : LamX.Tabs T H) (e : H a = some o) (n1 : NoT o) (n2 : ∀ ps, o ≠ .tbl ps) : LamX.Tabs T (upd H a u) := tabs_put h e n1 n2 fun _ hb => upd_ne hb
theorem tabs_ext {T : List (Addr × Str)} {H H' : Hp} (h : LamX.Tabs T H) (k : ∀ b o, H b = some o → H' b = some o) : LamX.Tabs T H' := h.ext k
structure SOk (K : PySem.W.Frag) (A : DA) (hid P : Addr → Prop) (s : S) (σ : St) (H : Hp) : Prop where
  trk : ∀ a, P a → ∃ o, H a = some o ∧ NoT o
  hp : ∀ a, hid a → P a
  hd : ∀ a, hid a → ¬ A.is a
  len : s.g.length = σ.length
  slot : ∀ (i : Nat) (v : Val), s.g[i]? = some (some v) → SlotOk K A hid P H σ[i]? v
  apart : ∀ (i j : Nat) (v w : Val) (a : Addr), s.g[i]? = some (some v) → s.g[j]? = some (some w) → isCell v = true → isCell w = true → σ[i]? = some (some (.ref a)) → σ[j]? = some (some (.ref a)) → i = j
  deck : DkOk K A P H s.k
theorem SOk.tabs_off {K : PySem.W.Frag} {A : DA} {hid P : Addr → Prop} {s : S} {σ : St} {H H' : Hp} {a : Addr} (ok : SOk K A hid P s σ H) (hp : P a) (na : ∀ b, A.is b → b ≠ a) (k : ∀ b, b ≠ a → H' b = H b) : LamX.Tabs A.t H' := fun p hm => by
  obtain ⟨ps, h1, h2, h3⟩ := ok.deck.tb p hm
  obtain ⟨o, e, n⟩ := ok.trk a hp
  refine ⟨ps, by rw [k _ (na _ (.inr (.inr (.inr (.inr (.inl ⟨p, hm, rfl⟩))))))]; exact h1, h2, fun pos cv hc => ?_⟩
  obtain ⟨c, e1, e2⟩ := h3 pos cv hc
  have ne2 : c ≠ a := fun z => by
    rw [z, e] at e2
    have e2 := Option.some.inj e2
    subst e2
    exact n
  exact ⟨c, e1, by rw [k _ ne2]; exact e2⟩
theorem ObOk.thereL {K : PySem.W.Frag} {y : OA} {A : DA} {P : Addr → Prop} {H : Hp} {o : Ob} (h : ObOk K y A P H o) : ∀ a, y.is a → ∃ u, H a = some u ∧ NoT u ∧ ∀ ps, u ≠ .tbl ps := by
  obtain ⟨fs, h1, h2, h3, -⟩ := h
  rintro a (rfl | rfl | hl)
  · exact ⟨_, h1, trivial, fun _ z => nomatch z⟩
  · exact ⟨_, h2, trivial, fun _ z => nomatch z⟩
  · clear h1 h2
    revert hl
    generalize y.ls = ls at h3
    generalize o.fs = ov at h3
    intro hl
    induction h3 with
    | nil => cases hl
    | dat _ _ ih => exact ih hl
    | lst e _ _ ih =>
      rcases List.mem_cons.mp hl with rfl | hl
      · exact ⟨_, e, trivial, fun _ z => nomatch z⟩
      · exact ih hl
/-- what stays on the way -/
structure Stp (hid P P' : Addr → Prop) (H H' : Hp) : Prop where
  keep : ∀ a o, H a = some o → (hid a ∨ ¬ P a) → H' a = some o
  vis : ∀ a o, H a = some o → ¬ P a → ¬ P' a
theorem Stp.refl {hid P : Addr → Prop} {H : Hp} : Stp hid P P H H := ⟨fun _ _ h _ => h, fun _ _ _ h => h⟩
theorem Stp.trans {hid P P1 P2 : Addr → Prop} {H H1 H2 : Hp} (a : Stp hid P P1 H H1) (b : Stp hid P1 P2 H1 H2) : Stp hid P P2 H H2 :=
  ⟨fun x o h c => b.keep x o (a.keep x o h c) (c.imp (fun z => z) fun z => a.vis x o h z), fun x o h c => b.vis x o (a.keep x o h (.inr c)) (a.vis x o h c)⟩
theorem Stp.grw {hid P : Addr → Prop} {H H' : Hp} (g : Grw H H') : Stp hid P P H H' := ⟨fun a o h _ => g a o h, fun _ _ _ h => h⟩
theorem Stp.mg {hid P P' : Addr → Prop} {H H' : Hp} (a : Stp hid P P' H H') : Grw (mask P H) (mask P' H') := mask_grw fun x o h c => ⟨a.vis x o h c, a.keep x o h (.inr c)⟩
theorem Stp.rp {K : PySem.W.Frag} {hid P P' : Addr → Prop} {H H' : Hp} {v : V} {d : D} (a : Stp hid P P' H H') (h : Rp K (mask P H) v d) : Rp K (mask P' H') v d := h.mono a.mg
theorem Stp.rpA {K : PySem.W.Frag} {hid P P' : Addr → Prop} {H H' : Hp} {v : List V} {d : List D} (a : Stp hid P P' H H') (h : RpA K (mask P H) v d) : RpA K (mask P' H') v d := h.mono a.mg
theorem grw_mask {P : Addr → Prop} {H H' : Hp} (g : Grw H H') : Grw (mask P H) (mask P H') := mask_grw fun x o h c => ⟨c, g x o h⟩
theorem DkOk.grw {K : PySem.W.Frag} {A : DA} {P : Addr → Prop} {H H' : Hp} {k : Dk} (h : DkOk K A P H k) (g : Grw H H') : DkOk K A P H' k := ⟨g _ _ h.ho, g _ _ h.hg, g _ _ h.hc, h.rs, h.og, h.oc, h.gc, h.tb.ext g, h.tk⟩
theorem SlotOk.grw {K : PySem.W.Frag} {A : DA} {hid P : Addr → Prop} {H H' : Hp} {x : Option (Option V)} {v : Val} (g : Grw H H') (h : SlotOk K A hid P H x v) : SlotOk K A hid P H' x v := by
  cases v with
  | dat d => obtain ⟨u, e, r⟩ := h; exact ⟨u, e, r.mono (grw_mask g)⟩
  | lst ds => obtain ⟨a, vs, e, h1, h2, h3, h4, r⟩ := h; exact ⟨a, vs, e, g _ _ h1, h2, h3, h4, r.mono (grw_mask g)⟩
  | dct t kvs =>
    obtain ⟨a, e, h2, h3, h4, r⟩ := h
    refine ⟨a, e, h2, h3, h4, ?_⟩
    rcases r with ⟨ht, ks, h1, r⟩ | ⟨ht, ks, h1, r⟩
    · exact .inl ⟨ht, ks, g _ _ h1, r.mono (grw_mask g)⟩
    · exact .inr ⟨ht, ks, g _ _ h1, r.mono (grw_mask g)⟩
  | deck => exact h
  | obj o => obtain ⟨y, h1, h2, h3⟩ := h; exact ⟨y, h1, h2, h3.move (grw_mask g) fun a _ u e => g _ _ e⟩
  | fn _ => exact h
  | gst es => obtain ⟨b, us, z1, z2, z3, z4, z5⟩ := h; exact ⟨b, us, z1, z2, g _ _ z3, z4.mono (grw_mask g), z5⟩
theorem SOk.grw {K : PySem.W.Frag} {A : DA} {hid P : Addr → Prop} {s : S} {σ : St} {H H' : Hp} (h : SOk K A hid P s σ H) (g : Grw H H') : SOk K A hid P s σ H' :=
  ⟨fun a p => let ⟨o, e, n⟩ := h.trk a p; ⟨o, g _ _ e, n⟩, h.hp, h.hd, h.len, fun i v e => (h.slot i v e).grw g, h.apart, h.deck.grw g⟩
theorem SOk.free {K : PySem.W.Frag} {A : DA} {hid P : Addr → Prop} {s : S} {σ : St} {H : Hp} (h : SOk K A hid P s σ H) {p : Addr} (e : H p = none) : ¬ P p := fun z => by
  obtain ⟨o, q, _⟩ := h.trk p z
  rw [e] at q; cases q
theorem mask_new {P : Addr → Prop} {H : Hp} {p : Addr} {o : HO} (h : ¬ P p) : mask P (upd H p o) p = some o := mask_some.mpr ⟨h, upd_same⟩
/-! ### the judgements -/
def EvE (K : PySem.W.Frag) (t : TE) (f : M D) : Prop := ∀ (A : DA) (hid P : Addr → Prop) (s : S) (σ : St) (H : Hp) (d : D) (s' : S), SOk K A hid P s σ H → f s = some (d, s') →
  ∀ Q : VK, (∀ v P' H', SOk K A hid P' s' σ H' → Stp hid P P' H H' → Rp K (mask P' H') v d → Q v H') → t σ H Q
def EvT (K : PySem.W.Frag) (t : TT) (f : M Bool) : Prop := ∀ (A : DA) (hid P : Addr → Prop) (s : S) (σ : St) (H : Hp) (b : Bool) (s' : S), SOk K A hid P s σ H → f s = some (b, s') →
  ∀ Q : Bool → Hp → Prop, (∀ P' H', SOk K A hid P' s' σ H' → Stp hid P P' H H' → Q b H') → t σ H Q
def EvA (K : PySem.W.Frag) (t : TA) (f : M (List D)) : Prop := ∀ (A : DA) (hid P : Addr → Prop) (s : S) (σ : St) (H : Hp) (ds : List D) (s' : S), SOk K A hid P s σ H → f s = some (ds, s') →
  ∀ Q : List V → Hp → Prop, (∀ vs P' H', SOk K A hid P' s' σ H' → Stp hid P P' H H' → RpA K (mask P' H') vs ds → Q vs H') → t σ H Q
inductive Fl where
  | nx | rt (d : D) | bk | ct
def FlOk (K : PySem.W.Frag) (A : DA) (hid P : Addr → Prop) (H : Hp) (s' : S) (D : Ends) : Fl → Prop
  | .nx => ∀ σ' P' H', SOk K A hid P' s' σ' H' → Stp hid P P' H H' → D.nx σ' H'
  | .rt d => ∀ v σ' P' H', SOk K A hid P' s' σ' H' → Stp hid P P' H H' → Rp K (mask P' H') v d → D.rt v H'
  | .bk => ∀ σ' P' H', SOk K A hid P' s' σ' H' → Stp hid P P' H H' → D.bk σ' H'
  | .ct => ∀ σ' P' H', SOk K A hid P' s' σ' H' → Stp hid P P' H H' → D.ct σ' H'
def EvS (K : PySem.W.Frag) (t : TS) (f : M Fl) : Prop := ∀ (A : DA) (hid P : Addr → Prop) (s : S) (σ : St) (H : Hp) (fl : Fl) (s' : S), SOk K A hid P s σ H → f s = some (fl, s') →
  ∀ D : Ends, FlOk K A hid P H s' D fl → t D σ H
theorem FlOk.back {K : PySem.W.Frag} {A : DA} {hid P P1 : Addr → Prop} {H H1 : Hp} {s' : S} {D : Ends} {fl : Fl} (h : FlOk K A hid P H s' D fl) (z : Stp hid P P1 H H1) : FlOk K A hid P1 H1 s' D fl := by
  cases fl with
  | nx => exact fun σ' P' H' o e => h σ' P' H' o (z.trans e)
  | rt d => exact fun v σ' P' H' o e r => h v σ' P' H' o (z.trans e) r
  | bk => exact fun σ' P' H' o e => h σ' P' H' o (z.trans e)
  | ct => exact fun σ' P' H' o e => h σ' P' H' o (z.trans e)
structure DE (X : Cx) (e : Expr) (t : TE) (f : M D) : Prop where
  p : PE X e t
  v : EvE X.K t f
structure DT (X : Cx) (e : Expr) (t : TT) (f : M Bool) : Prop where
  p : PT X e t
  v : EvT X.K t f
structure DW (X : Cx) (e : Expr) (t : TT) (f : M Bool) : Prop where
  p : PW X e t
  v : EvT X.K t f
structure DAr (X : Cx) (es : List Expr) (t : TA) (f : M (List D)) : Prop where
  p : PA X es t
  v : EvA X.K t f
structure DS (X : Cx) (st : Stmt) (t : TS) (f : M Fl) : Prop where
  p : PS X st t
  v : EvS X.K t f
structure DSs (X : Cx) (st : List Stmt) (t : TS) (f : M Fl) : Prop where
  p : PSs X st t
  v : EvS X.K t f
end DL
namespace DL
open PySem PySem.Spec PyProof.Rows L2
/-! DL2: operators over data. -/
def lim : Nat := 1000000
theorem lim_le {n : Nat} (h : n ≤ lim) : n ≤ sizeLine := by rw [sizeLine_eq]; unfold lim at h; omega
theorem lim_lt {n : Nat} (h : n ≤ lim) : n < sizeLine := by rw [sizeLine_eq]; unfold lim at h; omega
abbrev Trk (P : Addr → Prop) (H : Hp) : Prop := ∀ a, P a → ∃ o, H a = some o ∧ NoT o
theorem Trk.free {P : Addr → Prop} {H : Hp} (h : Trk P H) {p : Addr} (e : H p = none) : ¬ P p := fun z => by
  obtain ⟨o, q, _⟩ := h p z
  rw [e] at q; cases q
/-- a two-place reading does what the partial function tells -/
def DO2 (K : PySem.W.Frag) (r : R2) (op : D → D → Option D) : Prop := ∀ (P : Addr → Prop) (H : Hp) (x y : V) (dx dy d : D), Trk P H → Rp K (mask P H) x dx → Rp K (mask P H) y dy → op dx dy = some d →
  ∀ Q : VK, (∀ z H', Grw H H' → Rp K (mask P H') z d → Q z H') → r x y H Q
def DO1 (K : PySem.W.Frag) (r : V → Hp → VK → Prop) (op : D → Option D) : Prop := ∀ (P : Addr → Prop) (H : Hp) (x : V) (dx d : D), Trk P H → Rp K (mask P H) x dx → op dx = some d →
  ∀ Q : VK, (∀ z H', Grw H H' → Rp K (mask P H') z d → Q z H') → r x H Q
def DOC (K : PySem.W.Frag) (r : List V → Hp → VK → Prop) (op : List D → Option D) : Prop := ∀ (P : Addr → Prop) (H : Hp) (xs : List V) (ds : List D) (d : D), Trk P H → RpA K (mask P H) xs ds → op ds = some d →
  ∀ Q : VK, (∀ z H', Grw H H' → Rp K (mask P H') z d → Q z H') → r xs H Q
def rOr (r r' : R2) : R2 := fun x y H Q => r x y H Q ∨ r' x y H Q
theorem op_or {X : Cx} {f : Value → Value → Sem Value} {r r' : R2} (h : OpR X f r) (h' : OpR X f r') : OpR X f (rOr r r') := by
  intro pins s σ H x y v u Q I rx ry q
  rcases q with q | q
  · exact h pins s σ H x y v u Q I rx ry q
  · exact h' pins s σ H x y v u Q I rx ry q
theorem rp_newT {K : PySem.W.Frag} {P : Addr → Prop} {H : Hp} {p : Addr} {vs : List V} {ds : List D} (t : Trk P H) (h : H p = none) (r : RpA K (mask P H) vs ds) : Rp K (mask P (upd H p (.tup vs))) (.ref p) (.tuple ds) :=
  .tup (mask_new (t.free h)) (r.mono (grw_mask (Grw.new h)))
theorem rp_newL {K : PySem.W.Frag} {P : Addr → Prop} {H : Hp} {p : Addr} {vs : List V} {ds : List D} (t : Trk P H) (h : H p = none) (r : RpA K (mask P H) vs ds) : Rp K (mask P (upd H p (.lst vs))) (.ref p) (.list ds) :=
  .lst (mask_new (t.free h)) (r.mono (grw_mask (Grw.new h)))
/-- what data at a value tells -/
theorem Rp.int_inv {K : PySem.W.Frag} {H : Hp} {v : V} {i : Int} (h : Rp K H v (.int i)) : v = .int i := by cases h; rfl
theorem Rp.tup_inv {K : PySem.W.Frag} {H : Hp} {v : V} {ds : List D} (h : Rp K H v (.tuple ds)) : ∃ a vs, v = .ref a ∧ SqT K H a vs ∧ RpA K H vs ds := by
  cases h with
  | tup h r => exact ⟨_, _, rfl, SqT.of h, r⟩
theorem Rp.lst_inv {K : PySem.W.Frag} {H : Hp} {v : V} {ds : List D} (h : Rp K H v (.list ds)) : ∃ a vs, v = .ref a ∧ H a = some (.lst vs) ∧ RpA K H vs ds := by
  cases h with
  | lst h r => exact ⟨_, _, rfl, h, r⟩
theorem Rp.pln_inv {K : PySem.W.Frag} {H : Hp} {v : V} {ds : List D} (h : Rp K H v (.dict [(.none, .tuple ds)])) : ∃ a vs o, v = .ref a ∧ H a = some (.frz o (.tup vs)) ∧ o.dict = none ∧ RpA K H vs ds := by
  cases h with
  | pl h n r => exact ⟨_, _, _, rfl, h, n, r⟩
  | dK h r => have z := r.notP; cases z
  | dT h r => have z := r.notP; cases z
theorem SqT.frz {K : PySem.W.Frag} {H : Hp} {a : Addr} {o : Obj} {vs : List V} (h : H a = some (.frz o (.tup vs))) : SqT K H a vs := .inl (.inr ⟨o, h⟩)
theorem sqT_le {K : PySem.W.Frag} {P : Addr → Prop} {H : Hp} {a : Addr} {vs : List V} (h : SqT K (mask P H) a vs) : SqT K H a vs := SqT.grw mask_le h
/-! ### + - * // % ** -/
def dAdd : D → D → Option D
  | .int i, .int j => some (.int (i + j))
  | .tuple a, .tuple b => if a.length + b.length ≤ lim then some (.tuple (a ++ b)) else none
  | .list a, .list b => if a.length + b.length ≤ lim then some (.list (a ++ b)) else none
  | .str a, .str b => if a.length + b.length ≤ lim then some (.str (a ++ b)) else none
  | _, _ => none
def rAddS : R2 := fun x y H Q => ∃ i j, x = .str i ∧ y = .str j ∧ i.length + j.length ≤ sizeLine ∧ Q (.str (i ++ j)) H
def rAddD (K : PySem.W.Frag) : R2 := rOr (rI0 fun i j => .int (i + j)) (rOr (rCatA K) (rOr rCat rAddS))
theorem op_addD {X : Cx} : OpR X (binaryOp .Add) (rAddD X.K) := op_or op_add (op_or op_catA (op_or op_cat op_add_str))
theorem do_add {K : PySem.W.Frag} : DO2 K (rAddD K) dAdd := by
  intro P H x y dx dy d t hx hy e Q q
  unfold dAdd at e
  split at e
  · rename_i i j
    cases e; cases hx; cases hy
    exact .inl ⟨_, _, rfl, rfl, q _ H (Grw.refl H) (.int _)⟩
  · rename_i a b
    split at e
    · rename_i hl
      cases e
      obtain ⟨a1, vs, rfl, h1, r1⟩ := hx.tup_inv
      obtain ⟨b1, us, rfl, h2, r2⟩ := hy.tup_inv
      refine .inr (.inl ⟨a1, b1, vs, us, rfl, rfl, sqT_le h1, sqT_le h2, ?_, fun z => ?_, fun _ z => ?_, fun _ _ p hp => ?_⟩)
      · rw [r1.length, r2.length]; exact lim_le hl
      · subst z; cases r1
        exact q _ H (Grw.refl H) hy
      · subst z; cases r2
        rw [List.append_nil] at q
        exact q _ H (Grw.refl H) hx
      · exact q _ _ (Grw.new hp) (rp_newT t hp (r1.append r2))
    · cases e
  · rename_i a b
    split at e
    · rename_i hl
      cases e
      obtain ⟨a1, vs, rfl, h1, r1⟩ := hx.lst_inv
      obtain ⟨b1, us, rfl, h2, r2⟩ := hy.lst_inv
      refine .inr (.inr (.inl ⟨a1, b1, vs, us, rfl, rfl, mask_le _ _ h1, mask_le _ _ h2, ?_, fun p hp => ?_⟩))
      · rw [r1.length, r2.length]; exact lim_le hl
      · exact q _ _ (Grw.new hp) (rp_newL t hp (r1.append r2))
    · cases e
  · rename_i a b
    split at e
    · rename_i hl
      cases e; cases hx; cases hy
      exact .inr (.inr (.inr ⟨a, b, rfl, rfl, lim_le hl, q _ H (Grw.refl H) (.str _)⟩))
    · cases e
  · cases e
def dI2 (g : Int → Int → Option D) : D → D → Option D
  | .int i, .int j => g i j
  | _, _ => none
theorem dI2_some {g : Int → Int → Option D} {x y d : D} (h : dI2 g x y = some d) : ∃ i j, x = .int i ∧ y = .int j ∧ g i j = some d := by
  unfold dI2 at h
  split at h
  · exact ⟨_, _, rfl, rfl, h⟩
  · cases h
theorem do_I0 {K : PySem.W.Frag} {g : Int → Int → V} {g' : Int → Int → Option D} (h : ∀ i j d, g' i j = some d → ∀ H, Rp K H (g i j) d) : DO2 K (rI0 g) (dI2 g') := by
  intro P H x y dx dy d t hx hy e Q q
  obtain ⟨i, j, rfl, rfl, e⟩ := dI2_some e
  exact ⟨i, j, hx.int_inv, hy.int_inv, q _ H (Grw.refl H) (h i j d e _)⟩
theorem do_I {K : PySem.W.Frag} {C : Int → Int → Prop} {g : Int → Int → V} {g' : Int → Int → Option D} (h : ∀ i j d, g' i j = some d → C i j ∧ ∀ H, Rp K H (g i j) d) : DO2 K (rI C g) (dI2 g') := by
  intro P H x y dx dy d t hx hy e Q q
  obtain ⟨i, j, rfl, rfl, e⟩ := dI2_some e
  exact ⟨i, j, hx.int_inv, hy.int_inv, (h i j d e).1, q _ H (Grw.refl H) ((h i j d e).2 _)⟩
def dSub : D → D → Option D := dI2 fun i j => some (.int (i - j))
theorem do_sub {K : PySem.W.Frag} : DO2 K (rI0 fun i j => .int (i - j)) dSub := do_I0 fun i j d e H => by cases e; exact .int _
def dMod : D → D → Option D := dI2 fun i j => if j = 0 then none else some (.int (i.fmod j))
theorem do_mod {K : PySem.W.Frag} : DO2 K (rI (fun _ j => j ≠ 0) fun i j => .int (i.fmod j)) dMod := do_I fun i j d e => by
  split at e
  · cases e
  · rename_i h; cases e; exact ⟨h, fun _ => .int _⟩
def dDiv : D → D → Option D := dI2 fun i j => if 0 < j ∧ j.natAbs.log2 < 9000 then some (.int (i / j)) else none
theorem do_div {K : PySem.W.Frag} : DO2 K (rI CDivW fun i j => .int (i / j)) dDiv := do_I fun i j d e => by
  split at e
  · rename_i h; cases e; exact ⟨h, fun _ => .int _⟩
  · cases e
def dPow : D → D → Option D := dI2 fun i j => if 0 ≤ j ∧ j ≤ 1000 ∧ i.natAbs < 1000000 then some (.int (i ^ j.toNat)) else none
theorem do_pow {K : PySem.W.Frag} : DO2 K (rI CPow fun i j => .int (i ^ j.toNat)) dPow := do_I fun i j d e => by
  split at e
  · rename_i h; cases e; exact ⟨⟨h.1, by omega, by omega⟩, fun _ => .int _⟩
  · cases e
/-! ### comparisons -/
mutual
theorem Rp.dp {K : PySem.W.Frag} {H : Hp} : ∀ {v : V} {d : D}, Rp K H v d → d.canLay0 = true → Dp K H v d
  | _, _, .non, _ => .non
  | _, _, .bl b, _ => .bl b
  | _, _, .int i, _ => .int i
  | _, _, .str x, _ => .str x
  | _, _, .lst h r, c => .lst (SqL.of h) (RpA.dp r (by simpa [PyData.canLay0] using c))
  | _, _, .tup h r, c => .tup (SqT.of h) (RpA.dp r (by simpa [PyData.canLay0] using c))
  | _, _, .dK _ _, c => by simp [PyData.canLay0] at c
  | _, _, .dT _ _, c => by simp [PyData.canLay0] at c
  | _, _, .pl _ _ _, c => by simp [PyData.canLay0] at c
theorem RpA.dp {K : PySem.W.Frag} {H : Hp} : ∀ {v : List V} {d : List D}, RpA K H v d → PyData.canLayAll0 d = true → DpAll K H v d
  | _, _, .nil, _ => .nil
  | _, _, .cons a b, c => by
    rw [PyData.canLayAll0, Bool.and_eq_true] at c
    exact .cons (Rp.dp a c.1) (RpA.dp b c.2)
end
/-- whether one may be compared with the other: numbers, texts, tuples and lists of these, alike -/
def okCmp (x y : D) : Bool := PySem.W.alike x y && SeqAt.shaped x && SeqAt.shaped y && (match x with | .none => false | _ => true)
theorem okCmp_some {x y : D} (h : okCmp x y = true) : PySem.W.alike x y = true ∧ SeqAt.shaped x = true ∧ SeqAt.shaped y = true ∧ x ≠ .none := by
  simp only [okCmp, Bool.and_eq_true] at h
  exact ⟨h.1.1.1, h.1.1.2, h.1.2, fun z => by subst z; exact absurd h.2 (by decide)⟩
def dCmp (g : Int → Int → Bool) (f : D → D → Bool) (x y : D) : Option D := match x, y with
  | .int i, .int j => some (.bool (g i j))
  | x, y => if okCmp x y = true then some (.bool (f x y)) else none
def dLt : D → D → Option D := dCmp (fun i j => decide (i < j)) fun x y => PySem.W.dataLt x y
def dGt : D → D → Option D := dCmp (fun i j => decide (j < i)) fun x y => PySem.W.dataLt y x
def dGe : D → D → Option D := dCmp (fun i j => decide (j ≤ i)) fun x y => !PySem.W.dataLt x y
def rOrdD (K : PySem.W.Frag) (f : D → D → Bool) : R2 := fun x y H Q => ∃ d e, Dp K H x d ∧ Dp K H y e ∧ okCmp d e = true ∧ Q (.bl (f d e)) H
def rCmpS (K : PySem.W.Frag) (g : Int → Int → Bool) (f : D → D → Bool) : R2 := rOr (rI0 fun i j => .bl (g i j)) (rOrdD K f)
section
variable {X : Cx}
theorem cmp_room {A : Around} {d e : D} (hu : A.units + 64 < cLine) (h : SeqAt.shaped d = true) : A.units + min d.depth e.depth < cLine := by
  have := SeqAt.depth_of_shaped h
  omega
theorem op_ltS (hu : X.A.units + 64 < cLine) : OpR X (compareOp .Lt) (rCmpS X.K (fun i j => decide (i < j)) fun x y => PySem.W.dataLt x y) := op_or op_lt fun pins s σ H x y v u Q I rx ry h => by
  obtain ⟨d, e, hd, he, hc, q⟩ := h
  obtain ⟨h1, h2, h3, h4⟩ := okCmp_some hc
  obtain ⟨as, r1⟩ := Dp.reads I d x v hd rx
  obtain ⟨bs, r2⟩ := Dp.reads I e y u he ry
  exact PySem.W.lt_data r1 r2 h1 h4 (cmp_room hu h2) ⟨.bl _, H, I, rfl, q⟩
theorem op_gtS (hu : X.A.units + 64 < cLine) : OpR X (compareOp .Gt) (rCmpS X.K (fun i j => decide (j < i)) fun x y => PySem.W.dataLt y x) := op_or op_gt fun pins s σ H x y v u Q I rx ry h => by
  obtain ⟨d, e, hd, he, hc, q⟩ := h
  obtain ⟨h1, h2, h3, h4⟩ := okCmp_some hc
  obtain ⟨as, r1⟩ := Dp.reads I d x v hd rx
  obtain ⟨bs, r2⟩ := Dp.reads I e y u he ry
  exact PySem.W.gt_data r1 r2 h1 h4 (cmp_room hu h2) ⟨.bl _, H, I, rfl, q⟩
theorem op_geS (hu : X.A.units + 64 < cLine) : OpR X (compareOp .GtE) (rCmpS X.K (fun i j => decide (j ≤ i)) fun x y => !PySem.W.dataLt x y) := op_or op_ge fun pins s σ H x y v u Q I rx ry h => by
  obtain ⟨d, e, hd, he, hc, q⟩ := h
  obtain ⟨h1, h2, h3, h4⟩ := okCmp_some hc
  obtain ⟨as, r1⟩ := Dp.reads I d x v hd rx
  obtain ⟨bs, r2⟩ := Dp.reads I e y u he ry
  exact PySem.W.ge_data r1 r2 h1 h4 (cmp_room hu h2) ⟨.bl _, H, I, rfl, q⟩
end
theorem do_cmp {K : PySem.W.Frag} {g : Int → Int → Bool} {f : D → D → Bool} : DO2 K (rCmpS K g f) (dCmp g f) := by
  intro P H x y dx dy d t hx hy e Q q
  unfold dCmp at e
  split at e
  · cases e
    cases hx; cases hy
    exact .inl ⟨_, _, rfl, rfl, q _ H (Grw.refl H) (.bl _)⟩
  · split at e
    · rename_i h; cases e
      obtain ⟨h1, h2, h3, h4⟩ := okCmp_some h
      exact .inr ⟨dx, dy, (hx.mono mask_le).dp (SeqAt.canLay_of_shaped h2), (hy.mono mask_le).dp (SeqAt.canLay_of_shaped h3), h, q _ H (Grw.refl H) (.bl _)⟩
    · cases e
theorem do_lt {K : PySem.W.Frag} : DO2 K (rCmpS K (fun i j => decide (i < j)) fun x y => PySem.W.dataLt x y) dLt := do_cmp
theorem do_gt {K : PySem.W.Frag} : DO2 K (rCmpS K (fun i j => decide (j < i)) fun x y => PySem.W.dataLt y x) dGt := do_cmp
theorem do_ge {K : PySem.W.Frag} : DO2 K (rCmpS K (fun i j => decide (j ≤ i)) fun x y => !PySem.W.dataLt x y) dGe := do_cmp
def dEq (x y : D) : Option D := match x, y with
  | .str a, .str b => some (.bool (a == b))
  | x, y => if SeqAt.shaped x = true ∧ SeqAt.shaped y = true then some (.bool (PyData.eqv x y)) else none
def dNe (x y : D) : Option D := match x, y with
  | .str a, .str b => some (.bool (!(a == b)))
  | x, y => if SeqAt.shaped x = true ∧ SeqAt.shaped y = true then some (.bool (!PyData.eqv x y)) else none
def rEqS (K : PySem.W.Frag) : R2 := rOr rEq (rEqD K)
def rNeS (K : PySem.W.Frag) : R2 := rOr rNe (rNeD K)
theorem do_eq {K : PySem.W.Frag} : DO2 K (rEqS K) dEq := by
  intro P H x y dx dy d t hx hy e Q q
  unfold dEq at e
  split at e
  · cases e
    cases hx; cases hy
    exact .inl ⟨rfl, by rw [dec_str]; exact q _ H (Grw.refl H) (.bl _)⟩
  · split at e
    · rename_i h; cases e
      exact .inr ⟨dx, dy, (hx.mono mask_le).dp (SeqAt.canLay_of_shaped h.1), (hy.mono mask_le).dp (SeqAt.canLay_of_shaped h.2), h.1, h.2, q _ H (Grw.refl H) (.bl _)⟩
    · cases e
theorem do_ne {K : PySem.W.Frag} : DO2 K (rNeS K) dNe := by
  intro P H x y dx dy d t hx hy e Q q
  unfold dNe at e
  split at e
  · cases e
    cases hx; cases hy
    exact .inl ⟨rfl, by rw [dec_str]; exact q _ H (Grw.refl H) (.bl _)⟩
  · split at e
    · rename_i h; cases e
      exact .inr ⟨dx, dy, (hx.mono mask_le).dp (SeqAt.canLay_of_shaped h.1), (hy.mono mask_le).dp (SeqAt.canLay_of_shaped h.2), h.1, h.2, q _ H (Grw.refl H) (.bl _)⟩
    · cases e
def isNone : D → Bool
  | .none => true
  | _ => false
/-! ### in, not in, of flat things -/
def flatD : D → Bool
  | .none | .bool _ | .int _ | .str _ => true
  | _ => false
theorem Rp.flat {K : PySem.W.Frag} {H : Hp} {v : V} {d : D} (h : Rp K H v d) : flatV v = flatD d := by cases h <;> rfl
theorem RpA.flat {K : PySem.W.Frag} {H : Hp} : ∀ {v : List V} {d : List D}, RpA K H v d → v.all flatV = d.all flatD
  | _, _, .nil => rfl
  | _, _, .cons a b => by rw [List.all_cons, List.all_cons, a.flat, RpA.flat b]
theorem Rp.eqF {K : PySem.W.Frag} {H : Hp} {v u : V} {d e : D} (h : Rp K H v d) (h' : Rp K H u e) (fd : flatD d = true) (fe : flatD e = true) : eqV v u = PyData.eqv d e := by
  cases h <;> first | (cases fd; done) | skip
  all_goals (cases h' <;> first | (cases fe; done) | (simp only [eqV, PyData.eqv]))
def inD (x : D) (ys : List D) : Bool := ys.any fun y => PyData.eqv y x
theorem RpA.inF {K : PySem.W.Frag} {H : Hp} {v : V} {d : D} (h : Rp K H v d) (fd : flatD d = true) : ∀ {us : List V} {es : List D}, RpA K H us es → es.all flatD = true → inV v us = inD d es
  | _, _, .nil, _ => rfl
  | _, _, .cons a b, f => by
    rw [List.all_cons, Bool.and_eq_true] at f
    have ih := RpA.inF h fd b f.2
    unfold inV inD at ih ⊢
    rw [List.any_cons, List.any_cons, ih, a.eqF h f.1 fd]
def dInB (x y : D) : Option Bool := match y with
  | .list ys => if flatD x && ys.all flatD then some (inD x ys) else none
  | .tuple ys => if flatD x && ys.all flatD then some (inD x ys) else none
  | _ => none
def dIn (x y : D) : Option D := (dInB x y).map fun b => .bool b
theorem dInB_ok {K : PySem.W.Frag} {P : Addr → Prop} {H : Hp} {x y : V} {dx dy : D} {b : Bool} (hx : Rp K (mask P H) x dx) (hy : Rp K (mask P H) y dy) (e : dInB dx dy = some b) :
    ∃ p xs, y = .ref p ∧ (SqL K H p xs ∨ SqT K H p xs) ∧ flatV x = true ∧ xs.all flatV = true ∧ inV x xs = b := by
  unfold dInB at e
  split at e
  · split at e
    · rename_i h; cases e
      rw [Bool.and_eq_true] at h
      obtain ⟨a, vs, rfl, h1, r⟩ := hy.lst_inv
      exact ⟨a, vs, rfl, .inl (SqL.of (mask_le _ _ h1)), by rw [hx.flat]; exact h.1, by rw [r.flat]; exact h.2, r.inF hx h.1 h.2⟩
    · cases e
  · split at e
    · rename_i h; cases e
      rw [Bool.and_eq_true] at h
      obtain ⟨a, vs, rfl, h1, r⟩ := hy.tup_inv
      exact ⟨a, vs, rfl, .inr (sqT_le h1), by rw [hx.flat]; exact h.1, by rw [r.flat]; exact h.2, r.inF hx h.1 h.2⟩
    · cases e
  · cases e
theorem do_in {K : PySem.W.Frag} : DO2 K (rIn K false) dIn := by
  intro P H x y dx dy d t hx hy e Q q
  unfold dIn at e
  cases hb : dInB dx dy with
  | none => rw [hb] at e; cases e
  | some b =>
    rw [hb] at e; cases e
    obtain ⟨p, xs, e1, e2, e3, e4, e5⟩ := dInB_ok hx hy hb
    refine ⟨p, xs, e1, e2, e3, e4, ?_⟩
    rw [e5]
    exact q _ H (Grw.refl H) (.bl _)
/-! ### x[i] -/
def dIx : D → D → Option D
  | .list a, .int i => atI a i
  | .tuple a, .int i => atI a i
  | _, _ => none
theorem RpA.atI {K : PySem.W.Frag} {H : Hp} {vs : List V} {ds : List D} {i : Int} {d : D} (r : RpA K H vs ds) (h : L2.atI ds i = some d) : ∃ v, L2.atI vs i = some v ∧ Rp K H v d := by
  unfold L2.atI at h ⊢
  rw [r.length]
  cases e : ixN ds.length i with
  | none => rw [e] at h; cases h
  | some j =>
    rw [e] at h
    obtain ⟨v, h1, h2⟩ := r.get (i := j) h
    exact ⟨v, h1, h2⟩
theorem do_ix {K : PySem.W.Frag} : DO2 K (rIx K) dIx := by
  intro P H x y dx dy d t hx hy e Q q
  unfold dIx at e
  split at e
  · obtain ⟨a, vs, rfl, h1, r⟩ := hx.lst_inv
    obtain ⟨v, h2, h3⟩ := r.atI e
    exact .inl ⟨a, vs, _, v, rfl, hy.int_inv, SqL.of (mask_le _ _ h1), h2, q _ H (Grw.refl H) h3⟩
  · obtain ⟨a, vs, rfl, h1, r⟩ := hx.tup_inv
    obtain ⟨v, h2, h3⟩ := r.atI e
    exact .inr (.inl ⟨a, vs, _, v, rfl, hy.int_inv, sqT_le h1, h2, q _ H (Grw.refl H) h3⟩)
  · cases e
/-! ### calls of built-ins -/
def rOrC (r r' : List V → Hp → VK → Prop) : List V → Hp → VK → Prop := fun xs H Q => r xs H Q ∨ r' xs H Q
theorem call_or {X : Cx} {f : Value} {r r' : List V → Hp → VK → Prop} (h : CallR X f r) (h' : CallR X f r') : CallR X f (rOrC r r') := by
  intro pins s σ H xs us Q I rx q
  rcases q with q | q
  · exact h pins s σ H xs us Q I rx q
  · exact h' pins s σ H xs us Q I rx q
theorem RpA.one {K : PySem.W.Frag} {H : Hp} {vs : List V} {d : D} (r : RpA K H vs [d]) : ∃ v, vs = [v] ∧ Rp K H v d := by
  cases r with
  | cons h t => cases t; exact ⟨_, rfl, h⟩
theorem RpA.two {K : PySem.W.Frag} {H : Hp} {vs : List V} {d e : D} (r : RpA K H vs [d, e]) : ∃ v u, vs = [v, u] ∧ Rp K H v d ∧ Rp K H u e := by
  cases r with
  | cons h t => obtain ⟨u, rfl, h'⟩ := t.one; exact ⟨_, _, rfl, h, h'⟩
def dLen : List D → Option D
  | [.list a] => some (.int a.length)
  | [.tuple a] => some (.int a.length)
  | [.dict [(.none, .tuple a)]] => some (.int a.length)
  | [.str x] => if x.length ≤ lim then some (.int x.length) else none
  | _ => none
abbrev rLenQ (K : PySem.W.Frag) : List V → Hp → VK → Prop := fun xs H Q => ∃ p ys, xs = [.ref p] ∧ (SqL K H p ys ∨ SqT K H p ys) ∧ Q (.int ys.length) H
abbrev rLenZ : List V → Hp → VK → Prop := fun xs H Q => ∃ z, xs = [.str z] ∧ z.length ≤ sizeLine ∧ Q (.int z.length) H
theorem call_lenD {X : Cx} : CallR X (.builtin "len") (rOrC (rLenQ X.K) rLenZ) := call_or call_len_seq call_len_str
theorem do_len {K : PySem.W.Frag} : DOC K (rOrC (rLenQ K) rLenZ) dLen := by
  intro P H xs ds d t r e Q q
  unfold dLen at e
  split at e
  · cases e
    obtain ⟨v, rfl, h⟩ := r.one
    obtain ⟨a, vs, rfl, h1, r1⟩ := h.lst_inv
    refine .inl ⟨a, vs, rfl, .inl (SqL.of (mask_le _ _ h1)), ?_⟩
    rw [r1.length]
    exact q _ H (Grw.refl H) (.int _)
  · cases e
    obtain ⟨v, rfl, h⟩ := r.one
    obtain ⟨a, vs, rfl, h1, r1⟩ := h.tup_inv
    refine .inl ⟨a, vs, rfl, .inr (sqT_le h1), ?_⟩
    rw [r1.length]
    exact q _ H (Grw.refl H) (.int _)
  · cases e
    obtain ⟨v, rfl, h⟩ := r.one
    obtain ⟨a, vs, o, rfl, h1, n1, r1⟩ := h.pln_inv
    refine .inl ⟨a, vs, rfl, .inr (sqT_le (SqT.frz h1)), ?_⟩
    rw [r1.length]
    exact q _ H (Grw.refl H) (.int _)
  · split at e
    · rename_i hl; cases e
      obtain ⟨v, rfl, h⟩ := r.one
      cases h
      exact .inr ⟨_, rfl, lim_le hl, q _ H (Grw.refl H) (.int _)⟩
    · cases e
  · cases e
def dInt : List D → Option D
  | [.int i] => some (.int i)
  | [.bool b] => some (.int (if b then 1 else 0))
  | _ => none
abbrev rInt1 : List V → Hp → VK → Prop := fun xs H Q => (∃ i, xs = [.int i] ∧ Q (.int i) H) ∨ ∃ k, xs = [.bl k] ∧ Q (.int (if k then 1 else 0)) H
theorem do_int {K : PySem.W.Frag} : DOC K rInt1 dInt := by
  intro P H xs ds d t r e Q q
  unfold dInt at e
  split at e
  · cases e
    obtain ⟨v, rfl, h⟩ := r.one
    cases h
    exact .inl ⟨_, rfl, q _ H (Grw.refl H) (.int _)⟩
  · cases e
    obtain ⟨v, rfl, h⟩ := r.one
    cases h
    exact .inr ⟨_, rfl, q _ H (Grw.refl H) (.int _)⟩
  · cases e
def dMin2 : List D → Option D
  | [.int i, .int j] => some (.int (if j < i then j else i))
  | _ => none
def dMax2 : List D → Option D
  | [.int i, .int j] => some (.int (if j > i then j else i))
  | _ => none
abbrev rMin2 : List V → Hp → VK → Prop := fun xs H Q => ∃ i j, xs = [.int i, .int j] ∧ Q (.int (if j < i then j else i)) H
abbrev rMax2 : List V → Hp → VK → Prop := fun xs H Q => ∃ i j, xs = [.int i, .int j] ∧ Q (.int (if j > i then j else i)) H
theorem do_min2 {K : PySem.W.Frag} : DOC K rMin2 dMin2 := by
  intro P H xs ds d t r e Q q
  unfold dMin2 at e
  split at e
  · cases e
    obtain ⟨v, u, rfl, h, h'⟩ := r.two
    cases h; cases h'
    exact ⟨_, _, rfl, q _ H (Grw.refl H) (.int _)⟩
  · cases e
theorem do_max2 {K : PySem.W.Frag} : DOC K rMax2 dMax2 := by
  intro P H xs ds d t r e Q q
  unfold dMax2 at e
  split at e
  · cases e
    obtain ⟨v, u, rfl, h, h'⟩ := r.two
    cases h; cases h'
    exact ⟨_, _, rfl, q _ H (Grw.refl H) (.int _)⟩
  · cases e
def dListOf : List D → Option D
  | [.list a] => some (.list a)
  | [.tuple a] => some (.list a)
  | _ => none
abbrev rListOf (K : PySem.W.Frag) : List V → Hp → VK → Prop := fun xs H Q => ∃ p ys, xs = [.ref p] ∧ (SqL K H p ys ∨ SqT K H p ys) ∧ ∀ l, H l = none → Q (.ref l) (upd H l (.lst ys))
theorem do_listOf {K : PySem.W.Frag} : DOC K (rListOf K) dListOf := by
  intro P H xs ds d t r e Q q
  unfold dListOf at e
  split at e
  · cases e
    obtain ⟨v, rfl, h⟩ := r.one
    obtain ⟨a, vs, rfl, h1, r1⟩ := h.lst_inv
    exact ⟨a, vs, rfl, .inl (SqL.of (mask_le _ _ h1)), fun l hl => q _ _ (Grw.new hl) (rp_newL t hl r1)⟩
  · cases e
    obtain ⟨v, rfl, h⟩ := r.one
    obtain ⟨a, vs, rfl, h1, r1⟩ := h.tup_inv
    exact ⟨a, vs, rfl, .inr (sqT_le h1), fun l hl => q _ _ (Grw.new hl) (rp_newL t hl r1)⟩
  · cases e
def dTupleOf : List D → Option D
  | [.list a] => some (.tuple a)
  | [.tuple a] => some (.tuple a)
  | _ => none
abbrev rTupleOf (K : PySem.W.Frag) : List V → Hp → VK → Prop := fun xs H Q => ∃ p ys, xs = [.ref p] ∧ ((SqL K H p ys ∧ ∀ l, H l = none → Q (.ref l) (upd H l (.tup ys))) ∨ (SqT K H p ys ∧ Q (.ref p) H))
theorem do_tupleOf {K : PySem.W.Frag} : DOC K (rTupleOf K) dTupleOf := by
  intro P H xs ds d t r e Q q
  unfold dTupleOf at e
  split at e
  · cases e
    obtain ⟨v, rfl, h⟩ := r.one
    obtain ⟨a, vs, rfl, h1, r1⟩ := h.lst_inv
    exact ⟨a, vs, rfl, .inl ⟨SqL.of (mask_le _ _ h1), fun l hl => q _ _ (Grw.new hl) (rp_newT t hl r1)⟩⟩
  · cases e
    obtain ⟨v, rfl, h⟩ := r.one
    obtain ⟨a, vs, rfl, h1, r1⟩ := h.tup_inv
    exact ⟨a, vs, rfl, .inr ⟨sqT_le h1, q _ H (Grw.refl H) h⟩⟩
  · cases e
/-! ### isinstance -/
def tyD : D → String
  | .none => "NoneType"
  | .bool _ => "bool"
  | .int _ => "int"
  | .str _ => "str"
  | .list _ => "list"
  | .tuple _ => "tuple"
  | .dict ds => if isP ds then "tuple" else "dict"
/-- the type of a value; a dict that is held still, too -/
inductive TyY (K : PySem.W.Frag) (H : Hp) : V → Value → Prop where
  | of {x : V} {t : Value} (h : TyX K H x t) : TyY K H x t
  | fT {a : Addr} {o : Obj} {kvs : List (List Key × V)} (e : H a = some (.frz o (.dT kvs))) : TyY K H (.ref a) (.type "dict")
theorem Rp.ty {K : PySem.W.Frag} {P : Addr → Prop} {H : Hp} {v : V} {d : D} (h : Rp K (mask P H) v d) : TyY K H v (.type (tyD d)) := by
  cases h with
  | non => exact .of (.base .non)
  | bl b => exact .of (.base (.bl b))
  | int i => exact .of (.base (.int i))
  | str x => exact .of (.base (.str x))
  | lst h r => exact .of (.base (.lst (mask_le _ _ h)))
  | tup h r => exact .of (.base (.tup (mask_le _ _ h)))
  | pl h n r => exact .of (.fTuple (mask_le _ _ h))
  | dK h r =>
    rw [show tyD (.dict _) = "dict" by simp [tyD, r.notP]]
    rcases rd_grw mask_le h with z | ⟨o, z⟩
    · exact .of (.base (.dK z))
    · exact .of (.fDict z)
  | dT h r =>
    rw [show tyD (.dict _) = "dict" by simp [tyD, r.notP]]
    rcases rd_grw mask_le h with z | ⟨o, z⟩
    · exact .of (.base (.dT z))
    · exact .fT z
/-- isinstance(x, T) for a built-in T that is told: int, bool, str, list, tuple, dict -/
def isiT (T s : String) : Bool := s == T || (s == "bool" && T == "int")
def isiD (T : String) (d : D) : Bool := isiT T (tyD d)
end DL
namespace DL
open PySem PySem.Spec PyProof.Rows L2
/-! DL3: expressions and tests. -/
def bd {α β : Type} (m : M α) (f : α → M β) : M β := fun s => match m s with
  | some (a, s1) => f a s1
  | none => none
def rtn {α : Type} (a : α) : M α := fun s => some (a, s)
def lf {α : Type} (o : Option α) : M α := fun s => match o with
  | some a => some (a, s)
  | none => none
theorem bd_some {α β : Type} {m : M α} {f : α → M β} {s : S} {r : β × S} (h : bd m f s = some r) : ∃ a s1, m s = some (a, s1) ∧ f a s1 = some r := by
  unfold bd at h
  split at h
  · exact ⟨_, _, by assumption, h⟩
  · cases h
theorem lf_some {α : Type} {o : Option α} {s s' : S} {a : α} (h : lf o s = some (a, s')) : o = some a ∧ s' = s := by
  unfold lf at h
  split at h
  · cases h; exact ⟨rfl, rfl⟩
  · cases h
theorem rtn_some {α : Type} {a b : α} {s s' : S} (h : rtn a s = some (b, s')) : b = a ∧ s' = s := by
  unfold rtn at h; cases h; exact ⟨rfl, rfl⟩
section
variable {X : Cx} {K : PySem.W.Frag} {e a b c : Expr} {ta tb tc te : TE} {fa fb fc f : M D} {pos : Pos}
/-! ### names, constants -/
def eVar (i : Nat) : M D := fun s => match s.g[i]? with
  | some (some (.dat d)) => some (d, s)
  | _ => none
theorem eVar_some {i : Nat} {s s' : S} {d : D} (h : eVar i s = some (d, s')) : s.g[i]? = some (some (.dat d)) ∧ s' = s := by
  unfold eVar at h
  split at h
  · cases h; exact ⟨by assumption, rfl⟩
  · cases h
theorem ev_var {i : Nat} : EvE K (tVar i) (eVar i) := by
  intro A hid P s σ H d s' ok h Q q
  obtain ⟨h1, rfl⟩ := eVar_some h
  obtain ⟨v, e, r⟩ := ok.slot i _ h1
  exact ⟨v, e, q v P H ok Stp.refl r⟩
theorem de_var (i : Nat) {x : Str} {pos : Pos} (hN : X.N[i]? = some x := by rfl) (hv : Vis X.env.scope x := by first | exact Or.inl rfl | exact Or.inr (Or.inl rfl) | exact Or.inr (Or.inr rfl)) (hd : (x == ("__debug__" : Str)) = false := by decide)
    (hcd : (x == ("__classdict__" : Str)) = false := by decide) : DE X (.Name x pos) (tVar i) (eVar i) := ⟨pe_var hN hv hd hcd, ev_var⟩
def eC (d : D) : M D := rtn d
theorem ev_c {v : V} {d : D} (h : ∀ H, Rp K H v d) : EvE K (tC v) (eC d) := by
  intro A hid P s σ H d' s' ok e Q q
  obtain ⟨rfl, rfl⟩ := rtn_some e
  exact q v P H ok Stp.refl (h _)
theorem de_int {i : Int} {j pos} : DE X (.Constant (.int i) j pos) (tC (.int i)) (eC (.int i)) := ⟨pe_int, ev_c fun _ => .int i⟩
theorem de_bl {b : Bool} {j pos} : DE X (.Constant (.bool b) j pos) (tC (.bl b)) (eC (.bool b)) := ⟨pe_bl, ev_c fun _ => .bl b⟩
theorem de_str {x : Str} {j pos} : DE X (.Constant (.str x) j pos) (tC (.str x)) (eC (.str x)) := ⟨pe_str, ev_c fun _ => .str x⟩
theorem de_glob {x : Str} {v : V} {u : Value} {d : D} (hg : Gl X x) (hm : X.mg x = some u) (r : RelV v u) (h : ∀ H, Rp X.K H v d) (hd : (x == ("__debug__" : Str)) = false := by decide) : DE X (.Name x pos) (tC v) (eC d) := ⟨pe_glob hg hm r hd, ev_c h⟩
/-! ### operators -/
def eOp2 (op : D → D → Option D) (fa fb : M D) : M D := bd fa fun x => bd fb fun y => lf (op x y)
theorem ev_op2 {r : R2} {op : D → D → Option D} (hr : DO2 K r op) (ha : EvE K ta fa) (hb : EvE K tb fb) : EvE K (tOp r ta tb) (eOp2 op fa fb) := by
  intro A hid P s σ H d s' ok h Q q
  obtain ⟨x, s1, h1, h⟩ := bd_some h
  obtain ⟨y, s2, h2, h⟩ := bd_some h
  obtain ⟨h3, rfl⟩ := lf_some h
  refine ha A hid P s σ H x s1 ok h1 _ fun v P1 H1 ok1 st1 r1 => ?_
  refine hb A hid P1 s1 σ H1 y _ ok1 h2 _ fun u P2 H2 ok2 st2 r2 => ?_
  refine hr P2 H2 v u x y d ok2.trk (st2.rp r1) r2 h3 _ fun z H3 g r3 => ?_
  exact q z P2 H3 (ok2.grw g) ((st1.trans st2).trans (Stp.grw g)) r3
theorem de_bin {op : Operator} {r : R2} {dop : D → D → Option D} (ho : OpR X (binaryOp op) r) (hr : DO2 X.K r dop) (ha : DE X a ta fa) (hb : DE X b tb fb) : DE X (.BinOp a op b pos) (tOp r ta tb) (eOp2 dop fa fb) :=
  ⟨pe_op ho ha.p hb.p, ev_op2 hr ha.v hb.v⟩
theorem de_cmp {op : CmpOp} {r : R2} {dop : D → D → Option D} (ho : OpR X (compareOp op) r) (hr : DO2 X.K r dop) (ha : DE X a ta fa) (hb : DE X b tb fb) (hm : behindInMarks op b = false) : DE X (.Compare a [op] [b] pos) (tOp r ta tb) (eOp2 dop fa fb) :=
  ⟨pe_cmpR ho ha.p hb.p hm, ev_op2 hr ha.v hb.v⟩
def eOp1 (op : D → Option D) (fa : M D) : M D := bd fa fun x => lf (op x)
def dNeg : D → Option D
  | .int i => some (.int (-i))
  | _ => none
theorem ev_op1 {r : V → Hp → VK → Prop} {op : D → Option D} (hr : DO1 K r op) (ha : EvE K ta fa) : EvE K (tUn r ta) (eOp1 op fa) := by
  intro A hid P s σ H d s' ok h Q q
  obtain ⟨x, s1, h1, h⟩ := bd_some h
  obtain ⟨h3, rfl⟩ := lf_some h
  refine ha A hid P s σ H x _ ok h1 _ fun v P1 H1 ok1 st1 r1 => ?_
  refine hr P1 H1 v x d ok1.trk r1 h3 _ fun z H3 g r3 => ?_
  exact q z P1 H3 (ok1.grw g) (st1.trans (Stp.grw g)) r3
theorem do_neg : DO1 K (rU fun i => .int (-i)) dNeg := by
  intro P H x dx d t hx e Q q
  unfold dNeg at e
  split at e
  · cases e; cases hx
    exact ⟨_, rfl, q _ H (Grw.refl H) (.int _)⟩
  · cases e
theorem de_neg (ha : DE X a ta fa) : DE X (.UnaryOp .USub a pos) (tUn (rU fun i => .int (-i)) ta) (eOp1 dNeg fa) := ⟨pe_un un_neg ha.p, ev_op1 do_neg ha.v⟩
/-! ### and, or, not, if: values -/
def eAnd (fa fb : M D) : M D := bd fa fun x => match x with
  | .bool true => fb
  | .bool false => rtn (.bool false)
  | _ => fun _ => none
def eOr (fa fb : M D) : M D := bd fa fun x => match x with
  | .bool true => rtn (.bool true)
  | .bool false => fb
  | _ => fun _ => none
def eNot (fa : M D) : M D := bd fa fun x => match x with
  | .bool b => rtn (.bool (!b))
  | _ => fun _ => none
theorem ev_and (ha : EvE K ta fa) (hb : EvE K tb fb) : EvE K (tAndV ta tb) (eAnd fa fb) := by
  intro A hid P s σ H d s' ok h Q q
  obtain ⟨x, s1, h1, h⟩ := bd_some h
  refine ha A hid P s σ H x _ ok h1 _ fun v P1 H1 ok1 st1 r1 => ?_
  split at h
  · cases r1
    refine ⟨true, rfl, iteT ?_⟩
    exact hb A hid P1 s1 σ H1 d s' ok1 h _ fun u P2 H2 ok2 st2 r2 => q u P2 H2 ok2 (st1.trans st2) r2
  · cases r1
    obtain ⟨rfl, rfl⟩ := rtn_some h
    exact ⟨false, rfl, iteF (q _ P1 H1 ok1 st1 (.bl false))⟩
  · cases h
theorem de_one {op} (h : DE X a ta fa) : DE X (.BoolOp op [a] pos) ta fa := ⟨pe_one h.p, h.v⟩
variable {rest : List Expr}
theorem de_and (ha : DE X a ta fa) (hb : DE X (.BoolOp .And (b :: rest) pos) tb fb) : DE X (.BoolOp .And (a :: b :: rest) pos) (tAndV ta tb) (eAnd fa fb) := ⟨pe_and ha.p hb.p, ev_and ha.v hb.v⟩
/-! ### tests -/
variable {tA tB' : TT} {gA gB : M Bool}
def tV (fa : M D) : M Bool := bd fa fun x => match x with
  | .bool b => rtn b
  | _ => fun _ => none
theorem ev_tV (ha : EvE K ta fa) : EvT K (tB ta) (tV fa) := by
  intro A hid P s σ H b s' ok h Q q
  obtain ⟨x, s1, h1, h⟩ := bd_some h
  refine ha A hid P s σ H x _ ok h1 _ fun v P1 H1 ok1 st1 r1 => ?_
  split at h
  · cases r1
    obtain ⟨rfl, rfl⟩ := rtn_some h
    exact ⟨_, rfl, q P1 H1 ok1 st1⟩
  · cases h
theorem ev_tT (ha : EvE K ta fa) : EvT K (tTest ta) (tV fa) := ev_tV ha
theorem dt_val (h : DE X e te f) (he : ∀ whole, isTrue e X.env whole = (do let v ← whole; standAt e.pos; holding [v] (truthy v)) := by intro _; rfl) : DT X e (tB te) (tV f) := ⟨pt_val h.p he, ev_tV h.v⟩
theorem dt_cmp {op : CmpOp} {r : R2} {dop : D → D → Option D} (ho : OpR X (compareOp op) r) (hr : DO2 X.K r dop) (ha : DE X a ta fa) (hb : DE X b tb fb) (hm : behindInMarks op b = false) : DT X (.Compare a [op] [b] pos) (tTest (tOp r ta tb)) (tV (eOp2 dop fa fb)) :=
  ⟨pt_cmpR ho ha.p hb.p hm, ev_tT (ev_op2 hr ha.v hb.v)⟩
def tAndM (fa fb : M Bool) : M Bool := bd fa fun x => if x = true then fb else rtn false
def tOrM (fa fb : M Bool) : M Bool := bd fa fun x => if x = true then rtn true else fb
def tNotM (fa : M Bool) : M Bool := bd fa fun x => rtn (!x)
theorem ev_tAnd (ha : EvT K tA gA) (hb : EvT K tB' gB) : EvT K (tAnd tA tB') (tAndM gA gB) := by
  intro A hid P s σ H b s' ok h Q q
  obtain ⟨x, s1, h1, h⟩ := bd_some h
  refine ha A hid P s σ H x _ ok h1 _ fun P1 H1 ok1 st1 => ?_
  cases x with
  | true =>
    rw [if_pos rfl] at h ⊢
    exact hb A hid P1 s1 σ H1 b s' ok1 h _ fun P2 H2 ok2 st2 => q P2 H2 ok2 (st1.trans st2)
  | false =>
    rw [if_neg Bool.false_ne_true] at h ⊢
    obtain ⟨rfl, rfl⟩ := rtn_some h
    exact q P1 H1 ok1 st1
theorem ev_tOr (ha : EvT K tA gA) (hb : EvT K tB' gB) : EvT K (tOr tA tB') (tOrM gA gB) := by
  intro A hid P s σ H b s' ok h Q q
  obtain ⟨x, s1, h1, h⟩ := bd_some h
  refine ha A hid P s σ H x _ ok h1 _ fun P1 H1 ok1 st1 => ?_
  cases x with
  | true =>
    rw [if_pos rfl] at h ⊢
    obtain ⟨rfl, rfl⟩ := rtn_some h
    exact q P1 H1 ok1 st1
  | false =>
    rw [if_neg Bool.false_ne_true] at h ⊢
    exact hb A hid P1 s1 σ H1 b s' ok1 h _ fun P2 H2 ok2 st2 => q P2 H2 ok2 (st1.trans st2)
theorem ev_tNot (ha : EvT K tA gA) : EvT K (tNot tA) (tNotM gA) := by
  intro A hid P s σ H b s' ok h Q q
  obtain ⟨x, s1, h1, h⟩ := bd_some h
  obtain ⟨rfl, rfl⟩ := rtn_some h
  exact ha A hid P s σ H x _ ok h1 _ fun P1 H1 ok1 st1 => q P1 H1 ok1 st1
theorem DW.pt (h : DW X e tA gA) : DT X e tA gA := ⟨h.p.pt, h.v⟩
theorem dw_and1 (ha : DT X a tA gA) : DW X (.BoolOp .And [a] pos) tA gA := ⟨pw_and1 ha.p, ha.v⟩
theorem dw_or1 (ha : DT X a tA gA) : DW X (.BoolOp .Or [a] pos) tA gA := ⟨pw_or1 ha.p, ha.v⟩
theorem dw_and (ha : DT X a tA gA) (hb : DW X (.BoolOp .And (b :: rest) pos) tB' gB) : DW X (.BoolOp .And (a :: b :: rest) pos) (tAnd tA tB') (tAndM gA gB) := ⟨pw_and ha.p hb.p, ev_tAnd ha.v hb.v⟩
theorem dw_or (ha : DT X a tA gA) (hb : DW X (.BoolOp .Or (b :: rest) pos) tB' gB) : DW X (.BoolOp .Or (a :: b :: rest) pos) (tOr tA tB') (tOrM gA gB) := ⟨pw_or ha.p hb.p, ev_tOr ha.v hb.v⟩
theorem dt_not (ha : DT X a tA gA) : DT X (.UnaryOp .Not a pos) (tNot tA) (tNotM gA) := ⟨pt_not ha.p, ev_tNot ha.v⟩
/-- a if t else b -/
def eIf (g : M Bool) (fa fb : M D) : M D := bd g fun x => if x = true then fa else fb
theorem ev_if (hg : EvT K tA gA) (ha : EvE K ta fa) (hb : EvE K tb fb) : EvE K (tIf tA ta tb) (eIf gA fa fb) := by
  intro A hid P s σ H d s' ok h Q q
  obtain ⟨x, s1, h1, h⟩ := bd_some h
  refine hg A hid P s σ H x _ ok h1 _ fun P1 H1 ok1 st1 => ?_
  cases x with
  | true =>
    rw [if_pos rfl] at h ⊢
    exact ha A hid P1 s1 σ H1 d s' ok1 h _ fun v P2 H2 ok2 st2 r => q v P2 H2 ok2 (st1.trans st2) r
  | false =>
    rw [if_neg Bool.false_ne_true] at h ⊢
    exact hb A hid P1 s1 σ H1 d s' ok1 h _ fun v P2 H2 ok2 st2 r => q v P2 H2 ok2 (st1.trans st2) r
theorem de_if (hc : DT X c tA gA) (ha : DE X a ta fa) (hb : DE X b tb fb) : DE X (.IfExp c a b pos) (tIf tA ta tb) (eIf gA fa fb) := ⟨pe_ifExp hc.p ha.p hb.p, ev_if hc.v ha.v hb.v⟩
/-- a <= b <= c -/
def eChain (op op' : D → D → Option D) (fa fb fc : M D) : M D := bd fa fun x => bd fb fun y => bd (lf (op x y)) fun z => match z with
  | .bool true => bd fc fun w => lf (op' y w)
  | .bool false => rtn (.bool false)
  | _ => fun _ => none
/-! ### argument lists, displays -/
variable {es : List Expr} {tr : TA} {fr : M (List D)}
def aNil : M (List D) := rtn []
def aCons (f : M D) (fr : M (List D)) : M (List D) := bd f fun x => bd fr fun xs => rtn (x :: xs)
theorem ea_nil : EvA K tNil aNil := by
  intro A hid P s σ H ds s' ok h Q q
  obtain ⟨rfl, rfl⟩ := rtn_some h
  exact q [] P H ok Stp.refl .nil
theorem ea_cons (ha : EvE K ta fa) (hr : EvA K tr fr) : EvA K (tCons ta tr) (aCons fa fr) := by
  intro A hid P s σ H ds s' ok h Q q
  obtain ⟨x, s1, h1, h⟩ := bd_some h
  obtain ⟨xs, s2, h2, h⟩ := bd_some h
  obtain ⟨rfl, rfl⟩ := rtn_some h
  refine ha A hid P s σ H x s1 ok h1 _ fun v P1 H1 ok1 st1 r1 => ?_
  refine hr A hid P1 s1 σ H1 xs _ ok1 h2 _ fun vs P2 H2 ok2 st2 r2 => ?_
  exact q (v :: vs) P2 H2 ok2 (st1.trans st2) (.cons (st2.rp r1) r2)
theorem da_nil : DAr X [] tNil aNil := ⟨pa_nil, ea_nil⟩
theorem da_cons (ha : DE X e te f) (hr : DAr X es tr fr) (hs : starEach (e :: es) X.env = (false, eval e X.env) :: starEach es X.env := by rfl) : DAr X (e :: es) (tCons te tr) (aCons f fr) := ⟨pa_cons ha.p hr.p hs, ea_cons ha.v hr.v⟩
def eTup (fr : M (List D)) : M D := bd fr fun ds => if ds.length ≤ lim then rtn (.tuple ds) else fun _ => none
theorem ev_tup (hr : EvA K tr fr) : EvE K (tTup tr) (eTup fr) := by
  intro A hid P s σ H d s' ok h Q q
  obtain ⟨ds, s1, h1, h⟩ := bd_some h
  split at h
  · rename_i hl
    obtain ⟨rfl, rfl⟩ := rtn_some h
    refine hr A hid P s σ H ds _ ok h1 _ fun vs P1 H1 ok1 st1 r1 => ⟨by rw [r1.length]; exact lim_le hl, fun p hp => ?_⟩
    exact q _ P1 _ (ok1.grw (Grw.new hp)) (st1.trans (Stp.grw (Grw.new hp))) (rp_newT ok1.trk hp r1)
  · cases h
theorem de_tup {x1} (h : DAr X es tr fr) : DE X (.Tuple es x1 pos) (tTup tr) (eTup fr) := ⟨pe_tup h.p, ev_tup h.v⟩
/-! ### new lists -/
def EvN (K : PySem.W.Frag) (t : TE) (f : M (List D)) : Prop := ∀ (A : DA) (hid P : Addr → Prop) (s : S) (σ : St) (H : Hp) (ds : List D) (s' : S), SOk K A hid P s σ H → f s = some (ds, s') →
  ∀ Q : VK, (∀ vs P' H1 p, SOk K A hid P' s' σ H1 → Stp hid P P' H H1 → H1 p = none → RpA K (mask P' H1) vs ds → Q (.ref p) (upd H1 p (.lst vs))) → t σ H Q
structure DN (X : Cx) (e : Expr) (t : TE) (f : M (List D)) : Prop where
  p : PE X e t
  v : EvN X.K t f
def eL (f : M (List D)) : M D := bd f fun ds => rtn (.list ds)
theorem ev_N {g : M (List D)} (h : EvN K te g) : EvE K te (eL g) := by
  intro A hid P s σ H d s' ok e Q q
  obtain ⟨ds, s1, h1, e⟩ := bd_some e
  obtain ⟨rfl, rfl⟩ := rtn_some e
  refine h A hid P s σ H ds _ ok h1 _ fun vs P1 H1 p ok1 st1 hp r1 => ?_
  exact q _ P1 _ (ok1.grw (Grw.new hp)) (st1.trans (Stp.grw (Grw.new hp))) (rp_newL ok1.trk hp r1)
theorem DN.de {g : M (List D)} (h : DN X e te g) : DE X e te (eL g) := ⟨h.p, ev_N h.v⟩
def nLst (fr : M (List D)) : M (List D) := bd fr fun ds => if ds.length ≤ lim then rtn ds else fun _ => none
theorem en_lst (hr : EvA K tr fr) : EvN K (tLst tr) (nLst fr) := by
  intro A hid P s σ H d s' ok h Q q
  obtain ⟨ds, s1, h1, h⟩ := bd_some h
  split at h
  · rename_i hl
    obtain ⟨rfl, rfl⟩ := rtn_some h
    refine hr A hid P s σ H _ _ ok h1 _ fun vs P1 H1 ok1 st1 r1 => ⟨by rw [r1.length]; exact lim_le hl, fun p hp => ?_⟩
    exact q vs P1 H1 p ok1 st1 hp r1
  · cases h
theorem dn_lst (h : DAr X es tr fr) : DN X (.List es pos) (tLst tr) (nLst fr) := ⟨pe_lst h.p, en_lst h.v⟩
/-! ### built-ins by their names -/
def eCB (op : List D → Option D) (fr : M (List D)) : M D := bd fr fun ds => lf (op ds)
theorem ev_CB {r : List V → Hp → VK → Prop} {op : List D → Option D} (hr : DOC K r op) (ha : EvA K tr fr) : EvE K (tCB r tr) (eCB op fr) := by
  intro A hid P s σ H d s' ok h Q q
  obtain ⟨ds, s1, h1, h⟩ := bd_some h
  obtain ⟨h3, rfl⟩ := lf_some h
  refine ha A hid P s σ H ds _ ok h1 _ fun vs P1 H1 ok1 st1 r1 => ?_
  refine hr P1 H1 vs ds d ok1.trk r1 h3 _ fun z H3 g r3 => ?_
  exact q z P1 H3 (ok1.grw g) (st1.trans (Stp.grw g)) r3
theorem de_B {x : Str} {p : Pos} {id : String} {r : List V → Hp → VK → Prop} {op : List D → Option D} (hc : CallR X (.builtin id) r) (hr : DOC X.K r op) (hg : Gl X x) (hm : X.mg x = none) (hv : bootBuiltins x = some (.builtin id)) (ha : DAr X (e :: es) tr fr)
    (hn : x ≠ "__name__" := by decide) (hdb : (x == ("__debug__" : Str)) = false := by decide)
    (he : starEach (e :: es) X.env = (false, eval e X.env) :: starEach es X.env := by rfl) (hpl : (backTo pos (starEach es X.env)).any (·.1) = false := by rfl) : DE X (.Call (.Name x p) (e :: es) [] pos) (tCB r tr) (eCB op fr) :=
  ⟨pe_callB hc hg hm hv ha.p hn hdb he hpl, ev_CB hr ha.v⟩
theorem de_Ty {x : Str} {p : Pos} {T : String} {r : List V → Hp → VK → Prop} {op : List D → Option D} (hc : CallR X (.type T) r) (hr : DOC X.K r op) (hg : Gl X x) (hm : X.mg x = none) (hv : bootBuiltins x = some (.type T)) (ha : DAr X (e :: es) tr fr)
    (hn : x ≠ "__name__" := by decide) (hdb : (x == ("__debug__" : Str)) = false := by decide)
    (he : starEach (e :: es) X.env = (false, eval e X.env) :: starEach es X.env := by rfl) (hpl : (backTo pos (starEach es X.env)).any (·.1) = false := by rfl) : DE X (.Call (.Name x p) (e :: es) [] pos) (tCB r tr) (eCB op fr) :=
  ⟨pe_callTy hc hg hm hv ha.p hn hdb he hpl, ev_CB hr ha.v⟩
/-- isinstance(e, T), T a built-in type -/
def eIsi (T : String) (f : M D) : M D := bd f fun d => rtn (.bool (isiD T d))
/-! ### x[i], x[a:b] -/
theorem de_ix (ha : DE X a ta fa) (hb : DE X b tb fb) (hs : PlainIx b) : DE X (.Subscript a b pos) (tOp (rIx X.K) ta tb) (eOp2 dIx fa fb) := ⟨pe_ix ix_seq ha.p hb.p hs, ev_op2 do_ix ha.v hb.v⟩
def EvO (K : PySem.W.Frag) (t : TO) (f : M (Option Int)) : Prop := ∀ (A : DA) (hid P : Addr → Prop) (s : S) (σ : St) (H : Hp) (o : Option Int) (s' : S), SOk K A hid P s σ H → f s = some (o, s') →
  ∀ Q : Option Int → Hp → Prop, (∀ P' H', SOk K A hid P' s' σ H' → Stp hid P P' H H' → Q o H') → t σ H Q
structure DO (X : Cx) (e : Option Expr) (t : TO) (f : M (Option Int)) : Prop where
  p : PO X e t
  v : EvO X.K t f
def oN : M (Option Int) := rtn none
def oS (f : M D) : M (Option Int) := bd f fun x => match x with
  | .int i => rtn (some i)
  | _ => fun _ => none
theorem eo_none : EvO K tNoPart oN := by
  intro A hid P s σ H o s' ok h Q q
  obtain ⟨rfl, rfl⟩ := rtn_some h
  exact q P H ok Stp.refl
theorem eo_some (h : EvE K te f) : EvO K (tPart te) (oS f) := by
  intro A hid P s σ H o s' ok e Q q
  obtain ⟨x, s1, h1, e⟩ := bd_some e
  refine h A hid P s σ H x _ ok h1 _ fun v P1 H1 ok1 st1 r1 => ?_
  split at e
  · cases r1
    obtain ⟨rfl, rfl⟩ := rtn_some e
    exact ⟨_, rfl, q P1 H1 ok1 st1⟩
  · cases e
theorem do_none : DO X none tNoPart oN := ⟨po_none, eo_none⟩
theorem do_some (h : DE X e te f) : DO X (some e) (tPart te) (oS f) := ⟨po_some h.p, eo_some h.v⟩
def cutG {α : Type} (xs : List α) (lo hi : Option Int) : List α := (xs.drop (HT.sIx xs.length 0 lo)).take (HT.sIx xs.length xs.length hi - HT.sIx xs.length 0 lo)
theorem RpA.cut {H : Hp} {vs : List V} {ds : List D} (r : RpA K H vs ds) (lo hi : Option Int) : RpA K H (cutV vs lo hi) (cutG ds lo hi) := by
  unfold cutV cutG
  rw [r.length]
  exact (r.drop _).take _
def dSl : D → Option Int → Option Int → Option D
  | .tuple a, lo, hi => some (.tuple (cutG a lo hi))
  | .list a, lo, hi => some (.list (cutG a lo hi))
  | _, _, _ => none
def eSl (f : M D) (l h : M (Option Int)) : M D := bd f fun x => bd l fun lo => bd h fun hi => lf (dSl x lo hi)
abbrev rSlD (K : PySem.W.Frag) : V → Option Int → Option Int → Hp → VK → Prop := fun x lo hi H Q => rSlA K x lo hi H Q ∨ rSlL K x lo hi H Q
variable {tl th : TO} {gl gh : M (Option Int)} {lo hi : Option Expr} {p2 : Pos}
theorem cutG_whole {α : Type} (xs : List α) (lo hi : Option Int) (h : HT.sIx xs.length 0 lo = 0 ∧ HT.sIx xs.length xs.length hi = xs.length) : cutG xs lo hi = xs := by
  unfold cutG
  rw [h.1, h.2]
  simp
theorem ev_sl (ha : EvE K te f) (hl : EvO K tl gl) (hh : EvO K th gh) : EvE K (tSl (rSlD K) te tl th) (eSl f gl gh) := by
  intro A hid P s σ H d s' ok e Q q
  obtain ⟨x, s1, h1, e⟩ := bd_some e
  obtain ⟨l, s2, h2, e⟩ := bd_some e
  obtain ⟨h, s3, h3, e⟩ := bd_some e
  obtain ⟨h4, rfl⟩ := lf_some e
  refine ha A hid P s σ H x _ ok h1 _ fun v P1 H1 ok1 st1 r1 => ?_
  refine hl A hid P1 _ σ H1 l _ ok1 h2 _ fun P2 H2 ok2 st2 => ?_
  refine hh A hid P2 _ σ H2 h _ ok2 h3 _ fun P3 H3 ok3 st3 => ?_
  have r3 := (st2.trans st3).rp r1
  have st := (st1.trans st2).trans st3
  unfold dSl at h4
  split at h4
  · cases h4
    obtain ⟨a, vs, rfl, hx, rr⟩ := r3.tup_inv
    refine .inl ⟨a, vs, rfl, sqT_le hx, fun hw => ?_, fun _ p hp => ?_⟩
    · refine q _ P3 H3 ok3 st ?_
      rw [rr.length] at hw
      rw [cutG_whole _ _ _ hw]
      exact r3
    · exact q _ P3 _ (ok3.grw (Grw.new hp)) (st.trans (Stp.grw (Grw.new hp))) (rp_newT ok3.trk hp (rr.cut l h))
  · cases h4
    obtain ⟨a, vs, rfl, hx, rr⟩ := r3.lst_inv
    refine .inr ⟨a, vs, rfl, SqL.of (mask_le _ _ hx), fun p hp => ?_⟩
    exact q _ P3 _ (ok3.grw (Grw.new hp)) (st.trans (Stp.grw (Grw.new hp))) (rp_newL ok3.trk hp (rr.cut l h))
  · cases h4
theorem de_sl (ha : DE X e te f) (hl : DO X lo tl gl) (hh : DO X hi th gh) : DE X (.Subscript e (.Slice lo hi none p2) pos) (tSl (rSlD X.K) te tl th) (eSl f gl gh) :=
  ⟨pe_slice (SlR.or sl_tupA sl_list) ha.p hl.p hh.p, ev_sl ha.v hl.v hh.v⟩
end
end DL
namespace DL
open PySem PySem.Spec PyProof.Rows L2
/-! DL4: targets, statements, loops, comprehensions. -/
section
variable {K : PySem.W.Frag} {A : DA} {hid P : Addr → Prop} {s : S} {σ : St} {H : Hp}
theorem get_set {α : Type} (l : List α) (i j : Nat) (x : α) : (l.set i x)[j]? = if i = j ∧ j < l.length then some x else l[j]? := by
  by_cases h : i = j
  · subst h
    by_cases hl : i < l.length
    · rw [List.getElem?_set_self hl, if_pos ⟨rfl, hl⟩]
    · rw [if_neg (fun z => hl z.2), List.set_eq_of_length_le (by omega)]
  · rw [List.getElem?_set_ne h, if_neg (fun z => h z.1)]
/-- a slot gets data -/
theorem SOk.set_dat {i : Nat} {v : V} {d : D} (ok : SOk K A hid P s σ H) (r : Rp K (mask P H) v d) : SOk K A hid P { s with g := s.g.set i (some (.dat d)) } (σ.set i (some v)) H := by
  have hl := ok.len
  refine ⟨ok.trk, ok.hp, ok.hd, by simpa using ok.len, fun j w e => ?_, fun j l w u a e1 e2 c1 c2 e3 e4 => ?_, ok.deck⟩
  · show SlotOk K A hid P H (σ.set i (some v))[j]? w
    have e : (s.g.set i (some (.dat d)))[j]? = some (some w) := e
    rw [get_set] at e ⊢
    rw [← hl]
    split at e
    · cases e
      rw [if_pos (by assumption)]
      exact ⟨v, rfl, r⟩
    · rw [if_neg (by assumption)]
      exact ok.slot j w e
  · have e1 : (s.g.set i (some (.dat d)))[j]? = some (some w) := e1
    have e2 : (s.g.set i (some (.dat d)))[l]? = some (some u) := e2
    rw [get_set] at e1 e2 e3 e4
    rw [← hl] at e3 e4
    split at e1
    · cases e1; cases c1
    · split at e2
      · cases e2; cases c2
      · rw [if_neg (by assumption)] at e3
        rw [if_neg (by assumption)] at e4
        exact ok.apart j l w u a e1 e2 c1 c2 e3 e4
/-- a slot is forgotten (its value may be anything) -/
theorem SOk.set_none {i : Nat} {v : Option V} (ok : SOk K A hid P s σ H) : SOk K A hid P { s with g := s.g.set i none } (σ.set i v) H := by
  have hl := ok.len
  refine ⟨ok.trk, ok.hp, ok.hd, by simpa using ok.len, fun j w e => ?_, fun j l w u a e1 e2 c1 c2 e3 e4 => ?_, ok.deck⟩
  · show SlotOk K A hid P H (σ.set i v)[j]? w
    have e : (s.g.set i none)[j]? = some (some w) := e
    rw [get_set] at e ⊢
    rw [← hl]
    split at e
    · cases e
    · rw [if_neg (by assumption)]
      exact ok.slot j w e
  · have e1 : (s.g.set i none)[j]? = some (some w) := e1
    have e2 : (s.g.set i none)[l]? = some (some u) := e2
    rw [get_set] at e1 e2 e3 e4
    rw [← hl] at e3 e4
    split at e1
    · cases e1
    · split at e2
      · cases e2
      · rw [if_neg (by assumption)] at e3
        rw [if_neg (by assumption)] at e4
        exact ok.apart j l w u a e1 e2 c1 c2 e3 e4
/-- something new is laid and reserved -/
theorem SOk.reserve {p : Addr} {o : HO} (ok : SOk K A hid P s σ H) (hp : H p = none) (no : NoT o := by exact trivial) : SOk K A hid (fun a => P a ∨ a = p) s σ (upd H p o) := by
  have g : Grw (mask P H) (mask (fun a => P a ∨ a = p) (upd H p o)) := mask_grw fun a u e c => ⟨fun z => z.elim c fun z => ne_of_none e hp z, by rw [upd_ne (ne_of_none e hp)]; exact e⟩
  have gH : Grw H (upd H p o) := Grw.new hp
  refine ⟨fun a z => ?_, fun a z => .inl (ok.hp a z), ok.hd, ok.len, fun i v e => ?_, ok.apart, ?_⟩
  · rcases z with z | z
    · obtain ⟨u, e, n⟩ := ok.trk a z
      exact ⟨u, gH _ _ e, n⟩
    · subst z; exact ⟨o, upd_same, no⟩
  · have q := ok.slot i v e
    cases v with
    | dat d => obtain ⟨u, e, r⟩ := q; exact ⟨u, e, r.mono g⟩
    | lst ds => obtain ⟨a, vs, e, h1, h2, h3, h4, r⟩ := q; exact ⟨a, vs, e, gH _ _ h1, .inl h2, h3, h4, r.mono g⟩
    | dct tt kvs =>
      obtain ⟨a, e, h2, h3, h4, r⟩ := q
      refine ⟨a, e, .inl h2, h3, h4, ?_⟩
      rcases r with ⟨ht, ks, h1, r⟩ | ⟨ht, ks, h1, r⟩
      · exact .inl ⟨ht, ks, gH _ _ h1, r.mono g⟩
      · exact .inr ⟨ht, ks, gH _ _ h1, r.mono g⟩
    | deck => exact q
    | obj o => obtain ⟨y, h1, h2, h3⟩ := q; exact ⟨y, h1, h2, h3.move g fun a _ u e => gH _ _ e⟩
    | fn _ => exact q
    | gst es =>
      obtain ⟨b, us, z1, z2, z3, z4, z5⟩ := q
      exact ⟨b, us, z1, z2, gH _ _ z3, z4.mono g, z5⟩
  · have d := ok.deck
    exact ⟨gH _ _ d.ho, gH _ _ d.hg, gH _ _ d.hc, fun a z => .inl (d.rs a z), d.og, d.oc, d.gc, tabs_ext d.tb gH, d.tk⟩
theorem Stp.reserve {p : Addr} {o : HO} (hp : H p = none) : Stp hid P (fun a => P a ∨ a = p) H (upd H p o) :=
  ⟨fun a u e _ => by rw [upd_ne (ne_of_none e hp)]; exact e, fun a u e c z => z.elim c fun z => ne_of_none e hp z⟩
/-- a slot becomes a cell: the list that was just laid at p -/
theorem SOk.set_cell {i : Nat} {p : Addr} {vs : List V} {ds : List D} (ok : SOk K A hid P s σ H) (hp : H p = none) (r : RpA K (mask P H) vs ds) :
    SOk K A hid (fun a => P a ∨ a = p) { s with g := s.g.set i (some (.lst ds)) } (σ.set i (some (.ref p))) (upd H p (.lst vs)) := by
  have ok1 : SOk K A hid (fun a => P a ∨ a = p) s σ (upd H p (.lst vs)) := ok.reserve hp
  have hl := ok.len
  have g : Grw (mask P H) (mask (fun a => P a ∨ a = p) (upd H p (.lst vs))) := mask_grw fun a u e c => ⟨fun z => z.elim c fun z => ne_of_none e hp z, by rw [upd_ne (ne_of_none e hp)]; exact e⟩
  have cellNe : ∀ (j : Nat) (w : Val) (a : Addr), s.g[j]? = some (some w) → isCell w = true → σ[j]? = some (some (.ref a)) → a ≠ p := fun j w a e c e3 z => by
    subst z
    have q := ok.slot j w e
    cases w with
    | dat d => cases c
    | deck => cases c
    | obj o => cases c
    | fn _ => cases c
    | gst _ => cases c
    | lst es =>
      obtain ⟨b, us, e5, h1, _⟩ := q
      rw [e3] at e5; cases e5
      rw [hp] at h1; cases h1
    | dct tt es =>
      obtain ⟨b, e5, _, _, _, h1⟩ := q
      rw [e3] at e5; cases e5
      rcases h1 with ⟨_, _, h1, _⟩ | ⟨_, _, h1, _⟩ <;> (rw [hp] at h1; cases h1)
  refine ⟨ok1.trk, ok1.hp, ok1.hd, by simpa using ok.len, fun j w e => ?_, fun j l w u a e1 e2 c1 c2 e3 e4 => ?_, ok1.deck⟩
  · show SlotOk K A hid _ _ (σ.set i (some (.ref p)))[j]? w
    have e : (s.g.set i (some (.lst ds)))[j]? = some (some w) := e
    rw [get_set] at e ⊢
    rw [← hl]
    split at e
    · cases e
      rw [if_pos (by assumption)]
      refine ⟨p, vs, rfl, upd_same, .inr rfl, fun z => ok.free hp (ok.hp _ z), fun z => ok.free hp (ok.deck.rs _ z), r.mono g⟩
    · rw [if_neg (by assumption)]
      exact ok1.slot j w e
  · have e1 : (s.g.set i (some (.lst ds)))[j]? = some (some w) := e1
    have e2 : (s.g.set i (some (.lst ds)))[l]? = some (some u) := e2
    rw [get_set] at e1 e2 e3 e4
    rw [← hl] at e3 e4
    by_cases k1 : i = j ∧ j < s.g.length
    · rw [if_pos k1] at e1 e3
      cases e3
      by_cases k2 : i = l ∧ l < s.g.length
      · exact k1.1.symm.trans k2.1
      · rw [if_neg k2] at e2 e4
        exact absurd rfl (cellNe l u _ e2 c2 e4)
    · rw [if_neg k1] at e1 e3
      by_cases k2 : i = l ∧ l < s.g.length
      · rw [if_pos k2] at e2 e4
        cases e4
        exact absurd rfl (cellNe j w _ e1 c1 e3)
      · rw [if_neg k2] at e2 e4
        exact ok.apart j l w u a e1 e2 c1 c2 e3 e4
/-- a cell's list is changed -/
theorem SOk.put_cell {i : Nat} {a : Addr} {ds ds' : List D} {vs' : List V} (ok : SOk K A hid P s σ H) (hi : s.g[i]? = some (some (.lst ds))) (ha : σ[i]? = some (some (.ref a))) (r : RpA K (mask P H) vs' ds') :
    SOk K A hid P { s with g := s.g.set i (some (.lst ds')) } σ (upd H a (.lst vs')) ∧ Stp hid P P H (upd H a (.lst vs')) := by
  obtain ⟨b, vs, e, h1, h2, h3, h4, _⟩ := ok.slot i _ hi
  rw [ha] at e; cases e
  have hil : i < s.g.length := (List.getElem?_eq_some_iff.mp hi).1
  have g : Grw (mask P H) (mask P (upd H a (.lst vs'))) := mask_grw fun b u e c => ⟨c, by rw [upd_ne (show b ≠ a from fun z => c (by rw [z]; exact h2))]; exact e⟩
  have nA : ∀ b, A.is b → b ≠ a := fun b z w => h4 (w ▸ z)
  have oth : ∀ (j : Nat) (w : Val) (b : Addr), j ≠ i → s.g[j]? = some (some w) → isCell w = true → σ[j]? = some (some (.ref b)) → b ≠ a := fun j w b hj e c e3 z => by
    subst z
    exact hj (ok.apart j i w _ _ e hi c rfl e3 ha)
  refine ⟨⟨fun b z => ?_, ok.hp, ok.hd, by simpa using ok.len, fun j w e => ?_, fun j l w u b e1 e2 c1 c2 e3 e4 => ?_, ?_⟩, ⟨fun b o e c => ?_, fun _ _ _ c => c⟩⟩
  · by_cases hb : b = a
    · subst hb; exact ⟨_, upd_same, trivial⟩
    · obtain ⟨o, e, n⟩ := ok.trk b z
      exact ⟨o, by rw [upd_ne hb]; exact e, n⟩
  · show SlotOk K A hid P (upd H a (.lst vs')) σ[j]? w
    have e : (s.g.set i (some (.lst ds')))[j]? = some (some w) := e
    rw [get_set] at e
    by_cases k1 : i = j ∧ j < s.g.length
    · rw [if_pos k1] at e
      cases e
      refine ⟨a, vs', by rw [← k1.1]; exact ha, upd_same, h2, h3, h4, r.mono g⟩
    · rw [if_neg k1] at e
      have hj : j ≠ i := fun z => k1 ⟨z.symm, by rw [z]; exact hil⟩
      have q := ok.slot j w e
      cases w with
      | dat d => obtain ⟨u, e5, r⟩ := q; exact ⟨u, e5, r.mono g⟩
      | lst es => obtain ⟨b, us, e5, k1, k2, k3, k4, r⟩ := q; exact ⟨b, us, e5, by rw [upd_ne (oth j _ b hj e rfl e5)]; exact k1, k2, k3, k4, r.mono g⟩
      | dct tt es =>
        obtain ⟨b, e5, k2, k3, k4, r⟩ := q
        refine ⟨b, e5, k2, k3, k4, ?_⟩
        rcases r with ⟨ht, ks, k1, r⟩ | ⟨ht, ks, k1, r⟩
        · exact .inl ⟨ht, ks, by rw [upd_ne (oth j _ b hj e rfl e5)]; exact k1, r.mono g⟩
        · exact .inr ⟨ht, ks, by rw [upd_ne (oth j _ b hj e rfl e5)]; exact k1, r.mono g⟩
      | deck => exact q
      | obj o =>
        obtain ⟨y, h1, h2, h3⟩ := q
        exact ⟨y, h1, h2, h3.move g fun b hb u e => by rw [upd_ne (nA b (.inr (.inr (.inr (.inl ⟨y, h1, hb⟩)))))]; exact e⟩
      | fn _ => exact q
      | gst es =>
        obtain ⟨b, us, z1, z2, z3, z4, z5⟩ := q
        exact ⟨b, us, z1, z2, by rw [upd_ne (nA b (.inr (.inr (.inr (.inr (.inr z1))))))]; exact z3, z4.mono g, z5⟩
  · have e1 : (s.g.set i (some (.lst ds')))[j]? = some (some w) := e1
    have e2 : (s.g.set i (some (.lst ds')))[l]? = some (some u) := e2
    rw [get_set] at e1 e2
    have back : ∀ (j : Nat) (w : Val), (if i = j ∧ j < s.g.length then some (some (Val.lst ds')) else s.g[j]?) = some (some w) → isCell w = true → ∃ w', s.g[j]? = some (some w') ∧ isCell w' = true := fun j w e c => by
      by_cases k : i = j ∧ j < s.g.length
      · exact ⟨_, by rw [← k.1]; exact hi, rfl⟩
      · rw [if_neg k] at e; exact ⟨w, e, c⟩
    obtain ⟨w', f1, g1⟩ := back j w e1 c1
    obtain ⟨u', f2, g2⟩ := back l u e2 c2
    exact ok.apart j l w' u' b f1 f2 g1 g2 e3 e4
  · have d := ok.deck
    exact ⟨by rw [upd_ne (nA _ (.inl rfl))]; exact d.ho, by rw [upd_ne (nA _ (.inr (.inl rfl)))]; exact d.hg, by rw [upd_ne (nA _ (.inr (.inr (.inl rfl))))]; exact d.hc, d.rs, d.og, d.oc, d.gc, ok.tabs_off h2 nA (fun _ hb => upd_ne hb), d.tk⟩
  · rw [upd_ne]
    · exact e
    · intro z
      subst z
      rcases c with c | c
      · exact h3 c
      · exact c h2
end
/-! ### targets -/
/-- slots js may change -/
def OutSame (js : List Nat) (σ σ' : St) : Prop := σ'.length = σ.length ∧ ∀ i : Nat, i ∉ js → σ'[i]? = σ[i]?
theorem OutSame.refl {js : List Nat} {σ : St} : OutSame js σ σ := ⟨rfl, fun _ _ => rfl⟩
theorem OutSame.trans {js : List Nat} {σ σ1 σ2 : St} (a : OutSame js σ σ1) (b : OutSame js σ1 σ2) : OutSame js σ σ2 := ⟨b.1.trans a.1, fun i h => (b.2 i h).trans (a.2 i h)⟩
theorem OutSame.mono {js ks : List Nat} {σ σ1 : St} (a : OutSame js σ σ1) (h : ∀ i ∈ js, i ∈ ks) : OutSame ks σ σ1 := ⟨a.1, fun i z => a.2 i fun w => z (h i w)⟩
def EvG (K : PySem.W.Frag) (js : List Nat) (g : TG) (f : D → M Unit) : Prop := ∀ (A : DA) (hid P : Addr → Prop) (s : S) (σ : St) (H : Hp) (v : V) (d : D) (s' : S), SOk K A hid P s σ H → Rp K (mask P H) v d → f d s = some ((), s') →
  ∀ Q : St → Hp → Prop, (∀ σ' P' H', SOk K A hid P' s' σ' H' → Stp hid P P' H H' → OutSame js σ σ' → Q σ' H') → g v σ H Q
def EvGs (K : PySem.W.Frag) (js : List Nat) (g : TGs) (f : List D → M Unit) : Prop := ∀ (A : DA) (hid P : Addr → Prop) (s : S) (σ : St) (H : Hp) (v : List V) (d : List D) (s' : S), SOk K A hid P s σ H → RpA K (mask P H) v d → f d s = some ((), s') →
  ∀ Q : St → Hp → Prop, (∀ σ' P' H', SOk K A hid P' s' σ' H' → Stp hid P P' H H' → OutSame js σ σ' → Q σ' H') → g v σ H Q
structure DG (X : Cx) (e : Expr) (js : List Nat) (g : TG) (f : D → M Unit) : Prop where
  p : PG X e g
  v : EvG X.K js g f
structure DGs (X : Cx) (e : List Expr) (js : List Nat) (g : TGs) (f : List D → M Unit) : Prop where
  p : PGs X e g
  v : EvGs X.K js g f
def gN (i : Nat) : D → M Unit := fun d s => some ((), { s with g := s.g.set i (some (.dat d)) })
section
variable {X : Cx} {K : PySem.W.Frag} {pos : Pos}
theorem eg_name {i : Nat} : EvG K [i] (gName i) (gN i) := by
  intro A hid P s σ H v d s' ok r e Q q
  unfold gN at e
  cases e
  exact q _ P H (ok.set_dat r) Stp.refl ⟨by simp, fun j h => by rw [List.getElem?_set_ne (fun z => h (by simp [z]))]⟩
theorem dg_name (i : Nat) {x : Str} (hN : X.N.Nodup) (hi : X.N[i]? = some x := by rfl) (hx : Loc X.env.scope x := by first | exact Or.inl rfl | exact Or.inr rfl) (hf : X.fn x = true ∨ X.env.scope.names.lookup x = some .local := by first | exact .inl rfl | exact .inr rfl | assumption) :
    DG X (.Name x pos) [i] (gName i) (gN i) := ⟨pg_name hN hi hx hf, eg_name⟩
def gNl : List D → M Unit := fun ds s => match ds with
  | [] => some ((), s)
  | _ => none
def gCn (f : D → M Unit) (g : List D → M Unit) : List D → M Unit := fun ds => match ds with
  | d :: r => bd (f d) fun _ => g r
  | [] => fun _ => none
theorem eg_nil : EvGs K [] gNil gNl := by
  intro A hid P s σ H v d s' ok r e Q q
  cases r with
  | nil => unfold gNl at e; cases e; exact ⟨rfl, q σ P H ok Stp.refl OutSame.refl⟩
  | cons _ _ => unfold gNl at e; cases e
theorem eg_cons {js ks : List Nat} {t : TG} {u : TGs} {f : D → M Unit} {g : List D → M Unit} (h1 : EvG K js t f) (h2 : EvGs K ks u g) : EvGs K (js ++ ks) (gCons t u) (gCn f g) := by
  intro A hid P s σ H v d s' ok r e Q q
  cases r with
  | nil => unfold gCn at e; cases e
  | cons r rr =>
    unfold gCn at e
    obtain ⟨_, s1, e1, e⟩ := bd_some e
    refine ⟨_, _, rfl, h1 A hid P s σ H _ _ s1 ok r e1 _ fun σ1 P1 H1 ok1 st1 o1 => ?_⟩
    refine h2 A hid P1 s1 σ1 H1 _ _ s' ok1 (st1.rpA rr) e _ fun σ2 P2 H2 ok2 st2 o2 => ?_
    exact q σ2 P2 H2 ok2 (st1.trans st2) ((o1.mono fun i h => List.mem_append_left _ h).trans (o2.mono fun i h => List.mem_append_right _ h))
theorem dgs_nil : DGs X [] [] gNil gNl := ⟨pgs_nil, eg_nil⟩
theorem dgs_cons {e : Expr} {es : List Expr} {js ks : List Nat} {t : TG} {u : TGs} {f : D → M Unit} {g : List D → M Unit} (h1 : DG X e js t f) (h2 : DGs X es ks u g)
    (hs : (assignEach (e :: es) X.env).map (·.2) = assign e X.env :: (assignEach es X.env).map (·.2) := by rfl) : DGs X (e :: es) (js ++ ks) (gCons t u) (gCn f g) := ⟨pgs_cons h1.p h2.p hs, eg_cons h1.v h2.v⟩
def gTp (n : Nat) (g : List D → M Unit) : D → M Unit := fun d => match d with
  | .tuple ds => if ds.length = n then g ds else fun _ => none
  | _ => fun _ => none
theorem eg_tup {js : List Nat} {n : Nat} {t : TGs} {g : List D → M Unit} (h : EvGs K js t g) : EvG K js (gTup K n t) (gTp n g) := by
  intro A hid P s σ H v d s' ok r e Q q
  unfold gTp at e
  split at e
  · split at e
    · rename_i hn
      obtain ⟨a, vs, rfl, hx, rr⟩ := r.tup_inv
      exact ⟨a, vs, rfl, sqT_le hx, by rw [rr.length]; exact hn, h A hid P s σ H vs _ s' ok rr e Q q⟩
    · cases e
  · cases e
theorem dg_tup {es : List Expr} {k : Nat} {js : List Nat} {t : TGs} {g : List D → M Unit} {n : Nat} (hc : X.calm = true) (h : DGs X es js t g)
    (hn : (assignEach es X.env).length = n := by rfl) (hst : (assignEach es X.env).findIdx? (·.1) = none := by rfl) : DG X (.Tuple es k pos) js (gTup X.K n t) (gTp n g) := ⟨pg_tup hc h.p hn hst, eg_tup h.v⟩
end
/-! ### statements -/
section
variable {X : Cx} {K : PySem.W.Frag} {e a b c : Expr} {te ta tb : TE} {f fa fb : M D} {pos : Pos} {t u : TS} {m n : M Fl} {st : Stmt} {rest : List Stmt}
def sNx : M Fl := rtn .nx
def sSeq (m n : M Fl) : M Fl := bd m fun fl => match fl with
  | .nx => n
  | fl => rtn fl
theorem es_seq (h1 : EvS K t m) (h2 : EvS K u n) : EvS K (tSeq t u) (sSeq m n) := by
  intro A hid P s σ H fl s' ok e D q
  obtain ⟨f1, s1, e1, e⟩ := bd_some e
  refine h1 A hid P s σ H f1 s1 ok e1 _ ?_
  cases f1 with
  | nx => exact fun σ1 P1 H1 ok1 st1 => h2 A hid P1 s1 σ1 H1 fl s' ok1 e D (q.back st1)
  | rt d => obtain ⟨rfl, rfl⟩ := rtn_some e; exact q
  | bk => obtain ⟨rfl, rfl⟩ := rtn_some e; exact q
  | ct => obtain ⟨rfl, rfl⟩ := rtn_some e; exact q
theorem dss_nil : DSs X [] tNext sNx := ⟨pss_nil, by
  intro A hid P s σ H fl s' ok e D q
  obtain ⟨rfl, rfl⟩ := rtn_some e
  exact q σ P H ok Stp.refl⟩
theorem dss_cons (h1 : DS X st t m) (h2 : DSs X rest u n) : DSs X (st :: rest) (tSeq t u) (sSeq m n) := ⟨pss_cons h1.p h2.p, es_seq h1.v h2.v⟩
theorem dss_one (h1 : DS X st t m) : DSs X [st] t m := ⟨pss_one h1.p, h1.v⟩
def sRet (f : M D) : M Fl := bd f fun d => rtn (.rt d)
theorem ds_ret (h : DE X e te f) : DS X (.Return (some e) pos) (tRet te) (sRet f) := ⟨ps_ret h.p, by
  intro A hid P s σ H fl s' ok e D q
  obtain ⟨d, s1, h1, e⟩ := bd_some e
  obtain ⟨rfl, rfl⟩ := rtn_some e
  exact h.v A hid P s σ H d _ ok h1 _ fun v P1 H1 ok1 st1 r => q v σ P1 H1 ok1 st1 r⟩
def sIf (c : M Bool) (m n : M Fl) : M Fl := bd c fun b => if b = true then m else n
theorem ds_if {tc : TT} {g : M Bool} {p q : List Stmt} (hc : DT X c tc g) (ha : DSs X p t m) (hb : DSs X q u n) : DS X (.If c p q pos) (tIfS tc t u) (sIf g m n) := ⟨ps_if hc.p ha.p hb.p, by
  intro A hid P s σ H fl s' ok e D q
  obtain ⟨d, s1, h1, e⟩ := bd_some e
  refine hc.v A hid P s σ H d _ ok h1 _ fun P1 H1 ok1 st1 => ?_
  cases d with
  | true => rw [if_pos rfl] at e ⊢; exact ha.v A hid P1 s1 σ H1 fl s' ok1 e D (q.back st1)
  | false => rw [if_neg Bool.false_ne_true] at e ⊢; exact hb.v A hid P1 s1 σ H1 fl s' ok1 e D (q.back st1)⟩
def sDrop (f : M D) : M Fl := bd f fun _ => rtn .nx
def sAsg (f : M D) (g : D → M Unit) : M Fl := bd f fun d => bd (g d) fun _ => rtn .nx
theorem es_asg {js : List Nat} {g : TG} {fg : D → M Unit} (h : EvE K te f) (hg : EvG K js g fg) : EvS K (tAsg te g) (sAsg f fg) := by
  intro A hid P s σ H fl s' ok e D q
  obtain ⟨d, s1, h1, e⟩ := bd_some e
  obtain ⟨_, s2, h2, e⟩ := bd_some e
  obtain ⟨rfl, rfl⟩ := rtn_some e
  refine h A hid P s σ H d _ ok h1 _ fun v P1 H1 ok1 st1 r => ?_
  exact hg A hid P1 s1 σ H1 v d _ ok1 r h2 _ fun σ2 P2 H2 ok2 st2 _ => q σ2 P2 H2 ok2 (st1.trans st2)
theorem ds_asg {tg : Expr} {js : List Nat} {g : TG} {fg : D → M Unit} (h : DE X e te f) (hg : DG X tg js g fg) (hs : swapsWithSole [tg] e pos.line X.env = pure false := by rfl) (hw : swappedStores [tg] e X.env = pure none := by rfl)
    (h1 : (assignEach [tg] X.env).map (·.2) = [assign tg X.env] := by rfl) : DS X (.Assign [tg] e pos) (tAsg te g) (sAsg f fg) := ⟨ps_asg h.p hg.p hs hw h1, es_asg h.v hg.v⟩
/-- x = a new list, x a cell -/
def sNew (i : Nat) (f : M (List D)) : M Fl := bd f fun ds => fun s => some (.nx, { s with g := s.g.set i (some (.lst ds)) })
theorem es_new {i : Nat} {g : M (List D)} (h : EvN K te g) : EvS K (tAsg te (gName i)) (sNew i g) := by
  intro A hid P s σ H fl s' ok e D q
  obtain ⟨ds, s1, h1, e⟩ := bd_some e
  cases e
  refine h A hid P s σ H ds _ ok h1 _ fun vs P1 H1 p ok1 st1 hp r => ?_
  exact q _ _ _ (ok1.set_cell hp r) (st1.trans (Stp.reserve hp))
theorem ds_new (i : Nat) {x : Str} {px : Pos} {g : M (List D)} (h : DN X e te g) (hN : X.N.Nodup) (hi : X.N[i]? = some x := by rfl) (hx : Loc X.env.scope x := by first | exact Or.inl rfl | exact Or.inr rfl) (hf : X.fn x = true ∨ X.env.scope.names.lookup x = some .local := by first | exact .inl rfl | exact .inr rfl | assumption)
    (hs : swapsWithSole [.Name x px] e pos.line X.env = pure false := by rfl) (hw : swappedStores [.Name x px] e X.env = pure none := by rfl)
    (h1 : (assignEach [.Name x px] X.env).map (·.2) = [assign (.Name x px) X.env] := by rfl) : DS X (.Assign [.Name x px] e pos) (tAsg te (gName i)) (sNew i g) := ⟨ps_asg h.p (pg_name hN hi hx hf) hs hw h1, es_new h.v⟩
/-- x.append(e), x a cell -/
def sApp (i : Nat) (f : M D) : M Fl := fun s => match s.g[i]? with
  | some (some (.lst _)) => (bd f fun d => fun s1 => match s1.g[i]? with
    | some (some (.lst ds)) => if ds.length ≤ lim then some (.nx, { s1 with g := s1.g.set i (some (.lst (ds ++ [d]))) }) else none
    | _ => none) s
  | _ => none
theorem es_app {i : Nat} (h : EvE K te f) : EvS K (tDrop (tBM K "list" rAppend (tVar i) (tCons te tNil))) (sApp i f) := by
  intro A hid P s σ H fl s' ok e D q
  unfold sApp at e
  split at e
  · rename_i ds0 hg0
    obtain ⟨d, s1, h1, e⟩ := bd_some e
    obtain ⟨a, vs0, ea, k1, _⟩ := ok.slot i _ hg0
    refine ⟨.ref a, ea, .inl ⟨rfl, vs0, SqL.of k1⟩, ?_⟩
    refine h A hid P s σ H d s1 ok h1 _ fun v P1 H1 ok1 st1 r => ?_
    split at e
    · rename_i ds hg
      split at e
      · rename_i hl
        cases e
        obtain ⟨b, vs, eb, m1, m2, m3, m4, mr⟩ := ok1.slot i _ hg
        rw [ea] at eb; cases eb
        obtain ⟨ok2, st2⟩ := ok1.put_cell hg ea (mr.append (.cons r .nil))
        refine ⟨a, vs, v, rfl, rfl, m1, by rw [mr.length]; exact lim_lt hl, ?_⟩
        exact q σ P1 _ ok2 (st1.trans st2)
      · cases e
    · cases e
  · cases e
theorem ds_app (i : Nat) {x : Str} {px pa pe : Pos} (h : DE X e te f) (hN : X.N[i]? = some x := by rfl) (hv : Vis X.env.scope x := by first | exact Or.inl rfl | exact Or.inr (Or.inl rfl) | exact Or.inr (Or.inr rfl))
    (hd : (x == ("__debug__" : Str)) = false := by decide) (hcd : (x == ("__classdict__" : Str)) = false := by decide)
    (hp : PE X (.Call (.Attribute (.Name x px) "append" pa) [e] [] pe) (tBM X.K "list" rAppend (tVar i) (tCons te tNil)))
    (hs : swapsWith (.Call (.Attribute (.Name x px) "append" pa) [e] [] pe) none pos.line X.env = pure false := by rfl) : DS X (.Expr (.Call (.Attribute (.Name x px) "append" pa) [e] [] pe) pos) (tDrop (tBM X.K "list" rAppend (tVar i) (tCons te tNil))) (sApp i f) := ⟨ps_expr hp hs, es_app h.v⟩
end
end DL
namespace DL
open PySem PySem.Spec PyProof.Rows L2
/-! DL5: what is walked; for; comprehensions. -/
/-- J walks the data ds while G stands; G stays on the way -/
structure WalkD (K : PySem.W.Frag) (J : It) (G : (Addr → Prop) → Hp → Prop) (ds : List D) : Prop where
  goes : ∀ P i H, i < ds.length → G P H → J.go i H
  stops : ∀ P H, G P H → J.stop ds.length H
  yields : ∀ P i H x H', i < ds.length → Trk P H → G P H → J.yld i H x H' → Grw H H' ∧ ∃ d, ds[i]? = some d ∧ Rp K (mask P H') x d
  stay : ∀ P P' H H', Grw (mask P H) (mask P' H') → G P H → G P' H'
def EvI (K : PySem.W.Frag) (wi : TI) (f : M (List D)) : Prop := ∀ (A : DA) (hid P : Addr → Prop) (s : S) (σ : St) (H : Hp) (ds : List D) (s' : S), SOk K A hid P s σ H → f s = some (ds, s') →
  ∀ R : It → Hp → Prop, (∀ J G P' H', SOk K A hid P' s' σ H' → Stp hid P P' H H' → WalkD K J G ds → G P' H' → R J H') → wi σ H R
/-- the same at one state -/
def EvIa (K : PySem.W.Frag) (wi : TI) (f : M (List D)) (A : DA) (hid P : Addr → Prop) (s : S) (σ : St) (H : Hp) : Prop := ∀ (ds : List D) (s' : S), SOk K A hid P s σ H → f s = some (ds, s') →
  ∀ R : It → Hp → Prop, (∀ J G P' H', SOk K A hid P' s' σ H' → Stp hid P P' H H' → WalkD K J G ds → G P' H' → R J H') → wi σ H R
structure DI (X : Cx) (tg iter : Expr) (wi : TI) (f : M (List D)) : Prop where
  p : PI X tg iter wi
  v : EvI X.K wi f
section
variable {X : Cx} {K : PySem.W.Frag} {tg e : Expr} {te : TE} {f : M D} {pos p : Pos} {tr : TA} {fr : M (List D)}
theorem walkL {a : Addr} {vs : List V} {ds : List D} (n : vs.length = ds.length) : WalkD K (Itl K a) (fun P H => mask P H a = some (.lst vs) ∧ RpA K (mask P H) vs ds) ds := by
  refine ⟨fun P i H hi g => ⟨vs, vs[i]'(by omega), SqL.of (mask_le _ _ g.1), by simp⟩, fun P H g => ⟨vs, SqL.of (mask_le _ _ g.1), by omega⟩, fun P i H x H' hi t g y => ?_, fun P P' H H' q g => ⟨q _ _ g.1, g.2.mono q⟩⟩
  obtain ⟨rfl, y⟩ := y
  have h := y vs (SqL.of (mask_le _ _ g.1))
  obtain ⟨d, h1, h2⟩ := g.2.getv h
  exact ⟨Grw.refl _, d, h1, h2⟩
theorem walkT {a : Addr} {vs : List V} {ds : List D} (n : vs.length = ds.length) : WalkD K (Itt K a) (fun P H => SqT K (mask P H) a vs ∧ RpA K (mask P H) vs ds) ds := by
  refine ⟨fun P i H hi g => ⟨vs, vs[i]'(by omega), sqT_le g.1, by simp⟩, fun P H g => ⟨vs, sqT_le g.1, by omega⟩, fun P i H x H' hi t g y => ?_, fun P P' H H' q g => ⟨SqT.grw q g.1, g.2.mono q⟩⟩
  obtain ⟨rfl, y⟩ := y
  have h := y vs (sqT_le g.1)
  obtain ⟨d, h1, h2⟩ := g.2.getv h
  exact ⟨Grw.refl _, d, h1, h2⟩
/-- range(n), range(a, b) -/
def rngD (lo : Int) (n : Nat) : List D := (List.range n).map fun i => .int (lo + (i : Nat))
theorem walkR {lo : Int} {n : Nat} : WalkD K (Itr lo n) (fun _ _ => True) (rngD lo n) := by
  have hl : (rngD lo n).length = n := by simp [rngD]
  refine ⟨fun P i H hi g => by rw [hl] at hi; exact hi, fun P H g => by rw [hl]; exact Nat.le_refl _, fun P i H x H' hi t g y => ?_, fun _ _ _ _ _ g => g⟩
  obtain ⟨rfl, rfl⟩ := y
  rw [hl] at hi
  exact ⟨Grw.refl _, .int (lo + (i : Nat)), by simp [rngD, hi], .int _⟩
def rg1 (fr : M (List D)) : M (List D) := bd fr fun ds => match ds with
  | [.int j] => if -(2 ^ 62) ≤ j ∧ j < 2 ^ 62 then rtn (rngD 0 j.toNat) else fun _ => none
  | _ => fun _ => none
def rg2 (fr : M (List D)) : M (List D) := bd fr fun ds => match ds with
  | [.int i, .int j] => if -(2 ^ 62) ≤ i ∧ i < 2 ^ 62 ∧ -(2 ^ 62) ≤ j ∧ j < 2 ^ 62 then rtn (rngD i (j - i).toNat) else fun _ => none
  | _ => fun _ => none
theorem ei_rg1 (h : EvA K tr fr) : EvI K (iRng1 tr) (rg1 fr) := by
  intro A hid P s σ H ds s' ok e R q
  obtain ⟨xs, s1, h1, e⟩ := bd_some e
  refine h A hid P s σ H xs s1 ok h1 _ fun vs P1 H1 ok1 st1 r => ?_
  split at e
  · split at e
    · rename_i hb
      obtain ⟨rfl, rfl⟩ := rtn_some e
      obtain ⟨v, rfl, r1⟩ := r.one
      cases r1
      exact ⟨_, rfl, hb.1, hb.2, q _ _ P1 H1 ok1 st1 walkR True.intro⟩
    · cases e
  · cases e
theorem di_rg1 {a : Expr} (hg : Gl X "range") (hm : X.mg "range" = none) (ha : DAr X [a] tr fr) (hs : starEach [a] X.env = [(false, eval a X.env)] := by rfl) : DI X tg (.Call (.Name "range" p) [a] [] pos) (iRng1 tr) (rg1 fr) := ⟨pi_range1 hg hm ha.p hs, ei_rg1 ha.v⟩
end
/-! ### for -/
def loop (asg : D → M Unit) (body : M Fl) : List D → M Fl
  | [] => rtn .nx
  | x :: r => bd (asg x) fun _ => bd body fun fl => match fl with
    | .nx => loop asg body r
    | .ct => loop asg body r
    | .bk => rtn .nx
    | .rt d => rtn (.rt d)
def sFor (it : M (List D)) (asg : D → M Unit) (body : M Fl) : M Fl := bd it fun ds => loop asg body ds
section
variable {X : Cx} {K : PySem.W.Frag} {tg iter : Expr} {wi : TI} {it : M (List D)} {js : List Nat} {g : TG} {fg : D → M Unit} {body : List Stmt} {tb : TS} {m : M Fl} {pos : Pos}
theorem for_at {A : DA} {hid P : Addr → Prop} {s : S} {σ : St} {H : Hp} {fl : Fl} {s' : S} (hi : EvIa K wi it A hid P s σ H) (hg : EvG K js g fg) (hb : EvS K tb m) (ok : SOk K A hid P s σ H) (e : sFor it fg m s = some (fl, s')) (D : Ends) (q : FlOk K A hid P H s' D fl) : tFor wi g tb D σ H := by
  obtain ⟨ds, s1, h1, e⟩ := bd_some e
  refine hi ds s1 ok h1 _ fun J G P1 H1 ok1 st1 w g1 => ?_
  -- the word: either the rest of the loop is still to come, or it has been left
  refine ⟨fun i n σ' H' => n = ds.length - i ∧ i ≤ ds.length ∧ ∃ P' s2, SOk K A hid P' s2 σ' H' ∧ Stp hid P P' H H' ∧ G P' H' ∧ loop fg m (ds.drop i) s2 = some (fl, s'),
    ⟨ds.length, by omega, Nat.zero_le _, P1, s1, ok1, st1, g1, e⟩, ?_⟩
  rintro i n σ' H' ⟨rfl, hle, P', s2, ok2, st2, g2, e2⟩
  by_cases hlt : i < ds.length
  · refine .inr ⟨w.goes P' i H' hlt g2, fun σ3 H3 => ∃ P3 s3, SOk K A hid P3 s3 σ3 H3 ∧ Stp hid P P3 H H3 ∧ G P3 H3 ∧ loop fg m (ds.drop (i + 1)) s3 = some (fl, s'), fun σ3 H3 ⟨P3, s3, a1, a2, a3, a4⟩ => ⟨ds.length - (i + 1), by omega, rfl, hlt, P3, s3, a1, a2, a3, a4⟩, fun x H3 y => ?_⟩
    obtain ⟨gr, d, hd, rx⟩ := w.yields P' i H' x H3 hlt ok2.trk g2 y
    have ok3 := ok2.grw gr
    have st3 : Stp hid P P' H H3 := st2.trans (Stp.grw gr)
    have g3 : G P' H3 := w.stay P' P' H' H3 (grw_mask gr) g2
    rw [List.drop_eq_getElem_cons hlt] at e2
    have hd' : ds[i] = d := by rw [List.getElem?_eq_getElem hlt] at hd; exact Option.some.inj hd
    rw [hd'] at e2
    obtain ⟨_, s4, e4, e5⟩ := bd_some e2
    refine hg A hid P' s2 σ' H3 x d s4 ok3 rx e4 _ fun σ4 P4 H4 ok4 st4 _ => ?_
    obtain ⟨fl5, s5, e6, e7⟩ := bd_some e5
    refine hb A hid P4 s4 σ4 H4 fl5 s5 ok4 e6 _ ?_
    have fwd : ∀ (σ6 : St) (P6 : Addr → Prop) (H6 : Hp), SOk K A hid P6 s5 σ6 H6 → Stp hid P4 P6 H4 H6 → loop fg m (ds.drop (i + 1)) s5 = some (fl, s') →
        ∃ P3 s3, SOk K A hid P3 s3 σ6 H6 ∧ Stp hid P P3 H H6 ∧ G P3 H6 ∧ loop fg m (ds.drop (i + 1)) s3 = some (fl, s') :=
      fun σ6 P6 H6 ok6 st6 e8 => ⟨P6, s5, ok6, (st3.trans st4).trans st6, w.stay P' P6 H3 H6 (st4.trans st6).mg g3, e8⟩
    cases fl5 with
    | nx => exact fun σ6 P6 H6 ok6 st6 => fwd σ6 P6 H6 ok6 st6 e7
    | ct => exact fun σ6 P6 H6 ok6 st6 => fwd σ6 P6 H6 ok6 st6 e7
    | bk =>
      obtain ⟨rfl, rfl⟩ := rtn_some e7
      exact fun σ6 P6 H6 ok6 st6 => q σ6 P6 H6 ok6 ((st3.trans st4).trans st6)
    | rt r =>
      obtain ⟨rfl, rfl⟩ := rtn_some e7
      exact fun v σ6 P6 H6 ok6 st6 rr => q v σ6 P6 H6 ok6 ((st3.trans st4).trans st6) rr
  · have hi : i = ds.length := by omega
    subst hi
    rw [List.drop_length] at e2
    obtain ⟨rfl, rfl⟩ := rtn_some e2
    exact .inl ⟨w.stops P' H' g2, q σ' P' H' ok2 st2⟩
theorem es_for (hi : EvI K wi it) (hg : EvG K js g fg) (hb : EvS K tb m) : EvS K (tFor wi g tb) (sFor it fg m) := fun A hid P s σ H _ _ ok e D q => for_at (hi A hid P s σ H) hg hb ok e D q
theorem ds_for (hp : PassesOwn (model X.prog X.w) X.A X.env X.xe) (hc : X.calm = true) (hi : DI X tg iter wi it) (hg : DG X tg js g fg) (hb : DSs X body tb m) (hs : ∀ x, foldedSetIterable iter X.env x = pure x := by intro _; rfl) :
    DS X (.For tg iter body [] pos) (tFor wi g tb) (sFor it fg m) := ⟨ps_for hp hc hi.p hg.p hb.p hs, es_for hi.v hg.v hb.v⟩
end
/-! ### comprehensions -/
def wipeL (g : List (Option Val)) : List Nat → List (Option Val)
  | [] => g
  | v :: vs => (wipeL g vs).set v none
def wipeS (s : S) (vs : List Nat) : S := { s with g := wipeL s.g vs }
theorem SOk.wiped {K : PySem.W.Frag} {A : DA} {hid P : Addr → Prop} {s : S} {σ : St} {H : Hp} (ok : SOk K A hid P s σ H) : ∀ vs : List Nat, SOk K A hid P (wipeS s vs) (wipe σ vs) H
  | [] => ok
  | v :: vs => (SOk.wiped ok vs).set_none (i := v) (v := none)
theorem wipe_get (σ : St) : ∀ (vs : List Nat) (i : Nat), (wipe σ vs)[i]? = if i ∈ vs ∧ i < σ.length then some none else σ[i]?
  | [], i => by simp [wipe]
  | v :: vs, i => by
    show ((wipe σ vs).set v none)[i]? = _
    rw [get_set, wipe_get σ vs i, wipe_length]
    by_cases h1 : v = i
    · subst h1
      by_cases h2 : v < σ.length
      · simp [h2]
      · simp [h2]
    · simp [h1, Ne.symm h1]
theorem wipe_same {σ σ' : St} {vs : List Nat} (h : OutSame vs σ σ') : wipe σ' vs = wipe σ vs := by
  apply List.ext_getElem?
  intro i
  rw [wipe_get, wipe_get, h.1]
  by_cases k : i ∈ vs ∧ i < σ.length
  · rw [if_pos k, if_pos k]
  · rw [if_neg k, if_neg k]
    by_cases m : i ∈ vs
    · have hl : ¬ i < σ.length := fun z => k ⟨m, z⟩
      have h1 := h.1
      rw [List.getElem?_eq_none (show σ'.length ≤ i by omega), List.getElem?_eq_none (show σ.length ≤ i by omega)]
    · exact h.2 i m
theorem wipe_wipe (σ : St) (vs : List Nat) : wipe (wipe σ vs) vs = wipe σ vs := by
  apply List.ext_getElem?
  intro i
  rw [wipe_get, wipe_length]
  by_cases k : i ∈ vs ∧ i < σ.length
  · rw [if_pos k, wipe_get, if_pos k]
  · rw [if_neg k]
/-- the block's own slots hold nothing known outside -/
theorem SOk.unwipe {K : PySem.W.Frag} {A : DA} {hid P : Addr → Prop} {s : S} {σ σ' : St} {H : Hp} {vs : List Nat} (ok : SOk K A hid P s σ' H) (h : OutSame vs σ σ') : SOk K A hid P (wipeS s vs) σ H := by
  have okw := ok.wiped vs
  have hs : ∀ (i : Nat) (v : Val), (wipeS s vs).g[i]? = some (some v) → i ∉ vs ∧ s.g[i]? = some (some v) := by
    have key : ∀ (ws : List Nat) (i : Nat) (v : Val), (wipeL s.g ws)[i]? = some (some v) → i ∉ ws ∧ s.g[i]? = some (some v) := by
      intro ws
      induction ws with
      | nil => intro i v e; exact ⟨by simp, e⟩
      | cons w ws ih =>
        intro i v e
        have e : ((wipeL s.g ws).set w none)[i]? = some (some v) := e
        rw [get_set] at e
        split at e
        · cases e
        · rename_i hn
          obtain ⟨h1, h2⟩ := ih i v e
          refine ⟨fun z => ?_, h2⟩
          rcases List.mem_cons.mp z with z | z
          · refine hn ⟨z.symm, ?_⟩
            exact (List.getElem?_eq_some_iff.mp e).1
          · exact h1 z
    exact key vs
  refine ⟨okw.trk, okw.hp, okw.hd, ?_, fun i v e => ?_, fun i j v w a e1 e2 c1 c2 e3 e4 => ?_, okw.deck⟩
  · rw [okw.len, wipe_length, h.1]
  · obtain ⟨h1, h2⟩ := hs i v e
    have q := ok.slot i v h2
    rw [h.2 i h1] at q
    exact q
  · obtain ⟨h1, h2⟩ := hs i v e1
    obtain ⟨h3, h4⟩ := hs j w e2
    exact ok.apart i j v w a h2 h4 c1 c2 (by rw [h.2 i h1]; exact e3) (by rw [h.2 j h3]; exact e4)
def lcLoop (own : List Nat) (asg : D → M Unit) (test : M Bool) (elt : M D) : List D → List D → M (List D)
  | [], acc => rtn acc
  | x :: r, acc => fun s => (bd (asg x) fun _ => bd test fun b => if b = true then bd elt fun d => if acc.length ≤ lim then fun s1 => lcLoop own asg test elt r (acc ++ [d]) (wipeS s1 own) else fun _ => none
      else fun s1 => lcLoop own asg test elt r acc (wipeS s1 own)) s
def nLc (own : List Nat) (it : M (List D)) (asg : D → M Unit) (test : M Bool) (elt : M D) : M (List D) := bd it fun ds => fun s => lcLoop own asg test elt ds [] (wipeS s own)
/-- the heap without one object -/
def rmv (p : Addr) (H : Hp) : Hp := fun a => if a = p then none else H a
theorem rmv_ne {p a : Addr} {H : Hp} (h : a ≠ p) : rmv p H a = H a := by unfold rmv; rw [if_neg h]
theorem rmv_same {p : Addr} {H : Hp} : rmv p H p = none := by unfold rmv; rw [if_pos rfl]
theorem upd_rmv {p : Addr} {H : Hp} {o : HO} : upd (rmv p H) p o = upd H p o := by
  funext a
  unfold upd rmv
  by_cases ha : a = p
  · rw [if_pos ha, if_pos ha]
  · rw [if_neg ha, if_neg ha, if_neg ha]
section
variable {K : PySem.W.Frag} {A : DA} {hid P : Addr → Prop} {s : S} {σ : St} {H : Hp} {p : Addr} {o : HO}
theorem SOk.hide (ok : SOk K A hid P s σ H) (hp : H p = none) (no : NoT o := by exact trivial) : SOk K A (fun a => hid a ∨ a = p) (fun a => P a ∨ a = p) s σ (upd H p o) := by
  have r : SOk K A hid (fun a => P a ∨ a = p) s σ (upd H p o) := ok.reserve hp no
  have np : ¬ P p := ok.free hp
  refine ⟨r.trk, fun a z => z.imp (ok.hp a) fun z => z, fun a z => ?_, r.len, fun i v e => ?_, r.apart, r.deck⟩
  · rcases z with z | z
    · exact ok.hd a z
    · subst z; exact fun y => np (ok.deck.rs _ y)
  · have q := r.slot i v e
    have q0 := ok.slot i v e
    cases v with
    | dat d => exact q
    | deck => exact q
    | obj o => exact q
    | fn _ => exact q
    | gst _ => exact q
    | lst ds =>
      obtain ⟨a, vs, e5, h1, h2, h3, h4, rr⟩ := q
      obtain ⟨b, us, e6, k1, k2, _⟩ := q0
      rw [e5] at e6; cases e6
      exact ⟨a, vs, e5, h1, h2, fun z => z.elim h3 fun z => np (z ▸ k2), h4, rr⟩
    | dct tt ds =>
      obtain ⟨a, e5, h2, h3, h4, rr⟩ := q
      obtain ⟨b, e6, k2, _⟩ := q0
      rw [e5] at e6; cases e6
      exact ⟨a, e5, h2, fun z => z.elim h3 fun z => np (z ▸ k2), h4, rr⟩
theorem Stp.hide (hp : H p = none) : Stp hid P (fun a => P a ∨ a = p) H (upd H p o) := Stp.reserve hp
theorem unhide_grw (hp : P p) : Grw (mask P H) (mask (fun a => P a ∧ a ≠ p) (rmv p H)) := mask_grw fun a u e c => ⟨fun z => c z.1, by rw [rmv_ne (show a ≠ p from fun z => c (by rw [z]; exact hp))]; exact e⟩
theorem SOk.unhide (ok : SOk K A (fun a => hid a ∨ a = p) P s σ H) (nh : ¬ hid p) : SOk K A hid (fun a => P a ∧ a ≠ p) s σ (rmv p H) := by
  have hp : P p := ok.hp p (.inr rfl)
  have g := unhide_grw (H := H) hp
  have nA : ∀ a, A.is a → a ≠ p := fun a z w => ok.hd p (.inr rfl) (w ▸ z)
  refine ⟨fun a z => ?_, fun a z => ⟨ok.hp a (.inl z), fun w => nh (w ▸ z)⟩, fun a z => ok.hd a (.inl z), ok.len, fun i v e => ?_, ok.apart, ?_⟩
  · obtain ⟨u, e, n⟩ := ok.trk a z.1
    exact ⟨u, by rw [rmv_ne z.2]; exact e, n⟩
  · have q := ok.slot i v e
    cases v with
    | dat d => obtain ⟨u, e5, r⟩ := q; exact ⟨u, e5, r.mono g⟩
    | deck => exact q
    | obj o =>
      obtain ⟨y, h1, h2, h3⟩ := q
      exact ⟨y, h1, h2, h3.move g fun b hb u e => by rw [rmv_ne (nA b (.inr (.inr (.inr (.inl ⟨y, h1, hb⟩)))))]; exact e⟩
    | fn _ => exact q
    | gst es =>
      obtain ⟨b, us, z1, z2, z3, z4, z5⟩ := q
      exact ⟨b, us, z1, z2, by rw [rmv_ne (nA b (.inr (.inr (.inr (.inr (.inr z1))))))]; exact z3, z4.mono g, z5⟩
    | lst ds =>
      obtain ⟨a, vs, e5, h1, h2, h3, h4, rr⟩ := q
      have ha : a ≠ p := fun z => h3 (.inr z)
      exact ⟨a, vs, e5, by rw [rmv_ne ha]; exact h1, ⟨h2, ha⟩, fun z => h3 (.inl z), h4, rr.mono g⟩
    | dct tt ds =>
      obtain ⟨a, e5, h2, h3, h4, rr⟩ := q
      have ha : a ≠ p := fun z => h3 (.inr z)
      refine ⟨a, e5, ⟨h2, ha⟩, fun z => h3 (.inl z), h4, ?_⟩
      rcases rr with ⟨ht, ks, h1, rr⟩ | ⟨ht, ks, h1, rr⟩
      · exact .inl ⟨ht, ks, by rw [rmv_ne ha]; exact h1, rr.mono g⟩
      · exact .inr ⟨ht, ks, by rw [rmv_ne ha]; exact h1, rr.mono g⟩
  · have d := ok.deck
    exact ⟨by rw [rmv_ne (nA _ (.inl rfl))]; exact d.ho, by rw [rmv_ne (nA _ (.inr (.inl rfl)))]; exact d.hg, by rw [rmv_ne (nA _ (.inr (.inr (.inl rfl))))]; exact d.hc, fun a z => ⟨d.rs a z, nA a z⟩, d.og, d.oc, d.gc, ok.tabs_off hp nA (fun _ hb => rmv_ne hb), d.tk⟩
theorem Stp.unhide {P' : Addr → Prop} {H' : Hp} (hp : H p = none) (st : Stp (fun a => hid a ∨ a = p) (fun a => P a ∨ a = p) P' (upd H p o) H') : Stp hid P (fun a => P' a ∧ a ≠ p) H (rmv p H') ∧ H' p = some o := by
  refine ⟨⟨fun a u e c => ?_, fun a u e c z => ?_⟩, st.keep p o upd_same (.inl (.inr rfl))⟩
  · have ha : a ≠ p := ne_of_none e hp
    rw [rmv_ne ha]
    exact st.keep a u (by rw [upd_ne ha]; exact e) (c.imp (fun z => .inl z) fun z w => w.elim z ha)
  · have ha : a ≠ p := ne_of_none e hp
    exact st.vis a u (by rw [upd_ne ha]; exact e) (fun w => w.elim c ha) z.1
end
theorem lc_at {K : PySem.W.Frag} {wi : TI} {it : M (List D)} {js : List Nat} {g : TG} {fg : D → M Unit} {tt : TT} {gt : M Bool} {te : TE} {fe : M D} {own : List Nat} {A : DA} {hid P : Addr → Prop} {s : S} {σ : St} {H : Hp} (hi : EvIa K wi it A hid P s σ H) (hg : EvG K js g fg) (hj : ∀ i ∈ js, i ∈ own) (ht : EvT K tt gt) (he : EvE K te fe)
    {dsF : List D} {s' : S} (ok : SOk K A hid P s σ H) (e : nLc own it fg gt fe s = some (dsF, s')) (Q : VK) (q : ∀ vs P' H' p, SOk K A hid P' s' σ H' → Stp hid P P' H H' → H' p = none → RpA K (mask P' H') vs dsF → Q (.ref p) (upd H' p (.lst vs))) : tLc wi g tt te own σ H Q := by
  obtain ⟨ds, s1, h1, e⟩ := bd_some e
  refine hi ds s1 ok h1 _ fun J G P1 H1 ok1 st1 w g1 Dl hD => ?_
  let Wd : Nat → Hp → Prop := fun i H' => ∃ (P' : Addr → Prop) (s2 : S) (H2 : Hp) (acc : List D) (vs : List V), SOk K A hid P' s2 (wipe σ own) H2 ∧ SOk K A hid P' s2 σ H2 ∧ Stp hid P P' H H2 ∧ G P' H2 ∧ H2 Dl = none ∧ H' = upd H2 Dl (.lst vs) ∧ RpA K (mask P' H2) vs acc ∧ lcLoop own fg gt fe (ds.drop i) acc s2 = some (dsF, s')
  refine ⟨fun i n H' => n = ds.length - i ∧ i ≤ ds.length ∧ Wd i H', ⟨ds.length, by omega, Nat.zero_le _, P1, wipeS s1 own, H1, [], [], ok1.wiped own, (ok1.unwipe OutSame.refl), st1, g1, hD, rfl, .nil, e⟩, ?_⟩
  rintro i n H' ⟨rfl, hle, P', s2, H2, acc, vs, okw, ok2, st2, g2, hn, rfl, ra, e2⟩
  have nhd : ¬ hid Dl := fun z => okw.free hn (okw.hp _ z)
  by_cases hlt : i < ds.length
  · have okR : SOk K A (fun a => hid a ∨ a = Dl) (fun a => P' a ∨ a = Dl) s2 (wipe σ own) (upd H2 Dl (.lst vs)) := okw.hide hn
    have gR : G (fun a => P' a ∨ a = Dl) (upd H2 Dl (.lst vs)) := w.stay _ _ _ _ (Stp.hide (hid := hid) (o := .lst vs) hn).mg g2
    refine .inr ⟨w.goes _ i _ hlt gR, Wd (i + 1), fun H' h => ⟨ds.length - (i + 1), by omega, rfl, hlt, h⟩, fun x H3 y => ?_⟩
    obtain ⟨gr, d, hd, rx⟩ := w.yields _ i _ x H3 hlt okR.trk gR y
    rw [List.drop_eq_getElem_cons hlt] at e2
    have hd' : ds[i] = d := by rw [List.getElem?_eq_getElem hlt] at hd; exact Option.some.inj hd
    rw [hd'] at e2
    unfold lcLoop at e2
    obtain ⟨_, s4, e4, e5⟩ := bd_some e2
    have g3 : G (fun a => P' a ∨ a = Dl) H3 := w.stay _ _ _ _ (grw_mask gr) gR
    refine hg A _ _ s2 (wipe σ own) H3 x d s4 (okR.grw gr) rx e4 _ fun σ4 P4 H4 ok4 st4 o4 => ?_
    have o4' : OutSame own (wipe σ own) σ4 := o4.mono hj
    refine ⟨by rw [wipe_same o4', wipe_wipe], ?_⟩
    obtain ⟨bb, s5, e6, e7⟩ := bd_some e5
    refine ht A _ P4 s4 σ4 H4 bb s5 ok4 e6 _ fun P5 H5 ok5 st5 => ?_
    have o5 : OutSame own σ σ4 := by
      have k1 : OutSame own σ (wipe σ own) := ⟨wipe_length _ _, fun j hj => by rw [wipe_get, if_neg (fun z => hj z.1)]⟩
      exact k1.trans o4'
    have st45 : Stp (fun a => hid a ∨ a = Dl) (fun a => P' a ∨ a = Dl) P5 (upd H2 Dl (.lst vs)) H5 := ((Stp.grw gr).trans st4).trans st5
    -- back to the state without the list
    have fin : ∀ (Pn : Addr → Prop) (Hn : Hp) (sn : S) (acc' : List D) (us : List V), SOk K A (fun a => hid a ∨ a = Dl) Pn sn σ4 Hn → Stp (fun a => hid a ∨ a = Dl) (fun a => P' a ∨ a = Dl) Pn (upd H2 Dl (.lst vs)) Hn → G Pn Hn →
        RpA K (mask Pn Hn) us acc' → lcLoop own fg gt fe (ds.drop (i + 1)) acc' (wipeS sn own) = some (dsF, s') → Wd (i + 1) (upd Hn Dl (.lst us)) := by
      intro Pn Hn sn acc' us okn stn gn rus en
      have hPn : Pn Dl := okn.hp Dl (.inr rfl)
      have oku := okn.unhide nhd
      have gu := unhide_grw (H := Hn) hPn
      refine ⟨_, wipeS sn own, rmv Dl Hn, acc', us, ?_, oku.unwipe o5, st2.trans (stn.unhide hn).1, w.stay _ _ _ _ gu gn, rmv_same, upd_rmv.symm, rus.mono gu, en⟩
      have e9 : wipe σ4 own = wipe σ own := wipe_same o5
      have := oku.wiped own
      rw [e9] at this
      exact this
    have g5 : G P5 H5 := w.stay _ _ _ _ (st4.trans st5).mg g3
    cases bb with
    | true =>
      rw [if_pos rfl] at e7 ⊢
      obtain ⟨d6, s6, e8, e9⟩ := bd_some e7
      refine he A _ P5 s5 σ4 H5 d6 s6 ok5 e8 _ fun v P6 H6 ok6 st6 r6 => ?_
      have st46 := st45.trans st6
      split at e9
      · rename_i hl
        refine ⟨vs, (st46.unhide hn).2, by rw [ra.length]; exact lim_lt hl, ?_⟩
        refine fin P6 H6 s6 (acc ++ [d6]) (vs ++ [v]) ok6 st46 (w.stay _ _ _ _ st6.mg g5) ?_ e9
        have r1 : RpA K (mask (fun a => P' a ∨ a = Dl) (upd H2 Dl (.lst vs))) vs acc := ra.mono (Stp.hide (hid := hid) (o := .lst vs) hn).mg
        exact (r1.mono st46.mg).append (.cons r6 .nil)
      · cases e9
    | false =>
      rw [if_neg Bool.false_ne_true] at e7 ⊢
      have r1 : RpA K (mask (fun a => P' a ∨ a = Dl) (upd H2 Dl (.lst vs))) vs acc := ra.mono (Stp.hide (hid := hid) (o := .lst vs) hn).mg
      have hf := fin P5 H5 s5 acc vs ok5 st45 g5 (r1.mono st45.mg) e7
      have hD5 : H5 Dl = some (.lst vs) := (st45.unhide hn).2
      have e10 : upd H5 Dl (.lst vs) = H5 := by
        funext a
        by_cases ha : a = Dl
        · rw [ha, upd_same, hD5]
        · rw [upd_ne ha]
      rw [e10] at hf
      exact hf
  · have hi : i = ds.length := by omega
    subst hi
    rw [List.drop_length] at e2
    obtain ⟨rfl, rfl⟩ := rtn_some e2
    refine .inl ⟨?_, ?_⟩
    · exact w.stops _ _ (w.stay P' (fun a => P' a ∨ a = Dl) H2 _ (Stp.hide (hid := hid) (o := .lst vs) hn).mg g2)
    · exact q vs P' H2 Dl ok2 st2 hn ra
theorem en_lc {K : PySem.W.Frag} {wi : TI} {it : M (List D)} {js : List Nat} {g : TG} {fg : D → M Unit} {tt : TT} {gt : M Bool} {te : TE} {fe : M D} {own : List Nat} (hi : EvI K wi it) (hg : EvG K js g fg) (hj : ∀ i ∈ js, i ∈ own) (ht : EvT K tt gt) (he : EvE K te fe) :
    EvN K (tLc wi g tt te own) (nLc own it fg gt fe) := fun A hid P s σ H _ _ ok e Q q => lc_at (hi A hid P s σ H) hg hj ht he ok e Q q
structure DTs (X : Cx) (ifs : List Expr) (t : TT) (f : M Bool) : Prop where
  p : PTs X ifs t
  v : EvT X.K t f
theorem dts_nil {X : Cx} : DTs X [] tYes (rtn true) := ⟨pts_nil, by
  intro A hid P s σ H b s' ok h Q q
  obtain ⟨rfl, rfl⟩ := rtn_some h
  exact q P H ok Stp.refl⟩
theorem dts_one {X : Cx} {c : Expr} {t : TT} {f : M Bool} (h : DT X c t f) : DTs X [c] t f := ⟨pts_one h.p, h.v⟩
section
variable {X : Cx}
theorem dn_lc {elt tg iter : Expr} {ifs : List Expr} {scope : Scope} {own : List (Str × Nat)} {pos : Pos} {wi : TI} {g : TG} {tt : TT} {te : TE} {it : M (List D)} {js : List Nat} {fg : D → M Unit} {gt : M Bool} {fe : M D} (hc : X.calm = true) (hN : X.N.Nodup) (hi : DI X tg iter wi it) (ok : BlkOk X.N X.env.scope scope own)
    (hg : ∀ (s : Shared) (H : Hp) (C : Addr) (cl : List (Str × Addr)) (fp : List Addr), DG (X.blk s H scope (compEnvC scope cl C X.env) fp) tg js g fg) (hj : ∀ i ∈ js, i ∈ own.map (·.2)) (ht : ∀ (s : Shared) (H : Hp) (C : Addr) (cl : List (Str × Addr)) (fp : List Addr), DTs (X.blk s H scope (compEnvC scope cl C X.env) fp) ifs tt gt)
    (he : ∀ (s : Shared) (H : Hp) (C : Addr) (cl : List (Str × Addr)) (fp : List Addr), DE (X.blk s H scope (compEnvC scope cl C X.env) fp) elt te fe) (hs : ∀ x, foldedSetIterable iter X.env x = pure x := by intro _; rfl) :
    DN X (.ListComp elt [⟨tg, iter, ifs, 0⟩] scope pos) (tLc wi g tt te (own.map (·.2))) (nLc (own.map (·.2)) it fg gt fe) := by
  refine ⟨pe_lc hc hN hi.p ok (fun s H C cl fp => (hg s H C cl fp).p) (fun s H C cl fp => (ht s H C cl fp).p) (fun s H C cl fp => (he s H C cl fp).p) hs, ?_⟩
  exact en_lc hi.v (hg X.s_0 X.H_0 0 [] []).v hj (ht X.s_0 X.H_0 0 [] []).v (he X.s_0 X.H_0 0 [] []).v
end
end DL
namespace DL
open PySem PySem.Spec PyProof.Rows L2
/-! DL6: calls of the text's own defs; a def by its body. -/
abbrev FS := List Val → Dk → Option (D × Dk)
def ArgOk (K : PySem.W.Frag) (A : DA) (P : Addr → Prop) (H : Hp) (v : V) : Val → Prop
  | .dat d => Rp K (mask P H) v d
  | .deck => v = .ref A.o
  | .obj o => ∃ y, A.x = some y ∧ v = .ref y.p ∧ ObOk K y A P H o
  | .gst ds => ∃ l vs, A.gs = some l ∧ v = .ref l ∧ H l = some (.lst vs) ∧ RpA K (mask P H) vs ds ∧ l ≠ A.o ∧ l ≠ A.g ∧ l ≠ A.c ∧ ∀ y, A.x = some y → l ∉ y.ls
  | _ => False
def ArgsOk (K : PySem.W.Frag) (A : DA) (P : Addr → Prop) (H : Hp) : List V → List Val → Prop
  | [], [] => True
  | v :: vs, x :: xs => ArgOk K A P H v x ∧ ArgsOk K A P H vs xs
  | _, _ => False
theorem ArgsOk.length {K : PySem.W.Frag} {A : DA} {P : Addr → Prop} {H : Hp} : ∀ {vs : List V} {xs : List Val}, ArgsOk K A P H vs xs → vs.length = xs.length
  | [], [], _ => rfl
  | _ :: _, _ :: _, h => by simp [ArgsOk.length h.2]
  | [], _ :: _, h => h.elim
  | _ :: _, [], h => h.elim
theorem ArgsOk.get {K : PySem.W.Frag} {A : DA} {P : Addr → Prop} {H : Hp} : ∀ {vs : List V} {xs : List Val} {i : Nat} {x : Val}, ArgsOk K A P H vs xs → xs[i]? = some x → ∃ v, vs[i]? = some v ∧ ArgOk K A P H v x
  | [], [], _, _, _, e => by simp at e
  | v :: _, _ :: _, 0, _, h, e => by simp at e; subst e; exact ⟨v, rfl, h.1⟩
  | _ :: vs, _ :: xs, i + 1, x, h, e => by
    obtain ⟨v, h1, h2⟩ := ArgsOk.get (i := i) h.2 (by simpa using e)
    exact ⟨v, by simpa using h1, h2⟩
  | [], _ :: _, _, _, h, _ => h.elim
  | _ :: _, [], _, _, h, _ => h.elim
/-- a def's promise by a pure function -/
def spD (K : PySem.W.Frag) (sem : FS) : Sp := fun vs H Q _ => ∃ (A : DA) (P : Addr → Prop) (xs : List Val) (k : Dk) (d : D) (k' : Dk), A.x = none ∧ Trk P H ∧ DkOk K A P H k ∧ ArgsOk K A P H vs xs ∧ sem xs k = some (d, k') ∧
  ∀ v H', (∀ a o, H a = some o → ¬ A.is a → H' a = some o) → DkOk K A P H' k' → Rp K (mask P H') v d → Q v H'
def semOf (np n : Nat) (m : M Fl) : FS := fun xs k => if xs.length = np then (match m ⟨xs.map some ++ List.replicate (n - xs.length) none, k⟩ with
  | some (.rt d, s') => some (d, s'.k)
  | some (.nx, s') => some (.none, s'.k)
  | _ => none) else none
section
variable {P : Program} {w : World} {K : PySem.W.Frag} {mg : Str → Option Value} {base : Heap}
theorem sok_start {A : DA} {R : Addr → Prop} {H : Hp} {vs : List V} {xs : List Val} {k : Dk} {N : List Str} (t : Trk R H) (dk : DkOk K A R H k) (ar : ArgsOk K A R H vs xs) :
    SOk K A (fun a => R a ∧ ¬ A.is a) R ⟨xs.map some ++ List.replicate (N.length - xs.length) none, k⟩ (L2.start N vs) H := by
  have hl := ar.length
  have hs : ∀ (i : Nat) (v : Val), (xs.map some ++ List.replicate (N.length - xs.length) none)[i]? = some (some v) → xs[i]? = some v := fun i v e => by
    by_cases h : i < xs.length
    · rw [List.getElem?_append_left (by simpa using h), List.getElem?_map] at e
      cases q : xs[i]? with
      | none => rw [q] at e; cases e
      | some x => rw [q] at e; cases e; rfl
    · rw [List.getElem?_append_right (by simpa using h), List.getElem?_replicate] at e
      split at e <;> cases e
  have hv : ∀ (i : Nat) (v : V), vs[i]? = some v → (L2.start N vs)[i]? = some (some v) := fun i v e => by
    have h : i < vs.length := (List.getElem?_eq_some_iff.mp e).1
    unfold L2.start
    rw [List.getElem?_append_left (by simpa using h), List.getElem?_map, e]; rfl
  refine ⟨t, fun a z => z.1, fun a z => z.2, ?_, fun i v e => ?_, fun i j v u a e1 e2 c1 c2 _ _ => ?_, dk⟩
  · unfold L2.start
    simp only [List.length_append, List.length_map, List.length_replicate]
    omega
  · obtain ⟨x, h1, h2⟩ := ar.get (hs i v e)
    have h3 := hv i x h1
    cases v with
    | dat d => exact ⟨x, h3, h2⟩
    | deck => show (L2.start N vs)[i]? = _; rw [h3]; cases h2; rfl
    | obj o =>
      obtain ⟨y, z1, z2, z3⟩ := h2
      subst z2
      exact ⟨y, z1, h3, z3⟩
    | fn _ => exact h2.elim
    | gst es =>
      obtain ⟨b, us, z1, z2, z3⟩ := h2
      subst z2
      exact ⟨b, us, z1, h3, z3⟩
    | lst _ => exact h2.elim
    | dct _ _ => exact h2.elim
  · obtain ⟨x, h1, h2⟩ := ar.get (hs i v e1)
    cases v with
    | dat d => cases c1
    | deck => cases c1
    | obj o => cases c1
    | fn _ => cases c1
    | gst _ => cases c1
    | lst _ => exact h2.elim
    | dct _ _ => exact h2.elim
theorem fnD_of {x qual : Str} {st : Stmt} {f : Addr} {fd : FuncData} {N ps : List Str} {k : Nat} {m : M Fl} (F : Fun K x qual st f fd) (Sc : FnScope N ps (defScope st))
    (body : ∀ (cdv : Value) (A : Around) (outer : List Env) (s : Shared) (H : Hp) (E : XK), Room k (A.deeper (envOfC qual (defScope st) s.heap.objs.size f cdv)) →
      ∃ t, DSs (cxOf CX0 P w K mg base N qual (defScope st) f cdv A outer s H E).nox (defBody st) t m) : FnOk P w K mg base CX0 (k + 1) f fd ps (spD K (semOf ps.length N.length m)) := by
  refine F.ok Sc (fun vs H Q E h => ?_) (fun cdv A outer s H vs Q E hr h => ?_)
  · obtain ⟨A, R, xs, k, d, k', _, t, dk, ar, e, _⟩ := h
    unfold semOf at e
    split at e
    · rename_i hl; rw [ar.length]; exact hl
    · cases e
  · obtain ⟨A0, R, xs, k0, d, k', _, t, dk, ar, e, q⟩ := h
    obtain ⟨tt, hD⟩ := body cdv A outer s H E hr
    refine ⟨tt, hD.p, ?_⟩
    unfold semOf at e
    split at e
    · have ok := sok_start (N := N) t dk ar
      have done : ∀ (P' : Addr → Prop) (H' : Hp) (s' : S) (σ' : St), SOk K A0 (fun a => R a ∧ ¬ A0.is a) P' s' σ' H' → Stp (fun a => R a ∧ ¬ A0.is a) R P' H H' →
          (∀ a o, H a = some o → ¬ A0.is a → H' a = some o) ∧ DkOk K A0 R H' s'.k ∧ Grw (mask P' H') (mask R H') := fun P' H' s' σ' ok' st' => by
        refine ⟨fun a o ha na => st'.keep a o ha ?_, ⟨ok'.deck.ho, ok'.deck.hg, ok'.deck.hc, dk.rs, dk.og, dk.oc, dk.gc, ok'.deck.tb, ok'.deck.tk⟩, mask_grw fun a o ha na => ⟨fun z => na ?_, ha⟩⟩
        · by_cases hR : R a
          · exact .inl ⟨hR, na⟩
          · exact .inr hR
        · by_cases hA : A0.is a
          · exact ok'.deck.rs a hA
          · exact ok'.hp a ⟨z, hA⟩
      cases hm : m ⟨xs.map some ++ List.replicate (N.length - xs.length) none, k0⟩ with
      | none => rw [hm] at e; cases e
      | some r =>
        obtain ⟨fl, s'⟩ := r
        rw [hm] at e
        refine hD.v A0 _ R _ _ H fl s' ok hm _ ?_
        cases fl with
        | nx =>
          cases e
          intro σ' P' H' ok' st'
          obtain ⟨h1, h2, _⟩ := done P' H' s' σ' ok' st'
          exact q .non H' h1 h2 .non
        | rt d2 =>
          cases e
          intro v σ' P' H' ok' st' r
          obtain ⟨h1, h2, h3⟩ := done P' H' s' σ' ok' st'
          exact q v H' h1 h2 (r.mono h3)
        | bk => cases e
        | ct => cases e
    · cases e
end
/-! ### argument lists of such calls -/
inductive AV where
  | dat (d : D) | deck | bor (i : Nat)
/-- a borrowed slot's addresses are seen -/
def Pb (P : Addr → Prop) (σ : St) (B : List Nat) : Addr → Prop := fun a => P a ∧ ∀ i ∈ B, σ[i]? ≠ some (some (.ref a))
def AVOk (K : PySem.W.Frag) (A : DA) (P : Addr → Prop) (σ : St) (B : List Nat) (H : Hp) (v : V) : AV → Prop
  | .dat d => Rp K (mask P H) v d
  | .deck => v = .ref A.o
  | .bor i => σ[i]? = some (some v) ∧ i ∈ B
def AVsOk (K : PySem.W.Frag) (A : DA) (P : Addr → Prop) (σ : St) (B : List Nat) (H : Hp) : List V → List AV → Prop
  | [], [] => True
  | v :: vs, x :: xs => AVOk K A P σ B H v x ∧ AVsOk K A P σ B H vs xs
  | _, _ => False
def EvV (K : PySem.W.Frag) (B : List Nat) (t : TA) (f : M (List AV)) : Prop := ∀ (A : DA) (hid P : Addr → Prop) (s : S) (σ : St) (H : Hp) (xs : List AV) (s' : S), SOk K A hid P s σ H → f s = some (xs, s') →
  ∀ Q : List V → Hp → Prop, (∀ vs P' H', SOk K A hid P' s' σ H' → Stp hid P P' H H' → AVsOk K A P' σ B H' vs xs → Q vs H') → t σ H Q
structure DV (X : Cx) (es : List Expr) (B : List Nat) (t : TA) (f : M (List AV)) : Prop where
  p : PA X es t
  v : EvV X.K B t f
section
variable {X : Cx} {K : PySem.W.Frag} {B : List Nat} {e : Expr} {es : List Expr} {te : TE} {f : M D} {tr : TA} {fr : M (List AV)} {pos : Pos}
def vNil : M (List AV) := rtn []
def vDat (f : M D) (fr : M (List AV)) : M (List AV) := bd f fun x => bd fr fun xs => rtn (.dat x :: xs)
def vDeck (i : Nat) (fr : M (List AV)) : M (List AV) := fun s => match s.g[i]? with
  | some (some .deck) => (bd fr fun xs => rtn (.deck :: xs)) s
  | _ => none
def vBor (i : Nat) (fr : M (List AV)) : M (List AV) := fun s => match s.g[i]? with
  | some (some (.lst _)) => (bd fr fun xs => rtn (.bor i :: xs)) s
  | some (some (.dct _ _)) => (bd fr fun xs => rtn (.bor i :: xs)) s
  | _ => none
theorem ev_vnil : EvV K B tNil vNil := by
  intro A hid P s σ H ds s' ok h Q q
  obtain ⟨rfl, rfl⟩ := rtn_some h
  exact q [] P H ok Stp.refl True.intro
theorem ev_vdat (ha : EvE K te f) (hr : EvV K B tr fr) : EvV K B (tCons te tr) (vDat f fr) := by
  intro A hid P s σ H ds s' ok h Q q
  obtain ⟨x, s1, h1, h⟩ := bd_some h
  obtain ⟨xs, s2, h2, h⟩ := bd_some h
  obtain ⟨rfl, rfl⟩ := rtn_some h
  refine ha A hid P s σ H x s1 ok h1 _ fun v P1 H1 ok1 st1 r1 => ?_
  refine hr A hid P1 s1 σ H1 xs _ ok1 h2 _ fun vs P2 H2 ok2 st2 r2 => ?_
  exact q (v :: vs) P2 H2 ok2 (st1.trans st2) ⟨st2.rp r1, r2⟩
theorem ev_vdeck {i : Nat} (hr : EvV K B tr fr) : EvV K B (tCons (tVar i) tr) (vDeck i fr) := by
  intro A hid P s σ H ds s' ok h Q q
  unfold vDeck at h
  split at h
  · rename_i hi
    obtain ⟨xs, s2, h2, h⟩ := bd_some h
    obtain ⟨rfl, rfl⟩ := rtn_some h
    have e : σ[i]? = some (some (.ref A.o)) := ok.slot i _ hi
    refine ⟨_, e, hr A hid P s σ H xs _ ok h2 _ fun vs P2 H2 ok2 st2 r2 => ?_⟩
    exact q (_ :: vs) P2 H2 ok2 st2 ⟨rfl, r2⟩
  · cases h
theorem ev_vbor {i : Nat} (hB : i ∈ B) (hr : EvV K B tr fr) : EvV K B (tCons (tVar i) tr) (vBor i fr) := by
  intro A hid P s σ H ds s' ok h Q q
  unfold vBor at h
  split at h
  · rename_i hi
    obtain ⟨xs, s2, h2, h⟩ := bd_some h
    obtain ⟨rfl, rfl⟩ := rtn_some h
    obtain ⟨a, vs, e, _⟩ := ok.slot i _ hi
    refine ⟨_, e, hr A hid P s σ H xs _ ok h2 _ fun vs P2 H2 ok2 st2 r2 => ?_⟩
    exact q (_ :: vs) P2 H2 ok2 st2 ⟨⟨e, hB⟩, r2⟩
  · rename_i hi
    obtain ⟨xs, s2, h2, h⟩ := bd_some h
    obtain ⟨rfl, rfl⟩ := rtn_some h
    obtain ⟨a, e, _⟩ := ok.slot i _ hi
    refine ⟨_, e, hr A hid P s σ H xs _ ok h2 _ fun vs P2 H2 ok2 st2 r2 => ?_⟩
    exact q (_ :: vs) P2 H2 ok2 st2 ⟨⟨e, hB⟩, r2⟩
  · cases h
theorem dv_nil : DV X [] B tNil vNil := ⟨pa_nil, ev_vnil⟩
theorem dv_dat (ha : DE X e te f) (hr : DV X es B tr fr) (hs : starEach (e :: es) X.env = (false, eval e X.env) :: starEach es X.env := by rfl) : DV X (e :: es) B (tCons te tr) (vDat f fr) := ⟨pa_cons ha.p hr.p hs, ev_vdat ha.v hr.v⟩
theorem dv_deck (i : Nat) {x : Str} {p : Pos} (hr : DV X es B tr fr) (hN : X.N[i]? = some x := by rfl) (hv : Vis X.env.scope x := by first | exact Or.inl rfl | exact Or.inr (Or.inl rfl) | exact Or.inr (Or.inr rfl)) (hd : (x == ("__debug__" : Str)) = false := by decide)
    (hcd : (x == ("__classdict__" : Str)) = false := by decide) (hs : starEach (.Name x p :: es) X.env = (false, eval (.Name x p) X.env) :: starEach es X.env := by rfl) : DV X (.Name x p :: es) B (tCons (tVar i) tr) (vDeck i fr) := ⟨pa_cons (pe_var hN hv hd hcd) hr.p hs, ev_vdeck hr.v⟩
theorem dv_bor (i : Nat) {x : Str} {p : Pos} (hB : i ∈ B) (hr : DV X es B tr fr) (hN : X.N[i]? = some x := by rfl) (hv : Vis X.env.scope x := by first | exact Or.inl rfl | exact Or.inr (Or.inl rfl) | exact Or.inr (Or.inr rfl)) (hd : (x == ("__debug__" : Str)) = false := by decide)
    (hcd : (x == ("__classdict__" : Str)) = false := by decide) (hs : starEach (.Name x p :: es) X.env = (false, eval (.Name x p) X.env) :: starEach es X.env := by rfl) : DV X (.Name x p :: es) B (tCons (tVar i) tr) (vBor i fr) := ⟨pa_cons (pe_var hN hv hd hcd) hr.p hs, ev_vbor hB hr.v⟩
end
def resB (x : Option (Option Val)) : Option Val := match x with
  | some (some (.lst ds)) => some (.dat (.list ds))
  | some (some (.dct _ ds)) => some (.dat (.dict ds))
  | _ => none
def res (s : S) : AV → Option Val
  | .dat d => some (.dat d)
  | .deck => some .deck
  | .bor i => resB s.g[i]?
mutual
def noMut : D → Bool
  | .list _ => false
  | .dict [(.none, .tuple xs)] => noMutA xs
  | .dict _ => false
  | .tuple xs => noMutA xs
  | _ => true
def noMutA : List D → Bool
  | [] => true
  | x :: r => noMut x && noMutA r
end
/-- a tuple's record -/
def TupO : HO → Prop
  | .tup _ => True
  | .frz _ (.tup _) => True
  | _ => False
theorem noMut_dict {ds : List (D × D)} (h : noMut (.dict ds) = true) : isP ds = true := by
  unfold noMut at h
  split at h
  · cases ‹PyData.dict ds = _›
  · cases ‹PyData.dict ds = _›; rfl
  · cases h
  · cases ‹PyData.dict ds = _›
  · rename_i h1 h2 h3
    exact absurd rfl (h2 ds)
mutual
theorem Rp.tupsOnly {K : PySem.W.Frag} {H H' : Hp} (h : ∀ a o, TupO o → H a = some o → H' a = some o) : ∀ {v : V} {d : D}, Rp K H v d → noMut d = true → Rp K H' v d
  | _, _, .non, _ => .non
  | _, _, .bl b, _ => .bl b
  | _, _, .int i, _ => .int i
  | _, _, .str x, _ => .str x
  | _, _, .lst _ _, e => by simp [noMut] at e
  | _, _, .tup q r, e => .tup (h _ _ trivial q) (RpA.tupsOnly h r (by simpa [noMut] using e))
  | _, _, .dK _ r, e => by have z := noMut_dict e; rw [r.notP] at z; cases z
  | _, _, .dT _ r, e => by have z := noMut_dict e; rw [r.notP] at z; cases z
  | _, _, .pl q n r, e => .pl (h _ _ trivial q) n (RpA.tupsOnly h r (by simpa [noMut] using e))
theorem RpA.tupsOnly {K : PySem.W.Frag} {H H' : Hp} (h : ∀ a o, TupO o → H a = some o → H' a = some o) : ∀ {v : List V} {d : List D}, RpA K H v d → noMutA d = true → RpA K H' v d
  | _, _, .nil, _ => .nil
  | _, _, .cons a b, e => by
    rw [noMutA, Bool.and_eq_true] at e
    exact .cons (Rp.tupsOnly h a e.1) (RpA.tupsOnly h b e.2)
end
section
variable {X : Cx} {K : PySem.W.Frag} {B : List Nat}
theorem avs_args {A : DA} {hid P : Addr → Prop} {s : S} {σ : St} {H : Hp} (ok : SOk K A hid P s σ H) : ∀ {vs : List V} {avs : List AV} {xs : List Val}, AVsOk K A P σ B H vs avs → avs.mapM (res s) = some xs → ArgsOk K A.no (Pb P σ B) H vs xs
  | [], [], xs, _, e => by cases e; exact True.intro
  | v :: vs, x :: avs, xs, h, e => by
    rw [List.mapM_cons] at e
    cases e1 : res s x with
    | none => rw [e1] at e; cases e
    | some y =>
      rw [e1] at e
      cases e2 : avs.mapM (res s) with
      | none => rw [e2] at e; cases e
      | some ys =>
        rw [e2] at e; cases e
        refine ⟨?_, avs_args ok h.2 e2⟩
        have g : Grw (mask P H) (mask (Pb P σ B) H) := mask_grw fun a o ha na => ⟨fun z => na z.1, ha⟩
        have h1 := h.1
        cases x with
        | dat d => cases e1; exact Rp.mono g h1
        | deck => cases e1; exact h1
        | bor i =>
          obtain ⟨ei, iB⟩ := h1
          have e1 : resB s.g[i]? = some y := e1
          unfold resB at e1
          split at e1
          · cases e1
            rename_i hi
            obtain ⟨a, us, e5, k1, k2, k3, k4, rr⟩ := ok.slot i _ hi
            rw [ei] at e5; cases e5
            exact .lst (mask_some.mpr ⟨fun z => z.2 i iB ei, k1⟩) (rr.mono g)
          · cases e1
            rename_i hi
            obtain ⟨a, e5, k2, k3, k4, rr⟩ := ok.slot i _ hi
            rw [ei] at e5; cases e5
            rcases rr with ⟨ht, ks, k1, rr⟩ | ⟨ht, ks, k1, rr⟩
            · exact .dK (.inl (mask_some.mpr ⟨fun z => z.2 i iB ei, k1⟩)) (rr.mono g)
            · exact .dT (.inl (mask_some.mpr ⟨fun z => z.2 i iB ei, k1⟩)) (rr.mono g)
          · cases e1
  | [], _ :: _, _, h, _ => h.elim
  | _ :: _, [], _, h, _ => h.elim
/-- behind a call -/
theorem sok_after {A : DA} {hid P : Addr → Prop} {s : S} {σ : St} {H H' : Hp} {k' : Dk} {R : Addr → Prop} (ok : SOk K A hid P s σ H) (hk : ∀ a o, H a = some o → ¬ A.no.is a → H' a = some o) (dk : DkOk K A.no R H' k') :
    SOk K A hid P { s with k := k' } σ H' ∧ Stp hid P P H H' := by
  have nA : ∀ a, ¬ P a → ¬ A.no.is a := fun a n z => n (ok.deck.rs a (DA.no_is z))
  have g : Grw (mask P H) (mask P H') := mask_grw fun a o e c => ⟨c, hk a o e (nA a c)⟩
  refine ⟨⟨fun a z => ?_, ok.hp, ok.hd, ok.len, fun i v e => ?_, ok.apart, ⟨dk.ho, dk.hg, dk.hc, ok.deck.rs, dk.og, dk.oc, dk.gc, dk.tb, ok.deck.tk⟩⟩, ⟨fun a o e c => hk a o e ?_, fun _ _ _ c => c⟩⟩
  · by_cases hA : A.no.is a
    · rcases hA with rfl | rfl | rfl | ⟨_, z, _⟩ | ⟨p, hp, rfl⟩ | z
      · exact ⟨_, dk.ho, trivial⟩
      · exact ⟨_, dk.hg, trivial⟩
      · exact ⟨_, dk.hc, trivial⟩
      · cases z
      · obtain ⟨ps, e, _⟩ := dk.tb p hp
        exact ⟨_, e, trivial⟩
      · cases z
    · obtain ⟨o, e, n⟩ := ok.trk a z
      exact ⟨o, hk a o e hA, n⟩
  · have q := ok.slot i v e
    cases v with
    | dat d => obtain ⟨u, e5, r⟩ := q; exact ⟨u, e5, r.mono g⟩
    | deck => exact q
    | obj o =>
      obtain ⟨y, h1, h2, fs, h3, h4, h5, h6, h7, h8, h9⟩ := q
      refine ⟨y, h1, h2, ObOk.move ⟨fs, h3, h4, h5, h6, h7, h8, h9⟩ g fun b hb u e => hk b u e fun z => ?_⟩
      rcases z with z | z | z | ⟨_, z, _⟩ | ⟨p, hp, z⟩ | z
      · rcases hb with hb | hb | hb
        · exact ne_of h3 ok.deck.ho (fun w => nomatch w) (hb.symm.trans z)
        · exact ne_of h4 ok.deck.ho (fun w => nomatch w) (hb.symm.trans z)
        · exact (h8 b hb).1 z
      · rcases hb with hb | hb | hb
        · exact ne_of h3 ok.deck.hg (fun w => nomatch w) (hb.symm.trans z)
        · exact ne_of h4 ok.deck.hg (fun w => nomatch w) (hb.symm.trans z)
        · exact (h8 b hb).2.1 z
      · rcases hb with hb | hb | hb
        · exact ne_of h3 ok.deck.hc (fun w => nomatch w) (hb.symm.trans z)
        · exact ne_of h4 ok.deck.hc (fun w => nomatch w) (hb.symm.trans z)
        · exact (h8 b hb).2.2 z
      · cases z
      · obtain ⟨ps, et, _⟩ := ok.deck.tb p hp
        have ob := ObOk.thereL ⟨fs, h3, h4, h5, h6, h7, h8, h9⟩ b hb
        rw [z, et] at ob
        obtain ⟨w, ew, _, nw⟩ := ob
        cases ew
        exact nw _ rfl
      · cases z
    | fn _ => exact q
    | gst es =>
      obtain ⟨b, us, z1, z2, z3, z4, z5, z6, z7, z8⟩ := q
      refine ⟨b, us, z1, z2, hk b _ z3 fun z => ?_, z4.mono g, z5, z6, z7, z8⟩
      rcases z with z | z | z | ⟨_, z, _⟩ | ⟨p, hp, z⟩ | z
      · exact z5 z
      · exact z6 z
      · exact z7 z
      · cases z
      · obtain ⟨ps, et, _⟩ := ok.deck.tb p hp
        rw [z, et] at z3; cases z3
      · cases z
    | lst ds => obtain ⟨a, vs, e5, h1, h2, h3, h4, rr⟩ := q; exact ⟨a, vs, e5, hk _ _ h1 (fun z => h4 (DA.no_is z)), h2, h3, h4, rr.mono g⟩
    | dct tt ds =>
      obtain ⟨a, e5, h2, h3, h4, rr⟩ := q
      refine ⟨a, e5, h2, h3, h4, ?_⟩
      rcases rr with ⟨ht, ks, h1, rr⟩ | ⟨ht, ks, h1, rr⟩
      · exact .inl ⟨ht, ks, hk _ _ h1 (fun z => h4 (DA.no_is z)), rr.mono g⟩
      · exact .inr ⟨ht, ks, hk _ _ h1 (fun z => h4 (DA.no_is z)), rr.mono g⟩
  · rcases c with c | c
    · exact fun z => ok.hd a c (DA.no_is z)
    · exact nA a c
theorem sq_cell {A : DA} {hid P : Addr → Prop} {s : S} {σ : St} {H : Hp} (ok : SOk K A hid P s σ H) (hB : ∀ i ∈ B, ∃ v, s.g[i]? = some (some v) ∧ isCell v = true) {a : Addr} {o : HO} (to : TupO o) (h : mask (Pb P σ B) H a = some o) : mask P H a = some o := by
  have key : ∀ o, mask (Pb P σ B) H a = some o → (∀ vs, o ≠ .lst vs) → (∀ ks, o ≠ .dK ks) → (∀ ks, o ≠ .dT ks) → mask P H a = some o := by
    intro o e n1 n2 n3
    obtain ⟨h1, h2⟩ := mask_some.mp e
    refine mask_some.mpr ⟨fun z => h1 ⟨z, fun i iB ei => ?_⟩, h2⟩
    obtain ⟨v, hv, c⟩ := hB i iB
    have q := ok.slot i v hv
    cases v with
    | dat d => cases c
    | deck => cases c
    | lst ds =>
      obtain ⟨b, us, e5, k1, _⟩ := q
      rw [ei] at e5; cases e5
      rw [h2] at k1; cases k1
      exact n1 _ rfl
    | obj o => cases c
    | fn _ => cases c
    | gst _ => cases c
    | dct tt ds =>
      obtain ⟨b, e5, _, _, _, rr⟩ := q
      rw [ei] at e5; cases e5
      rcases rr with ⟨_, ks, k1, _⟩ | ⟨_, ks, k1, _⟩
      · rw [h2] at k1; cases k1; exact n2 _ rfl
      · rw [h2] at k1; cases k1; exact n3 _ rfl
  exact key _ h (fun _ z => by subst z; exact to) (fun _ z => by subst z; exact to) (fun _ z => by subst z; exact to)
/-- the borrowed slots are cells -/
def BorOk (B : List Nat) (s : S) : Prop := ∀ i ∈ B, ∃ v, s.g[i]? = some (some v) ∧ isCell v = true
def cellsB (B : List Nat) (s : S) : Bool := B.all fun i => match s.g[i]? with
  | some (some v) => isCell v
  | _ => false
theorem cellsB_ok {s : S} (h : cellsB B s = true) : BorOk B s := fun i hi => by
  unfold cellsB at h
  have := List.all_eq_true.mp h i hi
  split at this
  · rename_i v e; exact ⟨v, e, this⟩
  · cases this
def eCallB (B : List Nat) (sem : FS) (fr : M (List AV)) : M D := bd fr fun avs => fun s => if cellsB B s = true then (match avs.mapM (res s) with
  | some xs => match sem xs s.k with
    | some (d, k') => if (B.isEmpty || noMut d) = true then some (d, { s with k := k' }) else none
    | none => none
  | none => none) else none
theorem ev_call {tr : TA} {fr : M (List AV)} {sem : FS} (h : EvV K B tr fr) : EvE K (tCall (spD K sem) [] E0 tr) (eCallB B sem fr) := by
  intro A hid P s σ H d s' ok e Q q
  obtain ⟨avs, s1, h1, e⟩ := bd_some e
  split at e
  · rename_i hc
    split at e
    · rename_i xs hx
      split at e
      · rename_i d' k' hs
        split at e
        · rename_i hm
          cases e
          refine h A hid P s σ H avs s1 ok h1 _ fun vs P1 H1 ok1 st1 r1 => ?_
          have ar := avs_args ok1 r1 hx
          show spD K sem (vs ++ []) H1 Q E0
          rw [List.append_nil]
          have hB := cellsB_ok hc
          have nB0 : ∀ a, A.is a → Pb P1 σ B a := fun a z => ⟨ok1.deck.rs a z, fun i iB ei => by
            obtain ⟨v, hv, c⟩ := hB i iB
            have qq := ok1.slot i v hv
            cases v with
            | dat d => cases c
            | deck => cases c
            | obj o => cases c
            | fn _ => cases c
            | gst _ => cases c
            | lst ds => obtain ⟨b, us, e5, _, _, _, k4, _⟩ := qq; rw [ei] at e5; cases e5; exact k4 z
            | dct tt ds => obtain ⟨b, e5, _, _, k4, _⟩ := qq; rw [ei] at e5; cases e5; exact k4 z⟩
          have nB : ∀ a, A.no.is a → Pb P1 σ B a := fun a z => nB0 a (DA.no_is z)
          refine ⟨A.no, Pb P1 σ B, xs, s1.k, d, k', rfl, fun a z => ok1.trk a z.1, ⟨ok1.deck.ho, ok1.deck.hg, ok1.deck.hc, nB, ok1.deck.og, ok1.deck.oc, ok1.deck.gc, ok1.deck.tb, ok1.deck.tk⟩, ar, hs, fun v H' hk dk r => ?_⟩
          obtain ⟨ok2, st2⟩ := sok_after ok1 hk dk
          refine q v P1 H' ok2 (st1.trans st2) ?_
          rw [Bool.or_eq_true] at hm
          rcases hm with hm | hm
          · have hB0 : B = [] := by simpa using hm
            subst hB0
            exact r.mono (mask_grw fun a o ha na => ⟨fun z => na ⟨z, fun i iB => by simp at iB⟩, ha⟩)
          · exact r.tupsOnly (fun a xs to hq => sq_cell ok2 hB to hq) hm
        · cases e
      · cases e
    · cases e
  · cases e
end
/-! ### the defs of the text, as one fact -/
def permL {α : Type} (pm : List Nat) (l : List α) : List α := pm.filterMap fun i => l[i]?
/-- keywords alone, as many as there are parameters, put in their order -/
def gK {α : Type} (pm : List Nat) (us ws : List α) : List α := if us.length = 0 ∧ ws.length = pm.length then permL pm ws else []
theorem vals_get {vs : List V} {us : List Value} (h : Vals vs us) (i : Nat) : (vs[i]? = none ∧ us[i]? = none) ∨ ∃ v u, vs[i]? = some v ∧ us[i]? = some u ∧ RelV v u := by
  induction h generalizing i with
  | nil => exact .inl ⟨by simp, by simp⟩
  | cons r _ ih =>
    cases i with
    | zero => exact .inr ⟨_, _, rfl, rfl, r⟩
    | succ n => simpa using ih n
theorem vals_perm {vs : List V} {us : List Value} (h : Vals vs us) : ∀ pm : List Nat, Vals (permL pm vs) (permL pm us)
  | [] => .nil
  | i :: pm => by
    have ih := vals_perm h pm
    unfold permL at ih ⊢
    rw [List.filterMap_cons, List.filterMap_cons]
    rcases vals_get h i with ⟨h1, h2⟩ | ⟨v, u, h1, h2, r⟩
    · rw [h1, h2]; exact ih
    · rw [h1, h2]; exact .cons r ih
theorem kbinds_of {K : PySem.W.Frag} {fd : FuncData} {ps ks : List Str} {pm : List Nat} (hp : ps ≠ []) (h : ∀ ws : List Value, ws.length = pm.length → bindArgs fd ⟨[], ks.zip ws⟩ = pure (ps.zip (permL pm ws))) : KBinds K fd ps ks (gK pm) (gK pm) := by
  refine ⟨fun s us ws _ hl => ?_, fun {vs us zs ws} r r2 => ?_⟩
  · unfold gK at hl ⊢
    split at hl
    · rename_i hc
      rw [if_pos hc]
      have : us = [] := List.length_eq_zero_iff.mp hc.1
      subst this
      exact .of_eq (h ws hc.2)
    · exact absurd (List.length_eq_zero_iff.mp hl.symm) hp
  · unfold gK
    rw [r.length, r2.length]
    split
    · exact vals_perm r2 pm
    · exact .nil
structure FnD (P : Program) (w : World) (K : PySem.W.Frag) (mg : Str → Option Value) (base : Heap) (k : Nat) (x : Str) (ps : List Str) (kws : List (List Str × List Nat)) (sem : FS) : Prop where
  ex : ∃ (f : Addr) (fd : FuncData), FnOk P w K mg base CX0 k f fd ps (spD K sem) ∧ mg x = some (.ref f) ∧ PySem.W.keepIn K (.ref f) = true ∧ Binds K fd ps [] ∧
    ∀ q ∈ kws, KBinds K fd ps q.1 (gK q.2) (gK q.2)
section
variable {X : Cx} {B : List Nat} {x : Str} {p pos : Pos} {e : Expr} {es : List Expr} {tr : TA} {fr : M (List AV)} {k : Nat} {ps : List Str} {kws : List (List Str × List Nat)} {sem : FS}
theorem de_call (F : FnD X.prog X.w X.K X.mg X.base k x ps kws sem) (hr : Room k X.A) (hg : Gl X x) (ha : DV X (e :: es) B tr fr) (hdb : (x == ("__debug__" : Str)) = false := by decide) (he : starEach (e :: es) X.env = (false, eval e X.env) :: starEach es X.env := by rfl)
    (hpl : (backTo pos (starEach es X.env)).any (·.1) = false := by rfl) : DE X (.Call (.Name x p) (e :: es) [] pos) (tCall (spD X.K sem) [] E0 tr) (eCallB B sem fr) := by
  obtain ⟨f, fd, F1, hm, hk, hb, _⟩ := F.ex
  exact ⟨pe_call F1 hr hg hm hk hb .nil pass0 ha.p hdb he hpl, ev_call ha.v⟩
/-! keywords alone -/
structure DVK (X : Cx) (kw : List Keyword) (B : List Nat) (t : TA) (f : M (List AV)) : Prop where
  p : PK X kw t
  v : EvV X.K B t f
theorem dk_nil : DVK X [] B tNil vNil := ⟨pk_nil, ev_vnil⟩
theorem dk_dat {nm : Option Str} {kpos : Pos} {kw : List Keyword} {te : TE} {f : M D} (ha : DE X e te f) (hr : DVK X kw B tr fr) : DVK X (⟨nm, e, kpos⟩ :: kw) B (tCons te tr) (vDat f fr) := ⟨pk_cons ha.p hr.p, ev_vdat ha.v hr.v⟩
def vPerm (pm : List Nat) (fr : M (List AV)) : M (List AV) := bd fr fun xs => if xs.length = pm.length ∧ (pm.all fun i => decide (i < xs.length)) = true then rtn (permL pm xs) else fun _ => none
theorem AVsOk.get {K : PySem.W.Frag} {A : DA} {P : Addr → Prop} {σ : St} {H : Hp} : ∀ {vs : List V} {xs : List AV} (i : Nat), AVsOk K A P σ B H vs xs → i < xs.length → ∃ v a, vs[i]? = some v ∧ xs[i]? = some a ∧ AVOk K A P σ B H v a
  | [], [], _, _, e => by simp at e
  | v :: _, x :: _, 0, h, e => ⟨v, x, rfl, rfl, h.1⟩
  | _ :: vs, _ :: xs, i + 1, h, e => by
    obtain ⟨v, a, h1, h2, h3⟩ := AVsOk.get i h.2 (by simpa using e)
    exact ⟨v, a, by simpa using h1, by simpa using h2, h3⟩
  | [], _ :: _, _, h, _ => h.elim
  | _ :: _, [], _, h, _ => h.elim
theorem AVsOk.length {K : PySem.W.Frag} {A : DA} {P : Addr → Prop} {σ : St} {H : Hp} : ∀ {vs : List V} {xs : List AV}, AVsOk K A P σ B H vs xs → vs.length = xs.length
  | [], [], _ => rfl
  | _ :: _, _ :: _, h => by simp [AVsOk.length h.2]
  | [], _ :: _, h => h.elim
  | _ :: _, [], h => h.elim
theorem AVsOk.perm {K : PySem.W.Frag} {A : DA} {P : Addr → Prop} {σ : St} {H : Hp} {vs : List V} {xs : List AV} (h : AVsOk K A P σ B H vs xs) : ∀ pm : List Nat, (pm.all fun i => decide (i < xs.length)) = true → AVsOk K A P σ B H (permL pm vs) (permL pm xs)
  | [], _ => True.intro
  | i :: pm, e => by
    rw [List.all_cons, Bool.and_eq_true, decide_eq_true_eq] at e
    obtain ⟨v, a, h1, h2, h3⟩ := h.get i e.1
    have ih := AVsOk.perm h pm e.2
    unfold permL at ih ⊢
    rw [List.filterMap_cons, List.filterMap_cons, h1, h2]
    exact ⟨h3, ih⟩
end
end DL
namespace DL
open PySem PySem.Spec PyProof.Rows L2
/-! DL7: repr. -/
mutual
/-- every dict within is empty -/
def dict0 : D → Bool
  | .list xs | .tuple xs => dict0A xs
  | .dict [] => true
  | .dict _ => false
  | _ => true
def dict0A : List D → Bool
  | [] => true
  | x :: r => dict0 x && dict0A r
end
mutual
/-- an int within has less than 4300 digits -/
def shw : D → Bool
  | .int i => decide (i.natAbs.log2 < 14190)
  | .list xs | .tuple xs => shwA xs
  | _ => true
def shwA : List D → Bool
  | [] => true
  | x :: r => shw x && shwA r
end
/-- the statics hold no limit of digits -/
def NoDig (K : PySem.W.Frag) : Prop := PySem.W.nsIn K cStatics "sys.int_max_str_digits" = some none
theorem unheld {K : PySem.W.Frag} {h : Heap} {at_ : Addr} {mc : Str → Option Value} {n : Str} (hK : K.In h) (G : h.Ns at_ mc) : PySem.W.nsIn K at_ n = some none → mc n = none := by
  obtain ⟨ob, en, k, hob, hda, _, all⟩ := G
  intro e
  rw [PySem.W.nsIn.eq_def] at e
  cases hl : K.lookup at_ with
  | none => rw [hl] at e; cases e
  | some o2 =>
    have q := hK _ _ hl
    rw [hob, Option.some.injEq] at q
    subst q
    obtain ⟨c1, c2, c3, c4⟩ := ob
    cases (show c3 = _ from hda)
    rw [hl] at e
    dsimp only at e
    cases hf : en.toList.find? (·.key.isStr n) with
    | some y => rw [hf] at e; cases e
    | none =>
      rw [← all, nsFind, findBy, ← Array.find?_toList, hf]
      rfl
theorem noDig_in {K : PySem.W.Frag} {h : Heap} (z : NoDig K) (hK : K.In h) (l : h.NoLimit) : h.NoDigits := by
  obtain ⟨mc, a, _⟩ := l
  exact ⟨mc, a, unheld hK a z⟩
theorem pow_hi : 2 ^ 14190 ≤ 10 ^ 4300 := by
  have h : (2 ^ 33) ^ 430 ≤ (10 ^ 10) ^ 430 := Nat.pow_le_pow_left (by decide) 430
  rw [← Nat.pow_mul, ← Nat.pow_mul] at h
  exact h
theorem big_lt {i : Int} (h : i.natAbs.log2 < 14190) : i.natAbs < 10 ^ 4300 := Nat.lt_of_lt_of_le (lt_of_log2 h) pow_hi
theorem gives_big {i : Int} {t : Tok} (h : i.natAbs < 10 ^ 4300) : GivesAt (fun s => s.heap.NoDigits) (Builtin.«int.__repr__» ⟨[.int i t], []⟩) (.str (toString i)) := by
  intro pr w A R s hn q
  unfold Builtin.«int.__repr__»
  refine wpAny_bind (m := Builtin.overDigitLimit? i) (overDigitLimit_any hn (fun _ => wpAny_bind (wpAny_mkStr (wpAny_pure q.2) q.1)) fun hge => ?_)
  exact absurd h (Nat.not_lt.mpr hge)
theorem reprK_big {pr : Program} {w : World} {as : List Addr} {h : Heap} {d : Nat} {i : Int} (t : Tok) (hn : h.NoDigits) (hi : i.natAbs.log2 < 14190) : ReprK pr w as h d (.int i t) (toString i) := by
  intro bs hb A g E s Q _ _ hu hk q
  rw [pyReprUnder_leaf (by omega) (by intro _ e; cases e)]
  refine wpAny_bind (wpAny_pyReprObj_slot (by omega) (typeIs_int s i t) F.slot_int_repr.toG ?_)
  refine call_givesAt F.slot_int_repr (typeIs_int s i t) F.entry_int_repr (F.args_int_repr_1 _) (gives_big (big_lt hi)) (hn.keeps hk) ⟨int_text_fits10 (big_lt hi), ?_⟩
  exact ⟨_, _, rfl, wpAny_pure (q s.heap _ fun _ _ e => e)⟩
section
variable {X : Cx} {pins : List (Addr × Obj)} {σ : St} {H : Hp} {s : Shared}
theorem dict_empty_at {a : Addr} {d : List (D × D)} (I : Inv X pins σ H s) (h : (∃ ks, Rd H a (.dK ks) ∧ RpK X.K H ks d) ∨ ∃ ks, Rd H a (.dT ks) ∧ RpT X.K H ks d) (e : d = []) :
    ∃ o n, s.heap.get? a = some o ∧ o.cls = .type "dict" ∧ o.data = .dict #[] n ∧ (a == sysModules) = false := by
  subst e
  rcases h with ⟨ks, h, r⟩ | ⟨ks, h, r⟩
  · cases r
    obtain ⟨_, hs, vs, kv, o, es, ep, g1, g2, g3, _, g5, _⟩ := h.ok I.hok
    cases kv
    refine ⟨o, ep, g1, g2.1, ?_, hs⟩
    have : es.toList = [] := by cases g5' : es.toList with
      | nil => rfl
      | cons x y => rw [g5'] at g5; cases g5
    rw [g3]; congr 1
    exact Array.toList_inj.mp this
  · cases r
    obtain ⟨_, hs, xs, kv, o, es, ep, g1, g2, g3, g4, _⟩ := h.ok I.hok
    cases kv
    refine ⟨o, ep, g1, g2.1, ?_, hs⟩
    rw [g3]; congr 1
    exact Array.toList_inj.mp g4
mutual
theorem Rp.sh (I : Inv X pins σ H s) (zd : s.heap.NoDigits) : ∀ {v : V} {d : D} {u : Value}, Rp X.K H v d → RelV v u → shw d = true → dict0 d = true → d.shown.length ≤ sizeLine →
    ∃ as bs, Reads s.heap u d as ∧ ReadAtMost s.heap d.depth bs ∧ ReprK X.prog X.w bs s.heap d.depth u d.shown
  | _, _, u, .non, r, _, _, _ => by
    cases (show u = Value.none from r)
    exact ⟨[], [], .none, (fun _ h => nomatch h), by simp only [PyData.shown]; exact .of_is ReprIs.none _ _ _⟩
  | _, _, u, .bl b, r, _, _, _ => by
    cases (show u = Value.bool b from r)
    exact ⟨[], [], .bool b, (fun _ h => nomatch h), by simp only [PyData.shown]; exact .of_is (ReprIs.bool b) _ _ _⟩
  | _, _, u, .int i, r, hs, _, _ => by
    obtain ⟨t, q⟩ := (show ∃ t, u = Value.int i t from r); cases q
    exact ⟨[], [], .int i t, (fun _ h => nomatch h), by simp only [PyData.shown]; exact reprK_big t zd (by simpa [shw] using hs)⟩
  | _, _, u, .str x, r, _, _, hz => by
    obtain ⟨t, q⟩ := (show ∃ t, u = Value.str x t from r); cases q
    exact ⟨[], [], .str x t, (fun _ h => nomatch h), by simp only [PyData.shown]; exact .of_is (ReprIs.str x t (by simpa only [PyData.shown] using hz)) _ _ _⟩
  | _, _, u, @Rp.lst _ _ a vs ds h rr, r, hs, h0, hz => by
    cases (show u = Value.ref a from r)
    have zz : (listText (PyData.shownAll ds)).length ≤ sizeLine := by simpa only [PyData.shown] using hz
    obtain ⟨its, rv, ⟨o, n, g1, g2, _, g4⟩, _⟩ := I.list (SqL.of h)
    obtain ⟨as, bs, q, hb, hk⟩ := RpA.sh I zd rr rv (by simpa [shw] using hs) (by simpa [dict0] using h0) (fun t ht => Nat.le_trans (listText_mem_le ht) zz)
    have rd : Reads s.heap (.ref a) (.list ds) (a :: as) := .list g1 g2 g4 (by simpa using q)
    have nm : a ∉ bs := not_mem_of_deeper rd (by simp only [PyData.depth]; omega) hb
    refine ⟨_, a :: bs, rd, ReadAtMost.cons rd (by simp only [PyData.depth]; omega) hb, ?_⟩
    simp only [PyData.depth, PyData.shown]
    cases its with
    | nil => cases q; simp only [PyData.shownAll, listText_nil]; exact ReprK.listEmpty g1 g2 g4
    | cons x l => exact ReprK.list g1 g2 g4 nm (by simpa using hk.length_eq) (fun i y e => hk.item i y (by simpa using e))
  | _, _, u, @Rp.tup _ _ a vs ds h rr, r, hs, h0, hz => by
    cases (show u = Value.ref a from r)
    have zz : (tupleText (PyData.shownAll ds)).length ≤ sizeLine := by simpa only [PyData.shown] using hz
    obtain ⟨its, rv, ⟨o, g1, g2, n, g4⟩, _⟩ := I.tuple (SqT.of h)
    obtain ⟨as, bs, q, hb, hk⟩ := RpA.sh I zd rr rv (by simpa [shw] using hs) (by simpa [dict0] using h0) (fun t ht => Nat.le_trans (tupleText_mem_le ht) zz)
    have rd : Reads s.heap (.ref a) (.tuple ds) as := .tuple g1 g2 g4 (by simpa using q)
    have nm : a ∉ bs := not_mem_of_deeper rd (by simp only [PyData.depth]; omega) hb
    refine ⟨_, a :: bs, rd, ReadAtMost.cons rd (by simp only [PyData.depth]; omega) hb, ?_⟩
    simp only [PyData.depth, PyData.shown]
    exact ReprK.tuple g1 g2 g4 nm (by simpa using hk)
  | _, _, u, @Rp.dK _ _ a ks ds h rr, r, _, h0, hz => by
    cases (show u = Value.ref a from r)
    cases ds with
    | cons x y => cases h0
    | nil =>
      obtain ⟨o, n, g1, g2, g3, g4⟩ := dict_empty_at I (.inl ⟨ks, h, rr⟩) rfl
      have rd : Reads s.heap (.ref a) (.dict []) (a :: [] ++ []) := .dict g1 g2 g3 .nil .nil
      refine ⟨_, [a], rd, ReadAtMost.cons rd (n := 0) (by omega) (fun _ h => nomatch h), ?_⟩
      simp only [PyData.depth, PyData.shown, PyData.shownKv]
      exact (ReprK.dict (d := 0) g1 g2 g3 g4 (by simp) .nil).level_le (by simp only [PyData.depthKv]; omega)
  | _, _, u, @Rp.dT _ _ a ks ds h rr, r, _, h0, hz => by
    cases (show u = Value.ref a from r)
    cases ds with
    | cons x y => cases h0
    | nil =>
      obtain ⟨o, n, g1, g2, g3, g4⟩ := dict_empty_at I (.inr ⟨ks, h, rr⟩) rfl
      have rd : Reads s.heap (.ref a) (.dict []) (a :: [] ++ []) := .dict g1 g2 g3 .nil .nil
      refine ⟨_, [a], rd, ReadAtMost.cons rd (n := 0) (by omega) (fun _ h => nomatch h), ?_⟩
      simp only [PyData.depth, PyData.shown, PyData.shownKv]
      exact (ReprK.dict (d := 0) g1 g2 g3 g4 (by simp) .nil).level_le (by simp only [PyData.depthKv]; omega)
  | _, _, u, .pl _ _ _, _, _, h0, _ => by simp [dict0] at h0
theorem RpA.sh (I : Inv X pins σ H s) (zd : s.heap.NoDigits) : ∀ {vs : List V} {ds : List D} {us : List Value}, RpA X.K H vs ds → Vals vs us → shwA ds = true → dict0A ds = true → (∀ t ∈ PyData.shownAll ds, t.length ≤ sizeLine) →
    ∃ as bs, ReadsAll s.heap us ds as ∧ ReadAtMost s.heap (PyData.depthAll ds) bs ∧ ReprAllK X.prog X.w bs s.heap (PyData.depthAll ds) us (PyData.shownAll ds)
  | _, _, _, .nil, .nil, _, _, _ => ⟨[], [], .nil, (fun _ h => nomatch h), by simp only [PyData.shownAll]; exact .nil⟩
  | _, _, _, @RpA.cons _ _ v vs d ds a b, .cons ra rb, hs, h0, hz => by
    rw [shwA, Bool.and_eq_true] at hs
    rw [dict0A, Bool.and_eq_true] at h0
    obtain ⟨a1, b1, q1, m1, k1⟩ := Rp.sh I zd a ra hs.1 h0.1 (hz _ (by simp only [PyData.shownAll]; exact List.mem_cons_self ..))
    obtain ⟨a2, b2, q2, m2, k2⟩ := RpA.sh I zd b rb hs.2 h0.2 (fun t ht => hz t (by simp only [PyData.shownAll]; exact List.mem_cons_of_mem _ ht))
    refine ⟨_, b1 ++ b2, .cons q1 q2, fun x hx => ?_, ?_⟩
    · simp only [PyData.depthAll]
      rcases List.mem_append.mp hx with hx | hx
      · obtain ⟨d', as', r', hd'⟩ := m1 x hx
        exact ⟨d', as', r', Nat.le_trans hd' (Nat.le_max_left _ _)⟩
      · obtain ⟨d', as', r', hd'⟩ := m2 x hx
        exact ⟨d', as', r', Nat.le_trans hd' (Nat.le_max_right _ _)⟩
    · simp only [PyData.depthAll, PyData.shownAll]
      exact .cons ((k1.more fun x hx => List.mem_append_left _ hx).level_le (Nat.le_max_left _ _)) (k2.more_le (fun x hx => List.mem_append_right _ hx) (Nat.le_max_right _ _))
end
/-- repr(x) of data -/
def rRepr (K : PySem.W.Frag) : List V → Hp → VK → Prop := fun xs H Q => ∃ x d, xs = [x] ∧ Rp K H x d ∧ shw d = true ∧ dict0 d = true ∧ d.shown.length ≤ sizeLine ∧ d.depth ≤ 60 ∧ Q (.str d.shown) H
theorem call_reprD (hz : NoDig X.K) (hg : X.A.guards = some []) (hu : X.A.units + 100 < cLine) : CallR X (.builtin "repr") (rRepr X.K) := by
  intro pins s σ H xs us Q I r h
  have zd := noDig_in hz I.kIn I.nolimit
  obtain ⟨x, d, rfl, rx, hs, h0, hz, hd, q⟩ := h
  obtain ⟨u, rfl, ru⟩ := Vals.one r
  have fin : ∀ (h' : Heap) (u : Tok) (tk : Nat), (∀ b o, s.heap.get? b = some o → h'.get? b = some o) → EP X pins σ Q (.str d.shown u) { s with heap := h', toks := tk } :=
    fun h' u tk hk => ⟨.str d.shown, H, I.kept (t' := tk) hk, ⟨u, rfl⟩, q⟩
  have fin0 : ∀ (u : Tok) (tk : Nat), EP X pins σ Q (.str d.shown u) { s with toks := tk } := fun u tk => ⟨.str d.shown, H, I.tok tk, ⟨u, rfl⟩, q⟩
  cases rx with
  | non => cases (show u = Value.none from ru); simp only [PyData.shown] at fin0; exact PySem.P.repr_of_none (fin0 _ _)
  | bl b => cases (show u = Value.bool b from ru); simp only [PyData.shown] at fin0; exact PySem.P.repr_of_bool (fin0 _ _)
  | int i => obtain ⟨t, e⟩ := (show ∃ t, u = Value.int i t from ru); cases e; simp only [PyData.shown] at fin0; have lt := big_lt (by simpa [shw] using hs); exact call_repr_slot (by omega) (typeIs_int s i t) F.slot_int_repr.toG (call_givesAt F.slot_int_repr (typeIs_int s i t) F.entry_int_repr (F.args_int_repr_1 _) (gives_big lt) zd ⟨int_text_fits10 lt, _, _, rfl, fin0 _ _⟩)
  | str y => obtain ⟨t, e⟩ := (show ∃ t, u = Value.str y t from ru); cases e; simp only [PyData.shown] at fin0 hz; exact PySem.P.repr_of_str (fin0 _ _) hz
  | @lst a vs ds h rr =>
    cases (show u = Value.ref a from ru)
    have zz : (listText (PyData.shownAll ds)).length ≤ sizeLine := by simpa only [PyData.shown] using hz
    obtain ⟨its, rv, ⟨o, n, g1, g2, _, g4⟩, _⟩ := I.list (SqL.of h)
    obtain ⟨as, bs, qq, hb, hk⟩ := RpA.sh I zd rr rv (by simpa [shw] using hs) (by simpa [dict0] using h0) (fun t ht => Nat.le_trans (listText_mem_le ht) zz)
    have rd : Reads s.heap (.ref a) (.list ds) (a :: as) := .list g1 g2 g4 (by simpa using qq)
    have nm : a ∉ bs := not_mem_of_deeper rd (by simp only [PyData.depth]; omega) hb
    simp only [PyData.depth] at hd
    simp only [PyData.shown] at fin fin0
    refine call_repr_slot (by omega) ⟨o, g1, g2⟩ F.slot_list_repr.toG ?_
    cases its with
    | nil =>
      cases qq
      simp only [PyData.shownAll, listText_nil] at fin0
      exact call_list_repr_empty ⟨o, g1, g2⟩ g1 g4 ⟨_, _, rfl, fin0 _ _⟩
    | cons x l => exact call_list_reprK g1 g2 g4 nm (by simpa using hk.length_eq) (fun i y e => hk.item i y (by simpa using e)) (g := []) hg (fun b _ => Clear.nil b) (by show X.A.units + 1 + _ < _; omega) (fun _ _ e => e) (fun h' u tk k => ⟨_, _, rfl, fin h' u tk k⟩) zz
  | @tup a vs ds h rr =>
    cases (show u = Value.ref a from ru)
    have zz : (tupleText (PyData.shownAll ds)).length ≤ sizeLine := by simpa only [PyData.shown] using hz
    obtain ⟨its, rv, ⟨o, g1, g2, n, g4⟩, _⟩ := I.tuple (SqT.of h)
    obtain ⟨as, bs, qq, hb, hk⟩ := RpA.sh I zd rr rv (by simpa [shw] using hs) (by simpa [dict0] using h0) (fun t ht => Nat.le_trans (tupleText_mem_le ht) zz)
    have rd : Reads s.heap (.ref a) (.tuple ds) as := .tuple g1 g2 g4 (by simpa using qq)
    have nm : a ∉ bs := not_mem_of_deeper rd (by simp only [PyData.depth]; omega) hb
    simp only [PyData.depth] at hd
    simp only [PyData.shown] at fin
    refine call_repr_slot (by omega) ⟨o, g1, g2⟩ F.slot_tuple_repr ?_
    exact call_tuple_reprK g1 g2 g4 nm (by simpa using hk) (g := []) hg (fun b _ => Clear.nil b) (by show X.A.units + 1 + _ < _; omega) (fun _ _ e => e) (fun h' u tk k => ⟨_, _, rfl, fin h' u tk k⟩) zz
  | @pl a oo vs ds h n rr => simp [dict0] at h0
  | @dK a ks ds h rr =>
    cases (show u = Value.ref a from ru)
    cases ds with
    | cons x y => cases h0
    | nil =>
      obtain ⟨o, n, g1, g2, g3, g4⟩ := dict_empty_at I (.inl ⟨ks, h, rr⟩) rfl
      simp only [PyData.shown, PyData.shownKv] at fin hz
      refine call_repr_slot (by omega) ⟨o, g1, g2⟩ F.slot_dict_repr ?_
      exact call_dict_reprK (d := 0) (as := []) g1 g2 g3 g4 (by simp) .nil (g := []) hg (fun b _ => Clear.nil b) (by show X.A.units + 1 + _ < _; omega) (fun _ _ e => e) (fun h' u tk k => ⟨_, _, rfl, fin h' u tk k⟩) hz
  | @dT a ks ds h rr =>
    cases (show u = Value.ref a from ru)
    cases ds with
    | cons x y => cases h0
    | nil =>
      obtain ⟨o, n, g1, g2, g3, g4⟩ := dict_empty_at I (.inr ⟨ks, h, rr⟩) rfl
      simp only [PyData.shown, PyData.shownKv] at fin hz
      refine call_repr_slot (by omega) ⟨o, g1, g2⟩ F.slot_dict_repr ?_
      exact call_dict_reprK (d := 0) (as := []) g1 g2 g3 g4 (by simp) .nil (g := []) hg (fun b _ => Clear.nil b) (by show X.A.units + 1 + _ < _; omega) (fun _ _ e => e) (fun h' u tk k => ⟨_, _, rfl, fin h' u tk k⟩) hz
end
def okR (d : D) : Bool := shw d && dict0 d && decide (d.shown.length ≤ lim) && decide (d.depth ≤ 60)
def dRepr : List D → Option D
  | [d] => if okR d = true then some (.str d.shown) else none
  | _ => none
theorem do_repr {K : PySem.W.Frag} : DOC K (rRepr K) dRepr := by
  intro P H xs ds d t r e Q q
  unfold dRepr at e
  split at e
  · split at e
    · rename_i h; cases e
      simp only [okR, Bool.and_eq_true, decide_eq_true_eq] at h
      obtain ⟨v, rfl, hx⟩ := r.one
      exact ⟨v, _, rfl, hx.mono mask_le, h.1.1.1, h.1.1.2, lim_le h.1.2, h.2, q _ H (Grw.refl H) (.str _)⟩
    · cases e
  · cases e
end DL
namespace DL
open PySem PySem.Spec PyProof.Rows L2
/-! DL8: products, turned sequences. -/
theorem tuple_mul1 (l : Addr) (items : Array Value) (n : Nat) (sl : Array (Option Value)) (dd : Option Addr) (x : Int) (u : Tok) (c0 : (decide (x < -(2 ^ 63)) || decide (x ≥ 2 ^ 63)) = false) (c1 : (items.isEmpty || x == 1) = true) :
    Meets (Builtin.«tuple.__mul__» ⟨[.ref l, .int x u], []⟩) (fun _ R s => s.heap.get? l = some { cls := .type "tuple", dict := dd, data := .seq items n, slots := sl } ∧ R (.ok (.ret (Value.ref l))) s) :=
  .of_wp fun prog w A R s h => by
    obtain ⟨hp, g, d, tk, os⟩ := s
    obtain ⟨hl, h⟩ := h
    have f1 := AutoSeq1.idx_int
    wp_walk using wpAny_loadPart' hl
    repeat (first
      | (refine wpAny_ite_false (decide_eq_false (by rw [c0]; exact Bool.false_ne_true)) ?_; wp_walk using wpAny_loadPart' hl)
      | (refine wpAny_ite_true (decide_eq_true c1) ?_; wp_walk using wpAny_loadPart' hl))
    exact ⟨_, rfl, h⟩
theorem tuple_mul0 (l : Addr) (items : Array Value) (n : Nat) (sl : Array (Option Value)) (dd : Option Addr) (x : Int) (u : Tok) (c0 : (decide (x < -(2 ^ 63)) || decide (x ≥ 2 ^ 63)) = false) (c1 : (items.isEmpty || x == 1) = false) (c2 : (decide (x ≤ 0) || items.isEmpty) = true) :
    Meets (Builtin.«tuple.__mul__» ⟨[.ref l, .int x u], []⟩) (fun _ R s => s.heap.get? l = some { cls := .type "tuple", dict := dd, data := .seq items n, slots := sl } ∧
      R (.ok (.ret (Value.ref s.heap.objs.size))) { s with heap := s.heap.push { cls := Value.type "tuple", data := Data.seq #[] }, toks := s.toks }) :=
  .of_wp fun prog w A R s h => by
    obtain ⟨hp, g, d, tk, os⟩ := s
    obtain ⟨hl, h⟩ := h
    have f1 := AutoSeq1.idx_int
    wp_walk using wpAny_loadPart' hl
    repeat (first
      | (refine wpAny_ite_false (decide_eq_false (by rw [c0]; exact Bool.false_ne_true)) ?_; wp_walk using wpAny_loadPart' hl)
      | (refine wpAny_ite_false (decide_eq_false (by rw [c1]; exact Bool.false_ne_true)) ?_; wp_walk using wpAny_loadPart' hl)
      | (refine wpAny_ite_true (decide_eq_true c2) ?_; wp_walk using wpAny_loadPart' hl))
    exact ⟨_, rfl, h⟩
section
variable {X : Cx}
/-- t * k where k is 1 or less, or t is empty: t itself, or a new empty tuple -/
def rRep1 (K : PySem.W.Frag) : R2 := fun x y H Q => ∃ l k xs, x = .ref l ∧ y = .int k ∧ SqT K H l xs ∧ -(2 ^ 62) < k ∧ k < 2 ^ 62 ∧ (k ≤ 1 ∨ xs = []) ∧
  ((xs = [] ∨ k = 1) → Q (.ref l) H) ∧ (¬ (xs = [] ∨ k = 1) → ∀ p, H p = none → Q (.ref p) (upd H p (.tup [])))
theorem op_rep1 : OpR X (binaryOp .Mult) (rRep1 X.K) := by
  intro pins s σ H x y v u Q I rx ry h
  obtain ⟨l, k, xs, rfl, rfl, hT, h1, h2, h3, qa, qb⟩ := h
  cases rx
  obtain ⟨t, rfl⟩ := ry
  obtain ⟨its, r, ⟨⟨cls, dd, data, sl⟩, ho, hc, n, hd⟩, hs⟩ := I.tuple hT
  simp only at hc hd
  subst hc hd
  have hle : its.length = xs.length := r.length.symm
  have emp : its.toArray.isEmpty = true ↔ xs = [] := by
    cases its with
    | nil => cases r; simp
    | cons a b => cases r; simp
  have c0 : (decide (k < -(2 ^ 63)) || decide (k ≥ 2 ^ 63)) = false := by
    rw [decide_eq_false (by omega), decide_eq_false (by omega)] <;> rfl
  refine wpAny_binaryOp_repeat_ref (T := "tuple") (U := "int") (by decide) ⟨_, ho, rfl⟩ (fun s' => typeIs_int s' k t) noFill_tuple_mul F.fills_int_mul F.slot_int_rmul repeat_tuple F.slot_int_index.lookup
    (call_meets F.slot_int_rmul (typeIs_int s k t) F.entry_int_rmul (F.args_int_rmul_2 _ _) (int_rmul_tuple k t l its.toArray n dd sl) ⟨ho, rfl, ⟨_, ho, rfl⟩, ?_⟩)
  by_cases hq : xs = [] ∨ k = 1
  · have c1 : (its.toArray.isEmpty || k == 1) = true := by
      rw [Bool.or_eq_true]
      exact hq.imp emp.mpr fun z => by rw [z]; rfl
    exact call_meets F.slot_tuple_mul ⟨_, ho, rfl⟩ F.entry_tuple_mul (F.args_tuple_mul_2 _ _) (tuple_mul1 l its.toArray n sl dd k t c0 c1) ⟨ho, ⟨.ref l, H, I, rfl, qa hq⟩⟩
  · have ne : ¬ its.toArray.isEmpty = true := fun z => hq (.inl (emp.mp z))
    have c1 : (its.toArray.isEmpty || k == 1) = false := by
      rw [Bool.or_eq_false_iff]
      exact ⟨by simpa using ne, beq_eq_false_iff_ne.mpr fun z => hq (.inr z)⟩
    have hk : k ≤ 0 := by
      rcases h3 with h3 | h3
      · have : k ≠ 1 := fun z => hq (.inr z)
        omega
      · exact absurd (.inl h3) hq
    have c2 : (decide (k ≤ 0) || its.toArray.isEmpty) = true := by rw [decide_eq_true hk]; rfl
    refine call_meets F.slot_tuple_mul ⟨_, ho, rfl⟩ F.entry_tuple_mul (F.args_tuple_mul_2 _ _) (tuple_mul0 l its.toArray n sl dd k t c0 c1 c2) ⟨ho, ?_⟩
    refine ⟨.ref s.heap.objs.size, _, I.laid (t' := s.toks) (o := .tup []) (fun b ob q => Heap.get?_push_of_some _ q) (Nat.le_refl _) ?_, rfl, qb hq _ (I.hok.fresh (Nat.le_refl _))⟩
    exact ⟨Nat.zero_le _, [], .nil, IsTup.new _ _⟩
end
def dMul : D → D → Option D
  | .int i, .int j => if i.natAbs.log2 + j.natAbs.log2 < 1000000 then some (.int (i * j)) else none
  | .tuple a, .int k => if -(2 ^ 62) < k ∧ k ≤ 1000 ∧ a.length ≤ 1000 then some (.tuple (List.replicate k.toNat a).flatten) else none
  | .list a, .int k => if -(2 ^ 62) < k ∧ k < 2 ^ 62 ∧ a.length * k.toNat ≤ lim then some (.list (List.replicate k.toNat a).flatten) else none
  | _, _ => none
def rMulD (K : PySem.W.Frag) : R2 := rOr (rI CMulW fun i j => .int (i * j)) (rOr (rRepT K) (rOr (rRep1 K) rRep))
theorem op_mulD {X : Cx} : OpR X (binaryOp .Mult) (rMulD X.K) := op_or op_mulW (op_or op_repT (op_or op_rep1 op_rep))
theorem do_mul {K : PySem.W.Frag} : DO2 K (rMulD K) dMul := by
  intro P H x y dx dy d t hx hy e Q q
  unfold dMul at e
  split at e
  · split at e
    · rename_i h; cases e
      exact .inl ⟨_, _, hx.int_inv, hy.int_inv, h, q _ H (Grw.refl H) (.int _)⟩
    · cases e
  · rename_i a k
    split at e
    · rename_i h; cases e
      obtain ⟨l, vs, rfl, h1, r1⟩ := hx.tup_inv
      by_cases hc : vs ≠ [] ∧ 2 ≤ k
      · refine .inr (.inl ⟨l, k, vs, rfl, hy.int_inv, sqT_le h1, hc.1, hc.2, h.2.1, by rw [r1.length]; exact h.2.2, fun p hp => ?_⟩)
        exact q _ _ (Grw.new hp) (rp_newT t hp (r1.rep _))
      · refine .inr (.inr (.inl ⟨l, k, vs, rfl, hy.int_inv, sqT_le h1, h.1, by omega, ?_, fun z => ?_, fun z p hp => ?_⟩))
        · by_cases hv : vs = []
          · exact .inr hv
          · exact .inl (by have : ¬ 2 ≤ k := fun z => hc ⟨hv, z⟩; omega)
        · have e1 : (List.replicate k.toNat a).flatten = a := by
            rcases z with z | z
            · subst z; cases r1; simp
            · subst z; simp
          rw [e1] at q
          exact q _ H (Grw.refl H) hx
        · have hk : k.toNat = 0 := by
            have n1 : vs ≠ [] := fun w => z (.inl w)
            have n2 : k ≠ 1 := fun w => z (.inr w)
            have : ¬ 2 ≤ k := fun w => hc ⟨n1, w⟩
            omega
          rw [hk] at q
          exact q _ _ (Grw.new hp) (rp_newT t hp .nil)
    · cases e
  · rename_i a k
    split at e
    · rename_i h; cases e
      obtain ⟨l, vs, rfl, h1, r1⟩ := hx.lst_inv
      refine .inr (.inr (.inr ⟨l, k, vs, rfl, hy.int_inv, mask_le _ _ h1, by omega, by omega, by rw [r1.length]; exact lim_le h.2.2, fun p hp => ?_⟩))
      exact q _ _ (Grw.new hp) (rp_newL t hp (r1.rep _))
    · cases e
  · cases e
/-! ### x[::-1] -/
end DL
namespace DL
open PySem PySem.Spec PyProof.Rows L2
/-! DL9: a def that is called where no object is being shown; the law's end. -/
structure FnG (P : Program) (w : World) (K : PySem.W.Frag) (mg : Str → Option Value) (base : Heap) (k : Nat) (f : Addr) (fd : FuncData) (ps : List Str) (sp : Sp) : Prop where
  len : ∀ vs H Q E, sp vs H Q E → vs.length = ps.length
  run : ∀ (A : Around) (outer : List Env) (s : Shared) (H : Hp) (args : Args) (us : List Value) (vs : List V) (Q : VK) (E : XK), A.guards = some [] → Room k A → Env0 P w K mg base A outer s H →
    BindsTo s fd args (ps.zip us) → Vals vs us → sp vs H Q E → codeAny (model P w) A (.call (.ref f) args) (CR CX0 outer P w H s Q E) s
section
variable {P : Program} {w : World} {K : PySem.W.Frag} {mg : Str → Option Value} {base : Heap}
/-- the code of the def that stands at f -/
def LookC (K : PySem.W.Frag) (f : Addr) (cdv : Value) : Prop := ∃ (oc : Value) (od : Option Addr) (fd : FuncData) (osl : Array (Option Value)), K.lookup f = some ⟨oc, od, .func fd, osl⟩ ∧ fd.code = cdv
theorem fnG_ofC {x qual : Str} {st : Stmt} {f : Addr} {fd : FuncData} {N ps : List Str} {k : Nat} {sp : Sp} (F : Fun K x qual st f fd) (Sc : FnScope N ps (defScope st)) (len : ∀ vs H Q E, sp vs H Q E → vs.length = ps.length)
    (body : ∀ (cdv : Value) (A : Around) (outer : List Env) (s : Shared) (H : Hp) (vs : List V) (Q : VK) (E : XK), LookC K f cdv → (A.deeper (envOfC qual (defScope st) s.heap.objs.size f cdv)).guards = some [] → Room k (A.deeper (envOfC qual (defScope st) s.heap.objs.size f cdv)) → sp vs H Q E →
      ∃ t, PSs (cxOf CX0 P w K mg base N qual (defScope st) f cdv A outer s H E).nox (defBody st) t ∧ t { nx := fun _ H' => Q .non H', rt := Q } (L2.start N vs) H) : FnG P w K mg base (k + 1) f fd ps sp := by
  obtain ⟨oc, od, kV, doc, pm, an, cdv, ct, osl, rfl, lk, hcd⟩ := F.ex
  refine ⟨len, fun A outer s H args us vs Q E hG hr e0 hb rv hsp => ?_⟩
  have hlen := len _ _ _ _ hsp
  have kin : K.In s.heap := e0.mod.kin.keeps fun b o e => (e0.bs b o e).1
  have nol : s.heap.NoLimit := e0.mod.nolimit.keeps fun b o e => (e0.bs b o e).1
  have kinds : ∀ y ∈ ps.zip us, (defScope st).names.lookup y.1 = some .local ∨ ((defScope st).names.lookup y.1 = some .cell ∧ ((cellsFrom (s.heap.objs.size + 1) (defScope st).names []).lookup y.1).isSome = true) := by
    rintro ⟨nm, val⟩ hy
    rcases Sc.par nm (List.of_mem_zip hy).1 with q | q
    · exact .inl q
    · exact .inr ⟨q, PySem.W.cellsFrom_some _ _ _ (.inl q)⟩
  refine codeAny_call_function hr.depth (kin _ _ lk) rfl Sc.co Sc.gen rfl (PySem.W.codeRec_of kin hcd) (hb _ _ _ _ ?_)
  refine wpAny_newFunctionEnv_cells Sc.kind kinds fun env he s1 inC => ?_
  subst he
  refine ⟨nol.keeps inC.toInCall.keep, codeAny_func ?_⟩
  obtain ⟨t, ht, hq⟩ := body cdv A outer s H vs Q E ⟨_, _, _, _, lk, rfl⟩ (by show A.guards = some []; exact hG) (hr.deeper _) hsp
  have I0 : Inv (cxOf CX0 P w K mg base N qual (defScope st) f cdv A outer s H E) [] (L2.start N vs) H s1 := inv_start Sc hr.hd e0 hlen rv inC
  refine wpAny_mono (ht.nox.run [] s1 (L2.start N vs) H _ I0 hq) (fun fl s' hs => ?_) fun e s' hs => hs
  have close : ∀ {σ' : St} {H' : Hp} {v : V} {u : Value}, Inv (cxOf CX0 P w K mg base N qual (defScope st) f cdv A outer s H E) [] σ' H' s' → RelV v u → Q v H' → CE outer P w H s Q u s' :=
    fun {_ H' v _} J ru qv => ⟨v, H', J.os, J.bare, J.base, J.hok, ru, qv⟩
  cases fl with
  | ret u => obtain ⟨v, _, H', J, ru, qv⟩ := hs; exact close J ru qv
  | next => obtain ⟨_, H', J, qv⟩ := hs; exact close (v := V.non) (u := Value.none) J rfl qv
  | brk => obtain ⟨_, _, _, qv⟩ := hs; exact qv.elim
  | cont => obtain ⟨_, _, _, qv⟩ := hs; exact qv.elim
end
end DL
namespace DL
open PySem PySem.Spec PyProof.Rows L2
/-! DL10: the deck. -/
def Dk.drw (k : Dk) (m : Int) : Option (Int × Dk) := match k.great with
  | g :: r => some (g.fmod m, { k with great := if g / m = 0 then r else (g / m) :: r })
  | [] => match k.cells[((k.n + 1).fmod (k.cells.length : Int)).toNat]? with
    | some c =>
      let a := (c.fmod 4294966297 + 1640531527 * (k.n + 1)).fmod 4294966297
      let b := (a * a + 122949823 * (k.n + 1)).fmod 4294966237
      some (((b * b).fmod 4294966187 / 1024).fmod m, { k with n := k.n + 1 })
    | none => none
def drawSem : FS := fun xs k => match xs with
  | [.deck, .dat (.int m)] => if 0 < m ∧ m < 1000000000 then (match k.drw m with
    | some (r, k') => some (.int r, k')
    | none => none) else none
  | _ => none
def DkV (k : Dk) : Prop := k.cells ≠ []
theorem fmod_lt {a m : Int} (h : 0 < m) : 0 ≤ a.fmod m ∧ a.fmod m < m := ⟨Int.fmod_nonneg_of_pos a h, Int.fmod_lt_of_pos a h⟩
theorem drw_ok {k : Dk} {m : Int} (hk : DkV k) (h : 0 < m) : ∃ r k', k.drw m = some (r, k') ∧ 0 ≤ r ∧ r < m ∧ DkV k' := by
  unfold Dk.drw
  split
  · exact ⟨_, _, rfl, (fmod_lt h).1, (fmod_lt h).2, hk⟩
  · have hl : 0 < k.cells.length := by
      cases e : k.cells with
      | nil => exact absurd e hk
      | cons => simp
    have hb := fmod_lt (a := k.n + 1) (m := (k.cells.length : Int)) (by omega)
    have hi : ((k.n + 1).fmod (k.cells.length : Int)).toNat < k.cells.length := by omega
    rw [List.getElem?_eq_getElem hi]
    exact ⟨_, _, rfl, (fmod_lt h).1, (fmod_lt h).2, hk⟩
/-- the deck behind a change of its greats, of its number -/
theorem DkOk.putG {K : PySem.W.Frag} {A : DA} {P : Addr → Prop} {H : Hp} {k : Dk} {gs : List Int} (h : DkOk K A P H k) : DkOk K A P (upd H A.g (.lst (gs.map V.int))) { k with great := gs } :=
  ⟨by rw [upd_ne h.og]; exact h.ho, upd_same, by rw [upd_ne h.gc.symm]; exact h.hc, h.rs, h.og, h.oc, h.gc, tabs_upd h.tb h.hg trivial (fun _ z => nomatch z), h.tk⟩
theorem DkOk.putN {K : PySem.W.Frag} {A : DA} {P : Addr → Prop} {H : Hp} {k : Dk} {n : Int} (h : DkOk K A P H k) : DkOk K A P (upd H A.o (.lst [.ref A.g, .ref A.c, .int n])) { k with n := n } :=
  ⟨upd_same, by rw [upd_ne h.og.symm]; exact h.hg, by rw [upd_ne h.oc.symm]; exact h.hc, h.rs, h.og, h.oc, h.gc, tabs_upd h.tb h.ho trivial (fun _ z => nomatch z), h.tk⟩
theorem keepG {A : DA} {H : Hp} {o : HO} {b : Addr} (hb : A.is b) : ∀ a u, H a = some u → ¬ A.is a → upd H b o a = some u := fun a u e n => by
  rw [upd_ne (show a ≠ b from fun z => n (z ▸ hb))]; exact e
/-- a new deck -/
def spDeck (K : PySem.W.Frag) : Sp := fun vs H Q _ => ∃ (a : Addr) (ns : List Int), vs = [.ref a] ∧ SqL K H a (ns.map V.int) ∧ ns.length ≤ 1000 ∧
  ∀ (A : DA) (k : Dk) (H' : Hp), A.x = none → Grw H H' → DkB A A.is H' k → (∀ b, A.is b → H b = none) → DkV k → Q (.ref A.o) H'
end DL
namespace DL
open PySem PySem.Spec PyProof.Rows L2
/-! DL11: a cell given up; {}; several names at once; name = [..]; defs without a promise. -/
section
variable {K : PySem.W.Frag} {A : DA} {hid P : Addr → Prop} {s : S} {σ : St} {H : Hp}
/-- a cell is given up: its list is data from now on -/
theorem SOk.give {i : Nat} {ds : List D} (ok : SOk K A hid P s σ H) (hi : s.g[i]? = some (some (.lst ds))) : ∃ a, σ[i]? = some (some (.ref a)) ∧ SOk K A hid (fun b => P b ∧ b ≠ a) { s with g := s.g.set i (some (.dat (.list ds))) } σ H ∧ Stp hid P (fun b => P b ∧ b ≠ a) H H ∧ Rp K (mask (fun b => P b ∧ b ≠ a) H) (.ref a) (.list ds) := by
  obtain ⟨a, vs, ea, h1, h2, h3, h4, rr⟩ := ok.slot i _ hi
  have hil : i < s.g.length := (List.getElem?_eq_some_iff.mp hi).1
  have g : Grw (mask P H) (mask (fun b => P b ∧ b ≠ a) H) := mask_grw fun b o e c => ⟨fun z => c z.1, e⟩
  have r : Rp K (mask (fun b => P b ∧ b ≠ a) H) (.ref a) (.list ds) := .lst (mask_some.mpr ⟨fun z => z.2 rfl, h1⟩) (rr.mono g)
  have oth : ∀ (j : Nat) (w : Val) (b : Addr), j ≠ i → s.g[j]? = some (some w) → isCell w = true → σ[j]? = some (some (.ref b)) → b ≠ a := fun j w b hj e c e3 z => by
    subst z
    exact hj (ok.apart j i w _ _ e hi c rfl e3 ea)
  refine ⟨a, ea, ⟨fun b z => ok.trk b z.1, fun b z => ⟨ok.hp b z, fun w => h3 (w ▸ z)⟩, ok.hd, by simpa using ok.len, fun j w e => ?_, fun j l w u b e1 e2 c1 c2 e3 e4 => ?_, ?_⟩, ⟨fun b o e _ => e, fun b o e c z => c z.1⟩, r⟩
  · have e : (s.g.set i (some (.dat (.list ds))))[j]? = some (some w) := e
    rw [get_set] at e
    by_cases k1 : i = j ∧ j < s.g.length
    · rw [if_pos k1] at e
      cases e
      exact ⟨.ref a, by rw [← k1.1]; exact ea, r⟩
    · rw [if_neg k1] at e
      have hj : j ≠ i := fun z => k1 ⟨z.symm, by rw [z]; exact hil⟩
      have q := ok.slot j w e
      cases w with
      | dat d => obtain ⟨u, e5, r⟩ := q; exact ⟨u, e5, r.mono g⟩
      | lst es => obtain ⟨b, us, e5, k1, k2, k3, k4, r⟩ := q; exact ⟨b, us, e5, k1, ⟨k2, oth j _ b hj e rfl e5⟩, k3, k4, r.mono g⟩
      | obj o =>
        obtain ⟨y, z1, z2, z3⟩ := q
        exact ⟨y, z1, z2, z3.move g fun _ _ _ e => e⟩
      | fn _ => exact q
      | gst es =>
        obtain ⟨b, us, z1, z2, z3, z4, z5⟩ := q
        exact ⟨b, us, z1, z2, z3, z4.mono g, z5⟩
      | dct tt es =>
        obtain ⟨b, e5, k2, k3, k4, r⟩ := q
        refine ⟨b, e5, ⟨k2, oth j _ b hj e rfl e5⟩, k3, k4, ?_⟩
        rcases r with ⟨ht, ks, k1, r⟩ | ⟨ht, ks, k1, r⟩
        · exact .inl ⟨ht, ks, k1, r.mono g⟩
        · exact .inr ⟨ht, ks, k1, r.mono g⟩
      | deck => exact q
  · have e1 : (s.g.set i (some (.dat (.list ds))))[j]? = some (some w) := e1
    have e2 : (s.g.set i (some (.dat (.list ds))))[l]? = some (some u) := e2
    rw [get_set] at e1 e2
    split at e1
    · cases e1; cases c1
    · split at e2
      · cases e2; cases c2
      · exact ok.apart j l w u b e1 e2 c1 c2 e3 e4
  · have d := ok.deck
    exact ⟨d.ho, d.hg, d.hc, fun b z => ⟨d.rs b z, fun w => h4 (w ▸ z)⟩, d.og, d.oc, d.gc, d.tb, d.tk⟩
end
section
variable {X : Cx} {K : PySem.W.Frag} {pos : Pos}
/-- a name whose cell is not changed any more -/
def eGive (i : Nat) : M D := fun s => match s.g[i]? with
  | some (some (.dat d)) => some (d, s)
  | some (some (.lst ds)) => some (.list ds, { s with g := s.g.set i (some (.dat (.list ds))) })
  | _ => none
theorem ev_give {i : Nat} : EvE K (tVar i) (eGive i) := by
  intro A hid P s σ H d s' ok h Q q
  unfold eGive at h
  split at h
  · cases h
    rename_i h1
    obtain ⟨v, e, r⟩ := ok.slot i _ h1
    exact ⟨v, e, q v P H ok Stp.refl r⟩
  · cases h
    rename_i h1
    obtain ⟨a, e, ok2, st, r⟩ := ok.give h1
    exact ⟨.ref a, e, q _ _ H ok2 st r⟩
  · cases h
theorem de_give (i : Nat) {x : Str} {pos : Pos} (hN : X.N[i]? = some x := by rfl) (hv : Vis X.env.scope x := by first | exact Or.inl rfl | exact Or.inr (Or.inl rfl) | exact Or.inr (Or.inr rfl)) (hd : (x == ("__debug__" : Str)) = false := by decide)
    (hcd : (x == ("__classdict__" : Str)) = false := by decide) : DE X (.Name x pos) (tVar i) (eGive i) := ⟨pe_var hN hv hd hcd, ev_give⟩
/-! ### values for several names: data, or new lists that become cells -/
inductive PV where
  | dat (d : D) | new (ds : List D) | dct (t : Bool)
/-- the new lists stand in L, in order -/
inductive PVs (K : PySem.W.Frag) (P : Addr → Prop) (H : Hp) : List Addr → List V → List PV → Prop
  | nil : PVs K P H [] [] []
  | dat {L : List Addr} {v : V} {vs : List V} {d : D} {xs : List PV} : Rp K (mask P H) v d → PVs K P H L vs xs → PVs K P H L (v :: vs) (.dat d :: xs)
  | new {L : List Addr} {a : Addr} {us vs : List V} {ds : List D} {xs : List PV} : H a = some (.lst us) → RpA K (mask P H) us ds → PVs K P H L vs xs → PVs K P H (a :: L) (.ref a :: vs) (.new ds :: xs)
  | dct {L : List Addr} {a : Addr} {vs : List V} {t : Bool} {xs : List PV} : H a = some (if t = true then .dT [] else .dK []) → PVs K P H L vs xs → PVs K P H (a :: L) (.ref a :: vs) (.dct t :: xs)
theorem PVs.mono {P P' : Addr → Prop} {H H' : Hp} {L : List Addr} {vs : List V} {xs : List PV} (g : Grw (mask P H) (mask P' H')) (k : ∀ a ∈ L, ∀ o, H a = some o → H' a = some o) (h : PVs K P H L vs xs) : PVs K P' H' L vs xs := by
  induction h with
  | nil => exact .nil
  | dat r _ ih => exact .dat (r.mono g) (ih k)
  | new e r _ ih => exact .new (k _ (List.mem_cons_self ..) _ e) (r.mono g) (ih fun a ha => k a (List.mem_cons_of_mem _ ha))
  | dct e _ ih => exact .dct (k _ (List.mem_cons_self ..) _ e) (ih fun a ha => k a (List.mem_cons_of_mem _ ha))
def EvP (K : PySem.W.Frag) (t : TA) (f : M (List PV)) : Prop := ∀ (A : DA) (hid P : Addr → Prop) (s : S) (σ : St) (H : Hp) (xs : List PV) (s' : S), SOk K A hid P s σ H → f s = some (xs, s') →
  ∀ Q : List V → Hp → Prop, (∀ vs L P' H', SOk K A (fun a => hid a ∨ a ∈ L) P' s' σ H' → Stp hid P P' H H' → L.Nodup → (∀ a ∈ L, ¬ hid a) → PVs K P' H' L vs xs → Q vs H') → t σ H Q
structure DP (X : Cx) (es : List Expr) (t : TA) (f : M (List PV)) : Prop where
  p : PA X es t
  v : EvP X.K t f
def pNil : M (List PV) := rtn []
def pDat (f : M D) (fr : M (List PV)) : M (List PV) := bd f fun x => bd fr fun xs => rtn (.dat x :: xs)
def pNew (f : M (List D)) (fr : M (List PV)) : M (List PV) := bd f fun x => bd fr fun xs => rtn (.new x :: xs)
variable {e : Expr} {es : List Expr} {te : TE} {f : M D} {g : M (List D)} {tr : TA} {fr : M (List PV)}
theorem SOk.hidEq {A : DA} {hid hid' P : Addr → Prop} {s : S} {σ : St} {H : Hp} (ok : SOk K A hid P s σ H) (h : ∀ a, hid a ↔ hid' a) : SOk K A hid' P s σ H := by
  have : hid = hid' := funext fun a => propext (h a)
  subst this; exact ok
theorem ep_nil : EvP K tNil pNil := by
  intro A hid P s σ H xs s' ok h Q q
  obtain ⟨rfl, rfl⟩ := rtn_some h
  exact q [] [] P H (ok.hidEq fun a => by simp) Stp.refl List.nodup_nil (by simp) .nil
theorem ep_dat (ha : EvE K te f) (hr : EvP K tr fr) : EvP K (tCons te tr) (pDat f fr) := by
  intro A hid P s σ H ds s' ok h Q q
  obtain ⟨x, s1, h1, h⟩ := bd_some h
  obtain ⟨xs, s2, h2, h⟩ := bd_some h
  obtain ⟨rfl, rfl⟩ := rtn_some h
  refine ha A hid P s σ H x s1 ok h1 _ fun v P1 H1 ok1 st1 r1 => ?_
  refine hr A hid P1 s1 σ H1 xs _ ok1 h2 _ fun vs L P2 H2 ok2 st2 nd nh r2 => ?_
  exact q (v :: vs) L P2 H2 ok2 (st1.trans st2) nd nh (.dat (st2.rp r1) r2)
theorem ep_new (ha : EvN K te g) (hr : EvP K tr fr) : EvP K (tCons te tr) (pNew g fr) := by
  intro A hid P s σ H ds s' ok h Q q
  obtain ⟨x, s1, h1, h⟩ := bd_some h
  obtain ⟨xs, s2, h2, h⟩ := bd_some h
  obtain ⟨rfl, rfl⟩ := rtn_some h
  refine ha A hid P s σ H x s1 ok h1 _ fun us P1 H1 p ok1 st1 hp r1 => ?_
  have okh : SOk K A (fun a => hid a ∨ a = p) (fun a => P1 a ∨ a = p) s1 σ (upd H1 p (.lst us)) := ok1.hide hp
  refine hr A _ _ s1 σ _ xs _ okh h2 _ fun vs L P2 H2 ok2 st2 nd nh r2 => ?_
  have np : p ∉ L := fun z => nh p z (.inr rfl)
  have hp2 : H2 p = some (.lst us) := st2.keep p _ upd_same (.inl (.inr rfl))
  have stW : Stp hid P1 P2 H1 H2 := by
    refine ⟨fun a o e c => ?_, fun a o e c => ?_⟩
    · have ha : a ≠ p := ne_of_none e hp
      exact st2.keep a o (by rw [upd_ne ha]; exact e) (c.imp (fun z => .inl z) fun z w => w.elim z ha)
    · have ha : a ≠ p := ne_of_none e hp
      exact st2.vis a o (by rw [upd_ne ha]; exact e) fun w => w.elim c ha
  refine q (.ref p :: vs) (p :: L) P2 H2 (ok2.hidEq fun a => ?_) (st1.trans stW) (List.nodup_cons.mpr ⟨np, nd⟩) (fun a ha => ?_) (.new hp2 (r1.mono stW.mg) r2)
  · rw [List.mem_cons]; exact or_assoc
  · rcases List.mem_cons.mp ha with rfl | ha
    · exact fun z => ok1.free hp (ok1.hp _ z)
    · exact fun z => nh a ha (.inl z)
/-- {} that becomes a cell -/
def pDctN (t : Bool) (fr : M (List PV)) : M (List PV) := bd fr fun xs => rtn (.dct t :: xs)
theorem dp_nil : DP X [] tNil pNil := ⟨pa_nil, ep_nil⟩
theorem dp_dat (ha : DE X e te f) (hr : DP X es tr fr) (hs : starEach (e :: es) X.env = (false, eval e X.env) :: starEach es X.env := by rfl) : DP X (e :: es) (tCons te tr) (pDat f fr) := ⟨pa_cons ha.p hr.p hs, ep_dat ha.v hr.v⟩
theorem dp_new (ha : DN X e te g) (hr : DP X es tr fr) (hs : starEach (e :: es) X.env = (false, eval e X.env) :: starEach es X.env := by rfl) : DP X (e :: es) (tCons te tr) (pNew g fr) := ⟨pa_cons ha.p hr.p hs, ep_new ha.v hr.v⟩
/-- a hidden list becomes a slot's cell -/
theorem SOk.adopt {A : DA} {hid P : Addr → Prop} {s : S} {σ : St} {H : Hp} {L : List Addr} {i : Nat} {p : Addr} {us : List V} {ds : List D} (ok : SOk K A (fun a => hid a ∨ a ∈ p :: L) P s σ H) (nh : ¬ hid p) (nL : p ∉ L) (hp : H p = some (.lst us)) (r : RpA K (mask P H) us ds) :
    SOk K A (fun a => hid a ∨ a ∈ L) P { s with g := s.g.set i (some (.lst ds)) } (σ.set i (some (.ref p))) H := by
  have hl := ok.len
  have hh : hid p ∨ p ∈ p :: L := .inr (List.mem_cons_self ..)
  have le : ∀ a, (hid a ∨ a ∈ L) → hid a ∨ a ∈ p :: L := fun a z => z.imp (fun z => z) fun z => List.mem_cons_of_mem _ z
  have cellNe : ∀ (j : Nat) (w : Val) (a : Addr), s.g[j]? = some (some w) → isCell w = true → σ[j]? = some (some (.ref a)) → a ≠ p := fun j w a e c e3 z => by
    subst z
    have q := ok.slot j w e
    cases w with
    | dat d => cases c
    | obj o => cases c
    | fn _ => cases c
    | gst _ => cases c
    | deck => cases c
    | lst es => obtain ⟨b, us, e5, _, _, h3, _⟩ := q; rw [e3] at e5; cases e5; exact h3 hh
    | dct tt es => obtain ⟨b, e5, _, h3, _⟩ := q; rw [e3] at e5; cases e5; exact h3 hh
  refine ⟨ok.trk, fun a z => ok.hp a (le a z), fun a z => ok.hd a (le a z), by simpa using ok.len, fun j w e => ?_, fun j l w u a e1 e2 c1 c2 e3 e4 => ?_, ok.deck⟩
  · show SlotOk K A _ _ _ (σ.set i (some (.ref p)))[j]? w
    have e : (s.g.set i (some (.lst ds)))[j]? = some (some w) := e
    rw [get_set] at e ⊢
    rw [← hl]
    split at e
    · cases e
      rw [if_pos (by assumption)]
      exact ⟨p, us, rfl, hp, ok.hp p hh, fun z => z.elim nh nL, ok.hd p hh, r⟩
    · rw [if_neg (by assumption)]
      have q := ok.slot j w e
      cases w with
      | dat d => exact q
      | obj o => exact q
      | fn _ => exact q
      | gst _ => exact q
      | deck => exact q
      | lst es => obtain ⟨b, us, e5, h1, h2, h3, h4⟩ := q; exact ⟨b, us, e5, h1, h2, fun z => h3 (le b z), h4⟩
      | dct tt es => obtain ⟨b, e5, h2, h3, h4⟩ := q; exact ⟨b, e5, h2, fun z => h3 (le b z), h4⟩
  · have e1 : (s.g.set i (some (.lst ds)))[j]? = some (some w) := e1
    have e2 : (s.g.set i (some (.lst ds)))[l]? = some (some u) := e2
    rw [get_set] at e1 e2 e3 e4
    rw [← hl] at e3 e4
    by_cases k1 : i = j ∧ j < s.g.length
    · rw [if_pos k1] at e1 e3
      cases e3
      by_cases k2 : i = l ∧ l < s.g.length
      · exact k1.1.symm.trans k2.1
      · rw [if_neg k2] at e2 e4
        exact absurd rfl (cellNe l u _ e2 c2 e4)
    · rw [if_neg k1] at e1 e3
      by_cases k2 : i = l ∧ l < s.g.length
      · rw [if_pos k2] at e2 e4
        cases e4
        exact absurd rfl (cellNe j w _ e1 c1 e3)
      · rw [if_neg k2] at e2 e4
        exact ok.apart j l w u a e1 e2 c1 c2 e3 e4
/-- a hidden dict becomes a slot's cell -/
theorem SOk.adoptD {A : DA} {hid P : Addr → Prop} {s : S} {σ : St} {H : Hp} {L : List Addr} {i : Nat} {p : Addr} {t : Bool} (ok : SOk K A (fun a => hid a ∨ a ∈ p :: L) P s σ H) (nh : ¬ hid p) (nL : p ∉ L) (hp : H p = some (if t = true then .dT [] else .dK [])) :
    SOk K A (fun a => hid a ∨ a ∈ L) P { s with g := s.g.set i (some (.dct t [])) } (σ.set i (some (.ref p))) H := by
  have hl := ok.len
  have hh : hid p ∨ p ∈ p :: L := .inr (List.mem_cons_self ..)
  have le : ∀ a, (hid a ∨ a ∈ L) → hid a ∨ a ∈ p :: L := fun a z => z.imp (fun z => z) fun z => List.mem_cons_of_mem _ z
  have cellNe : ∀ (j : Nat) (w : Val) (a : Addr), s.g[j]? = some (some w) → isCell w = true → σ[j]? = some (some (.ref a)) → a ≠ p := fun j w a e c e3 z => by
    subst z
    have q := ok.slot j w e
    cases w with
    | dat d => cases c
    | obj o => cases c
    | fn _ => cases c
    | gst _ => cases c
    | deck => cases c
    | lst es => obtain ⟨b, us, e5, _, _, h3, _⟩ := q; rw [e3] at e5; cases e5; exact h3 hh
    | dct tt es => obtain ⟨b, e5, _, h3, _⟩ := q; rw [e3] at e5; cases e5; exact h3 hh
  refine ⟨ok.trk, fun a z => ok.hp a (le a z), fun a z => ok.hd a (le a z), by simpa using ok.len, fun j w e => ?_, fun j l w u a e1 e2 c1 c2 e3 e4 => ?_, ok.deck⟩
  · show SlotOk K A _ _ _ (σ.set i (some (.ref p)))[j]? w
    have e : (s.g.set i (some (.dct t [])))[j]? = some (some w) := e
    rw [get_set] at e ⊢
    rw [← hl]
    split at e
    · cases e
      rw [if_pos (by assumption)]
      refine ⟨p, rfl, ok.hp p hh, fun z => z.elim nh nL, ok.hd p hh, ?_⟩
      cases t with
      | false => exact .inl ⟨rfl, [], hp, .nil⟩
      | true => exact .inr ⟨rfl, [], hp, .nil⟩
    · rw [if_neg (by assumption)]
      have q := ok.slot j w e
      cases w with
      | dat d => exact q
      | obj o => exact q
      | fn _ => exact q
      | gst _ => exact q
      | deck => exact q
      | lst es => obtain ⟨b, us, e5, h1, h2, h3, h4⟩ := q; exact ⟨b, us, e5, h1, h2, fun z => h3 (le b z), h4⟩
      | dct tt es => obtain ⟨b, e5, h2, h3, h4⟩ := q; exact ⟨b, e5, h2, fun z => h3 (le b z), h4⟩
  · have e1 : (s.g.set i (some (.dct t [])))[j]? = some (some w) := e1
    have e2 : (s.g.set i (some (.dct t [])))[l]? = some (some u) := e2
    rw [get_set] at e1 e2 e3 e4
    rw [← hl] at e3 e4
    by_cases k1 : i = j ∧ j < s.g.length
    · rw [if_pos k1] at e1 e3
      cases e3
      by_cases k2 : i = l ∧ l < s.g.length
      · exact k1.1.symm.trans k2.1
      · rw [if_neg k2] at e2 e4
        exact absurd rfl (cellNe l u _ e2 c2 e4)
    · rw [if_neg k1] at e1 e3
      by_cases k2 : i = l ∧ l < s.g.length
      · rw [if_pos k2] at e2 e4
        cases e4
        exact absurd rfl (cellNe j w _ e1 c1 e3)
      · rw [if_neg k2] at e2 e4
        exact ok.apart j l w u a e1 e2 c1 c2 e3 e4
def putP (i : Nat) (x : PV) (s : S) : S := { s with g := s.g.set i (some (match x with
  | .dat d => .dat d
  | .new ds => .lst ds
  | .dct t => .dct t [])) }
/-- one of the values goes to its slot -/
theorem SOk.putP {A : DA} {hid P : Addr → Prop} {s : S} {σ : St} {H : Hp} {L : List Addr} {i : Nat} {v : V} {vs : List V} {x : PV} {xs : List PV} (ok : SOk K A (fun a => hid a ∨ a ∈ L) P s σ H) (nd : L.Nodup) (nh : ∀ a ∈ L, ¬ hid a) (h : PVs K P H L (v :: vs) (x :: xs)) :
    ∃ L', SOk K A (fun a => hid a ∨ a ∈ L') P (DL.putP i x s) (σ.set i (some v)) H ∧ L'.Nodup ∧ (∀ a ∈ L', ¬ hid a) ∧ PVs K P H L' vs xs := by
  cases h with
  | dat r h => exact ⟨L, ok.set_dat r, nd, nh, h⟩
  | @new L' a us _ ds _ e r h =>
    have n := List.nodup_cons.mp nd
    exact ⟨L', ok.adopt (nh a (List.mem_cons_self ..)) n.1 e r, n.2, fun b hb => nh b (List.mem_cons_of_mem _ hb), h⟩
  | @dct L' a _ t _ e h =>
    have n := List.nodup_cons.mp nd
    exact ⟨L', ok.adoptD (nh a (List.mem_cons_self ..)) n.1 e, n.2, fun b hb => nh b (List.mem_cons_of_mem _ hb), h⟩
theorem PVs.length {P : Addr → Prop} {H : Hp} {L : List Addr} {vs : List V} {xs : List PV} (h : PVs K P H L vs xs) : vs.length = xs.length := by
  induction h with
  | nil => rfl
  | dat _ _ ih => simp [ih]
  | new _ _ _ ih => simp [ih]
  | dct _ _ ih => simp [ih]
def sPar (i j : Nat) (fr : M (List PV)) : M Fl := bd fr fun xs => match xs with
  | [x, y] => fun s => some (.nx, putP j y (putP i x s))
  | _ => fun _ => none
theorem es_par {i j : Nat} (h : EvP K tr fr) : EvS K (tPar i j tr) (sPar i j fr) := by
  intro A hid P s σ H fl s' ok e D q
  obtain ⟨xs, s1, h1, e⟩ := bd_some e
  refine h A hid P s σ H xs s1 ok h1 _ fun vs L P1 H1 ok1 st1 nd nh r => ?_
  split at e
  · cases e
    match vs, r with
    | [v, w], r =>
      refine ⟨v, w, rfl, ?_⟩
      obtain ⟨L1, ok2, nd2, nh2, r2⟩ := ok1.putP (i := i) nd nh r
      obtain ⟨L2, ok3, nd3, nh3, r3⟩ := ok2.putP (i := j) nd2 nh2 r2
      cases r3
      exact q _ P1 H1 (ok3.hidEq fun a => by simp) st1
    | [], r => exact absurd r.length (by simp)
    | [_], r => exact absurd r.length (by simp)
    | _ :: _ :: _ :: _, r => exact absurd r.length (by simp)
  · cases e
def sPar3 (i j l : Nat) (fr : M (List PV)) : M Fl := bd fr fun xs => match xs with
  | [x, y, z] => fun s => some (.nx, putP l z (putP j y (putP i x s)))
  | _ => fun _ => none
theorem ds_par (i j : Nat) {x y : Str} {a b : Expr} {px py pt : Pos} {kt k2 pt2} (hc : X.calm = true) (hN : X.N.Nodup) (ha : DP X [a, b] tr fr) (hi : X.N[i]? = some x := by rfl) (hj : X.N[j]? = some y := by rfl) (hij : i ≠ j := by decide)
    (hx : X.env.scope.names.lookup x = some .local := by rfl) (hy : X.env.scope.names.lookup y = some .local := by rfl)
    (hw : swappedStores [.Tuple [.Name x px, .Name y py] kt pt] (.Tuple [a, b] k2 pt2) X.env = pure (some [x, y]) := by rfl)
    (hs : swapsWithSole [.Tuple [.Name x px, .Name y py] kt pt] (.Tuple [a, b] k2 pt2) pos.line X.env = pure false := by rfl) :
    DS X (.Assign [.Tuple [.Name x px, .Name y py] kt pt] (.Tuple [a, b] k2 pt2) pos) (tPar i j tr) (sPar i j fr) := ⟨ps_par hc hN hi hj hij hx hy ha.p hw hs, es_par ha.v⟩
end
section
variable {X : Cx}
/-- name = [..] on one line, the name a local: data or a cell -/
theorem ps_lcn {i : Nat} {y : Str} {py spos : Pos} {elt tg iter : Expr} {ifs : List Expr} {scope : Scope} {own : List (Str × Nat)} {pos : Pos} {wi : TI} {g : TG} {tt : TT} {te : TE} {it : M (List D)} {js : List Nat} {fg : D → M Unit} {gt : M Bool} {fe : M D} (hc : X.calm = true) (hN : X.N.Nodup) (hi : DI X tg iter wi it) (ok : BlkOk X.N X.env.scope scope own)
    (hg : ∀ (s : Shared) (H : Hp) (C : Addr) (cl : List (Str × Addr)) (fp : List Addr), DG (X.blk s H scope (compEnvC scope cl C X.env) fp) tg js g fg) (hj : ∀ i ∈ js, i ∈ own.map (·.2)) (ht : ∀ (s : Shared) (H : Hp) (C : Addr) (cl : List (Str × Addr)) (fp : List Addr), DTs (X.blk s H scope (compEnvC scope cl C X.env) fp) ifs tt gt)
    (he : ∀ (s : Shared) (H : Hp) (C : Addr) (cl : List (Str × Addr)) (fp : List Addr), DE (X.blk s H scope (compEnvC scope cl C X.env) fp) elt te fe) (hy : X.N[i]? = some y) (hyl : X.env.scope.names.lookup y = some .local)
    (hsw : swapsWith (.ListComp elt [⟨tg, iter, ifs, 0⟩] scope pos) (some (.Name y py)) spos.line X.env = pure true) (hs : ∀ x, foldedSetIterable iter X.env x = pure x) :
    PS X (.Assign [.Name y py] (.ListComp elt [⟨tg, iter, ifs, 0⟩] scope pos) spos) (tAsg (tLc wi g tt te (own.map (·.2))) (gName i)) ∧ EvN X.K (tLc wi g tt te (own.map (·.2))) (nLc (own.map (·.2)) it fg gt fe) :=
  ⟨ps_setLc hc hN hy hyl hsw hi.p ok (fun s H C cl fp => (hg s H C cl fp).p) (fun s H C cl fp => (ht s H C cl fp).p) (fun s H C cl fp => (he s H C cl fp).p) hs,
    en_lc hi.v (hg X.s_0 X.H_0 0 [] []).v hj (ht X.s_0 X.H_0 0 [] []).v (he X.s_0 X.H_0 0 [] []).v⟩
theorem ds_lcD (i : Nat) {y : Str} {py spos : Pos} {elt tg iter : Expr} {ifs : List Expr} {scope : Scope} {own : List (Str × Nat)} {pos : Pos} {wi : TI} {g : TG} {tt : TT} {te : TE} {it : M (List D)} {js : List Nat} {fg : D → M Unit} {gt : M Bool} {fe : M D} (hc : X.calm = true) (hN : X.N.Nodup) (hi : DI X tg iter wi it) (ok : BlkOk X.N X.env.scope scope own)
    (hg : ∀ (s : Shared) (H : Hp) (C : Addr) (cl : List (Str × Addr)) (fp : List Addr), DG (X.blk s H scope (compEnvC scope cl C X.env) fp) tg js g fg) (hj : ∀ i ∈ js, i ∈ own.map (·.2)) (ht : ∀ (s : Shared) (H : Hp) (C : Addr) (cl : List (Str × Addr)) (fp : List Addr), DTs (X.blk s H scope (compEnvC scope cl C X.env) fp) ifs tt gt)
    (he : ∀ (s : Shared) (H : Hp) (C : Addr) (cl : List (Str × Addr)) (fp : List Addr), DE (X.blk s H scope (compEnvC scope cl C X.env) fp) elt te fe)
    (hsw : swapsWith (.ListComp elt [⟨tg, iter, ifs, 0⟩] scope pos) (some (.Name y py)) spos.line X.env = pure true) (hy : X.N[i]? = some y := by rfl) (hyl : X.env.scope.names.lookup y = some .local := by rfl) (hs : ∀ x, foldedSetIterable iter X.env x = pure x := by intro _; rfl) :
    DS X (.Assign [.Name y py] (.ListComp elt [⟨tg, iter, ifs, 0⟩] scope pos) spos) (tAsg (tLc wi g tt te (own.map (·.2))) (gName i)) (sAsg (eL (nLc (own.map (·.2)) it fg gt fe)) (gN i)) := by
  obtain ⟨h1, h2⟩ := ps_lcn (spos := spos) hc hN hi ok hg hj ht he hy hyl hsw hs
  exact ⟨h1, es_asg (ev_N h2) eg_name⟩
end
/-- nothing promised: the start of a def that calls itself -/
def semNo : FS := fun _ _ => none
theorem fnD_no {P : Program} {w : World} {K : PySem.W.Frag} {mg : Str → Option Value} {base : Heap} {f : Addr} {fd : FuncData} {ps : List Str} {k : Nat} : FnOk P w K mg base CX0 k f fd ps (spD K semNo) :=
  ⟨fun vs H Q E h => (by obtain ⟨_, _, _, _, _, _, _, _, _, _, e, _⟩ := h; cases e), fun A outer s H args us vs Q E _ _ _ _ h => (by obtain ⟨_, _, _, _, _, _, _, _, _, _, e, _⟩ := h; cases e)⟩
end DL
namespace DL
open PySem PySem.Spec PyProof.Rows L2
/-! DL12: a list or a tuple walked. -/
def iSeq (K : PySem.W.Frag) (tl : TE) : TI := fun σ H R => tl σ H fun x H1 => ∃ a, x = .ref a ∧ (((∃ xs, SqL K H1 a xs) ∧ R (Itl K a) H1) ∨ ((∃ xs, SqT K H1 a xs) ∧ R (Itt K a) H1))
theorem pi_seq {X : Cx} {tg l : Expr} {tl : TE} (hl : PE X l tl) : PI X tg l (iSeq X.K tl) := by
  refine ⟨fun pins s σ H R I0 h => thn (hl.run pins s σ H _ I0 h) fun v s2 ⟨x, H2, I2, r2, ⟨a, ea, q2⟩⟩ => ?_⟩
  subst ea
  cases r2
  have nw : ∀ (hp : Heap) (b : Addr), b ∈ [s2.heap.objs.size] → FpOk X pins H2 b := fun _ b hb => by
    obtain rfl : b = s2.heap.objs.size := by simpa using hb
    exact I2.fpOk (Nat.le_refl _) (I2.hok.fresh (Nat.le_refl _))
  rcases q2 with ⟨⟨xs, hx⟩, qq⟩ | ⟨⟨xs, hx⟩, qq⟩
  · obtain ⟨its, rv, pl, _⟩ := I2.list hx
    exact wpAny_pyIter_list pl.isList ⟨_, [s2.heap.objs.size], _, _, H2, rfl, I2.kept (t' := s2.toks) (fun b o e => Heap.get?_push_of_some _ e), turn_list a _, ⟨_, Heap.get?_push_size _ rfl, rfl, rfl⟩, nw s2.heap, qq⟩
  · obtain ⟨its, rv, pt, _⟩ := I2.tuple hx
    have pt : s2.heap.IsTuple a its.toArray := pt
    exact wpAny_pyIter_tuple pt ⟨_, [s2.heap.objs.size], _, _, H2, rfl, I2.kept (t' := s2.toks) (fun b o e => Heap.get?_push_of_some _ e), turn_tuple a _, ⟨_, Heap.get?_push_size _ rfl, rfl, rfl⟩, nw s2.heap, qq⟩
def asQ (f : M D) : M (List D) := bd f fun x => match x with
  | .list ds => rtn ds
  | .tuple ds => rtn ds
  | .dict [(.none, .tuple ds)] => rtn ds
  | _ => fun _ => none
theorem ei_seq {K : PySem.W.Frag} {te : TE} {f : M D} (h : EvE K te f) : EvI K (iSeq K te) (asQ f) := by
  intro A hid P s σ H ds s' ok e R q
  obtain ⟨x, s1, h1, e⟩ := bd_some e
  refine h A hid P s σ H x s1 ok h1 _ fun v P1 H1 ok1 st1 r => ?_
  split at e
  · obtain ⟨rfl, rfl⟩ := rtn_some e
    obtain ⟨a, vs, rfl, hx, rr⟩ := r.lst_inv
    exact ⟨a, rfl, .inl ⟨⟨vs, SqL.of (mask_le _ _ hx)⟩, q _ _ P1 H1 ok1 st1 (walkL rr.length) ⟨hx, rr⟩⟩⟩
  · obtain ⟨rfl, rfl⟩ := rtn_some e
    obtain ⟨a, vs, rfl, hx, rr⟩ := r.tup_inv
    exact ⟨a, rfl, .inr ⟨⟨vs, sqT_le hx⟩, q _ _ P1 H1 ok1 st1 (walkT rr.length) ⟨hx, rr⟩⟩⟩
  · obtain ⟨rfl, rfl⟩ := rtn_some e
    obtain ⟨a, vs, o, rfl, hx, _, rr⟩ := r.pln_inv
    exact ⟨a, rfl, .inr ⟨⟨vs, sqT_le (SqT.frz hx)⟩, q _ _ P1 H1 ok1 st1 (walkT rr.length) ⟨SqT.frz hx, rr⟩⟩⟩
  · cases e
theorem di_seq {X : Cx} {tg e : Expr} {te : TE} {f : M D} (h : DE X e te f) : DI X tg e (iSeq X.K te) (asQ f) := ⟨pi_seq h.p, ei_seq h.v⟩
/-- x.append(e), x a cell -/
theorem ds_append {X : Cx} {e : Expr} {te : TE} {f : M D} {pos : Pos} (i : Nat) {x : Str} {px pa pe : Pos} (h : DE X e te f) (hN : X.N[i]? = some x := by rfl) (hv : Vis X.env.scope x := by first | exact Or.inl rfl | exact Or.inr (Or.inl rfl) | exact Or.inr (Or.inr rfl))
    (hd : (x == ("__debug__" : Str)) = false := by decide) (hcd : (x == ("__classdict__" : Str)) = false := by decide) (hst : starEach [e] X.env = (false, eval e X.env) :: starEach [] X.env := by rfl)
    (hbase : attributeBase (.Name x px) "append" X.env (eval (.Name x px) X.env) = eval (.Name x px) X.env := by rfl)
    (hfew : ((backTo pe (starEach [e] X.env)).all (fun x => !x.1) && (backToKw pe (keywordEach [] X.env)).all (fun x => x.1.isSome) && decide ([e].length + ([] : List Keyword).length + (if ([] : List Keyword).isEmpty then 0 else 1) < 30)) = true := by rfl)
    (hline : (pa.endLine == pe.line) = true := by rfl) (hplain : (backTo pe (starEach [] X.env)).any (·.1) = false := by rfl)
    (hs : swapsWith (.Call (.Attribute (.Name x px) "append" pa) [e] [] pe) none pos.line X.env = pure false := by rfl) : DS X (.Expr (.Call (.Attribute (.Name x px) "append" pa) [e] [] pe) pos) (tDrop (tBM X.K "list" rAppend (tVar i) (tCons te tNil))) (sApp i f) :=
  ds_app i h hN hv hd hcd (pe_bm PySem.F.plainAttrs_list PySem.F.slot_list_append PySem.F.type_list_append mt_append (pe_var hN hv hd hcd) (pa_cons h.p pa_nil hst) hbase hfew hline hst hplain) hs
end DL
namespace DL
open PySem PySem.Spec PyProof.Rows L2
/-! DL13: keywords of a def; a law by its deck and its pure rest. -/
theorem _root_.L2.Fun.kbinds {K : PySem.W.Frag} {x qual : Str} {st : Stmt} {f : Addr} {fd : FuncData} {ps ks : List Str} {pm : List Nat} (F : Fun K x qual st f fd) (hp : ps ≠ [])
    (h : ∀ (kV doc pmv : Value) (an : Option Addr) (cdv ct : Value) (ws : List Value), ws.length = pm.length → bindArgs (PySem.W.fnOf x qual (defArgs st) (defBody st) (defScope st) .none kV doc pmv an cdv ct) ⟨[], ks.zip ws⟩ = pure (ps.zip (permL pm ws))) : KBinds K fd ps ks (gK pm) (gK pm) := by
  obtain ⟨oc, od, kV, doc, pmv, an, cdv, ct, osl, rfl, lk, hcd⟩ := F.ex
  exact kbinds_of hp (h kV doc pmv an cdv ct)
/-! statements, the readings hidden -/
def XS (X : Cx) (sts : List Stmt) (m : M Fl) : Prop := ∃ t, DSs X sts t m
def X1 (X : Cx) (st : Stmt) (m : M Fl) : Prop := ∃ t, DS X st t m
section
variable {X : Cx} {st : Stmt} {rest p q : List Stmt} {m n : M Fl} {pos : Pos}
theorem xs_nil : XS X [] sNx := ⟨_, dss_nil⟩
theorem xs_one (h : X1 X st m) : XS X [st] m := let ⟨_, h⟩ := h; ⟨_, dss_one h⟩
theorem xs_cons (h : X1 X st m) (hr : XS X rest n) : XS X (st :: rest) (sSeq m n) := let ⟨_, h⟩ := h; let ⟨_, hr⟩ := hr; ⟨_, dss_cons h hr⟩
theorem x_lf {t : TS} (h : DS X st t m) : X1 X st m := ⟨_, h⟩
theorem x_if {c : Expr} {tc : TT} {g : M Bool} (hc : DT X c tc g) (ha : XS X p m) (hb : XS X q n) : X1 X (.If c p q pos) (sIf g m n) := let ⟨_, ha⟩ := ha; let ⟨_, hb⟩ := hb; ⟨_, ds_if hc ha hb⟩
theorem x_for {tg iter : Expr} {wi : TI} {it : M (List D)} {js : List Nat} {g : TG} {fg : D → M Unit} (hi : DI X tg iter wi it) (hg : DG X tg js g fg) (hb : XS X p m) (hp : PassesOwn (model X.prog X.w) X.A X.env X.xe := by exact PassesOwn.never) (hc : X.calm = true := by rfl) (hs : ∀ x, foldedSetIterable iter X.env x = pure x := by intro _; rfl) :
    X1 X (.For tg iter p [] pos) (sFor it fg m) := let ⟨_, hb⟩ := hb; ⟨_, ds_for hp hc hi hg hb hs⟩
end
def spLaw (K : PySem.W.Frag) : Sp := fun vs H Q _ => ∃ (a : Addr) (ns : List Int), vs = [.ref a] ∧ SqL K H a (ns.map V.int) ∧ ns.length ≤ 63 ∧ LamX.Tabs (tbsOf K) H ∧ ∀ H', Q (.bl true) H'
/-- the state behind the deck's making -/
def st0 (n : Nat) (k : Dk) : S := ⟨none :: some .deck :: List.replicate (n - 2) none, k⟩
/-- the table of the code objects that law itself makes -/
structure LawTab (K : PySem.W.Frag) (mg : Str → Option Value) (base : Heap) (cdv : Value) : Prop where
  ex : ∃ c P : Addr, (P, ("law.<locals>.<lambda>" : Str)) ∈ tbsOf K ∧ cdv = .ref c ∧ LamX.TabB base mg c P
theorem sok_law {K : PySem.W.Frag} {A : DA} {H : Hp} {k : Dk} {v : Option V} {n : Nat} (hx : A.x = none) (hg : A.gs = none) (dk : DkOk K A A.is H k) : SOk K A (fun _ => False) A.is (st0 n k) (v :: some (.ref A.o) :: List.replicate (n - 2) none) H := by
  have hs : ∀ (i : Nat) (w : Val), (st0 n k).g[i]? = some (some w) → i = 1 ∧ w = .deck := fun i w e => by
    match i with
    | 0 => cases e
    | 1 => cases e; exact ⟨rfl, rfl⟩
    | i + 2 =>
      have e : (List.replicate (n - 2) (none : Option Val))[i]? = some (some w) := e
      rw [List.getElem?_replicate] at e
      split at e <;> cases e
  refine ⟨fun a z => ?_, fun a z => z.elim, fun a z => z.elim, by simp [st0], fun i w e => ?_, fun i j w u a e1 e2 c1 _ _ _ => ?_, dk⟩
  · rcases z with rfl | rfl | rfl | ⟨y, z, _⟩ | ⟨p, hp, rfl⟩ | z
    · exact ⟨_, dk.ho, trivial⟩
    · exact ⟨_, dk.hg, trivial⟩
    · exact ⟨_, dk.hc, trivial⟩
    · rw [hx] at z; cases z
    · obtain ⟨ps, e, _⟩ := dk.tb p hp
      exact ⟨_, e, trivial⟩
    · rw [hg] at z; cases z
  · obtain ⟨rfl, rfl⟩ := hs i w e
    rfl
  · obtain ⟨rfl, rfl⟩ := hs i w e1
    cases c1
theorem law_of {P : Program} {w : World} {K : PySem.W.Frag} {mg : Str → Option Value} {base : Heap} {st s1 : Stmt} {rest : List Stmt} {f : Addr} {fd : FuncData} {N : List Str} {k : Nat} {m : M Fl} {x : Str} (F : Fun K "law" "law" st f fd) (Sc : FnScope (x :: N) [x] (defScope st)) (hN : 1 ≤ N.length)
    (hb : defBody st = s1 :: rest) (tb : ∀ cdv, LookC K f cdv → LawTab K mg base cdv)
    (h1 : ∀ (cdv : Value) (A : Around) (outer : List Env) (s : Shared) (H : Hp) (E : XK), Room k (A.deeper (envOfC "law" (defScope st) s.heap.objs.size f cdv)) → PS (cxOf CX0 P w K mg base (x :: N) "law" (defScope st) f cdv A outer s H E).nox s1 (tAsg (tCall (spDeck K) [] E0 (tCons (tVar 0) tNil)) (gName 1)))
    (h2 : ∀ (cdv : Value) (A : Around) (outer : List Env) (s : Shared) (H : Hp) (E : XK), LawTab K mg base cdv → (A.deeper (envOfC "law" (defScope st) s.heap.objs.size f cdv)).guards = some [] → Room k (A.deeper (envOfC "law" (defScope st) s.heap.objs.size f cdv)) → ∃ t, DSs (cxOf CX0 P w K mg base (x :: N) "law" (defScope st) f cdv A outer s H E).nox rest t m)
    (hm : ∀ k0, DkV k0 → ∃ s', m (st0 (x :: N).length k0) = some (.rt (.bool true), s')) : FnG P w K mg base (k + 1) f fd [x] (spLaw K) := by
  refine fnG_ofC F Sc (fun vs H Q E h => by obtain ⟨a, ns, rfl, _⟩ := h; rfl) fun cdv A outer s H vs Q E hC hG hr h => ?_
  obtain ⟨a, ns, rfl, hS, hl, hT, q⟩ := h
  obtain ⟨t, hD⟩ := h2 cdv A outer s H E (tb cdv hC) hG hr
  refine ⟨_, hb ▸ pss_cons (h1 cdv A outer s H E hr) hD.p, ?_⟩
  · refine ⟨.ref a, rfl, a, ns, rfl, hS, Nat.le_trans hl (by decide), fun A1 k0 H1 hx g dk nn dv => ?_⟩
    obtain ⟨s', e⟩ := hm k0 dv
    have hst : (L2.start (x :: N) [V.ref a]).set 1 (some (.ref A1.o)) = some (.ref a) :: some (.ref A1.o) :: List.replicate (N.length + 1 - 2) none := by
      unfold L2.start
      match N, hN with
      | y :: N, _ => simp [List.replicate_succ]
    show t _ ((L2.start (x :: N) [V.ref a]).set 1 (some (.ref A1.o))) H1
    rw [hst]
    have dk2 : DkOk K ⟨A1.o, A1.g, A1.c, none, tbsOf K, none⟩ (DA.is ⟨A1.o, A1.g, A1.c, none, tbsOf K, none⟩) H1 k0 := ⟨dk.ho, dk.hg, dk.hc, fun a z => z, dk.og, dk.oc, dk.gc, hT.ext g, rfl⟩
    refine hD.v ⟨A1.o, A1.g, A1.c, none, tbsOf K, none⟩ _ _ _ _ H1 _ s' (sok_law (A := ⟨A1.o, A1.g, A1.c, none, tbsOf K, none⟩) (n := N.length + 1) rfl rfl dk2) e _ ?_
    intro v σ' P' H' ok' st' r
    cases r
    exact q H'
end DL
namespace DL
open PySem PySem.Spec PyProof.Rows L2
/-! DL14: the rules with the frozen part by its own name (for the blocks of comprehensions). -/
theorem _root_.L2.Room.u100 {k : Nat} {A : Around} (r : Room k A) : A.units + 100 < cLine := by have := r.un; omega
section
variable {X : Cx} {K : PySem.W.Frag} {e a b c : Expr} {ta tb te : TE} {fa fb f : M D} {pos p2 p : Pos}
theorem k_add (hK : X.K = K := by rfl) : OpR X (binaryOp .Add) (rAddD K) := hK ▸ op_addD
theorem k_mul (hK : X.K = K := by rfl) : OpR X (binaryOp .Mult) (rMulD K) := hK ▸ op_mulD
theorem k_eq (hu : X.A.units + 64 < cLine) (hK : X.K = K := by rfl) : OpR X (compareOp .Eq) (rEqS K) := hK ▸ op_or op_eq (op_eqD hu)
theorem k_ne (hu : X.A.units + 64 < cLine) (hK : X.K = K := by rfl) : OpR X (compareOp .NotEq) (rNeS K) := hK ▸ op_or op_ne (op_neD hu)
theorem k_lt (hu : X.A.units + 64 < cLine) (hK : X.K = K := by rfl) : OpR X (compareOp .Lt) (rCmpS K (fun i j => decide (i < j)) fun x y => PySem.W.dataLt x y) := hK ▸ op_ltS hu
theorem k_gt (hu : X.A.units + 64 < cLine) (hK : X.K = K := by rfl) : OpR X (compareOp .Gt) (rCmpS K (fun i j => decide (j < i)) fun x y => PySem.W.dataLt y x) := hK ▸ op_gtS hu
theorem k_ge (hu : X.A.units + 64 < cLine) (hK : X.K = K := by rfl) : OpR X (compareOp .GtE) (rCmpS K (fun i j => decide (j ≤ i)) fun x y => !PySem.W.dataLt x y) := hK ▸ op_geS hu
theorem k_in (hK : X.K = K := by rfl) : OpR X (compareOp .In) (rIn K false) := hK ▸ op_in_seq
theorem k_len (hK : X.K = K := by rfl) : CallR X (.builtin "len") (rOrC (rLenQ K) rLenZ) := hK ▸ DL.call_lenD
theorem k_listOf (hK : X.K = K := by rfl) : CallR X (.type "list") (rListOf K) := hK ▸ call_list_of
theorem k_tupleOf (hK : X.K = K := by rfl) : CallR X (.type "tuple") (rTupleOf K) := hK ▸ call_tuple_of
theorem k_repr (hz : NoDig K) (hg : X.A.guards = some []) (hu : X.A.units + 100 < cLine) (hK : X.K = K := by rfl) : CallR X (.builtin "repr") (rRepr K) := by subst hK; exact call_reprD hz hg hu
theorem k_ix (ha : DE X a ta fa) (hb : DE X b tb fb) (hK : X.K = K := by rfl) (hs : PlainIx b := by exact fun _ _ => rfl) : DE X (.Subscript a b pos) (tOp (rIx K) ta tb) (eOp2 dIx fa fb) := hK ▸ de_ix ha hb hs
variable {lo hi : Option Expr} {tl th : TO} {gl gh : M (Option Int)}
theorem k_sl (ha : DE X e te f) (hl : DO X lo tl gl) (hh : DO X hi th gh) (hK : X.K = K := by rfl) : DE X (.Subscript e (.Slice lo hi none p2) pos) (tSl (rSlD K) te tl th) (eSl f gl gh) := hK ▸ de_sl ha hl hh
variable {x : Str} {es : List Expr} {B : List Nat} {tr : TA} {fr : M (List AV)} {k : Nat} {ps : List Str} {kws : List (List Str × List Nat)} {sem : FS}
theorem k_call (F : FnD X.prog X.w X.K X.mg X.base k x ps kws sem) (hr : Room k X.A) (hg : Gl X x) (ha : DV X (e :: es) B tr fr) (hK : X.K = K := by rfl) (hdb : (x == ("__debug__" : Str)) = false := by decide) (he : starEach (e :: es) X.env = (false, eval e X.env) :: starEach es X.env := by rfl)
    (hpl : (backTo pos (starEach es X.env)).any (·.1) = false := by rfl) : DE X (.Call (.Name x p) (e :: es) [] pos) (tCall (spD K sem) [] E0 tr) (eCallB B sem fr) := hK ▸ de_call F hr hg ha hdb he hpl
theorem k_gtup {js : List Nat} {t : TGs} {g : List D → M Unit} {n kk : Nat} (h : DGs X es js t g) (hK : X.K = K := by rfl) (hc : X.calm = true := by rfl)
    (hn : (assignEach es X.env).length = n := by rfl) (hst : (assignEach es X.env).findIdx? (·.1) = none := by rfl) : DG X (.Tuple es kk pos) js (gTup K n t) (gTp n g) := hK ▸ dg_tup hc h hn hst
theorem k_seq {tg : Expr} (h : DE X e te f) (hK : X.K = K := by rfl) : DI X tg e (iSeq K te) (asQ f) := hK ▸ di_seq h
end
end DL
namespace DL
open PySem PySem.Spec PyProof.Rows L2
/-! DL18: enumerate of a list or a tuple. -/
theorem meets_enum1 {v : Value} {o : Obj} {H : Heap → Prop} (B : Begins v o H) :
    Meets (Builtin.«enumerate.__new__» ⟨[.type "enumerate", v], []⟩) (fun _ R s => H s.heap ∧
      R (.ok (.ret (.ref (s.heap.push o).objs.size))) { s with heap := (s.heap.push o).push { cls := .type "enumerate", data := .fields #[.none, .bool false, .ref s.heap.objs.size, rawInt 0, .none, .none] } }) :=
  .of_wp fun prog w A R s h => by
    obtain ⟨hp, g, d, tk, os⟩ := s; obtain ⟨h1, h⟩ := h
    have hsub := sub_enumerate
    have q1 : ∀ {A' : Around} {E : Value → Shared → Prop} {Q : Value → Shared → Prop}, Q (.ref hp.objs.size) ⟨hp.push o, g, d, tk, os⟩ → wpAny (model prog w) A' (pyIter v) Q E ⟨hp, g, d, tk, os⟩ :=
      fun q => B.iter prog w _ _ ⟨hp, g, d, tk, os⟩ _ h1 q
    wp_walk using q1
    refine wpAny_stack_any fun st => wpAny_pure ?_
    split
    · rename_i c _ _ _ _ _
      cases (c == Value.type "enumerate")
      · wp_walk using q1
        exact ⟨_, rfl, h⟩
      · wp_walk using q1
        exact ⟨_, rfl, h⟩
    · wp_walk using q1
      exact ⟨_, rfl, h⟩
theorem enum1 {prog : Program} {w : World} {A : Around} {E : Value → Shared → Prop} {s : Shared} {v : Value} {o : Obj} {H : Heap → Prop} {Q : Value → Shared → Prop} (B : Begins v o H) (h1 : H s.heap)
    (h : ∀ h', IsEnum h' (s.heap.objs.size + 1) s.heap.objs.size 0 .none → h'.get? s.heap.objs.size = some o → h'.objs.size = s.heap.objs.size + 2 →
      (∀ b o, s.heap.get? b = some o → h'.get? b = some o) → Q (.ref (s.heap.objs.size + 1)) { s with heap := h' }) :
    wpAny (model prog w) A (call (.type "enumerate") [v]) Q E s := by
  refine callType_new F.called_enumerate (by decide) (F.typeCall_enumerate_1 _) (F.newCall_enumerate_1 _) (fun obj => F.args_object_init_2 obj _) F.entry_enumerate_new
    (meets_enum1 B) ⟨h1, ?_⟩
  have hz : (s.heap.push o).objs.size = s.heap.objs.size + 1 := Heap.size_push ..
  show _ ∧ _
  rw [hz]
  have he : IsEnum ((s.heap.push o).push { cls := .type "enumerate", data := .fields #[.none, .bool false, .ref s.heap.objs.size, rawInt 0, .none, .none] }) (s.heap.objs.size + 1) s.heap.objs.size 0 .none := by
    have := Heap.get?_push_size (s.heap.push o) (o := { cls := .type "enumerate", data := .fields #[.none, .bool false, .ref s.heap.objs.size, rawInt 0, .none, .none] }) rfl
    rw [hz] at this; exact this
  refine ⟨⟨_, he, rfl⟩, h _ he (Heap.get?_push_of_some _ (Heap.get?_push_size _ B.free)) (by rw [Heap.size_push, hz]) fun b o x => Heap.get?_push_of_some _ (Heap.get?_push_of_some _ x)⟩
/-- the tuple at a, each item in a new pair -/
def IteT (K : PySem.W.Frag) (a : Addr) : It :=
  ⟨fun i H => ∃ (xs : List V) (x : V), SqT K H a xs ∧ xs[i]? = some x, fun i H v H' => ∃ T x, v = .ref T ∧ H T = none ∧ H' = upd H T (.tup [.int (i : Nat), x]) ∧ ∀ xs, SqT K H a xs → xs[i]? = some x, fun i H => ∃ xs : List V, SqT K H a xs ∧ xs.length ≤ i⟩
theorem turn_enumT {P : Program} {w : World} {K : PySem.W.Frag} {elts : List Expr} {kk : Nat} {tpos : Pos} (a e it : Addr) :
    Turn P w K (.Tuple elts kk tpos) (IteT K a) [e, it] e (fun i h => (∃ old, IsEnum h e it ((i : Nat) : Int) old) ∧ h.IsTupleIter it a i ∧ e ≠ it ∧ a ≠ it ∧ e ≠ a) where
  mem := by simp
  obj := fun i h st b hb => by
    obtain ⟨⟨old, he⟩, ⟨o, ho, hc, hd⟩, _⟩ := st
    have e' : b = e ∨ b = it := by simpa using hb
    rcases e' with z | z
    · rw [z]; exact ⟨_, he, fun v q => nomatch q⟩
    · rw [z]; exact ⟨o, ho, fun v q => by rw [hd] at q; cases q⟩
  keep := fun i h h' st k => let ⟨⟨old, he⟩, hi, hne⟩ := st; ⟨⟨old, k e (by simp) _ he⟩, hi.at fun o q => k it (by simp) o q, hne⟩
  item := by
    intro X hP hw hK hc i pins s σ H E I hf st hg
    subst hP hw hK
    obtain ⟨⟨old, he⟩, hit, hne, hai, hea⟩ := st
    obtain ⟨xs, x, hq, hx⟩ := hg
    obtain ⟨its, rv, p, hz⟩ := I.tuple hq
    have p : s.heap.IsTuple a its.toArray := p
    obtain ⟨u, hu, ru⟩ := rv.get hx
    have hel : e < s.heap.objs.size := Heap.lt_size he
    have hil : it < s.heap.objs.size := by obtain ⟨_, q, _⟩ := hit; exact Heap.lt_size q
    have hlt : i < its.toArray.size := by
      have : i < its.length := by
        rcases Nat.lt_or_ge i its.length with h | h
        · exact h
        · rw [List.getElem?_eq_none h] at hu; cases hu
      simpa using this
    refine wpAny_pyNext_enum_itemD (Draws.tuple (A := X.A.in1) (I.ok.hd hc) it a hai its.toArray) he ⟨hit, p⟩ hlt hne (by simp; exact ⟨hne, hea⟩) fun x' h' tk hx' ho hit' hT hsz hk => ?_
    have ex' : x' = u := by
      have h2 : its[i]? = some x' := by simpa using hx'
      rw [hu] at h2; exact (Option.some.inj h2).symm
    subst ex'
    refine ⟨_, rfl, wpAny_letOwnedTupleGo_enum (s := { s with heap := h', toks := tk + 1 }) ho fun h'' he' sb => ?_⟩
    have hT2 : h''.get? s.heap.objs.size = some { cls := .type "tuple", data := .seq #[.int i tk, x'] } := (sb.2 _ (Nat.ne_of_gt hel)).trans hT
    have new : ObjOk X.prog X.w (upd H s.heap.objs.size (.tup [.int (i : Nat), x])) h'' s.heap.objs.size (.tup [.int (i : Nat), x]) :=
      ⟨by show 2 ≤ sizeLine; decide, [.int i tk, x'], .cons ⟨_, rfl⟩ (.cons ru .nil), ⟨_, hT2, rfl, _, rfl⟩⟩
    have I1 : Inv X pins σ (upd H s.heap.objs.size (.tup [.int (i : Nat), x])) { s with heap := h'', toks := tk + 1 } :=
      I.turnedNew (ch := [e, it]) (fun b ob hb q => (sb.2 b (fun z => hb (by simp [z]))).trans (hk b ob (fun z => hb (by simp [z])) (fun z => hb (by simp [z])) q)) hf (Nat.le_refl _) new
    refine ⟨.ref s.heap.objs.size, _, I1, rfl, ⟨_, x, rfl, I.hok.fresh (Nat.le_refl _), rfl, fun ys hy => by rw [I.tuple_inj hy hq]; exact hx⟩, ⟨⟨x', ?_⟩, hit'.1.at fun o q => (sb.2 it (Ne.symm hne)).trans q, hne, hai, hea⟩, fun b hb => ?_⟩
    · have e1 : ((i + 1 : Nat) : Int) = (i : Int) + 1 := by omega
      rw [e1]; exact he'
    · have hb' : b < s.heap.objs.size := by
        have e' : b = e ∨ b = it := by simpa using hb
        rcases e' with z | z
        · rw [z]; exact hel
        · rw [z]; exact hil
      rw [upd_ne (Nat.ne_of_lt hb')]
      exact (hf b hb).1
  done := by
    intro X hP hw hK hc i pins s σ H E I hf st hg
    subst hP hw hK
    obtain ⟨⟨old, he⟩, hit, hne, hai, hea⟩ := st
    obtain ⟨xs, hq, hx⟩ := hg
    obtain ⟨its, rv, p, hz⟩ := I.tuple hq
    have p : s.heap.IsTuple a its.toArray := p
    obtain ⟨f0, f1, f2, f3, f4, f5⟩ := hf it (by simp)
    have hl := rv.length
    have hT : s.TypeIs (.ref e) "enumerate" := ⟨_, he, rfl⟩
    unfold pyNext
    refine wpAny_bind (wpAny_attempt (wpAny_callSpecial?_slot (name := Str.ofString "__next__") hT F.slot_enumerate_next
      (wpAny_call_entry F.slot_enumerate_next hT F.entry_enumerate_next ?_ (F.args_enumerate_next_1 _))))
    show wpAny _ _ (field (.ref e) 2 >>= _) _ _ _
    refine wpAny_bind (wpAny_field he rfl (x := .ref it) rfl ?_)
    refine wpAny_bind (RZ.nextOf_tuple_end (A := X.A.in1) (I.ok.hd hc) hit p (by simp; omega) fun h' x he' hx' => ?_)
    obtain ⟨o, ho, hc'⟩ := hx'
    refine wpAny_bind (wpAny_isInstance (T := "StopIteration") (b := true) ⟨o, ho, hc'⟩ isSubtype_stop ?_)
    exact wpAny_pure ⟨rfl, I.turned (t' := s.toks) (fun b o hb q => he' b o hb q) f0 f1 f3 f4 f5⟩
  self := fun A i s Q E st h => let ⟨⟨_, he⟩, _⟩ := st; wpAny_pyIter_enum he h
def iEnumQ (K : PySem.W.Frag) (ta : TA) : TI := fun σ H R => ta σ H fun vs H1 => ∃ a, vs = [.ref a] ∧ (((∃ xs, SqL K H1 a xs) ∧ R (Ite K a) H1) ∨ ((∃ xs, SqT K H1 a xs) ∧ R (IteT K a) H1))
theorem pi_enumQ {X : Cx} {e : Expr} {ta : TA} {p pos tpos : Pos} {elts : List Expr} {kk : Nat} (hg : Gl X "enumerate") (hm : X.mg "enumerate" = none) (ha : PA X [e] ta) (hs : starEach [e] X.env = [(false, eval e X.env)] := by rfl) :
    PI X (.Tuple elts kk tpos) (.Call (.Name "enumerate" p) [e] [] pos) (iEnumQ X.K ta) := by
  refine ⟨fun pins s σ H R I h => ?_⟩
  refine Call_ (ld_blt I hg hm boot_enumerate (PyProof.Rows.callWith_type1 (thn (ha.run pos pins s σ H _ I h) fun us s1 ⟨vs, H1, I1, r1, q1⟩ => ?_) hs rfl))
  obtain ⟨a, ex, q⟩ := q1
  subst ex
  cases r1 with
  | cons r rr =>
    cases rr
    cases r
    have fp : ∀ b ∈ [s1.heap.objs.size + 1, s1.heap.objs.size], FpOk X pins H1 b := fun b hb => by
      have e' : b = s1.heap.objs.size + 1 ∨ b = s1.heap.objs.size := by simpa using hb
      have hle : s1.heap.objs.size ≤ b := by
        rcases e' with z | z
        · rw [z]; exact Nat.le_add_right _ _
        · rw [z]; exact Nat.le_refl _
      exact I1.fpOk hle (I1.hok.fresh hle)
    rcases q with ⟨⟨xs, hq⟩, q⟩ | ⟨⟨xs, hq⟩, q⟩
    · obtain ⟨its, rv, p', hz⟩ := I1.list hq
      refine call_enumerate_list p'.isList fun h' he hit hsz hk => wpAny_pyIter_enum he ?_
      have I2 : Inv X pins σ H1 { s1 with heap := h' } := I1.kept (t' := s1.toks) hk
      exact ⟨s1.heap.objs.size + 1, [s1.heap.objs.size + 1, s1.heap.objs.size], _, _, H1, rfl, I2, turn_enum a (s1.heap.objs.size + 1) s1.heap.objs.size, ⟨⟨.none, he⟩, hit, Nat.succ_ne_self _⟩, fp, q⟩
    · obtain ⟨its, rv, p', hz⟩ := I1.tuple hq
      have p' : s1.heap.IsTuple a its.toArray := p'
      have hal : a < s1.heap.objs.size := by obtain ⟨_, q, _⟩ := p'; exact Heap.lt_size q
      refine enum1 (begins_tuple a its.toArray) p' fun h' he hit hsz hk => wpAny_pyIter_enum he ?_
      have I2 : Inv X pins σ H1 { s1 with heap := h' } := I1.kept (t' := s1.toks) hk
      exact ⟨s1.heap.objs.size + 1, [s1.heap.objs.size + 1, s1.heap.objs.size], _, _, H1, rfl, I2, turn_enumT a (s1.heap.objs.size + 1) s1.heap.objs.size, ⟨⟨.none, he⟩, ⟨_, hit, rfl, rfl⟩, Nat.succ_ne_self _, Nat.ne_of_lt hal, Nat.ne_of_gt (Nat.lt_succ_of_lt hal)⟩, fp, q⟩
/-! what is walked -/
def enmD (ds : List D) : List D := (List.range ds.length).map fun i => .tuple [.int (i : Nat), ds.getD i .none]
theorem enmD_len (ds : List D) : (enmD ds).length = ds.length := by simp [enmD]
theorem enmD_get {ds : List D} {i : Nat} {d : D} (h : ds[i]? = some d) : (enmD ds)[i]? = some (.tuple [.int (i : Nat), d]) := by
  have hi : i < ds.length := by
    rcases Nat.lt_or_ge i ds.length with h' | h'
    · exact h'
    · rw [List.getElem?_eq_none h'] at h; cases h
  rw [List.getElem?_eq_getElem hi] at h
  simp [enmD, hi, Option.some.inj h]
theorem rp_pair {K : PySem.W.Frag} {P : Addr → Prop} {H : Hp} {T : Addr} {i : Nat} {x : V} {d : D} (t : Trk P H) (hT : H T = none) (r : Rp K (mask P H) x d) : Rp K (mask P (upd H T (.tup [.int (i : Nat), x]))) (.ref T) (.tuple [.int (i : Nat), d]) :=
  rp_newT t hT (.cons (.int _) (.cons r .nil))
theorem walkEL {K : PySem.W.Frag} {a : Addr} {vs : List V} {ds : List D} (n : vs.length = ds.length) : WalkD K (Ite K a) (fun P H => mask P H a = some (.lst vs) ∧ RpA K (mask P H) vs ds) (enmD ds) := by
  refine ⟨fun P i H hi g => ⟨vs, vs[i]'(by rw [enmD_len] at hi; omega), SqL.of (mask_le _ _ g.1), by simp⟩, fun P H g => ⟨vs, SqL.of (mask_le _ _ g.1), by rw [enmD_len]; omega⟩, fun P i H x H' hi t g y => ?_, fun P P' H H' q g => ⟨q _ _ g.1, g.2.mono q⟩⟩
  obtain ⟨T, x, rfl, hT, rfl, y⟩ := y
  have h := y vs (SqL.of (mask_le _ _ g.1))
  obtain ⟨d, h1, h2⟩ := g.2.getv h
  exact ⟨Grw.new hT, _, enmD_get h1, rp_pair t hT h2⟩
theorem walkET {K : PySem.W.Frag} {a : Addr} {vs : List V} {ds : List D} (n : vs.length = ds.length) : WalkD K (IteT K a) (fun P H => SqT K (mask P H) a vs ∧ RpA K (mask P H) vs ds) (enmD ds) := by
  refine ⟨fun P i H hi g => ⟨vs, vs[i]'(by rw [enmD_len] at hi; omega), sqT_le g.1, by simp⟩, fun P H g => ⟨vs, sqT_le g.1, by rw [enmD_len]; omega⟩, fun P i H x H' hi t g y => ?_, fun P P' H H' q g => ⟨SqT.grw q g.1, g.2.mono q⟩⟩
  obtain ⟨T, x, rfl, hT, rfl, y⟩ := y
  have h := y vs (sqT_le g.1)
  obtain ⟨d, h1, h2⟩ := g.2.getv h
  exact ⟨Grw.new hT, _, enmD_get h1, rp_pair t hT h2⟩
def asE (f : M (List D)) : M (List D) := bd f fun x => match x with
  | [.list ds] => rtn (enmD ds)
  | [.tuple ds] => rtn (enmD ds)
  | _ => fun _ => none
theorem ei_enum {K : PySem.W.Frag} {ta : TA} {f : M (List D)} (h : EvA K ta f) : EvI K (iEnumQ K ta) (asE f) := by
  intro A hid P s σ H ds s' ok e R q
  obtain ⟨x, s1, h1, e⟩ := bd_some e
  refine h A hid P s σ H x s1 ok h1 _ fun v P1 H1 ok1 st1 r => ?_
  split at e
  · obtain ⟨rfl, rfl⟩ := rtn_some e
    obtain ⟨v, rfl, r0⟩ := r.one
    obtain ⟨a, vs, rfl, hx, rr⟩ := r0.lst_inv
    exact ⟨a, rfl, .inl ⟨⟨vs, SqL.of (mask_le _ _ hx)⟩, q _ _ P1 H1 ok1 st1 (walkEL rr.length) ⟨hx, rr⟩⟩⟩
  · obtain ⟨rfl, rfl⟩ := rtn_some e
    obtain ⟨v, rfl, r0⟩ := r.one
    obtain ⟨a, vs, rfl, hx, rr⟩ := r0.tup_inv
    exact ⟨a, rfl, .inr ⟨⟨vs, sqT_le hx⟩, q _ _ P1 H1 ok1 st1 (walkET rr.length) ⟨hx, rr⟩⟩⟩
  · cases e
theorem k_enum {K : PySem.W.Frag} {X : Cx} {e : Expr} {ta : TA} {f : M (List D)} {p pos tpos : Pos} {elts : List Expr} {kk : Nat} (hg : Gl X "enumerate") (hm : X.mg "enumerate" = none) (ha : DAr X [e] ta f) (hs : starEach [e] X.env = [(false, eval e X.env)] := by rfl) (hK : X.K = K := by rfl) :
    DI X (.Tuple elts kk tpos) (.Call (.Name "enumerate" p) [e] [] pos) (iEnumQ K ta) (asE f) := hK ▸ ⟨pi_enumQ hg hm ha.p hs, ei_enum ha.v⟩
end DL
namespace DL
open PySem PySem.Spec PyProof.Rows L2
/-! DL19: dicts with keys ints and texts, as data: displays, [], in; all of a list of bools. -/
def kD : D → Option Key
  | .int i => some (.inl i)
  | .str x => some (.inr x)
  | _ => none
theorem kD_keyD (k : Key) : kD (keyD k) = some k := by cases k <;> rfl
theorem kD_some {d : D} {k : Key} (h : kD d = some k) : d = keyD k := by
  cases d <;> simp [kD] at h <;> subst h <;> rfl
theorem Rp.key {K : PySem.W.Frag} {H : Hp} {v : V} {k : Key} (h : Rp K H v (keyD k)) : v = kV k := by
  cases k <;> cases h <;> rfl
def sameK (a b : D) : Bool := (kD a).isSome && decide (kD a = kD b)
theorem sameK_key (a b : Key) : sameK (keyD a) (keyD b) = decide (a = b) := by
  unfold sameK
  rw [kD_keyD, kD_keyD]
  by_cases h : a = b <;> simp [h]
def lookD (ds : List (D × D)) (y : D) : Option D := (ds.find? fun p => sameK p.1 y).map (·.2)
theorem RpK.look {K : PySem.W.Frag} {H : Hp} {k : Key} : ∀ {kvs : List (Key × V)} {ds : List (D × D)}, RpK K H kvs ds → (∃ v d, valV kvs k = some v ∧ lookD ds (keyD k) = some d ∧ Rp K H v d) ∨ (valV kvs k = none ∧ lookD ds (keyD k) = none)
  | _, _, .nil => .inr ⟨rfl, rfl⟩
  | (k', v) :: r, (_, d) :: ds, .cons h t => by
    by_cases e : k' = k
    · subst e
      refine .inl ⟨v, d, by rw [valV_pos rfl], ?_, h⟩
      unfold lookD
      rw [List.find?_cons_of_pos (by show sameK (keyD k') (keyD k') = true; rw [sameK_key]; simp)]
      rfl
    · have e2 : lookD ((keyD k', d) :: ds) (keyD k) = lookD ds (keyD k) := by
        unfold lookD
        rw [List.find?_cons_of_neg (by show ¬ sameK (keyD k') (keyD k) = true; rw [sameK_key]; simp [e])]
      rw [valV_neg (show ¬ (k', v).1 = k from e), e2]
      exact RpK.look t
def putD (ds : List (D × D)) (k v : D) : List (D × D) := if (ds.any fun p => sameK p.1 k) = true then ds.map (fun p => if sameK p.1 k = true then (p.1, v) else p) else ds ++ [(k, v)]
theorem RpK.length {K : PySem.W.Frag} {H : Hp} : ∀ {kvs : List (Key × V)} {ds : List (D × D)}, RpK K H kvs ds → kvs.length = ds.length
  | _, _, .nil => rfl
  | _, _, .cons _ t => by rw [List.length_cons, List.length_cons, RpK.length t]
def mergeD : List (D × D) → List (D × D) → List (D × D)
  | ds, [] => ds
  | ds, p :: r => mergeD (putD ds p.1 p.2) r
/-! ### d[k], k in d -/
end DL
namespace DL
open PySem PySem.Spec PyProof.Rows L2
/-! DL20: k in d; displays; all. -/
section
variable {X : Cx} {K : PySem.W.Frag} {a b : Expr} {ta tb : TE} {fa fb : M D} {pos : Pos}
/-! ### all([..]) -/
def bsD : List D → Option (List Bool)
  | [] => some []
  | .bool b :: r => (bsD r).map (b :: ·)
  | _ :: _ => none
def dAll : List D → Option D
  | [.list ds] => (bsD ds).map fun bs => .bool (bs.all id)
  | _ => none
end
/-! ### {k: v, ..} -/
abbrev RpP (K : PySem.W.Frag) (H : Hp) (vs : List (V × V)) (ds : List (D × D)) : Prop := Paired (fun v d => Rp K H v.1 d.1 ∧ Rp K H v.2 d.2) vs ds
theorem RpP.mono {K : PySem.W.Frag} {H H' : Hp} (g : Grw H H') {vs : List (V × V)} {ds : List (D × D)} (h : RpP K H vs ds) : RpP K H' vs ds := by
  induction h with
  | nil => exact .nil
  | cons h _ ih => exact .cons ⟨h.1.mono g, h.2.mono g⟩ ih
def prNil : M (List (D × D)) := rtn []
def prCons (fk fv : M D) (fr : M (List (D × D))) : M (List (D × D)) := bd fk fun k => bd fv fun v => bd fr fun r => rtn ((k, v) :: r)
section
variable {X : Cx} {K : PySem.W.Frag} {pos : Pos}
theorem RpP.keys {H : Hp} : ∀ {vs : List (V × V)} {ds : List (D × D)}, RpP K H vs ds → (ds.all fun p => (kD p.1).isSome) = true → ∃ kvs : List (Key × V), vs = kvs.map (fun kv => (kV kv.1, kv.2)) ∧ RpK K H kvs ds
  | _, _, .nil, _ => ⟨[], rfl, .nil⟩
  | _ :: _, (dk, dv) :: _, .cons h t, f => by
    rw [List.all_cons, Bool.and_eq_true] at f
    obtain ⟨kvs, e, r⟩ := RpP.keys t f.2
    obtain ⟨k, hk⟩ := Option.isSome_iff_exists.mp f.1
    have ek : dk = keyD k := kD_some hk
    subst ek
    refine ⟨(k, _) :: kvs, ?_, .cons h.2 r⟩
    rw [List.map_cons, e]
    have : _ = kV k := h.1.key
    rw [← this]
theorem RpP.len {H : Hp} : ∀ {vs : List (V × V)} {ds : List (D × D)}, RpP K H vs ds → vs.length = ds.length
  | _, _, .nil => rfl
  | _, _, .cons _ t => by rw [List.length_cons, List.length_cons, RpP.len t]
def dDisp (ds : List (D × D)) : Option D := if ds.length ≤ 15 ∧ (ds.all fun p => (kD p.1).isSome) = true then some (.dict (mergeD [] ds)) else none
def eDisp (f : M (List (D × D))) : M D := bd f fun ds => lf (dDisp ds)
end
end DL
namespace DL
open PySem PySem.Spec PyProof.Rows L2
/-! DL21: a cell looked at while it stays a cell: x[i], len(x), y in x, x == y. -/
/-- what stands in a slot, cell or data -/
def peek (i : Nat) (s : S) : Option D := match s.g[i]? with
  | some (some (.lst ds)) => some (.list ds)
  | some (some (.dat d)) => some d
  | _ => none
section
variable {X : Cx} {K : PySem.W.Frag} {A : DA} {hid P : Addr → Prop} {s : S} {σ : St} {H : Hp} {pos : Pos}
/-- the value in the slot stands for its data once its own address is shown -/
theorem SOk.peek {i : Nat} {d : D} (ok : SOk K A hid P s σ H) (e : peek i s = some d) : ∃ (v : V) (P1 : Addr → Prop), σ[i]? = some (some v) ∧ Rp K (mask P1 H) v d ∧ (∀ a, P1 a → P a) ∧ (∀ a, P a → ¬ P1 a → ∃ vs, H a = some (.lst vs)) := by
  unfold DL.peek at e
  split at e
  · rename_i ds hi
    cases e
    obtain ⟨a, vs, ea, h1, h2, h3, h4, rr⟩ := ok.slot i _ hi
    have g : Grw (mask P H) (mask (fun b => P b ∧ b ≠ a) H) := mask_grw fun b o e c => ⟨fun z => c z.1, e⟩
    refine ⟨.ref a, fun b => P b ∧ b ≠ a, ea, .lst (mask_some.mpr ⟨fun z => z.2 rfl, h1⟩) (rr.mono g), fun b z => z.1, fun b z1 z2 => ?_⟩
    have : b = a := Classical.byContradiction fun z => z2 ⟨z1, z⟩
    exact ⟨vs, this ▸ h1⟩
  · rename_i d' hi
    cases e
    obtain ⟨v, e, r⟩ := ok.slot i _ hi
    exact ⟨v, P, e, r, fun _ z => z, fun _ z1 z2 => absurd z1 z2⟩
  · cases e
theorem unpeek {P1 : Addr → Prop} {H1 : Hp} {z : V} {d : D} (h : ∀ a, P a → ¬ P1 a → ∃ vs, H1 a = some (.lst vs)) (r : Rp K (mask P1 H1) z d) (n : noMut d = true) : Rp K (mask P H1) z d := by
  refine r.tupsOnly (fun a o to q => ?_) n
  obtain ⟨q1, q2⟩ := mask_some.mp q
  refine mask_some.mpr ⟨fun z => ?_, q2⟩
  obtain ⟨vs, q3⟩ := h a z q1
  rw [q2] at q3; cases q3; exact to
variable {a b : Expr} {ta tb : TE} {fa fb : M D}
/-- an operator, its first side a cell -/
def eB1 (op : D → D → Option D) (i : Nat) (fb : M D) : M D := fun s => if (peek i s).isSome = true then bd fb (fun y s1 => match peek i s1 with
  | some x => match op x y with
    | some d => if noMut d = true then some (d, s1) else none
    | none => none
  | none => none) s else none
def eB2 (op : D → D → Option D) (fb : M D) (i : Nat) : M D := bd fb (fun y s1 => match peek i s1 with
  | some x => match op y x with
    | some d => if noMut d = true then some (d, s1) else none
    | none => none
  | none => none)
/-- a built-in of one argument, a cell -/
def eBC (op : List D → Option D) (i : Nat) : M D := fun s => match peek i s with
  | some x => match op [x] with
    | some d => if noMut d = true then some (d, s) else none
    | none => none
  | none => none
theorem ev_bc {r : List V → Hp → VK → Prop} {op : List D → Option D} {i : Nat} (hr : DOC K r op) : EvE K (tCB r (tCons (tVar i) tNil)) (eBC op i) := by
  intro A hid P s σ H d s' ok e Q q
  unfold eBC at e
  split at e
  · rename_i x hx
    obtain ⟨v, P2, ev, rv, hs, hl⟩ := ok.peek hx
    split at e
    · rename_i d' ho
      split at e
      · rename_i hn
        cases e
        refine ⟨v, ev, ?_⟩
        refine hr P2 H [v] [x] _ (fun a z => ok.trk a (hs a z)) (.cons rv .nil) ho _ fun z H3 g r3 => ?_
        refine q z P H3 (ok.grw g) (Stp.grw g) (unpeek (fun a z1 z2 => ?_) r3 hn)
        obtain ⟨vs, q3⟩ := hl a z1 z2
        exact ⟨vs, g _ _ q3⟩
      · cases e
    · cases e
  · cases e
/-- x[e], x a cell: the item may be anything -/
def eIxC (i : Nat) (fb : M D) : M D := fun s => if (peek i s).isSome = true then bd fb (fun y s1 => match s1.g[i]? with
  | some (some (.lst ds)) => (match y with
    | .int j => (match atI ds j with
      | some d => some (d, s1)
      | none => none)
    | _ => none)
  | some (some (.dat x)) => (match dIx x y with
    | some d => some (d, s1)
    | none => none)
  | _ => none) s else none
theorem ev_ixC {i : Nat} (hb : EvE K tb fb) : EvE K (tOp (rIx K) (tVar i) tb) (eIxC i fb) := by
  intro A hid P s σ H d s' ok e Q q
  unfold eIxC at e
  split at e
  · rename_i hp
    obtain ⟨x0, hx0⟩ := Option.isSome_iff_exists.mp hp
    obtain ⟨v, _, ev, _⟩ := ok.peek hx0
    obtain ⟨y, s1, e1, e⟩ := bd_some e
    refine ⟨v, ev, hb A hid P s σ H y s1 ok e1 _ fun u P1 H1 ok1 st1 r1 => ?_⟩
    split at e
    · rename_i ds hi
      split at e
      · rename_i j
        split at e
        · rename_i d' hd
          cases e
          obtain ⟨a, vs, ea, h1, h2, h3, h4, rr⟩ := ok1.slot i _ hi
          rw [ev] at ea; cases ea
          cases r1
          obtain ⟨v', q1, q2⟩ := rr.atI hd
          exact .inl ⟨a, vs, j, v', rfl, rfl, SqL.of h1, q1, q v' P1 H1 ok1 st1 q2⟩
        · cases e
      · cases e
    · rename_i x hi
      split at e
      · rename_i d' hd
        cases e
        obtain ⟨v', ev', rv⟩ := ok1.slot i _ hi
        rw [ev] at ev'; cases ev'
        exact do_ix P1 H1 v u x y _ ok1.trk rv r1 hd _ fun z H3 g r3 => q z P1 H3 (ok1.grw g) (st1.trans (Stp.grw g)) r3
      · cases e
    · cases e
  · cases e
variable (i : Nat) {x : Str} {px : Pos}
theorem k_ixC (hb : DE X b tb fb) (hK : X.K = K := by rfl) (hs : PlainIx b := by exact fun _ _ => rfl) (hN : X.N[i]? = some x := by rfl) (hv : Vis X.env.scope x := by first | exact Or.inl rfl | exact Or.inr (Or.inl rfl) | exact Or.inr (Or.inr rfl)) (hd : (x == ("__debug__" : Str)) = false := by decide) (hcd : (x == ("__classdict__" : Str)) = false := by decide) :
    DE X (.Subscript (.Name x px) b pos) (tOp (rIx K) (tVar i) tb) (eIxC i fb) := hK ▸ ⟨pe_ix ix_seq (pe_var hN hv hd hcd) hb.p hs, ev_ixC hb.v⟩
theorem de_bc {f : Str} {p : Pos} {id : String} {r : List V → Hp → VK → Prop} {op : List D → Option D} (hc : CallR X (.builtin id) r) (hr : DOC X.K r op) (hg : Gl X f) (hm : X.mg f = none) (hbb : bootBuiltins f = some (.builtin id)) (hN : X.N[i]? = some x := by rfl) (hv : Vis X.env.scope x := by first | exact Or.inl rfl | exact Or.inr (Or.inl rfl) | exact Or.inr (Or.inr rfl)) (hd : (x == ("__debug__" : Str)) = false := by decide) (hcd : (x == ("__classdict__" : Str)) = false := by decide)
    (hn : f ≠ "__name__" := by decide) (hdb : (f == ("__debug__" : Str)) = false := by decide)
    (he : starEach [.Name x px] X.env = (false, eval (.Name x px) X.env) :: starEach [] X.env := by rfl) (hpl : (backTo pos (starEach [] X.env)).any (·.1) = false := by rfl) : DE X (.Call (.Name f p) [.Name x px] [] pos) (tCB r (tCons (tVar i) tNil)) (eBC op i) :=
  ⟨pe_callB hc hg hm hbb (pa_cons (pe_var hN hv hd hcd) pa_nil he) hn hdb he hpl, ev_bc hr⟩
end
end DL
namespace DL
open PySem PySem.Spec PyProof.Rows L2
/-! DL22: a, b = x, y where a name is read in a comprehension (a tuple is made and taken apart). -/
section
variable {X : Cx} {K : PySem.W.Frag} {tr : TA} {fr : M (List PV)} {pos : Pos}
theorem PVs.len {P : Addr → Prop} {H : Hp} {L : List Addr} {vs : List V} {xs : List PV} (h : PVs K P H L vs xs) : vs.length = xs.length := by
  induction h with
  | nil => rfl
  | dat _ _ ih => simp [ih]
  | new _ _ _ ih => simp [ih]
  | dct _ _ ih => simp [ih]
theorem es_parT {i j : Nat} (h : EvP K tr fr) : EvS K (tAsg (tTup tr) (gTup K 2 (gCons (gName i) (gCons (gName j) gNil)))) (sPar i j fr) := by
  intro A hid P s σ H fl s' ok e D q
  obtain ⟨xs, s1, h1, e⟩ := bd_some e
  refine h A hid P s σ H xs s1 ok h1 _ fun vs L P1 H1 ok1 st1 nd nh r => ?_
  split at e
  · cases e
    match vs, r with
    | [v, w], r =>
      refine ⟨by show 2 ≤ sizeLine; decide, fun p hp => ?_⟩
      have g := Grw.new (o := HO.tup [v, w]) hp
      refine ⟨p, [v, w], rfl, .inl (.inl upd_same), rfl, v, [w], rfl, w, [], rfl, rfl, ?_⟩
      have ok1' := ok1.grw g
      have r' := r.mono (grw_mask g) (fun a _ o e => g a o e)
      obtain ⟨L1, ok2, nd2, nh2, r2⟩ := ok1'.putP (i := i) nd nh r'
      obtain ⟨L2, ok3, nd3, nh3, r3⟩ := ok2.putP (i := j) nd2 nh2 r2
      cases r3
      exact q _ P1 _ (ok3.hidEq fun a => by simp) (st1.trans (Stp.grw g))
    | [], r => cases r
    | [_], r => exact absurd r.len (by simp)
    | _ :: _ :: _ :: _, r => exact absurd r.len (by simp)
  · cases e
theorem k_parT (i j : Nat) {x y : Str} {a b : Expr} {px py pt : Pos} {kt k2 pt2} (hN : X.N.Nodup) (ha : DP X [a, b] tr fr) (hK : X.K = K := by rfl) (hc : X.calm = true := by rfl) (hi : X.N[i]? = some x := by rfl) (hj : X.N[j]? = some y := by rfl)
    (hx : Loc X.env.scope x := by first | exact Or.inl rfl | exact Or.inr rfl) (hy : Loc X.env.scope y := by first | exact Or.inl rfl | exact Or.inr rfl)
    (hf : X.fn x = true ∨ X.env.scope.names.lookup x = some .local := by first | exact .inl rfl | exact .inr rfl | assumption) (hf2 : X.fn y = true ∨ X.env.scope.names.lookup y = some .local := by first | exact .inl rfl | exact .inr rfl | assumption)
    (hs : swapsWithSole [.Tuple [.Name x px, .Name y py] kt pt] (.Tuple [a, b] k2 pt2) pos.line X.env = pure false := by rfl) (hw : swappedStores [.Tuple [.Name x px, .Name y py] kt pt] (.Tuple [a, b] k2 pt2) X.env = pure none := by rfl)
    (h1 : (assignEach [.Tuple [.Name x px, .Name y py] kt pt] X.env).map (·.2) = [assign (.Tuple [.Name x px, .Name y py] kt pt) X.env] := by rfl)
    (q1 : (assignEach [.Name x px, .Name y py] X.env).map (·.2) = assign (.Name x px) X.env :: (assignEach [.Name y py] X.env).map (·.2) := by rfl) (q2 : (assignEach [.Name y py] X.env).map (·.2) = assign (.Name y py) X.env :: (assignEach [] X.env).map (·.2) := by rfl)
    (hn : (assignEach [.Name x px, .Name y py] X.env).length = 2 := by rfl) (hst : (assignEach [.Name x px, .Name y py] X.env).findIdx? (·.1) = none := by rfl) :
    DS X (.Assign [.Tuple [.Name x px, .Name y py] kt pt] (.Tuple [a, b] k2 pt2) pos) (tAsg (tTup tr) (gTup K 2 (gCons (gName i) (gCons (gName j) gNil)))) (sPar i j fr) :=
  hK ▸ ⟨ps_asg (pe_tup ha.p) (pg_tup hc (pgs_cons (pg_name hN hi hx hf) (pgs_cons (pg_name hN hj hy hf2) pgs_nil q2) q1) hn hst) hs hw h1, es_parT ha.v⟩
end
end DL
namespace DL
open PySem PySem.Spec PyProof.Rows L2
/-! DL23: new lists by x + y, list(x). -/
section
variable {X : Cx} {K : PySem.W.Frag} {ta tb : TE} {fa fb : M D} {a b : Expr} {pos : Pos} {tr : TA} {fr : M (List D)}
def nAdd (fa fb : M D) : M (List D) := bd fa fun x => bd fb fun y => match x, y with
  | .list xs, .list ys => if xs.length + ys.length ≤ lim then rtn (xs ++ ys) else fun _ => none
  | _, _ => fun _ => none
/-- x + e, x a cell that stays one -/
def nAddC (i : Nat) (fb : M D) : M (List D) := fun s => if (peek i s).isSome = true then bd fb (fun y s1 => match peek i s1, y with
  | some (.list xs), .list ys => if xs.length + ys.length ≤ lim then some (xs ++ ys, s1) else none
  | _, _ => none) s else none
def nListOf (fr : M (List D)) : M (List D) := bd fr fun ds => match ds with
  | [.list a] => rtn a
  | [.tuple a] => rtn a
  | _ => fun _ => none
end
end DL
namespace DL
open PySem PySem.Spec PyProof.Rows L2
/-! DL15: the pure side: what a pure body comes to. -/
def wp {α : Type} (m : M α) (s : S) (Q : α → S → Prop) : Prop := ∃ a s', m s = some (a, s') ∧ Q a s'
section
variable {α β : Type} {m : M α} {s : S} {Q Q' : α → S → Prop}
theorem wp_mono (h : wp m s Q) (hq : ∀ a s', Q a s' → Q' a s') : wp m s Q' := let ⟨a, s', e, q⟩ := h; ⟨a, s', e, hq _ _ q⟩
@[simp ↓] theorem wp_bd {f : α → M β} {Q : β → S → Prop} : wp (bd m f) s Q ↔ wp m s fun a s1 => wp (f a) s1 Q := by
  constructor
  · rintro ⟨b, s', e, q⟩
    obtain ⟨a, s1, e1, e2⟩ := bd_some e
    exact ⟨a, s1, e1, b, s', e2, q⟩
  · rintro ⟨a, s1, e1, b, s', e2, q⟩
    exact ⟨b, s', by unfold bd; rw [e1]; exact e2, q⟩
@[simp ↓] theorem wp_rtn {a : α} : wp (rtn a) s Q ↔ Q a s := ⟨fun ⟨_, _, e, q⟩ => by obtain ⟨rfl, rfl⟩ := rtn_some e; exact q, fun q => ⟨_, _, rfl, q⟩⟩
@[simp ↓] theorem wp_lf {o : Option α} : wp (lf o) s Q ↔ ∃ a, o = some a ∧ Q a s := ⟨fun ⟨_, _, e, q⟩ => by obtain ⟨h, rfl⟩ := lf_some e; exact ⟨_, h, q⟩, fun ⟨a, h, q⟩ => ⟨a, s, by rw [h]; rfl, q⟩⟩
@[simp ↓] theorem wp_no : wp (fun _ => none : M α) s Q ↔ False := ⟨fun ⟨_, _, e, _⟩ => (by cases e), False.elim⟩
theorem wp_ite {c : Prop} [Decidable c] {n : M α} : wp (if c then m else n) s Q ↔ if c then wp m s Q else wp n s Q := by split <;> rfl
end
section
variable {s : S} {Q : D → S → Prop}
@[simp ↓] theorem wp_eVar {i : Nat} : wp (eVar i) s Q ↔ ∃ d, s.g[i]? = some (some (.dat d)) ∧ Q d s := ⟨fun ⟨_, _, e, q⟩ => by obtain ⟨h, rfl⟩ := eVar_some e; exact ⟨_, h, q⟩, fun ⟨d, h, q⟩ => ⟨d, s, by unfold eVar; rw [h], q⟩⟩
@[simp ↓] theorem wp_eC {d : D} : wp (eC d) s Q ↔ Q d s := wp_rtn
@[simp ↓] theorem wp_gN {i : Nat} {d : D} {Q : Unit → S → Prop} : wp (gN i d) s Q ↔ Q () ⟨s.g.set i (some (.dat d)), s.k⟩ := ⟨fun ⟨_, _, e, q⟩ => by cases e; exact q, fun q => ⟨_, _, rfl, q⟩⟩
@[simp ↓] theorem wp_gNl {Q : Unit → S → Prop} : wp (gNl []) s Q ↔ Q () s := ⟨fun ⟨_, _, e, q⟩ => by cases e; exact q, fun q => ⟨_, _, rfl, q⟩⟩
@[simp ↓] theorem wp_gCn {f : D → M Unit} {g : List D → M Unit} {d : D} {r : List D} {Q : Unit → S → Prop} : wp (gCn f g (d :: r)) s Q ↔ wp (f d) s fun _ s1 => wp (g r) s1 Q := wp_bd
theorem wp_gTp {n : Nat} {g : List D → M Unit} {ds : List D} {Q : Unit → S → Prop} (h : ds.length = n) : wp (gTp n g (.tuple ds)) s Q ↔ wp (g ds) s Q := by
  show wp (if ds.length = n then g ds else fun _ => none) s Q ↔ _
  rw [if_pos h]
@[simp ↓] theorem wp_eOp2 {op : D → D → Option D} {fa fb : M D} : wp (eOp2 op fa fb) s Q ↔ wp fa s fun x s1 => wp fb s1 fun y s2 => ∃ d, op x y = some d ∧ Q d s2 := by
  unfold eOp2; simp only [wp_bd, wp_lf]
@[simp ↓] theorem wp_eOp1 {op : D → Option D} {fa : M D} : wp (eOp1 op fa) s Q ↔ wp fa s fun x s1 => ∃ d, op x = some d ∧ Q d s1 := by
  unfold eOp1; simp only [wp_bd, wp_lf]
@[simp ↓] theorem wp_eCB {op : List D → Option D} {fr : M (List D)} : wp (eCB op fr) s Q ↔ wp fr s fun x s1 => ∃ d, op x = some d ∧ Q d s1 := by
  unfold eCB; simp only [wp_bd, wp_lf]
@[simp ↓] theorem wp_aNil {Q : List D → S → Prop} : wp aNil s Q ↔ Q [] s := wp_rtn
@[simp ↓] theorem wp_aCons {f : M D} {fr : M (List D)} {Q : List D → S → Prop} : wp (aCons f fr) s Q ↔ wp f s fun x s1 => wp fr s1 fun xs s2 => Q (x :: xs) s2 := by
  unfold aCons; simp only [wp_bd, wp_rtn]
@[simp ↓] theorem wp_eTup {fr : M (List D)} : wp (eTup fr) s Q ↔ wp fr s fun ds s1 => ds.length ≤ lim ∧ Q (.tuple ds) s1 := by
  unfold eTup; simp only [wp_bd]
  constructor <;> intro h <;> refine wp_mono h fun a s' q => ?_
  · by_cases hl : a.length ≤ lim
    · rw [if_pos hl, wp_rtn] at q; exact ⟨hl, q⟩
    · rw [if_neg hl, wp_no] at q; exact q.elim
  · rw [if_pos q.1, wp_rtn]; exact q.2
@[simp ↓] theorem wp_nLst {fr : M (List D)} {Q : List D → S → Prop} : wp (nLst fr) s Q ↔ wp fr s fun ds s1 => ds.length ≤ lim ∧ Q ds s1 := by
  unfold nLst; simp only [wp_bd]
  constructor <;> intro h <;> refine wp_mono h fun a s' q => ?_
  · by_cases hl : a.length ≤ lim
    · rw [if_pos hl, wp_rtn] at q; exact ⟨hl, q⟩
    · rw [if_neg hl, wp_no] at q; exact q.elim
  · rw [if_pos q.1, wp_rtn]; exact q.2
@[simp ↓] theorem wp_eL {f : M (List D)} : wp (eL f) s Q ↔ wp f s fun ds s1 => Q (.list ds) s1 := by unfold eL; simp only [wp_bd, wp_rtn]
@[simp ↓] theorem wp_eIsi {T : String} {f : M D} : wp (eIsi T f) s Q ↔ wp f s fun d s1 => Q (.bool (isiD T d)) s1 := by unfold eIsi; simp only [wp_bd, wp_rtn]
@[simp ↓] theorem wp_eIf {g : M Bool} {fa fb : M D} : wp (eIf g fa fb) s Q ↔ wp g s fun b s1 => if b = true then wp fa s1 Q else wp fb s1 Q := by
  unfold eIf; simp only [wp_bd, wp_ite]
theorem wp_tV {f : M D} {Q : Bool → S → Prop} (h : wp f s fun d s1 => ∃ b, d = .bool b ∧ Q b s1) : wp (tV f) s Q := by
  unfold tV; rw [wp_bd]; refine wp_mono h fun d s1 ⟨b, e, q⟩ => ?_
  subst e; exact wp_rtn.mpr q
@[simp ↓] theorem wp_tV' {f : M D} {Q : Bool → S → Prop} : wp (tV f) s Q ↔ wp f s fun d s1 => ∃ b, d = .bool b ∧ Q b s1 := by
  refine ⟨fun h => ?_, wp_tV⟩
  unfold tV at h; rw [wp_bd] at h; refine wp_mono h fun d s1 q => ?_
  cases d with
  | bool b => exact ⟨b, rfl, wp_rtn.mp q⟩
  | _ => exact (wp_no.mp q).elim
@[simp ↓] theorem wp_tNot {g : M Bool} {Q : Bool → S → Prop} : wp (tNotM g) s Q ↔ wp g s fun b s1 => Q (!b) s1 := by unfold tNotM; simp only [wp_bd, wp_rtn]
@[simp ↓] theorem wp_tAnd {g h : M Bool} {Q : Bool → S → Prop} : wp (tAndM g h) s Q ↔ wp g s fun b s1 => if b = true then wp h s1 Q else Q false s1 := by unfold tAndM; simp only [wp_bd, wp_ite, wp_rtn]
@[simp ↓] theorem wp_tOr {g h : M Bool} {Q : Bool → S → Prop} : wp (tOrM g h) s Q ↔ wp g s fun b s1 => if b = true then Q true s1 else wp h s1 Q := by unfold tOrM; simp only [wp_bd, wp_ite, wp_rtn]
@[simp ↓] theorem wp_eAnd {fa fb : M D} : wp (eAnd fa fb) s Q ↔ wp fa s fun d s1 => ∃ b, d = .bool b ∧ if b = true then wp fb s1 Q else Q (.bool false) s1 := by
  unfold eAnd; rw [wp_bd]
  constructor <;> intro h <;> refine wp_mono h fun d s1 q => ?_
  · match d, q with
    | .bool true, q => exact ⟨true, rfl, by simpa using q⟩
    | .bool false, q => exact ⟨false, rfl, by simpa using wp_rtn.mp q⟩
    | .none, q => exact (wp_no.mp q).elim
    | .int _, q => exact (wp_no.mp q).elim
    | .str _, q => exact (wp_no.mp q).elim
    | .list _, q => exact (wp_no.mp q).elim
    | .tuple _, q => exact (wp_no.mp q).elim
    | .dict _, q => exact (wp_no.mp q).elim
  · obtain ⟨b, rfl, q⟩ := q
    cases b
    · exact wp_rtn.mpr (by simpa using q)
    · simpa using q
@[simp ↓] theorem wp_eOr {fa fb : M D} : wp (eOr fa fb) s Q ↔ wp fa s fun d s1 => ∃ b, d = .bool b ∧ if b = true then Q (.bool true) s1 else wp fb s1 Q := by
  unfold eOr; rw [wp_bd]
  constructor <;> intro h <;> refine wp_mono h fun d s1 q => ?_
  · match d, q with
    | .bool true, q => exact ⟨true, rfl, by simpa using wp_rtn.mp q⟩
    | .bool false, q => exact ⟨false, rfl, by simpa using q⟩
    | .none, q => exact (wp_no.mp q).elim
    | .int _, q => exact (wp_no.mp q).elim
    | .str _, q => exact (wp_no.mp q).elim
    | .list _, q => exact (wp_no.mp q).elim
    | .tuple _, q => exact (wp_no.mp q).elim
    | .dict _, q => exact (wp_no.mp q).elim
  · obtain ⟨b, rfl, q⟩ := q
    cases b
    · simpa using q
    · exact wp_rtn.mpr (by simpa using q)
@[simp ↓] theorem wp_eNot {f : M D} : wp (eNot f) s Q ↔ wp f s fun d s1 => ∃ b, d = .bool b ∧ Q (.bool (!b)) s1 := by
  unfold eNot; rw [wp_bd]
  constructor <;> intro h <;> refine wp_mono h fun d s1 q => ?_
  · cases d with
    | bool b => exact ⟨b, rfl, wp_rtn.mp q⟩
    | _ => exact (wp_no.mp q).elim
  · obtain ⟨b, rfl, q⟩ := q
    exact wp_rtn.mpr q
@[simp ↓] theorem wp_eChain {op op' : D → D → Option D} {fa fb fc : M D} : wp (eChain op op' fa fb fc) s Q ↔ wp fa s fun x s1 => wp fb s1 fun y s2 => ∃ b, op x y = some (.bool b) ∧ if b = true then wp fc s2 fun w s3 => ∃ d, op' y w = some d ∧ Q d s3 else Q (.bool false) s2 := by
  unfold eChain; simp only [wp_bd, wp_lf]
  constructor <;> intro h <;> refine wp_mono h fun x s1 h => ?_ <;> refine wp_mono h fun y s2 h => ?_
  · obtain ⟨d, e, q⟩ := h
    match d, e, q with
    | .bool true, e, q => exact ⟨true, e, by simpa [wp_bd, wp_lf] using q⟩
    | .bool false, e, q => exact ⟨false, e, by simpa using wp_rtn.mp q⟩
    | .none, _, q => exact (wp_no.mp q).elim
    | .int _, _, q => exact (wp_no.mp q).elim
    | .str _, _, q => exact (wp_no.mp q).elim
    | .list _, _, q => exact (wp_no.mp q).elim
    | .tuple _, _, q => exact (wp_no.mp q).elim
    | .dict _, _, q => exact (wp_no.mp q).elim
  · obtain ⟨b, e, q⟩ := h
    refine ⟨_, e, ?_⟩
    cases b
    · exact wp_rtn.mpr (by simpa using q)
    · simpa [wp_bd, wp_lf] using q
@[simp ↓] theorem wp_oN {Q : Option Int → S → Prop} : wp oN s Q ↔ Q none s := wp_rtn
@[simp ↓] theorem wp_oS {f : M D} {Q : Option Int → S → Prop} : wp (oS f) s Q ↔ wp f s fun d s1 => ∃ i, d = .int i ∧ Q (some i) s1 := by
  unfold oS; rw [wp_bd]
  constructor <;> intro h <;> refine wp_mono h fun d s1 q => ?_
  · cases d with
    | int i => exact ⟨i, rfl, wp_rtn.mp q⟩
    | _ => exact (wp_no.mp q).elim
  · obtain ⟨i, rfl, q⟩ := q
    exact wp_rtn.mpr q
@[simp ↓] theorem wp_eSl {f : M D} {l h : M (Option Int)} : wp (eSl f l h) s Q ↔ wp f s fun x s1 => wp l s1 fun lo s2 => wp h s2 fun hi s3 => ∃ d, dSl x lo hi = some d ∧ Q d s3 := by
  unfold eSl; simp only [wp_bd, wp_lf]
@[simp ↓] theorem wp_asQ {f : M D} {Q : List D → S → Prop} : wp (asQ f) s Q ↔ wp f s fun d s1 => ∃ ds, (d = .list ds ∨ d = .tuple ds ∨ d = .dict [(.none, .tuple ds)]) ∧ Q ds s1 := by
  unfold asQ; rw [wp_bd]
  constructor <;> intro h <;> refine wp_mono h fun d s1 q => ?_
  · split at q
    · exact ⟨_, .inl rfl, wp_rtn.mp q⟩
    · exact ⟨_, .inr (.inl rfl), wp_rtn.mp q⟩
    · exact ⟨_, .inr (.inr rfl), wp_rtn.mp q⟩
    · exact (wp_no.mp q).elim
  · obtain ⟨ds, rfl | rfl | rfl, q⟩ := q <;> exact wp_rtn.mpr q
@[simp ↓] theorem wp_rg1 {f : M D} {Q : List D → S → Prop} : wp (rg1 (aCons f aNil)) s Q ↔ wp f s fun d s1 => ∃ j : Int, d = .int j ∧ (-(2 ^ 62) ≤ j ∧ j < 2 ^ 62) ∧ Q (rngD 0 j.toNat) s1 := by
  unfold rg1; simp only [wp_bd, wp_aCons, wp_aNil]
  constructor <;> intro h <;> refine wp_mono h fun d s1 q => ?_
  · cases d with
    | int j =>
      refine ⟨j, rfl, ?_⟩
      by_cases hj : -(2 ^ 62) ≤ j ∧ j < 2 ^ 62
      · simp only [if_pos hj, wp_rtn] at q; exact ⟨hj, q⟩
      · simp only [if_neg hj, wp_no] at q
    | _ => exact (wp_no.mp q).elim
  · obtain ⟨j, rfl, hj, q⟩ := q
    simp only [if_pos hj, wp_rtn]; exact q
/-! statements -/
variable {Z : Fl → S → Prop}
@[simp ↓] theorem wp_sNx : wp sNx s Z ↔ Z .nx s := wp_rtn
@[simp ↓] theorem wp_sSeq {m n : M Fl} : wp (sSeq m n) s Z ↔ wp m s fun fl s1 => match fl with
    | .nx => wp n s1 Z
    | fl => Z fl s1 := by
  unfold sSeq; rw [wp_bd]
  constructor <;> intro h <;> refine wp_mono h fun fl s1 q => ?_ <;> cases fl <;> first | exact q | exact wp_rtn.mp q | exact wp_rtn.mpr q
@[simp ↓] theorem wp_sRet {f : M D} : wp (sRet f) s Z ↔ wp f s fun d s1 => Z (.rt d) s1 := by unfold sRet; simp only [wp_bd, wp_rtn]
@[simp ↓] theorem wp_sIf {c : M Bool} {m n : M Fl} : wp (sIf c m n) s Z ↔ wp c s fun b s1 => if b = true then wp m s1 Z else wp n s1 Z := by unfold sIf; simp only [wp_bd, wp_ite]
@[simp ↓] theorem wp_sDrop {f : M D} : wp (sDrop f) s Z ↔ wp f s fun _ s1 => Z .nx s1 := by unfold sDrop; simp only [wp_bd, wp_rtn]
@[simp ↓] theorem wp_sAsg {f : M D} {g : D → M Unit} : wp (sAsg f g) s Z ↔ wp f s fun d s1 => wp (g d) s1 fun _ s2 => Z .nx s2 := by unfold sAsg; simp only [wp_bd, wp_rtn]
@[simp ↓] theorem wp_sNew {i : Nat} {f : M (List D)} : wp (sNew i f) s Z ↔ wp f s fun ds s1 => Z .nx ⟨s1.g.set i (some (.lst ds)), s1.k⟩ := by
  unfold sNew; rw [wp_bd]
  constructor <;> intro h <;> refine wp_mono h fun ds s1 q => ?_
  · obtain ⟨_, _, e, q⟩ := q; cases e; exact q
  · exact ⟨_, _, rfl, q⟩
@[simp ↓] theorem wp_sFor {it : M (List D)} {asg : D → M Unit} {b : M Fl} : wp (sFor it asg b) s Z ↔ wp it s fun ds s1 => wp (loop asg b ds) s1 Z := wp_bd
/-- a loop by what stands ahead of the rest -/
theorem wp_loop {asg : D → M Unit} {b : M Fl} (I : List D → S → Prop) (step : ∀ x r s, I (x :: r) s → wp (asg x) s fun _ s1 => wp b s1 fun fl s2 => match fl with
    | .nx => I r s2
    | .ct => I r s2
    | .bk => Z .nx s2
    | .rt d => Z (.rt d) s2) (fin : ∀ s, I [] s → Z .nx s) : ∀ (ds : List D) (s : S), I ds s → wp (loop asg b ds) s Z
  | [], s, h => wp_rtn.mpr (fin s h)
  | x :: r, s, h => by
    unfold loop
    rw [wp_bd]
    refine wp_mono (step x r s h) fun _ s1 q => ?_
    rw [wp_bd]
    refine wp_mono q fun fl s2 q => ?_
    cases fl with
    | nx => exact wp_loop I step fin r s2 q
    | ct => exact wp_loop I step fin r s2 q
    | bk => exact wp_rtn.mpr q
    | rt d => exact wp_rtn.mpr q
@[simp ↓] theorem wp_nLc {own : List Nat} {it : M (List D)} {asg : D → M Unit} {t : M Bool} {e : M D} {Q : List D → S → Prop} : wp (nLc own it asg t e) s Q ↔ wp it s fun ds s1 => wp (lcLoop own asg t e ds []) (wipeS s1 own) Q := by
  unfold nLc; rw [wp_bd]; rfl
theorem wp_lc {own : List Nat} {asg : D → M Unit} {t : M Bool} {e : M D} {Q : List D → S → Prop} (I : List D → List D → S → Prop)
    (step : ∀ x r acc s, I (x :: r) acc s → wp (asg x) s fun _ s1 => wp t s1 fun b s2 => if b = true then wp e s2 fun d s3 => acc.length ≤ lim ∧ I r (acc ++ [d]) (wipeS s3 own) else I r acc (wipeS s2 own)) (fin : ∀ acc s, I [] acc s → Q acc s) :
    ∀ (ds acc : List D) (s : S), I ds acc s → wp (lcLoop own asg t e ds acc) s Q
  | [], acc, s, h => wp_rtn.mpr (fin acc s h)
  | x :: r, acc, s, h => by
    show wp (bd (asg x) fun _ => bd t fun b => if b = true then bd e fun d => if acc.length ≤ lim then fun s1 => lcLoop own asg t e r (acc ++ [d]) (wipeS s1 own) else fun _ => none else fun s1 => lcLoop own asg t e r acc (wipeS s1 own)) s Q
    rw [wp_bd]
    refine wp_mono (step x r acc s h) fun _ s1 q => ?_
    rw [wp_bd]
    refine wp_mono q fun b s2 q => ?_
    cases b with
    | true =>
      rw [if_pos rfl] at q ⊢
      rw [wp_bd]
      refine wp_mono q fun d s3 ⟨hl, q⟩ => ?_
      rw [if_pos hl]
      exact wp_lc I step fin r (acc ++ [d]) (wipeS s3 own) q
    | false =>
      rw [if_neg Bool.false_ne_true] at q ⊢
      exact wp_lc I step fin r acc (wipeS s2 own) q
/-! calls -/
def fp (sem : FS) (xs : List Val) (k : Dk) (Q : D → Dk → Prop) : Prop := ∃ d k', sem xs k = some (d, k') ∧ Q d k'
@[simp ↓] theorem wp_vNil {Q : List AV → S → Prop} : wp vNil s Q ↔ Q [] s := wp_rtn
@[simp ↓] theorem wp_vDat {f : M D} {fr : M (List AV)} {Q : List AV → S → Prop} : wp (vDat f fr) s Q ↔ wp f s fun x s1 => wp fr s1 fun xs s2 => Q (.dat x :: xs) s2 := by unfold vDat; simp only [wp_bd, wp_rtn]
@[simp ↓] theorem wp_vDeck {i : Nat} {fr : M (List AV)} {Q : List AV → S → Prop} : wp (vDeck i fr) s Q ↔ s.g[i]? = some (some .deck) ∧ wp fr s fun xs s2 => Q (.deck :: xs) s2 := by
  constructor
  · rintro ⟨a, s', e, q⟩
    unfold vDeck at e
    split at e
    · rename_i h
      obtain ⟨xs, s2, e1, e2⟩ := bd_some e
      obtain ⟨rfl, rfl⟩ := rtn_some e2
      exact ⟨h, xs, _, e1, q⟩
    · cases e
  · rintro ⟨h, xs, s2, e, q⟩
    refine ⟨_, s2, ?_, q⟩
    unfold vDeck
    rw [h]
    show bd fr _ s = _
    unfold bd
    rw [e]; rfl
theorem wp_vPerm {pm : List Nat} {fr : M (List AV)} {Q : List AV → S → Prop} (h : wp fr s fun xs s1 => (xs.length = pm.length ∧ (pm.all fun i => decide (i < xs.length)) = true) ∧ Q (permL pm xs) s1) : wp (vPerm pm fr) s Q := by
  unfold vPerm
  rw [wp_bd]
  refine wp_mono h fun xs s1 ⟨hc, q⟩ => ?_
  rw [if_pos hc]; exact wp_rtn.mpr q
/-- a def by its body -/
theorem fp_of {np n : Nat} {m : M Fl} {xs : List Val} {k : Dk} {Q : D → Dk → Prop} (hl : xs.length = np) (h : wp m ⟨xs.map some ++ List.replicate (n - xs.length) none, k⟩ fun fl s' => ∃ d, fl = .rt d ∧ Q d s'.k) : fp (semOf np n m) xs k Q := by
  obtain ⟨fl, s', e, d, rfl, q⟩ := h
  refine ⟨d, s'.k, ?_, q⟩
  unfold semOf
  rw [if_pos hl, e]
theorem fp_draw {k : Dk} {m : Int} {Q : D → Dk → Prop} (hk : DkV k) (h0 : 0 < m) (h1 : m < 1000000000) (h : ∀ r k', 0 ≤ r → r < m → DkV k' → Q (.int r) k') : fp drawSem [.deck, .dat (.int m)] k Q := by
  obtain ⟨r, k', e, a, b, c⟩ := drw_ok hk h0
  refine ⟨.int r, k', ?_, h r k' a b c⟩
  unfold drawSem
  simp only [h0, h1, and_self, if_true, e]
end
end DL
namespace DL
open PySem PySem.Spec PyProof.Rows L2
/-! DL16: what the operations on data come to, for simp. -/
@[simp] theorem isi_int_none : isiD "int" .none = false := by simp [isiD, isiT, tyD]
@[simp] theorem isi_int_bool {b : Bool} : isiD "int" (.bool b) = true := by simp [isiD, isiT, tyD]
@[simp] theorem isi_int_int {i : Int} : isiD "int" (.int i) = true := by simp [isiD, isiT, tyD]
@[simp] theorem isi_int_str {x : Str} : isiD "int" (.str x) = false := by simp [isiD, isiT, tyD]
@[simp] theorem isi_int_list {l : List D} : isiD "int" (.list l) = false := by simp [isiD, isiT, tyD]
@[simp] theorem isi_int_tuple {l : List D} : isiD "int" (.tuple l) = false := by simp [isiD, isiT, tyD]
@[simp] theorem isi_int_dict {q : List (D × D)} : isiD "int" (.dict q) = false := by cases h : isP q <;> simp [isiD, isiT, tyD, h]
@[simp] theorem isi_bool_none : isiD "bool" .none = false := by simp [isiD, isiT, tyD]
@[simp] theorem isi_bool_bool {b : Bool} : isiD "bool" (.bool b) = true := by simp [isiD, isiT, tyD]
@[simp] theorem isi_bool_int {i : Int} : isiD "bool" (.int i) = false := by simp [isiD, isiT, tyD]
@[simp] theorem isi_bool_str {x : Str} : isiD "bool" (.str x) = false := by simp [isiD, isiT, tyD]
@[simp] theorem isi_bool_list {l : List D} : isiD "bool" (.list l) = false := by simp [isiD, isiT, tyD]
@[simp] theorem isi_bool_tuple {l : List D} : isiD "bool" (.tuple l) = false := by simp [isiD, isiT, tyD]
@[simp] theorem isi_bool_dict {q : List (D × D)} : isiD "bool" (.dict q) = false := by cases h : isP q <;> simp [isiD, isiT, tyD, h]
@[simp] theorem isi_str_none : isiD "str" .none = false := by simp [isiD, isiT, tyD]
@[simp] theorem isi_str_bool {b : Bool} : isiD "str" (.bool b) = false := by simp [isiD, isiT, tyD]
@[simp] theorem isi_str_int {i : Int} : isiD "str" (.int i) = false := by simp [isiD, isiT, tyD]
@[simp] theorem isi_str_str {x : Str} : isiD "str" (.str x) = true := by simp [isiD, isiT, tyD]
@[simp] theorem isi_str_list {l : List D} : isiD "str" (.list l) = false := by simp [isiD, isiT, tyD]
@[simp] theorem isi_str_tuple {l : List D} : isiD "str" (.tuple l) = false := by simp [isiD, isiT, tyD]
@[simp] theorem isi_str_dict {q : List (D × D)} : isiD "str" (.dict q) = false := by cases h : isP q <;> simp [isiD, isiT, tyD, h]
@[simp] theorem isi_list_none : isiD "list" .none = false := by simp [isiD, isiT, tyD]
@[simp] theorem isi_list_bool {b : Bool} : isiD "list" (.bool b) = false := by simp [isiD, isiT, tyD]
@[simp] theorem isi_list_int {i : Int} : isiD "list" (.int i) = false := by simp [isiD, isiT, tyD]
@[simp] theorem isi_list_str {x : Str} : isiD "list" (.str x) = false := by simp [isiD, isiT, tyD]
@[simp] theorem isi_list_list {l : List D} : isiD "list" (.list l) = true := by simp [isiD, isiT, tyD]
@[simp] theorem isi_list_tuple {l : List D} : isiD "list" (.tuple l) = false := by simp [isiD, isiT, tyD]
@[simp] theorem isi_list_dict {q : List (D × D)} : isiD "list" (.dict q) = false := by cases h : isP q <;> simp [isiD, isiT, tyD, h]
@[simp] theorem isi_tuple_none : isiD "tuple" .none = false := by simp [isiD, isiT, tyD]
@[simp] theorem isi_tuple_bool {b : Bool} : isiD "tuple" (.bool b) = false := by simp [isiD, isiT, tyD]
@[simp] theorem isi_tuple_int {i : Int} : isiD "tuple" (.int i) = false := by simp [isiD, isiT, tyD]
@[simp] theorem isi_tuple_str {x : Str} : isiD "tuple" (.str x) = false := by simp [isiD, isiT, tyD]
@[simp] theorem isi_tuple_list {l : List D} : isiD "tuple" (.list l) = false := by simp [isiD, isiT, tyD]
@[simp] theorem isi_tuple_tuple {l : List D} : isiD "tuple" (.tuple l) = true := by simp [isiD, isiT, tyD]
@[simp] theorem isi_tuple_dict {q : List (D × D)} : isiD "tuple" (.dict q) = isP q := by cases h : isP q <;> simp [isiD, isiT, tyD, h]
@[simp] theorem isi_dict_none : isiD "dict" .none = false := by simp [isiD, isiT, tyD]
@[simp] theorem isi_dict_bool {b : Bool} : isiD "dict" (.bool b) = false := by simp [isiD, isiT, tyD]
@[simp] theorem isi_dict_int {i : Int} : isiD "dict" (.int i) = false := by simp [isiD, isiT, tyD]
@[simp] theorem isi_dict_str {x : Str} : isiD "dict" (.str x) = false := by simp [isiD, isiT, tyD]
@[simp] theorem isi_dict_list {l : List D} : isiD "dict" (.list l) = false := by simp [isiD, isiT, tyD]
@[simp] theorem isi_dict_tuple {l : List D} : isiD "dict" (.tuple l) = false := by simp [isiD, isiT, tyD]
@[simp] theorem isi_dict_dict {q : List (D × D)} : isiD "dict" (.dict q) = !isP q := by cases h : isP q <;> simp [isiD, isiT, tyD, h]
section
variable {i j : Int} {a b l : List D} {x y : Str}
@[simp] theorem dAdd_int : dAdd (.int i) (.int j) = some (.int (i + j)) := rfl
@[simp] theorem dAdd_tup : dAdd (.tuple a) (.tuple b) = if a.length + b.length ≤ lim then some (.tuple (a ++ b)) else none := rfl
@[simp] theorem dAdd_lst : dAdd (.list a) (.list b) = if a.length + b.length ≤ lim then some (.list (a ++ b)) else none := rfl
@[simp] theorem dAdd_str : dAdd (.str x) (.str y) = if x.length + y.length ≤ lim then some (.str (x ++ y)) else none := rfl
@[simp] theorem dSub_int : dSub (.int i) (.int j) = some (.int (i - j)) := rfl
@[simp] theorem dMul_int : dMul (.int i) (.int j) = if i.natAbs.log2 + j.natAbs.log2 < 1000000 then some (.int (i * j)) else none := rfl
@[simp] theorem dMul_tup : dMul (.tuple a) (.int j) = if -(2 ^ 62) < j ∧ j ≤ 1000 ∧ a.length ≤ 1000 then some (.tuple (List.replicate j.toNat a).flatten) else none := rfl
@[simp] theorem dMod_int : dMod (.int i) (.int j) = if j = 0 then none else some (.int (i.fmod j)) := rfl
@[simp] theorem dDiv_int : dDiv (.int i) (.int j) = if 0 < j ∧ j.natAbs.log2 < 9000 then some (.int (i / j)) else none := rfl
@[simp] theorem dPow_int : dPow (.int i) (.int j) = if 0 ≤ j ∧ j ≤ 1000 ∧ i.natAbs < 1000000 then some (.int (i ^ j.toNat)) else none := rfl
@[simp] theorem dLt_int : dLt (.int i) (.int j) = some (.bool (decide (i < j))) := rfl
@[simp] theorem dGt_int : dGt (.int i) (.int j) = some (.bool (decide (j < i))) := rfl
@[simp] theorem dGe_int : dGe (.int i) (.int j) = some (.bool (decide (j ≤ i))) := rfl
@[simp] theorem dNeg_int : dNeg (.int i) = some (.int (-i)) := rfl
theorem dEq_sh {u v : D} (hu : SeqAt.shaped u = true) (hv : SeqAt.shaped v = true) (h : ∀ x, u ≠ .str x) : dEq u v = some (.bool (PyData.eqv u v)) := by
  unfold dEq
  split
  · rename_i a b; exact absurd rfl (h a)
  · rw [if_pos ⟨hu, hv⟩]
theorem dNe_sh {u v : D} (hu : SeqAt.shaped u = true) (hv : SeqAt.shaped v = true) (h : ∀ x, u ≠ .str x) : dNe u v = some (.bool (!PyData.eqv u v)) := by
  unfold dNe
  split
  · rename_i a b; exact absurd rfl (h a)
  · rw [if_pos ⟨hu, hv⟩]
@[simp] theorem dEq_int : dEq (.int i) (.int j) = some (.bool (decide (i = j))) := dEq_sh rfl rfl fun _ z => nomatch z
@[simp] theorem dNe_int : dNe (.int i) (.int j) = some (.bool (!decide (i = j))) := dNe_sh rfl rfl fun _ z => nomatch z
@[simp] theorem dEq_str : dEq (.str x) (.str y) = some (.bool (x == y)) := rfl
@[simp] theorem dNe_str : dNe (.str x) (.str y) = some (.bool (!(x == y))) := rfl
@[simp] theorem dIx_tup : dIx (.tuple a) (.int i) = atI a i := rfl
@[simp] theorem dIx_lst : dIx (.list a) (.int i) = atI a i := rfl
theorem atI_of {α : Type} {xs : List α} {n : Nat} (h : n < xs.length) : atI xs (n : Int) = some xs[n] := atI_nat (j := n) (by rw [List.getElem?_eq_getElem h])
theorem atI_int {α : Type} {xs : List α} {i : Int} (h0 : 0 ≤ i) (h : i < xs.length) : atI xs i = some (xs[i.toNat]'(by omega)) := by
  have h2 := atI_of (xs := xs) (n := i.toNat) (by omega)
  have e : ((i.toNat : Nat) : Int) = i := by omega
  rw [e] at h2; exact h2
@[simp] theorem atI_c0 {α : Type} {u : α} {r : List α} : atI (u :: r) 0 = some u := atI_nat (j := 0) rfl
@[simp] theorem atI_c1 {α : Type} {u v : α} {r : List α} : atI (u :: v :: r) 1 = some v := atI_nat (j := 1) rfl
@[simp] theorem atI_c2 {α : Type} {u v w : α} {r : List α} : atI (u :: v :: w :: r) 2 = some w := atI_nat (j := 2) rfl
@[simp] theorem dLen_tup : dLen [.tuple a] = some (.int a.length) := rfl
@[simp] theorem dLen_lst : dLen [.list a] = some (.int a.length) := rfl
@[simp] theorem dLen_str : dLen [.str x] = if x.length ≤ lim then some (.int x.length) else none := rfl
@[simp] theorem dInt_int : dInt [.int i] = some (.int i) := rfl
@[simp] theorem dInt_bool {c : Bool} : dInt [.bool c] = some (.int (if c then 1 else 0)) := rfl
@[simp] theorem dMin2_int : dMin2 [.int i, .int j] = some (.int (if j < i then j else i)) := rfl
@[simp] theorem dMax2_int : dMax2 [.int i, .int j] = some (.int (if j > i then j else i)) := rfl
@[simp] theorem dTupleOf_l : dTupleOf [.list a] = some (.tuple a) := rfl
@[simp] theorem dTupleOf_t : dTupleOf [.tuple a] = some (.tuple a) := rfl
@[simp] theorem dListOf_l : dListOf [.list a] = some (.list a) := rfl
@[simp] theorem dListOf_t : dListOf [.tuple a] = some (.list a) := rfl
@[simp] theorem dSl_t {lo hi : Option Int} : dSl (.tuple a) lo hi = some (.tuple (cutG a lo hi)) := rfl
@[simp] theorem dSl_l {lo hi : Option Int} : dSl (.list a) lo hi = some (.list (cutG a lo hi)) := rfl
@[simp] theorem dRepr_1 {d : D} : dRepr [d] = if okR d = true then some (.str d.shown) else none := rfl
theorem cutG_from {α : Type} {xs : List α} {i : Int} (h : 0 ≤ i) : cutG xs (some i) none = xs.drop i.toNat := by
  unfold cutG
  have e : HT.sIx xs.length 0 (some i) = min i.toNat xs.length := by
    have := HT.sIx_nat xs.length 0 i.toNat
    rwa [show ((i.toNat : Nat) : Int) = i by omega] at this
  rw [e, HT.sIx_none]
  by_cases hl : i.toNat ≤ xs.length
  · rw [Nat.min_eq_left hl, List.take_of_length_le (by rw [List.length_drop]; omega)]
  · rw [Nat.min_eq_right (by omega), List.drop_of_length_le (Nat.le_refl _), List.drop_of_length_le (by omega)]; simp
@[simp] theorem ex_cx {α : Type} {c : Prop} {u : α} {P : α → Prop} : (∃ d, (c ∧ u = d) ∧ P d) ↔ c ∧ P u := ⟨fun ⟨_, ⟨hc, e⟩, q⟩ => ⟨hc, e ▸ q⟩, fun ⟨hc, q⟩ => ⟨_, ⟨hc, rfl⟩, q⟩⟩
@[simp] theorem res_dat {s : S} {d : D} : res s (.dat d) = some (.dat d) := rfl
@[simp] theorem res_deck {s : S} : res s .deck = some .deck := rfl
@[simp ↓] theorem wp_callE {s : S} {sem : FS} {fr : M (List AV)} {Q : D → S → Prop} : wp (eCallB [] sem fr) s Q ↔ wp fr s fun avs s1 => ∃ xs, avs.mapM (res s1) = some xs ∧ fp sem xs s1.k fun d k' => Q d ⟨s1.g, k'⟩ := by
  unfold eCallB
  rw [wp_bd]
  constructor <;> intro h <;> refine wp_mono h fun avs s1 q => ?_
  · obtain ⟨d, s', e, q⟩ := q
    have h0 : cellsB [] s1 = true := rfl
    simp only [h0, if_true] at e
    split at e
    · rename_i xs hx
      split at e
      · rename_i d' k' hs
        have hm : (([] : List Nat).isEmpty || noMut d') = true := rfl
        simp only [hm, if_true] at e
        cases e
        exact ⟨xs, hx, _, _, hs, q⟩
      · cases e
    · cases e
  · obtain ⟨xs, e, d, k', e2, q⟩ := q
    exact ⟨d, ⟨s1.g, k'⟩, by simp [cellsB, e, e2], q⟩
@[simp ↓] theorem wp_eGive {i : Nat} {s : S} {Q : D → S → Prop} : wp (eGive i) s Q ↔ match s.g[i]? with
    | some (some (.dat d)) => Q d s
    | some (some (.lst ds)) => Q (.list ds) ⟨s.g.set i (some (.dat (.list ds))), s.k⟩
    | _ => False := by
  unfold wp eGive
  generalize s.g[i]? = o
  rcases o with _ | (_ | v)
  · exact ⟨fun ⟨_, _, e, q⟩ => (by cases e), fun h => h.elim⟩
  · exact ⟨fun ⟨_, _, e, q⟩ => (by cases e), fun h => h.elim⟩
  · cases v with
    | dat d => exact ⟨fun ⟨_, _, e, q⟩ => by cases e; exact q, fun q => ⟨_, _, rfl, q⟩⟩
    | lst d => exact ⟨fun ⟨_, _, e, q⟩ => by cases e; exact q, fun q => ⟨_, _, rfl, q⟩⟩
    | dct _ d => exact ⟨fun ⟨_, _, e, q⟩ => (by cases e), fun h => h.elim⟩
    | obj d => exact ⟨fun ⟨_, _, e, q⟩ => (by cases e), fun h => h.elim⟩
    | fn _ => exact ⟨fun ⟨_, _, e, q⟩ => (by cases e), fun h => h.elim⟩
    | gst _ => exact ⟨fun ⟨_, _, e, q⟩ => (by cases e), fun h => h.elim⟩
    | deck => exact ⟨fun ⟨_, _, e, q⟩ => (by cases e), fun h => h.elim⟩
@[simp ↓] theorem wp_sApp {i : Nat} {f : M D} {s : S} {Z : Fl → S → Prop} : wp (sApp i f) s Z ↔ (∃ l0, s.g[i]? = some (some (.lst l0))) ∧ wp f s fun d s1 => ∃ ds, s1.g[i]? = some (some (.lst ds)) ∧ ds.length ≤ lim ∧ Z .nx ⟨s1.g.set i (some (.lst (ds ++ [d]))), s1.k⟩ := by
  constructor
  · rintro ⟨fl, s', e, q⟩
    unfold sApp at e
    split at e
    · rename_i l0 h0
      obtain ⟨d, s1, e1, e2⟩ := bd_some e
      refine ⟨⟨l0, h0⟩, d, s1, e1, ?_⟩
      split at e2
      · rename_i ds h1
        split at e2
        · rename_i hl; cases e2; exact ⟨ds, h1, hl, q⟩
        · cases e2
      · cases e2
    · cases e
  · rintro ⟨⟨l0, h0⟩, d, s1, e1, ds, h1, hl, q⟩
    refine ⟨_, _, ?_, q⟩
    unfold sApp
    rw [h0]
    show bd f _ s = _
    unfold bd
    rw [e1]
    show (match s1.g[i]? with
      | some (some (.lst ds)) => if ds.length ≤ lim then some (Fl.nx, { s1 with g := s1.g.set i (some (.lst (ds ++ [d]))) }) else none
      | _ => none) = _
    rw [h1]
    show (if ds.length ≤ lim then _ else _) = _
    rw [if_pos hl]
@[simp ↓] theorem wp_gTp1 {g : List D → M Unit} {u : D} {s : S} {Q : Unit → S → Prop} : wp (gTp 1 g (.tuple [u])) s Q ↔ wp (g [u]) s Q := wp_gTp rfl
@[simp ↓] theorem wp_gTp2 {g : List D → M Unit} {u v : D} {s : S} {Q : Unit → S → Prop} : wp (gTp 2 g (.tuple [u, v])) s Q ↔ wp (g [u, v]) s Q := wp_gTp rfl
@[simp ↓] theorem wp_gTp3 {g : List D → M Unit} {u v w : D} {s : S} {Q : Unit → S → Prop} : wp (gTp 3 g (.tuple [u, v, w])) s Q ↔ wp (g [u, v, w]) s Q := wp_gTp rfl
@[simp ↓] theorem wp_pNil {s : S} {Q : List PV → S → Prop} : wp pNil s Q ↔ Q [] s := wp_rtn
@[simp ↓] theorem wp_pDat {f : M D} {fr : M (List PV)} {s : S} {Q : List PV → S → Prop} : wp (pDat f fr) s Q ↔ wp f s fun u s1 => wp fr s1 fun us s2 => Q (.dat u :: us) s2 := by unfold pDat; simp only [wp_bd, wp_rtn]
@[simp ↓] theorem wp_pDctN {t : Bool} {fr : M (List PV)} {s : S} {Q : List PV → S → Prop} : wp (pDctN t fr) s Q ↔ wp fr s fun us s2 => Q (.dct t :: us) s2 := by unfold pDctN; simp only [wp_bd, wp_rtn]
@[simp ↓] theorem wp_pNew {f : M (List D)} {fr : M (List PV)} {s : S} {Q : List PV → S → Prop} : wp (pNew f fr) s Q ↔ wp f s fun u s1 => wp fr s1 fun us s2 => Q (.new u :: us) s2 := by unfold pNew; simp only [wp_bd, wp_rtn]
@[simp] theorem putP_dat {i : Nat} {d : D} {s : S} : putP i (.dat d) s = ⟨s.g.set i (some (.dat d)), s.k⟩ := rfl
@[simp] theorem putP_new {i : Nat} {d : List D} {s : S} : putP i (.new d) s = ⟨s.g.set i (some (.lst d)), s.k⟩ := rfl
@[simp ↓] theorem wp_sPar {i j : Nat} {fr : M (List PV)} {s : S} {Z : Fl → S → Prop} : wp (sPar i j fr) s Z ↔ wp fr s fun us s1 => ∃ u v, us = [u, v] ∧ Z .nx (putP j v (putP i u s1)) := by
  unfold sPar; rw [wp_bd]
  constructor <;> intro h <;> refine wp_mono h fun us s1 q => ?_
  · match us, q with
    | [u, v], q => obtain ⟨_, _, e, q⟩ := q; cases e; exact ⟨u, v, rfl, q⟩
    | [], q => exact (wp_no.mp q).elim
    | [_], q => exact (wp_no.mp q).elim
    | _ :: _ :: _ :: _, q => exact (wp_no.mp q).elim
  · obtain ⟨u, v, rfl, q⟩ := q
    exact ⟨_, _, rfl, q⟩
@[simp ↓] theorem wp_sPar3 {i j l : Nat} {fr : M (List PV)} {s : S} {Z : Fl → S → Prop} : wp (sPar3 i j l fr) s Z ↔ wp fr s fun us s1 => ∃ u v w, us = [u, v, w] ∧ Z .nx (putP l w (putP j v (putP i u s1))) := by
  unfold sPar3; rw [wp_bd]
  constructor <;> intro h <;> refine wp_mono h fun us s1 q => ?_
  · match us, q with
    | [u, v, w], q => obtain ⟨_, _, e, q⟩ := q; cases e; exact ⟨u, v, w, rfl, q⟩
    | [], q => exact (wp_no.mp q).elim
    | [_], q => exact (wp_no.mp q).elim
    | [_, _], q => exact (wp_no.mp q).elim
    | _ :: _ :: _ :: _ :: _, q => exact (wp_no.mp q).elim
  · obtain ⟨u, v, w, rfl, q⟩ := q
    exact ⟨_, _, rfl, q⟩
theorem fp_eq {sem : FS} {xs : List Val} {k k' : Dk} {d : D} {Q : D → Dk → Prop} (h : sem xs k = some (d, k')) : fp sem xs k Q ↔ Q d k' :=
  ⟨fun ⟨_, _, e, q⟩ => by rw [h] at e; cases e; exact q, fun q => ⟨_, _, h, q⟩⟩
theorem eq_fp {sem : FS} {xs : List Val} {k : Dk} {d : D} (h : fp sem xs k fun d' k' => d' = d ∧ k' = k) : sem xs k = some (d, k) := by
  obtain ⟨d', k', e, rfl, rfl⟩ := h; exact e
end
end DL
namespace DL
open PySem PySem.Spec PyProof.Rows L2
/-! DL17: how long a repr may be. -/
mutual
def sz : D → Nat
  | .none => 5
  | .bool _ => 5
  | .int i => if i.natAbs.log2 < 14190 then i.natAbs.log2 + 3 else 10000000
  | .str x => if x.cps.toList.all (fun c => decide (c < 16 ^ 8)) = true then 10 * x.length + 2 else 10000000
  | .list xs => szA xs + 4
  | .tuple xs => szA xs + 4
  | .dict kvs => if kvs.isEmpty = true then 2 else 10000000
def szA : List D → Nat
  | [] => 0
  | x :: r => sz x + 2 + szA r
end
theorem textFrom_le : ∀ (ts : List Str) (k : Nat) (acc : Str), (textFrom k acc ts).length ≤ acc.length + piled ts
  | [], k, acc => by show acc.length ≤ acc.length + 0; omega
  | t :: r, k, acc => by
    have ih := textFrom_le r (k + 1) (acc ++ (if k > 0 then ", " else "" : String) ++ t)
    have e : (acc ++ (if k > 0 then ", " else "" : String) ++ t).length ≤ acc.length + 2 + t.length := by
      rw [strLen_append, strLen_append]
      split
      · exact Nat.le_refl _
      · show acc.length + 0 + t.length ≤ _; omega
    rw [piled_cons]
    show (textFrom (k + 1) (acc ++ (if k > 0 then ", " else "" : String) ++ t) r).length ≤ _
    omega
theorem listText_le (ts : List Str) : (listText ts).length ≤ piled ts + 2 := by
  unfold listText
  rw [strLen_append]
  have := textFrom_le ts 0 "["
  have e1 : (("[" : String) : Str).length = 1 := rfl
  have e2 : (("]" : String) : Str).length = 1 := rfl
  omega
theorem tupleText_le (ts : List Str) : (tupleText ts).length ≤ piled ts + 4 := by
  unfold tupleText
  rw [strLen_append, strLen_append]
  have e1 : (("(" : String) : Str).length = 1 := rfl
  have e3 : (((if (ts.length == 1) = true then ",)" else ")") : String) : Str).length ≤ 2 := by
    split
    · exact Nat.le_refl _
    · show 1 ≤ 2; omega
  by_cases h : ts = []
  · subst h
    have e4 : (Str.join ", " []).length = 0 := rfl
    omega
  · have := join_length_add ts h
    omega
mutual
theorem sz_ok : ∀ (d : D), sz d ≤ 1000000 → shw d = true ∧ dict0 d = true ∧ d.shown.length ≤ sz d
  | .none, _ => ⟨rfl, rfl, by decide⟩
  | .bool b, _ => ⟨rfl, rfl, by cases b <;> decide⟩
  | .int i, h => by
    unfold sz at h
    split at h
    · rename_i hi
      refine ⟨by simp [shw, hi], rfl, ?_⟩
      have := int_text_length_le (a := i) (k := i.natAbs.log2 + 1) (by omega) (by omega)
      simp only [PyData.shown, sz, hi, if_true]
      rw [PySem.ofString_length]
      omega
    · omega
  | .str x, h => by
    unfold sz at h
    split at h
    · rename_i hx
      refine ⟨rfl, rfl, ?_⟩
      simp only [PyData.shown, sz, hx, if_true]
      refine PySem.StrLaws.reprText_len x fun c hc => ?_
      exact of_decide_eq_true (List.all_eq_true.mp hx c hc)
    · omega
  | .list xs, h => by
    unfold sz at h
    obtain ⟨h1, h2, h3⟩ := szA_ok xs (by omega)
    refine ⟨by simpa [shw] using h1, by simpa [dict0] using h2, ?_⟩
    simp only [PyData.shown, sz]
    have := listText_le (PyData.shownAll xs)
    omega
  | .tuple xs, h => by
    unfold sz at h
    obtain ⟨h1, h2, h3⟩ := szA_ok xs (by omega)
    refine ⟨by simpa [shw] using h1, by simpa [dict0] using h2, ?_⟩
    simp only [PyData.shown, sz]
    have := tupleText_le (PyData.shownAll xs)
    omega
  | .dict kvs, h => by
    unfold sz at h
    split at h
    · rename_i hk
      have : kvs = [] := by simpa using hk
      subst this
      exact ⟨by simp [shw], rfl, by simp only [PyData.shown, PyData.shownKv, sz]; decide⟩
    · omega
theorem szA_ok : ∀ (xs : List D), szA xs ≤ 1000000 → shwA xs = true ∧ dict0A xs = true ∧ piled (PyData.shownAll xs) ≤ szA xs
  | [], _ => ⟨rfl, rfl, by simp [PyData.shownAll, piled, szA]⟩
  | x :: r, h => by
    unfold szA at h
    obtain ⟨a1, a2, a3⟩ := sz_ok x (by omega)
    obtain ⟨b1, b2, b3⟩ := szA_ok r (by omega)
    refine ⟨by simp [shwA, a1, b1], by simp [dict0A, a2, b2], ?_⟩
    simp only [PyData.shownAll, szA, piled_cons]
    omega
end
theorem okR_of {d : D} (h : sz d ≤ 1000000) (hd : d.depth ≤ 60) : okR d = true := by
  obtain ⟨h1, h2, h3⟩ := sz_ok d h
  unfold okR
  simp only [h1, h2, Bool.true_and, Bool.and_eq_true, decide_eq_true_eq]
  exact ⟨show d.shown.length ≤ 1000000 by omega, hd⟩
theorem szA_le_of {n : Nat} : ∀ {l : List D}, (∀ d ∈ l, sz d ≤ n) → szA l ≤ l.length * (n + 2)
  | [], _ => by simp [szA]
  | x :: r, h => by
    rw [szA, List.length_cons, Nat.succ_mul]
    have h1 := h x (List.mem_cons_self ..)
    have h2 := szA_le_of (l := r) fun d hd => h d (List.mem_cons_of_mem _ hd)
    omega
theorem depthA_le_of {n : Nat} : ∀ {l : List D}, (∀ d ∈ l, d.depth ≤ n) → PyData.depthAll l ≤ n
  | [], _ => by simp [PyData.depthAll]
  | x :: r, h => by
    rw [PyData.depthAll]
    have h1 := h x (List.mem_cons_self ..)
    have h2 := depthA_le_of (l := r) fun d hd => h d (List.mem_cons_of_mem _ hd)
    omega
end DL
namespace DL
open PySem PySem.Spec PyProof.Rows L2
/-! DL24: the pure side of DL18 to DL23. -/
section
variable {s : S} {Q : D → S → Prop}
@[simp ↓] theorem wp_asE {f : M D} {Q : List D → S → Prop} : wp (asE (aCons f aNil)) s Q ↔ wp f s fun d s1 => ∃ ds, (d = .list ds ∨ d = .tuple ds) ∧ Q (enmD ds) s1 := by
  unfold asE; simp only [wp_bd, wp_aCons, wp_aNil]
  constructor <;> intro h <;> refine wp_mono h fun d s1 q => ?_
  · cases d with
    | list ds => exact ⟨ds, .inl rfl, wp_rtn.mp q⟩
    | tuple ds => exact ⟨ds, .inr rfl, wp_rtn.mp q⟩
    | _ => exact (wp_no.mp q).elim
  · obtain ⟨ds, rfl | rfl, q⟩ := q <;> exact wp_rtn.mpr q
@[simp] theorem peek_lst {i : Nat} {s : S} {ds : List D} (h : s.g[i]? = some (some (.lst ds))) : peek i s = some (.list ds) := by unfold peek; rw [h]
@[simp] theorem peek_dat {i : Nat} {s : S} {d : D} (h : s.g[i]? = some (some (.dat d))) : peek i s = some d := by unfold peek; rw [h]
@[simp ↓] theorem wp_eB1 {op : D → D → Option D} {i : Nat} {fb : M D} : wp (eB1 op i fb) s Q ↔ (peek i s).isSome = true ∧ wp fb s fun y s1 => ∃ x d, peek i s1 = some x ∧ op x y = some d ∧ noMut d = true ∧ Q d s1 := by
  constructor
  · rintro ⟨d, s', e, q⟩
    unfold eB1 at e
    split at e
    · rename_i h
      obtain ⟨y, s1, e1, e2⟩ := bd_some e
      refine ⟨h, y, s1, e1, ?_⟩
      split at e2
      · rename_i x hx
        split at e2
        · rename_i d2 hd
          split at e2
          · rename_i hn; cases e2; exact ⟨x, _, hx, hd, hn, q⟩
          · cases e2
        · cases e2
      · cases e2
    · cases e
  · rintro ⟨h, y, s1, e1, x, d, hx, hd, hn, q⟩
    refine ⟨d, s1, ?_, q⟩
    unfold eB1
    rw [if_pos h]
    unfold bd
    rw [e1]
    simp only [hx, hd, hn, if_true]
@[simp ↓] theorem wp_eB2 {op : D → D → Option D} {i : Nat} {fb : M D} : wp (eB2 op fb i) s Q ↔ wp fb s fun y s1 => ∃ x d, peek i s1 = some x ∧ op y x = some d ∧ noMut d = true ∧ Q d s1 := by
  constructor
  · rintro ⟨d, s', e, q⟩
    unfold eB2 at e
    obtain ⟨y, s1, e1, e2⟩ := bd_some e
    refine ⟨y, s1, e1, ?_⟩
    split at e2
    · rename_i x hx
      split at e2
      · rename_i d2 hd
        split at e2
        · rename_i hn; cases e2; exact ⟨x, _, hx, hd, hn, q⟩
        · cases e2
      · cases e2
    · cases e2
  · rintro ⟨y, s1, e1, x, d, hx, hd, hn, q⟩
    refine ⟨d, s1, ?_, q⟩
    unfold eB2 bd
    rw [e1]
    simp only [hx, hd, hn, if_true]
@[simp ↓] theorem wp_eBC {op : List D → Option D} {i : Nat} : wp (eBC op i) s Q ↔ ∃ x d, peek i s = some x ∧ op [x] = some d ∧ noMut d = true ∧ Q d s := by
  constructor
  · rintro ⟨d, s', e, q⟩
    unfold eBC at e
    split at e
    · rename_i x hx
      split at e
      · rename_i d2 hd
        split at e
        · rename_i hn; cases e; exact ⟨x, _, hx, hd, hn, q⟩
        · cases e
      · cases e
    · cases e
  · rintro ⟨x, d, hx, hd, hn, q⟩
    refine ⟨d, s, ?_, q⟩
    unfold eBC
    simp only [hx, hd, hn, if_true]
/-- an item of a cell -/
def ixc (s : S) (i : Nat) (y : D) : Option D := match s.g[i]? with
  | some (some (.lst ds)) => (match y with
    | .int j => atI ds j
    | _ => none)
  | some (some (.dat x)) => dIx x y
  | _ => none
theorem eIxC_eq {i : Nat} {fb : M D} : eIxC i fb = fun s => if (peek i s).isSome = true then bd fb (fun y s1 => (ixc s1 i y).map fun d => (d, s1)) s else none := by
  funext s
  unfold eIxC
  split
  · refine congrArg (fun f => bd fb f s) ?_
    funext y s1
    unfold ixc
    generalize s1.g[i]? = o
    rcases o with _ | (_ | v)
    · rfl
    · rfl
    · cases v with
      | lst ds =>
        cases y with
        | int j => simp only; cases atI ds j <;> rfl
        | _ => rfl
      | dat x => simp only; cases dIx x y <;> rfl
      | dct _ _ => rfl
      | obj _ => rfl
      | fn _ => rfl
      | gst _ => rfl
      | deck => rfl
  · rfl
@[simp ↓] theorem wp_eIxC {i : Nat} {fb : M D} : wp (eIxC i fb) s Q ↔ (peek i s).isSome = true ∧ wp fb s fun y s1 => ∃ d, ixc s1 i y = some d ∧ Q d s1 := by
  rw [eIxC_eq]
  constructor
  · rintro ⟨d, s', e, q⟩
    dsimp only at e
    split at e
    · rename_i h
      obtain ⟨y, s1, e1, e2⟩ := bd_some e
      refine ⟨h, y, s1, e1, ?_⟩
      cases hx : ixc s1 i y with
      | none => rw [hx] at e2; cases e2
      | some d2 => rw [hx] at e2; cases e2; exact ⟨_, hx, q⟩
    · cases e
  · rintro ⟨h, y, s1, e1, d, hx, q⟩
    refine ⟨d, s1, ?_, q⟩
    dsimp only
    rw [if_pos h]
    unfold bd
    rw [e1]
    simp only [hx, Option.map_some]
@[simp ↓] theorem wp_nAdd {fa fb : M D} {Q : List D → S → Prop} : wp (nAdd fa fb) s Q ↔ wp fa s fun x s1 => wp fb s1 fun y s2 => ∃ xs ys, x = .list xs ∧ y = .list ys ∧ xs.length + ys.length ≤ lim ∧ Q (xs ++ ys) s2 := by
  unfold nAdd; simp only [wp_bd]
  constructor <;> intro h <;> refine wp_mono h fun x s1 h => ?_ <;> refine wp_mono h fun y s2 h => ?_
  · cases x with
    | list xs =>
      cases y with
      | list ys =>
        simp only at h
        split at h
        · rename_i hl; exact ⟨xs, ys, rfl, rfl, hl, wp_rtn.mp h⟩
        · exact (wp_no.mp h).elim
      | _ => exact (wp_no.mp h).elim
    | _ => exact (wp_no.mp h).elim
  · obtain ⟨xs, ys, rfl, rfl, hl, q⟩ := h
    show wp (if _ then _ else _) s2 Q
    rw [if_pos hl]; exact wp_rtn.mpr q
@[simp ↓] theorem wp_nAddC {i : Nat} {fb : M D} {Q : List D → S → Prop} : wp (nAddC i fb) s Q ↔ (peek i s).isSome = true ∧ wp fb s fun y s1 => ∃ xs ys, peek i s1 = some (.list xs) ∧ y = .list ys ∧ xs.length + ys.length ≤ lim ∧ Q (xs ++ ys) s1 := by
  constructor
  · rintro ⟨d, s', e, q⟩
    unfold nAddC at e
    split at e
    · rename_i h
      obtain ⟨y, s1, e1, e2⟩ := bd_some e
      refine ⟨h, y, s1, e1, ?_⟩
      split at e2
      · rename_i xs ys hx
        split at e2
        · rename_i hl; cases e2; exact ⟨xs, ys, hx, rfl, hl, q⟩
        · cases e2
      · cases e2
    · cases e
  · rintro ⟨h, y, s1, e1, xs, ys, hx, rfl, hl, q⟩
    refine ⟨xs ++ ys, s1, ?_, q⟩
    unfold nAddC
    rw [if_pos h]
    unfold bd
    rw [e1]
    simp only [hx, hl, if_true]
@[simp ↓] theorem wp_nListOf {f : M D} {Q : List D → S → Prop} : wp (nListOf (aCons f aNil)) s Q ↔ wp f s fun d s1 => ∃ ds, (d = .list ds ∨ d = .tuple ds) ∧ Q ds s1 := by
  unfold nListOf; simp only [wp_bd, wp_aCons, wp_aNil]
  constructor <;> intro h <;> refine wp_mono h fun d s1 q => ?_
  · cases d with
    | list ds => exact ⟨ds, .inl rfl, wp_rtn.mp q⟩
    | tuple ds => exact ⟨ds, .inr rfl, wp_rtn.mp q⟩
    | _ => exact (wp_no.mp q).elim
  · obtain ⟨ds, rfl | rfl, q⟩ := q <;> exact wp_rtn.mpr q
@[simp ↓] theorem wp_prNil {Q : List (D × D) → S → Prop} : wp prNil s Q ↔ Q [] s := wp_rtn
@[simp ↓] theorem wp_prCons {fk fv : M D} {fr : M (List (D × D))} {Q : List (D × D) → S → Prop} : wp (prCons fk fv fr) s Q ↔ wp fk s fun k s1 => wp fv s1 fun v s2 => wp fr s2 fun r s3 => Q ((k, v) :: r) s3 := by
  unfold prCons; simp only [wp_bd, wp_rtn]
@[simp ↓] theorem wp_eDisp {f : M (List (D × D))} : wp (eDisp f) s Q ↔ wp f s fun ds s1 => ∃ d, dDisp ds = some d ∧ Q d s1 := by
  unfold eDisp; simp only [wp_bd, wp_lf]
/-- a cell lent to a callee -/
@[simp ↓] theorem wp_vBor {i : Nat} {fr : M (List AV)} {Q : List AV → S → Prop} : wp (vBor i fr) s Q ↔ (∃ v, s.g[i]? = some (some v) ∧ isCell v = true) ∧ wp fr s fun xs s2 => Q (.bor i :: xs) s2 := by
  unfold wp vBor
  generalize s.g[i]? = o
  rcases o with _ | (_ | v)
  · exact ⟨fun ⟨_, _, e, q⟩ => (by cases e), fun ⟨⟨v, e, _⟩, _⟩ => (by cases e)⟩
  · exact ⟨fun ⟨_, _, e, q⟩ => (by cases e), fun ⟨⟨v, e, _⟩, _⟩ => (by cases e)⟩
  · have go : (∃ a s', (bd fr fun xs => rtn (AV.bor i :: xs)) s = some (a, s') ∧ Q a s') ↔ ∃ a s', fr s = some (a, s') ∧ Q (.bor i :: a) s' := by
      have := (wp_bd (m := fr) (f := fun xs => rtn (AV.bor i :: xs)) (s := s) (Q := Q))
      simp only [wp_rtn] at this
      exact this
    cases v with
    | dat d => exact ⟨fun ⟨_, _, e, q⟩ => (by cases e), fun ⟨⟨v, e, h⟩, _⟩ => (by cases e; cases h)⟩
    | deck => exact ⟨fun ⟨_, _, e, q⟩ => (by cases e), fun ⟨⟨v, e, h⟩, _⟩ => (by cases e; cases h)⟩
    | obj o => exact ⟨fun ⟨_, _, e, q⟩ => (by cases e), fun ⟨⟨v, e, h⟩, _⟩ => (by cases e; cases h)⟩
    | fn _ => exact ⟨fun ⟨_, _, e, q⟩ => (by cases e), fun ⟨⟨v, e, h⟩, _⟩ => (by cases e; cases h)⟩
    | gst _ => exact ⟨fun ⟨_, _, e, q⟩ => (by cases e), fun ⟨⟨v, e, h⟩, _⟩ => (by cases e; cases h)⟩
    | lst ds => exact ⟨fun h => ⟨⟨_, rfl, rfl⟩, go.mp h⟩, fun h => go.mpr h.2⟩
    | dct _ ds => exact ⟨fun h => ⟨⟨_, rfl, rfl⟩, go.mp h⟩, fun h => go.mpr h.2⟩
/-- a call that lends cells -/
@[simp ↓] theorem wp_callC {b : Nat} {B : List Nat} {sem : FS} {fr : M (List AV)} : wp (eCallB (b :: B) sem fr) s Q ↔ wp fr s fun avs s1 => cellsB (b :: B) s1 = true ∧ ∃ xs, avs.mapM (res s1) = some xs ∧ fp sem xs s1.k fun d k' => noMut d = true ∧ Q d ⟨s1.g, k'⟩ := by
  unfold eCallB
  rw [wp_bd]
  constructor <;> intro h <;> refine wp_mono h fun avs s1 q => ?_
  · obtain ⟨d, s', e, q⟩ := q
    dsimp only at e
    split at e
    · rename_i hc
      split at e
      · rename_i xs hx
        split at e
        · rename_i d' k' hs
          split at e
          · rename_i hm
            cases e
            exact ⟨hc, xs, hx, _, _, hs, by simpa using hm, q⟩
          · cases e
        · cases e
      · cases e
    · cases e
  · obtain ⟨hc, xs, e, d, k', e2, hm, q⟩ := q
    refine ⟨d, ⟨s1.g, k'⟩, ?_, q⟩
    simp only [hc, if_true, e, e2, hm, Bool.or_true]
@[simp ↓] theorem wp_vPermE {pm : List Nat} {fr : M (List AV)} {Q : List AV → S → Prop} : wp (vPerm pm fr) s Q ↔ wp fr s fun xs s1 => (xs.length = pm.length ∧ (pm.all fun i => decide (i < xs.length)) = true) ∧ Q (permL pm xs) s1 := by
  refine ⟨fun h => ?_, wp_vPerm⟩
  unfold vPerm at h
  rw [wp_bd] at h
  refine wp_mono h fun xs s1 q => ?_
  split at q
  · rename_i hc; exact ⟨hc, wp_rtn.mp q⟩
  · exact (wp_no.mp q).elim
end
end DL
namespace DL
open PySem PySem.Spec PyProof.Rows L2
/-! RW1: rows as plain Lean. -/
inductive Rs where
  | inp (k : Nat) | set (c : Int) | neg (i : Nat) | add (i j : Nat) | sub (i j : Nat) | mul (i j : Nat)
def Rs.d : Rs → D
  | .inp k => .tuple [.str "in", .int (k : Nat)]
  | .set c => .tuple [.str "set", .int c]
  | .neg i => .tuple [.str "neg", .int (i : Nat)]
  | .add i j => .tuple [.str "+", .int (i : Nat), .int (j : Nat)]
  | .sub i j => .tuple [.str "-", .int (i : Nat), .int (j : Nat)]
  | .mul i j => .tuple [.str "*", .int (i : Nat), .int (j : Nat)]
/-- may be the step with the number m in a row of n inputs -/
def Rs.ok (n m : Nat) : Rs → Prop
  | .inp k => k < n
  | .set c => -100000000000000000000 ≤ c ∧ c ≤ 100000000000000000000
  | .neg i => i < m
  | .add i j => i < m ∧ j < m
  | .sub i j => i < m ∧ j < m
  | .mul i j => i < m ∧ j < m
def okFrom (n : Nat) : Nat → List Rs → Prop
  | _, [] => True
  | m, s :: r => s.ok n m ∧ okFrom n (m + 1) r
theorem okFrom_app {n : Nat} : ∀ {m : Nat} {a b : List Rs}, okFrom n m (a ++ b) ↔ okFrom n m a ∧ okFrom n (m + a.length) b
  | m, [], b => by simp [okFrom]
  | m, s :: r, b => by
    rw [List.cons_append, okFrom, okFrom, okFrom_app, List.length_cons, show m + 1 + r.length = m + (r.length + 1) by omega, and_assoc]
theorem okFrom_snoc {n m : Nat} {a : List Rs} {s : Rs} : okFrom n m (a ++ [s]) ↔ okFrom n m a ∧ s.ok n (m + a.length) := by
  rw [okFrom_app]; simp [okFrom]
theorem okFrom_mem {n : Nat} : ∀ {m : Nat} {a : List Rs} {i : Nat} (h : i < a.length), okFrom n m a → (a[i]).ok n (m + i)
  | m, s :: r, 0, _, o => by simpa using o.1
  | m, s :: r, i + 1, h, o => by
    have := okFrom_mem (i := i) (by simpa using h) o.2
    rw [List.getElem_cons_succ, show m + (i + 1) = m + 1 + i by omega]; exact this
/-- going from step to step -/
def runS {α : Type} (op : List α → Rs → α) : List Rs → List α → List α
  | [], acc => acc
  | s :: r, acc => runS op r (acc ++ [op acc s])
theorem runS_app {α : Type} {op : List α → Rs → α} : ∀ {a b : List Rs} {acc : List α}, runS op (a ++ b) acc = runS op b (runS op a acc)
  | [], _, _ => rfl
  | s :: r, b, acc => by rw [List.cons_append, runS, runS, runS_app]
theorem runS_snoc {α : Type} {op : List α → Rs → α} {a : List Rs} {s : Rs} {acc : List α} : runS op (a ++ [s]) acc = runS op a acc ++ [op (runS op a acc) s] := by
  rw [runS_app]; rfl
theorem runS_len {α : Type} {op : List α → Rs → α} : ∀ {a : List Rs} {acc : List α}, (runS op a acc).length = acc.length + a.length
  | [], _ => rfl
  | s :: r, acc => by rw [runS, runS_len, List.length_append, List.length_cons]; simp; omega
/-- sizes, with least for a set number -/
def Rs.size (f : List Nat) : Rs → Nat
  | .inp _ => 1
  | .set _ => 1
  | .neg i => f.getD i 0
  | .add i j => max (f.getD i 0) (f.getD j 0)
  | .sub i j => max (f.getD i 0) (f.getD j 0)
  | .mul i j => f.getD i 0 + f.getD j 0
def sizesS (a : List Rs) : List Nat := runS Rs.size a []
theorem sizesS_snoc {a : List Rs} {s : Rs} : sizesS (a ++ [s]) = sizesS a ++ [s.size (sizesS a)] := runS_snoc
theorem sizesS_len {a : List Rs} : (sizesS a).length = a.length := by unfold sizesS; rw [runS_len]; simp
def intsD (l : List Nat) : List D := l.map fun n => .int (n : Nat)
def spsD (l : List Rs) : List D := l.map Rs.d
theorem intsD_len {l : List Nat} : (intsD l).length = l.length := by simp [intsD]
theorem spsD_len {l : List Rs} : (spsD l).length = l.length := by simp [spsD]
theorem intsD_snoc {l : List Nat} {n : Nat} : intsD l ++ [.int (n : Nat)] = intsD (l ++ [n]) := by simp [intsD]
theorem spsD_snoc {l : List Rs} {s : Rs} : spsD l ++ [s.d] = spsD (l ++ [s]) := by simp [spsD]
theorem intsD_get {l : List Nat} {i : Nat} (h : i < l.length) : atI (intsD l) (i : Int) = some (.int (l.getD i 0 : Nat)) := by
  refine atI_nat ?_
  simp [intsD, List.getElem?_map, List.getElem?_eq_getElem h]
def rowD (n : Nat) (a : List Rs) (e : List Nat) : D := .tuple [.int (n : Nat), .tuple (spsD a), .tuple (intsD e)]
/-! ### plain bounds -/
mutual
def gv : D → Bool
  | .int i => decide (i.natAbs < 2 ^ 150)
  | .str x => PyData.strOk x
  | .none => true
  | .tuple l => gvA l
  | _ => false
def gvA : List D → Bool
  | [] => true
  | x :: r => gv x && gvA r
end
theorem gvA_of : ∀ {l : List D}, (∀ d ∈ l, gv d = true) → gvA l = true
  | [], _ => rfl
  | x :: r, h => by
    rw [gvA, h x (List.mem_cons_self ..), gvA_of fun d hd => h d (List.mem_cons_of_mem _ hd)]; rfl
theorem lg_lt {i : Int} {n : Nat} (hn : 0 < n) (h : i.natAbs < 2 ^ n) : i.natAbs.log2 < n := by
  by_cases h0 : i.natAbs = 0
  · rw [h0]; simpa using hn
  · exact (Nat.log2_lt h0).mpr h
theorem sz_tup {l : List D} : sz (.tuple l) = szA l + 4 := by rw [sz]
theorem sz_lst {l : List D} : sz (.list l) = szA l + 4 := by rw [sz]
theorem dp_tup {l : List D} : PyData.depth (.tuple l) = PyData.depthAll l + 1 := by rw [PyData.depth]
theorem dp_lst {l : List D} : PyData.depth (.list l) = PyData.depthAll l + 1 := by rw [PyData.depth]
theorem sz_intB {i : Int} {n : Nat} (hn : 0 < n) (hn2 : n ≤ 14190) (h : i.natAbs < 2 ^ n) : sz (.int i) ≤ n + 2 := by
  have hl := lg_lt hn h
  unfold sz
  rw [if_pos (by omega)]; omega
theorem sz_nat {i : Nat} (h : i < 1024) : sz (.int (i : Int)) ≤ 12 := sz_intB (n := 10) (by decide) (by decide) (by simpa using h)
/-- a value that may be shown -/
def Gd (B : Nat) (d : D) : Prop := sz d ≤ B ∧ d.depth ≤ 20
theorem Gd.ok {B : Nat} {d : D} (h : Gd B d) (hB : B ≤ 1000000) : okR d = true := okR_of (Nat.le_trans h.1 hB) (by have := h.2; omega)
theorem Rs.d_sz {n m : Nat} {s : Rs} (h : s.ok n m) (hn : n ≤ 1000) (hm : m ≤ 1000) : sz s.d ≤ 200 ∧ s.d.depth ≤ 1 ∧ gv s.d = true := by
  have p150 : (2 : Nat) ^ 150 = 1427247692705959881058285969449495136382746624 := by decide
  have i1 : ∀ x : Nat, x < m → sz (.int (x : Int)) ≤ 12 ∧ (x : Int).natAbs < 2 ^ 150 := fun x hx => ⟨sz_nat (by omega), by omega⟩
  have s1 : sz (.str "in") = 22 := by decide
  have s2 : sz (.str "set") = 32 := by decide
  have s3 : sz (.str "neg") = 32 := by decide
  have s4 : sz (.str "+") = 12 := by decide
  have s5 : sz (.str "-") = 12 := by decide
  have s6 : sz (.str "*") = 12 := by decide
  have g1 : PyData.strOk "in" = true := by decide +kernel
  have g2 : PyData.strOk "set" = true := by decide +kernel
  have g3 : PyData.strOk "neg" = true := by decide +kernel
  have g4 : PyData.strOk "+" = true := by decide +kernel
  have g5 : PyData.strOk "-" = true := by decide +kernel
  have g6 : PyData.strOk "*" = true := by decide +kernel
  have p150 : (2 : Nat) ^ 150 = 1427247692705959881058285969449495136382746624 := by decide
  have p70 : (2 : Nat) ^ 70 = 1180591620717411303424 := by decide
  cases s with
  | inp k =>
    have hk : k < n := h
    have := sz_nat (i := k) (by omega)
    refine ⟨?_, ?_, ?_⟩
    · simp only [Rs.d, sz_tup, szA, s1]; omega
    · simp [Rs.d, PyData.depth, PyData.depthAll]
    · simp [Rs.d, gv, gvA, g1]; omega
  | set c =>
    have hc : -100000000000000000000 ≤ c ∧ c ≤ 100000000000000000000 := h
    have := sz_intB (i := c) (n := 70) (by decide) (by decide) (by omega)
    refine ⟨?_, ?_, ?_⟩
    · simp only [Rs.d, sz_tup, szA, s2]; omega
    · simp [Rs.d, PyData.depth, PyData.depthAll]
    · simp [Rs.d, gv, gvA, g2]; omega
  | neg i =>
    have hk : i < m := h
    have := i1 i hk
    refine ⟨?_, ?_, ?_⟩
    · simp only [Rs.d, sz_tup, szA, s3]; omega
    · simp [Rs.d, PyData.depth, PyData.depthAll]
    · simp [Rs.d, gv, gvA, g3]; omega
  | add i j =>
    have hk : i < m ∧ j < m := h
    have a := i1 i hk.1
    have b := i1 j hk.2
    refine ⟨?_, ?_, ?_⟩
    · simp only [Rs.d, sz_tup, szA, s4]; omega
    · simp [Rs.d, PyData.depth, PyData.depthAll]
    · simp [Rs.d, gv, gvA, g4]; omega
  | sub i j =>
    have hk : i < m ∧ j < m := h
    have a := i1 i hk.1
    have b := i1 j hk.2
    refine ⟨?_, ?_, ?_⟩
    · simp only [Rs.d, sz_tup, szA, s5]; omega
    · simp [Rs.d, PyData.depth, PyData.depthAll]
    · simp [Rs.d, gv, gvA, g5]; omega
  | mul i j =>
    have hk : i < m ∧ j < m := h
    have a := i1 i hk.1
    have b := i1 j hk.2
    refine ⟨?_, ?_, ?_⟩
    · simp only [Rs.d, sz_tup, szA, s6]; omega
    · simp [Rs.d, PyData.depth, PyData.depthAll]
    · simp [Rs.d, gv, gvA, g6]; omega
theorem okFrom_all {n : Nat} : ∀ {m : Nat} {a : List Rs}, okFrom n m a → ∀ s ∈ a, ∃ j, j < m + a.length ∧ s.ok n j
  | m, s :: r, o, t, ht => by
    rcases List.mem_cons.mp ht with rfl | ht
    · exact ⟨m, by simp, o.1⟩
    · obtain ⟨j, hj, o2⟩ := okFrom_all o.2 t ht
      exact ⟨j, by simp; omega, o2⟩
theorem rowD_gd {n : Nat} {a : List Rs} {e : List Nat} (h : okFrom n 0 a) (hn : n ≤ 1000) (ha : a.length ≤ 1000) (he : ∀ x ∈ e, x < a.length) : sz (rowD n a e) ≤ 30 + 202 * a.length + 14 * e.length ∧ (rowD n a e).depth ≤ 3 ∧ gv (rowD n a e) = true := by
  have h1 : ∀ d ∈ spsD a, sz d ≤ 200 ∧ d.depth ≤ 1 ∧ gv d = true := fun d hd => by
    simp only [spsD, List.mem_map] at hd
    obtain ⟨s, hs, rfl⟩ := hd
    obtain ⟨j, hj, o⟩ := okFrom_all h s hs
    exact Rs.d_sz o hn (by omega)
  have h2 : ∀ d ∈ intsD e, sz d ≤ 12 ∧ d.depth ≤ 0 ∧ gv d = true := fun d hd => by
    simp only [intsD, List.mem_map] at hd
    obtain ⟨x, hx, rfl⟩ := hd
    have := he x hx
    have p150 : (2 : Nat) ^ 150 = 1427247692705959881058285969449495136382746624 := by decide
    exact ⟨sz_nat (by omega), by simp [PyData.depth], by simp [gv]; omega⟩
  have z1 := szA_le_of fun d hd => (h1 d hd).1
  have z2 := szA_le_of fun d hd => (h2 d hd).1
  have z3 := depthA_le_of fun d hd => (h1 d hd).2.1
  have z4 := depthA_le_of fun d hd => (h2 d hd).2.1
  have z5 := gvA_of fun d hd => (h1 d hd).2.2
  have z6 := gvA_of fun d hd => (h2 d hd).2.2
  have z7 := sz_nat (i := n) (by omega)
  rw [spsD_len] at z1
  rw [intsD_len] at z2
  have p150 : (2 : Nat) ^ 150 = 1427247692705959881058285969449495136382746624 := by decide
  unfold rowD
  refine ⟨?_, ?_, ?_⟩
  · simp only [sz_tup, szA]; omega
  · simp only [dp_tup, PyData.depthAll, PyData.depth]; omega
  · simp [gv, gvA, z5, z6]; omega
/-! ### a seam -/
theorem wp_seqM {m n : M Fl} {s : S} {Z : Fl → S → Prop} (R : S → Prop) (h1 : wp m s fun fl s1 => fl = .nx ∧ R s1) (h2 : ∀ s1, R s1 → wp n s1 Z) : wp (sSeq m n) s Z := by
  rw [wp_sSeq]
  refine wp_mono h1 fun fl s1 ⟨e, q⟩ => ?_
  subst e; exact h2 s1 q
end DL
namespace DL
open PySem PySem.Spec PyProof.Rows L2
/-! RW2: what the law's own defs are spoken of with. -/
section
variable {x a b c : Str} {i j m : Int}
theorem dInS {x : Str} {ys : List D} (h : ys.all flatD = true) : dIn (.str x) (.tuple ys) = some (.bool (inD (.str x) ys)) := by
  unfold dIn dInB
  simp [h, flatD]
theorem dInI {i : Int} {ys : List D} (h : ys.all flatD = true) : dIn (.int i) (.tuple ys) = some (.bool (inD (.int i) ys)) := by
  unfold dIn dInB
  simp [h, flatD]
@[simp] theorem dIn_s2 : dIn (.str x) (.tuple [.str a, .str b]) = some (.bool (x == a || x == b)) := by
  rw [dInS (by simp [flatD])]; simp only [inD, PyData.eqv, List.any_cons, List.any_nil, Bool.or_false]
  rw [BEq.comm (a := a), BEq.comm (a := b)]
@[simp] theorem dIn_s3 : dIn (.str x) (.tuple [.str a, .str b, .str c]) = some (.bool (x == a || x == b || x == c)) := by
  rw [dInS (by simp [flatD])]; simp only [inD, PyData.eqv, List.any_cons, List.any_nil, Bool.or_false, Bool.or_assoc]
  rw [BEq.comm (a := a), BEq.comm (a := b), BEq.comm (a := c)]
end
theorem ofS_inj {a b : String} : Str.ofString a = Str.ofString b ↔ a = b := by
  constructor
  · intro h
    rw [Str.ofString_eq_toList, Str.ofString_eq_toList] at h
    injection h with h
    have h2 : a.toList.map Char.toNat = b.toList.map Char.toNat := by simpa using h
    have h3 : a.toList = b.toList := by
      have inj : ∀ {x y : Char}, x.toNat = y.toNat → x = y := fun {x y} h => Char.ext (UInt32.toNat_inj.mp h)
      generalize a.toList = p at h2
      generalize b.toList = q at h2
      induction p generalizing q with
      | nil => cases q with
        | nil => rfl
        | cons => simp at h2
      | cons u r ih => cases q with
        | nil => simp at h2
        | cons w t =>
          simp only [List.map_cons, List.cons.injEq] at h2
          rw [inj h2.1, ih t h2.2]
    exact String.toList_inj.mp h3
  · rintro rfl; rfl
@[simp] theorem ofS_eq {a b : String} : (Str.ofString a = Str.ofString b) = (a = b) := propext ofS_inj
@[simp] theorem ofS_beq {a b : String} : (Str.ofString a == Str.ofString b) = decide (a = b) := by
  rw [Bool.eq_iff_iff]; simp
@[simp ↓] theorem wp_lc_nil {own : List Nat} {asg : D → M Unit} {t : M Bool} {e : M D} {acc : List D} {s : S} {Q : List D → S → Prop} : wp (lcLoop own asg t e [] acc) s Q ↔ Q acc s := wp_rtn
@[simp ↓] theorem wp_lc_cons {own : List Nat} {asg : D → M Unit} {t : M Bool} {e : M D} {x : D} {r acc : List D} {s : S} {Q : List D → S → Prop} : wp (lcLoop own asg t e (x :: r) acc) s Q ↔ wp (asg x) s fun _ s1 => wp t s1 fun b s2 => if b = true then wp e s2 fun d s3 => acc.length ≤ lim ∧ wp (lcLoop own asg t e r (acc ++ [d])) (wipeS s3 own) Q else wp (lcLoop own asg t e r acc) (wipeS s2 own) Q := by
  show wp (bd (asg x) fun _ => bd t fun b => if b = true then bd e fun d => if acc.length ≤ lim then fun s1 => lcLoop own asg t e r (acc ++ [d]) (wipeS s1 own) else fun _ => none else fun s1 => lcLoop own asg t e r acc (wipeS s1 own)) s Q ↔ _
  simp only [wp_bd, wp_ite]
  have h2 : ∀ b s2, (if b = true then wp e s2 fun a s1 => if acc.length ≤ lim then wp (fun s1 => lcLoop own asg t e r (acc ++ [a]) (wipeS s1 own)) s1 Q else wp (fun _ => none) s1 Q else wp (fun s1 => lcLoop own asg t e r acc (wipeS s1 own)) s2 Q) = (if b = true then wp e s2 fun d s3 => acc.length ≤ lim ∧ wp (lcLoop own asg t e r (acc ++ [d])) (wipeS s3 own) Q else wp (lcLoop own asg t e r acc) (wipeS s2 own) Q) := by
    intro b s2
    split
    · refine congrArg (wp e s2) ?_
      funext a s1
      split
      · rename_i h; simp only [h, true_and]; rfl
      · rename_i h; simp only [h, false_and]; exact propext wp_no
    · rfl
  simp only [h2]
@[simp ↓] theorem wp_loop_nil {asg : D → M Unit} {b : M Fl} {s : S} {Z : Fl → S → Prop} : wp (loop asg b []) s Z ↔ Z .nx s := wp_rtn
@[simp] theorem cutG_1 {α : Type} {x : α} {r : List α} : cutG (x :: r) (some 1) none = r := by rw [cutG_from (by decide)]; rfl
@[simp] theorem fp_no {sem : FS} {xs : List Val} {k : Dk} : fp sem xs k (fun _ _ => False) ↔ False := ⟨fun ⟨_, _, _, h⟩ => h, False.elim⟩
theorem drop_cons {α : Type} {l : List α} {i : Nat} {x : α} {r : List α} (h : l.drop i = x :: r) : ∃ h : i < l.length, x = l[i] ∧ r = l.drop (i + 1) := by
  have hi : i < l.length := by
    by_cases h2 : i < l.length
    · exact h2
    · rw [List.drop_of_length_le (by omega)] at h; cases h
  refine ⟨hi, ?_⟩
  rw [List.drop_eq_getElem_cons hi] at h
  injection h with h1 h2
  exact ⟨h1.symm, h2.symm⟩
theorem drop_nil {α : Type} {l : List α} {i : Nat} (h : l.drop i = []) : l.length ≤ i := by simpa using h
theorem rng_len {a : Int} {n : Nat} : (rngD a n).length = n := by simp [rngD]
theorem rng_drop {a : Int} {n i : Nat} {x : D} {r : List D} (h : (rngD a n).drop i = x :: r) : i < n ∧ x = .int (a + (i : Nat)) ∧ r = (rngD a n).drop (i + 1) := by
  obtain ⟨hi, rfl, rfl⟩ := drop_cons h
  refine ⟨by rw [rng_len] at hi; exact hi, ?_, rfl⟩
  simp [rngD]
theorem rng_nil {a : Int} {n i : Nat} (h : (rngD a n).drop i = []) : n ≤ i := by
  have := drop_nil h; rwa [rng_len] at this
theorem drop_at {α : Type} {l : List α} {i : Nat} (h : i < l.length) : l.drop i = l[i] :: l.drop (i + 1) := List.drop_eq_getElem_cons h
@[simp] theorem cellsB_nil {s : S} : cellsB [] s = true := rfl
def cellO : Option (Option Val) → Bool
  | some (some v) => isCell v
  | _ => false
@[simp] theorem cellsB_cons {i : Nat} {B : List Nat} {s : S} : cellsB (i :: B) s = (cellO s.g[i]? && cellsB B s) := by
  unfold cellsB
  rw [List.all_cons]
  refine congrArg (· && _) ?_
  unfold cellO
  generalize s.g[i]? = o
  rcases o with _ | (_ | v) <;> rfl
@[simp] theorem cellO_lst {ds : List D} : cellO (some (some (.lst ds))) = true := rfl
@[simp] theorem cellO_dct {t : Bool} {ds : List (D × D)} : cellO (some (some (.dct t ds))) = true := rfl
@[simp] theorem isCell_lst {ds : List D} : isCell (.lst ds) = true := rfl
@[simp] theorem isCell_dct {t : Bool} {ds : List (D × D)} : isCell (.dct t ds) = true := rfl
@[simp] theorem res_bor {s : S} {i : Nat} : res s (.bor i) = resB s.g[i]? := rfl
@[simp] theorem resB_lst {ds : List D} : resB (some (some (.lst ds))) = some (.dat (.list ds)) := rfl
@[simp] theorem resB_dct {t : Bool} {ds : List (D × D)} : resB (some (some (.dct t ds))) = some (.dat (.dict ds)) := rfl
@[simp] theorem noMut_int {i : Int} : noMut (.int i) = true := by simp [noMut]
@[simp] theorem noMut_bool {i : Bool} : noMut (.bool i) = true := by simp [noMut]
@[simp] theorem noMut_str {i : Str} : noMut (.str i) = true := by simp [noMut]
@[simp] theorem noMut_none : noMut .none = true := by simp [noMut]
@[simp] theorem noMut_tuple {l : List D} : noMut (.tuple l) = noMutA l := by simp [noMut]
@[simp] theorem noMutA_nil : noMutA [] = true := by simp [noMutA]
@[simp] theorem noMutA_cons {x : D} {l : List D} : noMutA (x :: l) = (noMut x && noMutA l) := by simp [noMutA]
def ixO (o : Option (Option Val)) (y : D) : Option D := match o with
  | some (some (.lst ds)) => (match y with
    | .int j => atI ds j
    | _ => none)
  | some (some (.dat x)) => dIx x y
  | _ => none
@[simp] theorem ixc_g {s : S} {i : Nat} {y : D} : ixc s i y = ixO s.g[i]? y := rfl
@[simp] theorem ixO_lst {ds : List D} {j : Int} : ixO (some (some (.lst ds))) (.int j) = atI ds j := rfl
@[simp] theorem ixO_dat {x y : D} : ixO (some (some (.dat x))) y = dIx x y := rfl
def peekO : Option (Option Val) → Option D
  | some (some (.lst ds)) => some (.list ds)
  | some (some (.dat d)) => some d
  | _ => none
@[simp] theorem peek_g {s : S} {i : Nat} : peek i s = peekO s.g[i]? := by
  unfold peek peekO
  generalize s.g[i]? = o
  rcases o with _ | (_ | v)
  · rfl
  · rfl
  · cases v <;> rfl
@[simp] theorem peekO_lst {ds : List D} : peekO (some (some (.lst ds))) = some (.list ds) := rfl
@[simp] theorem peekO_dat {d : D} : peekO (some (some (.dat d))) = some d := rfl
@[simp] theorem wipeS_mk {g : List (Option Val)} {k : Dk} {l : List Nat} : wipeS ⟨g, k⟩ l = ⟨wipeL g l, k⟩ := rfl
@[simp] theorem wipeL_nil {g : List (Option Val)} : wipeL g [] = g := rfl
@[simp] theorem wipeL_cons {g : List (Option Val)} {v : Nat} {r : List Nat} : wipeL g (v :: r) = (wipeL g r).set v none := rfl
/-- a comprehension whose turns change nothing -/
theorem wp_lc_fm {own : List Nat} {asg : D → M Unit} {t : M Bool} {e : M D} {ds : List D} {s : S} {Q : List D → S → Prop} (p : D → Bool) (g : D → D)
    (h : ∀ x ∈ ds, wp (asg x) s fun _ s1 => wp t s1 fun b s2 => b = p x ∧ if p x = true then wp e s2 fun d s3 => d = g x ∧ wipeS s3 own = s else wipeS s2 own = s) (hl : ds.length ≤ lim) (hq : Q ((ds.filter p).map g) s) : wp (lcLoop own asg t e ds []) s Q := by
  refine wp_lc (fun r acc s' => s' = s ∧ (∀ x ∈ r, x ∈ ds) ∧ acc.length + r.length ≤ lim ∧ acc ++ (r.filter p).map g = (ds.filter p).map g) (fun x r acc s' hI => ?_) (fun acc s' hI => ?_) ds [] s ⟨rfl, fun _ hx => hx, by simpa using hl, by simp⟩
  · obtain ⟨rfl, hm, hl, he⟩ := hI
    refine wp_mono (h x (hm x (List.mem_cons_self ..))) fun _ s1 q => ?_
    refine wp_mono q fun b s2 ⟨hb, q⟩ => ?_
    subst hb
    rw [List.length_cons] at hl
    split
    · rename_i hp
      rw [if_pos hp] at q
      refine wp_mono q fun d s3 ⟨hd, hw⟩ => ?_
      subst hd
      refine ⟨by omega, hw, fun y hy => hm y (List.mem_cons_of_mem _ hy), by simp; omega, ?_⟩
      rw [← he, List.filter_cons_of_pos hp]; simp
    · rename_i hp
      rw [if_neg hp] at q
      refine ⟨q, fun y hy => hm y (List.mem_cons_of_mem _ hy), by omega, ?_⟩
      rw [← he, List.filter_cons_of_neg hp]
  · obtain ⟨rfl, hm, hl, he⟩ := hI
    rw [List.filter_nil, List.map_nil, List.append_nil] at he
    rw [he]; exact hq
theorem wp_lc_map {own : List Nat} {asg : D → M Unit} {e : M D} {ds : List D} {s : S} {Q : List D → S → Prop} (g : D → D)
    (h : ∀ x ∈ ds, wp (asg x) s fun _ s1 => wp e s1 fun d s3 => d = g x ∧ wipeS s3 own = s) (hl : ds.length ≤ lim) (hq : Q (ds.map g) s) : wp (lcLoop own asg (rtn true) e ds []) s Q := by
  refine wp_lc_fm (fun _ => true) g (fun x hx => ?_) hl ?_
  · refine wp_mono (h x hx) fun _ s1 q => ?_
    rw [wp_rtn]
    exact ⟨rfl, by simpa using q⟩
  · rw [List.filter_eq_self.mpr fun _ _ => rfl]; exact hq
theorem bsD_map {ds : List D} {f : D → Bool} : bsD (ds.map fun d => .bool (f d)) = some (ds.map f) := by
  induction ds with
  | nil => rfl
  | cons x r ih => simp [bsD, ih]
@[simp] theorem dAll_map {ds : List D} {f : D → Bool} : dAll [.list (ds.map fun d => .bool (f d))] = some (.bool (ds.all f)) := by
  simp [dAll, bsD_map, List.all_map, Function.comp_def]
end DL
namespace DL
open PySem PySem.Spec PyProof.Rows L2
/-! RW3: what is wrong with a value that is to be a row. -/
structure RowOk (n many most : Nat) (a : List Rs) (e : List Nat) : Prop where
  ok : okFrom n 0 a
  len : 1 ≤ a.length ∧ a.length ≤ many
  siz : ∀ x ∈ sizesS a, x ≤ most
  ends : ∀ x ∈ e, x < a.length
  elen : 1 ≤ e.length ∧ e.length ≤ 3
  sml : ∀ c, Rs.set c ∈ a → c.natAbs ≤ 4
/-- a row that is being made -/
structure RowIn (n most : Nat) (a : List Rs) : Prop where
  ok : okFrom n 0 a
  siz : ∀ x ∈ sizesS a, x ≤ most
  sml : ∀ c, Rs.set c ∈ a → c.natAbs ≤ 4
def Rs.small : Rs → Prop
  | .set c => c.natAbs ≤ 4
  | _ => True
theorem RowIn.snoc {n most : Nat} {a : List Rs} {s : Rs} (h : RowIn n most a) (o : s.ok n a.length) (z : s.size (sizesS a) ≤ most) (sm : s.small) : RowIn n most (a ++ [s]) := by
  refine ⟨okFrom_snoc.mpr ⟨h.ok, by simpa using o⟩, fun x hx => ?_, fun c hc => ?_⟩
  · rw [sizesS_snoc] at hx
    rcases List.mem_append.mp hx with hx | hx
    · exact h.siz x hx
    · simp at hx; subst hx; exact z
  · rcases List.mem_append.mp hc with hc | hc
    · exact h.sml c hc
    · simp at hc; subst hc; exact sm
theorem getD_le {l : List Nat} {b : Nat} (h : ∀ x ∈ l, x ≤ b) (i : Nat) : l.getD i 0 ≤ b := by
  by_cases hi : i < l.length
  · have : l.getD i 0 = l[i] := by simp [List.getElem?_eq_getElem hi]
    rw [this]; exact h _ (List.getElem_mem _)
  · simp [List.getElem?_eq_none (Nat.le_of_not_lt hi)]
theorem Rs.size_le {most : Nat} {f : List Nat} {s : Rs} (h : ∀ x ∈ f, x ≤ most) (h1 : 1 ≤ most) (hm : ∀ i j, s ≠ .mul i j) : s.size f ≤ most := by
  cases s with
  | inp _ => exact h1
  | set _ => exact h1
  | neg i => exact getD_le h i
  | add i j => exact Nat.max_le.mpr ⟨getD_le h i, getD_le h j⟩
  | sub i j => exact Nat.max_le.mpr ⟨getD_le h i, getD_le h j⟩
  | mul i j => exact absurd rfl (hm i j)
end DL
namespace DL
open PySem PySem.Spec PyProof.Rows L2
/-! DL25: sum, max, min, sorted of a list of ints; zip; range of three. -/
section
variable {X : Cx} {K : PySem.W.Frag}
def nsD : List D → Option (List Int)
  | [] => some []
  | .int i :: r => (nsD r).map (i :: ·)
  | _ :: _ => none
theorem RpA.nums {K : PySem.W.Frag} {H : Hp} : ∀ {vs : List V} {ds : List D} {ns : List Int}, RpA K H vs ds → nsD ds = some ns → vs = ns.map V.int
  | _, _, ns, .nil, e => by cases e; rfl
  | _, _, ns, .cons (d := d) h t, e => by
    cases d <;> simp [nsD] at e
    obtain ⟨ns', e1, rfl⟩ := e
    cases h
    rw [List.map_cons, RpA.nums t e1]
theorem nsD_map (ns : List Int) : nsD (ns.map PyData.int) = some ns := by
  induction ns with
  | nil => rfl
  | cons n r ih => rw [List.map_cons, nsD, ih]; rfl
def maxI : List Int → Int
  | [] => 0
  | [n] => n
  | n :: r => max n (maxI r)
def minI : List Int → Int
  | [] => 0
  | [n] => n
  | n :: r => min n (minI r)
theorem maxI_is : ∀ {ns : List Int}, ns ≠ [] → maxI ns ∈ ns ∧ ∀ y ∈ ns, y ≤ maxI ns
  | [n], _ => by simp [maxI]
  | n :: m :: r, _ => by
    obtain ⟨h1, h2⟩ := maxI_is (ns := m :: r) (by simp)
    rw [maxI]
    · constructor
      · rcases Int.le_total n (maxI (m :: r)) with h | h
        · rw [Int.max_eq_right h]; exact List.mem_cons_of_mem _ h1
        · rw [Int.max_eq_left h]; exact List.mem_cons_self ..
      · intro y hy
        rcases List.mem_cons.mp hy with rfl | hy
        · omega
        · have := h2 y hy; omega
    · simp
theorem minI_is : ∀ {ns : List Int}, ns ≠ [] → minI ns ∈ ns ∧ ∀ y ∈ ns, minI ns ≤ y
  | [n], _ => by simp [minI]
  | n :: m :: r, _ => by
    obtain ⟨h1, h2⟩ := minI_is (ns := m :: r) (by simp)
    rw [minI]
    · constructor
      · rcases Int.le_total n (minI (m :: r)) with h | h
        · rw [Int.min_eq_left h]; exact List.mem_cons_self ..
        · rw [Int.min_eq_right h]; exact List.mem_cons_of_mem _ h1
      · intro y hy
        rcases List.mem_cons.mp hy with rfl | hy
        · omega
        · have := h2 y hy; omega
    · simp
/-- put in its place -/
def insI (n : Int) : List Int → List Int
  | [] => [n]
  | m :: r => if n ≤ m then n :: m :: r else m :: insI n r
def srtI : List Int → List Int
  | [] => []
  | n :: r => insI n (srtI r)
theorem insI_perm (n : Int) : ∀ l : List Int, (insI n l).Perm (n :: l)
  | [] => .refl _
  | m :: r => by
    unfold insI
    split
    · exact .refl _
    · exact ((insI_perm n r).cons m).trans (.swap n m r)
theorem srtI_perm : ∀ l : List Int, (srtI l).Perm l
  | [] => .refl _
  | n :: r => (insI_perm n (srtI r)).trans ((srtI_perm r).cons n)
theorem insI_sorted {n : Int} : ∀ {l : List Int}, l.Pairwise (· ≤ ·) → (insI n l).Pairwise (· ≤ ·)
  | [], _ => by simp [insI]
  | m :: r, h => by
    unfold insI
    rw [List.pairwise_cons] at h
    split
    · rename_i hn
      rw [List.pairwise_cons, List.pairwise_cons]
      refine ⟨fun a ha => ?_, h⟩
      rcases List.mem_cons.mp ha with rfl | ha
      · exact hn
      · exact Int.le_trans hn (h.1 a ha)
    · rename_i hn
      rw [List.pairwise_cons]
      refine ⟨fun a ha => ?_, insI_sorted h.2⟩
      have := (insI_perm n r).mem_iff.mp ha
      rcases List.mem_cons.mp this with rfl | ha
      · omega
      · exact h.1 a ha
theorem srtI_sorted : ∀ l : List Int, (srtI l).Pairwise (· ≤ ·)
  | [] => .nil
  | n :: r => insI_sorted (srtI_sorted r)
def dMaxL : List D → Option D
  | [.list ds] => (nsD ds).bind fun ns => if ns.isEmpty = true then none else some (.int (maxI ns))
  | _ => none
def dMinL : List D → Option D
  | [.list ds] => (nsD ds).bind fun ns => if ns.isEmpty = true then none else some (.int (minI ns))
  | _ => none
theorem do_maxL : DOC K (rMax K) dMaxL := by
  intro P H xs ds d t r e Q q
  unfold dMaxL at e
  split at e
  · rename_i ds
    cases hb : nsD ds with
    | none => rw [hb] at e; cases e
    | some ns =>
      rw [hb] at e
      simp only [Option.bind_some] at e
      split at e
      · cases e
      · rename_i hne
        cases e
        have hne : ns ≠ [] := by simpa using hne
        obtain ⟨v, rfl, h⟩ := r.one
        obtain ⟨a, vs, rfl, h1, r1⟩ := h.lst_inv
        have := r1.nums hb
        subst this
        refine ⟨a, ns, rfl, SqL.of (mask_le _ _ h1), List.length_pos_iff.mpr hne, fun m h2 h3 => ?_⟩
        obtain ⟨h4, h5⟩ := maxI_is hne
        have e : m = maxI ns := Int.le_antisymm (h5 m h2) (h3 _ h4)
        rw [e]
        exact q _ H (Grw.refl H) (.int _)
  · cases e
theorem do_minL : DOC K (rMin K) dMinL := by
  intro P H xs ds d t r e Q q
  unfold dMinL at e
  split at e
  · rename_i ds
    cases hb : nsD ds with
    | none => rw [hb] at e; cases e
    | some ns =>
      rw [hb] at e
      simp only [Option.bind_some] at e
      split at e
      · cases e
      · rename_i hne
        cases e
        have hne : ns ≠ [] := by simpa using hne
        obtain ⟨v, rfl, h⟩ := r.one
        obtain ⟨a, vs, rfl, h1, r1⟩ := h.lst_inv
        have := r1.nums hb
        subst this
        refine ⟨a, ns, rfl, SqL.of (mask_le _ _ h1), List.length_pos_iff.mpr hne, fun m h2 h3 => ?_⟩
        obtain ⟨h4, h5⟩ := minI_is hne
        have e : m = minI ns := Int.le_antisymm (h3 _ h4) (h5 m h2)
        rw [e]
        exact q _ H (Grw.refl H) (.int _)
  · cases e
theorem k_maxL (hc : X.calm = true := by rfl) (hK : X.K = K := by rfl) : CallR X (.builtin "max") (rMax K) := hK ▸ cr_max hc
theorem k_minL (hc : X.calm = true := by rfl) (hK : X.K = K := by rfl) : CallR X (.builtin "min") (rMin K) := hK ▸ cr_min hc
/-! ### zip -/
def zipD (xs ys : List D) : List D := (xs.zip ys).map fun p => .tuple [p.1, p.2]
theorem zipD_len (xs ys : List D) : (zipD xs ys).length = min xs.length ys.length := by simp [zipD]
theorem zipD_get {xs ys : List D} {i : Nat} {x y : D} (h1 : xs[i]? = some x) (h2 : ys[i]? = some y) : (zipD xs ys)[i]? = some (.tuple [x, y]) := by
  have : (xs.zip ys)[i]? = some (x, y) := List.getElem?_zip_eq_some.mpr ⟨h1, h2⟩
  simp [zipD, List.getElem?_map, this]
theorem rp_two {P : Addr → Prop} {H : Hp} {T : Addr} {x y : V} {d e : D} (t : Trk P H) (hT : H T = none) (r : Rp K (mask P H) x d) (r2 : Rp K (mask P H) y e) : Rp K (mask P (upd H T (.tup [x, y]))) (.ref T) (.tuple [d, e]) :=
  rp_newT t hT (.cons r (.cons r2 .nil))
theorem walkZL {a b : Addr} {vs us : List V} {ds es : List D} (n : vs.length = ds.length) (m : us.length = es.length) : WalkD K (Itz K a b) (fun P H => (mask P H a = some (.lst vs) ∧ RpA K (mask P H) vs ds) ∧ mask P H b = some (.lst us) ∧ RpA K (mask P H) us es) (zipD ds es) := by
  refine ⟨fun P i H hi g => ?_, fun P H g => ⟨vs, us, SqL.of (mask_le _ _ g.1.1), SqL.of (mask_le _ _ g.2.1), by rw [zipD_len]; omega⟩, fun P i H x H' hi t g y => ?_, fun P P' H H' q g => ⟨⟨q _ _ g.1.1, g.1.2.mono q⟩, q _ _ g.2.1, g.2.2.mono q⟩⟩
  · rw [zipD_len] at hi
    exact ⟨vs, us, vs[i]'(by omega), us[i]'(by omega), SqL.of (mask_le _ _ g.1.1), SqL.of (mask_le _ _ g.2.1), by simp, by simp⟩
  · obtain ⟨T, x, x2, rfl, hT, rfl, y1, y2⟩ := y
    obtain ⟨d, h1, h2⟩ := g.1.2.getv (y1 vs (SqL.of (mask_le _ _ g.1.1)))
    obtain ⟨e, h3, h4⟩ := g.2.2.getv (y2 us (SqL.of (mask_le _ _ g.2.1)))
    exact ⟨Grw.new hT, _, zipD_get h1 h3, rp_two t hT h2 h4⟩
theorem walkZT {a b : Addr} {vs us : List V} {ds es : List D} (n : vs.length = ds.length) (m : us.length = es.length) : WalkD K (RZ.ItzT K a b) (fun P H => (SqT K (mask P H) a vs ∧ RpA K (mask P H) vs ds) ∧ SqT K (mask P H) b us ∧ RpA K (mask P H) us es) (zipD ds es) := by
  refine ⟨fun P i H hi g => ?_, fun P H g => ⟨vs, us, sqT_le g.1.1, sqT_le g.2.1, by rw [zipD_len]; omega⟩, fun P i H x H' hi t g y => ?_, fun P P' H H' q g => ⟨⟨SqT.grw q g.1.1, g.1.2.mono q⟩, SqT.grw q g.2.1, g.2.2.mono q⟩⟩
  · rw [zipD_len] at hi
    exact ⟨vs, us, vs[i]'(by omega), us[i]'(by omega), sqT_le g.1.1, sqT_le g.2.1, by simp, by simp⟩
  · obtain ⟨T, x, x2, rfl, hT, rfl, y1, y2⟩ := y
    obtain ⟨d, h1, h2⟩ := g.1.2.getv (y1 vs (sqT_le g.1.1))
    obtain ⟨e, h3, h4⟩ := g.2.2.getv (y2 us (sqT_le g.2.1))
    exact ⟨Grw.new hT, _, zipD_get h1 h3, rp_two t hT h2 h4⟩
def asZ (f : M (List D)) : M (List D) := bd f fun x => match x with
  | [.list ds, .list es] => rtn (zipD ds es)
  | [.tuple ds, .tuple es] => rtn (zipD ds es)
  | _ => fun _ => none
theorem ei_zip {ta : TA} {f : M (List D)} (h : EvA K ta f) : EvI K (RZ.iZipA K ta) (asZ f) := by
  intro A hid P s σ H ds s' ok e R q
  obtain ⟨x, s1, h1, e⟩ := bd_some e
  refine h A hid P s σ H x s1 ok h1 _ fun v P1 H1 ok1 st1 r => ?_
  split at e
  · obtain ⟨rfl, rfl⟩ := rtn_some e
    obtain ⟨v, u, rfl, r0, r1⟩ := r.two
    obtain ⟨a, vs, rfl, hx, rr⟩ := r0.lst_inv
    obtain ⟨b, us, rfl, hy, r2⟩ := r1.lst_inv
    exact ⟨a, b, vs, us, rfl, .inl ⟨SqL.of (mask_le _ _ hx), SqL.of (mask_le _ _ hy), q _ _ P1 H1 ok1 st1 (walkZL rr.length r2.length) ⟨⟨hx, rr⟩, hy, r2⟩⟩⟩
  · obtain ⟨rfl, rfl⟩ := rtn_some e
    obtain ⟨v, u, rfl, r0, r1⟩ := r.two
    obtain ⟨a, vs, rfl, hx, rr⟩ := r0.tup_inv
    obtain ⟨b, us, rfl, hy, r2⟩ := r1.tup_inv
    exact ⟨a, b, vs, us, rfl, .inr ⟨sqT_le hx, sqT_le hy, q _ _ P1 H1 ok1 st1 (walkZT rr.length r2.length) ⟨⟨hx, rr⟩, hy, r2⟩⟩⟩
  · cases e
/-! ### range(a, b, -1) -/
def rg3 (fr : M (List D)) : M (List D) := bd fr fun ds => match ds with
  | [.int i, .int j, .int c] => if c = -1 ∧ (-(2 ^ 62) ≤ i ∧ i < 2 ^ 62) ∧ -(2 ^ 62) ≤ j ∧ j < 2 ^ 62 then rtn ((List.range (i - j).toNat).map fun n => .int (i - (n : Nat))) else fun _ => none
  | _ => fun _ => none
variable {e e2 a b c : Expr} {ta : TA} {f : M (List D)} {p pos tpos : Pos} {elts : List Expr} {kk : Nat} {tg : Expr}
theorem k_zip (hg : Gl X "zip") (hm : X.mg "zip" = none) (ha : DAr X [e, e2] ta f) (hs : starEach [e, e2] X.env = (false, eval e X.env) :: starEach [e2] X.env := by rfl) (hpl : (backTo pos (starEach [e2] X.env)).any (·.1) = false := by rfl) (hK : X.K = K := by rfl) :
    DI X (.Tuple elts kk tpos) (.Call (.Name "zip" p) [e, e2] [] pos) (RZ.iZipA K ta) (asZ f) := hK ▸ ⟨RZ.pi_zipA hg hm ha.p hs hpl, ei_zip ha.v⟩
end
end DL
namespace DL
open PySem PySem.Spec PyProof.Rows L2
/-! RW4: values, ranges, rates of rows, in plain Lean. -/
theorem take_next {α : Type} {l : List α} {m : Nat} (h : m < l.length) : l.take (m + 1) = l.take m ++ [l[m]] := by
  rw [List.take_succ, List.getElem?_eq_getElem h]; rfl
theorem runS_take {α : Type} {op : List α → Rs → α} {a : List Rs} {m : Nat} (h : m < a.length) : runS op (a.take (m + 1)) [] = runS op (a.take m) [] ++ [op (runS op (a.take m) []) a[m]] := by
  rw [take_next h, runS_snoc]
theorem runS_take_len {α : Type} {op : List α → Rs → α} {a : List Rs} {m : Nat} (h : m ≤ a.length) : (runS op (a.take m) []).length = m := by
  rw [runS_len, List.length_take]; simp; omega
theorem sps_drop {a : List Rs} {m : Nat} {x : D} {r : List D} (h : (spsD a).drop m = x :: r) : ∃ h : m < a.length, x = (a[m]).d ∧ r = (spsD a).drop (m + 1) := by
  obtain ⟨hi, rfl, rfl⟩ := drop_cons h
  have hi2 : m < a.length := by rw [spsD_len] at hi; exact hi
  exact ⟨hi2, by simp [spsD], rfl⟩
theorem sps_nil {a : List Rs} {m : Nat} (h : (spsD a).drop m = []) : a.length ≤ m := by
  have := drop_nil h; rwa [spsD_len] at this
def numsD (l : List Int) : List D := l.map PyData.int
theorem numsD_len {l : List Int} : (numsD l).length = l.length := by simp [numsD]
theorem numsD_snoc {l : List Int} {n : Int} : numsD l ++ [.int n] = numsD (l ++ [n]) := by simp [numsD]
theorem numsD_get {l : List Int} {i : Nat} (h : i < l.length) : atI (numsD l) (i : Int) = some (.int (l.getD i 0)) := by
  refine atI_nat ?_
  simp [numsD, List.getElem?_map, List.getElem?_eq_getElem h]
/-! ### values -/
def Rs.val (p f : List Int) : Rs → Int
  | .inp k => p.getD k 0
  | .set c => c
  | .neg i => - f.getD i 0
  | .add i j => f.getD i 0 + f.getD j 0
  | .sub i j => f.getD i 0 - f.getD j 0
  | .mul i j => f.getD i 0 * f.getD j 0
def valsS (p : List Int) (a : List Rs) : List Int := runS (Rs.val p) a []
theorem valsS_len {p : List Int} {a : List Rs} : (valsS p a).length = a.length := by unfold valsS; rw [runS_len]; simp
/-! ### ranges -/
abbrev Iv := Int × Int
/-! ### rates -/
/-! ### sums over inputs -/
theorem runS_pre {α : Type} {op : List α → Rs → α} : ∀ {a : List Rs} {acc : List α}, ∃ t, runS op a acc = acc ++ t
  | [], acc => ⟨[], by simp [runS]⟩
  | s :: r, acc => by
    obtain ⟨t, e⟩ := runS_pre (op := op) (a := r) (acc := acc ++ [op acc s])
    exact ⟨op acc s :: t, by rw [runS, e]; simp⟩
theorem runS_at {α : Type} {op : List α → Rs → α} {d : α} {n : Nat} (hop : ∀ (l l' : List α) (s : Rs) (m : Nat), s.ok n m → (∀ j, j < m → l.getD j d = l'.getD j d) → op l s = op l' s)
    {a : List Rs} (ho : okFrom n 0 a) {i : Nat} (hi : i < a.length) : (runS op a []).getD i d = op (runS op a []) a[i] := by
  have e1 : a = a.take i ++ a[i] :: a.drop (i + 1) := by
    rw [← drop_at hi, List.take_append_drop]
  have hl : (runS op (a.take i) []).length = i := runS_take_len (by omega)
  have e2 : runS op a [] = runS op (a.drop (i + 1)) (runS op (a.take i) [] ++ [op (runS op (a.take i) []) a[i]]) := by
    conv => lhs; rw [e1]
    rw [runS_app]; rfl
  obtain ⟨t, e3⟩ := runS_pre (op := op) (a := a.drop (i + 1)) (acc := runS op (a.take i) [] ++ [op (runS op (a.take i) []) a[i]])
  rw [e3] at e2
  have ok : (a[i]).ok n i := by have := okFrom_mem hi ho; simpa using this
  have e4 : op (runS op a []) a[i] = op (runS op (a.take i) []) a[i] := by
    refine hop _ _ _ i ok fun j hj => ?_
    rw [e2]
    simp only [List.getD_eq_getElem?_getD]
    rw [List.append_assoc, List.getElem?_append_left (by omega)]
  rw [e4, e2]
  simp only [List.getD_eq_getElem?_getD]
  rw [List.getElem?_append_left (by simp; omega), List.getElem?_append_right (by omega)]
  simp [hl]
theorem vals_at {n : Nat} {p : List Int} {a : List Rs} (ho : okFrom n 0 a) {i : Nat} (hi : i < a.length) : (valsS p a).getD i 0 = Rs.val p (valsS p a) a[i] := by
  refine runS_at (n := n) (fun l l' s m ok h => ?_) ho hi
  cases s with
  | inp k => rfl
  | set c => rfl
  | neg i => simp only [Rs.val]; rw [h i ok]
  | add i j => simp only [Rs.val]; rw [h i ok.1, h j ok.2]
  | sub i j => simp only [Rs.val]; rw [h i ok.1, h j ok.2]
  | mul i j => simp only [Rs.val]; rw [h i ok.1, h j ok.2]
theorem size_at {n : Nat} {a : List Rs} (ho : okFrom n 0 a) {i : Nat} (hi : i < a.length) : (sizesS a).getD i 0 = Rs.size (sizesS a) a[i] := by
  refine runS_at (n := n) (fun l l' s m ok h => ?_) ho hi
  cases s with
  | inp k => rfl
  | set c => rfl
  | neg i => simp only [Rs.size]; rw [h i ok]
  | add i j => simp only [Rs.size]; rw [h i ok.1, h j ok.2]
  | sub i j => simp only [Rs.size]; rw [h i ok.1, h j ok.2]
  | mul i j => simp only [Rs.size]; rw [h i ok.1, h j ok.2]
theorem ok_at {n : Nat} {a : List Rs} (ho : okFrom n 0 a) {i : Nat} (hi : i < a.length) : (a[i]).ok n i := by have := okFrom_mem hi ho; simpa using this
end DL
namespace DL
open PySem PySem.Spec PyProof.Rows L2
/-! RW5: how great numbers come. -/
def mg (e : Nat) (x : Int) : Prop := x.natAbs < 2 ^ e
theorem mg_mono {e f : Nat} {x : Int} (h : mg e x) (hf : e ≤ f) : mg f x := Nat.lt_of_lt_of_le h (Nat.pow_le_pow_right (by decide) hf)
theorem mg_neg {e : Nat} {x : Int} (h : mg e x) : mg e (-x) := by unfold mg at *; rw [Int.natAbs_neg]; exact h
theorem mg_add {e : Nat} {x y : Int} (h : mg e x) (h2 : mg e y) : mg (e + 1) (x + y) := by
  unfold mg at *
  have := Int.natAbs_add_le x y
  rw [Nat.pow_succ]; omega
theorem mg_sub {e : Nat} {x y : Int} (h : mg e x) (h2 : mg e y) : mg (e + 1) (x - y) := by
  rw [Int.sub_eq_add_neg]; exact mg_add h (mg_neg h2)
theorem mg_mul {a b : Nat} {x y : Int} (hx : mg a x) (hy : mg b y) : mg (a + b) (x * y) := by
  unfold mg at *
  rw [Int.natAbs_mul, Nat.pow_add]
  rcases Nat.eq_zero_or_pos y.natAbs with h | h
  · rw [h, Nat.mul_zero]; exact Nat.mul_pos (Nat.pow_pos (by decide)) (Nat.pow_pos (by decide))
  · exact Nat.mul_lt_mul'' hx hy
theorem mg_lg {e : Nat} {x : Int} (he : 0 < e) (h : mg e x) : x.natAbs.log2 < e := lg_lt he h
theorem mg_70 {x : Int} (h : -100000000000000000000 ≤ x) (h2 : x ≤ 100000000000000000000) : mg 70 x := by
  unfold mg
  have : (2 : Nat) ^ 70 = 1180591620717411303424 := by decide
  omega
def mgI (e : Nat) (x : Iv) : Prop := mg e x.1 ∧ mg e x.2
theorem size_pos {n : Nat} {a : List Rs} (ho : okFrom n 0 a) : ∀ {i : Nat}, i < a.length → 1 ≤ (sizesS a).getD i 0 := by
  intro i
  induction i using Nat.strongRecOn with
  | ind i ih =>
    intro hi
    have ok := ok_at ho hi
    rw [size_at ho hi]
    cases hs : a[i] with
    | inp k => simp [Rs.size]
    | set c => simp [Rs.size]
    | neg j => rw [hs] at ok; exact ih j ok (by have : j < i := ok; omega)
    | add j l => rw [hs] at ok; have := ih j ok.1 (by have := ok.1; omega); simp only [Rs.size]; omega
    | sub j l => rw [hs] at ok; have := ih j ok.1 (by have := ok.1; omega); simp only [Rs.size]; omega
    | mul j l => rw [hs] at ok; have := ih j ok.1 (by have := ok.1; omega); simp only [Rs.size]; omega
/-- the exponent of a step -/
def ex (a : List Rs) (i : Nat) : Nat := (sizesS a).getD i 0 * (70 + i)
theorem ex_up {s t i j : Nat} (hs : 1 ≤ s) (h : s ≤ t) (hj : j < i) : s * (70 + j) + 1 ≤ t * (70 + i) := by
  have h1 : s * (70 + j) ≤ t * (70 + j) := Nat.mul_le_mul_right _ h
  have h2 : t * (70 + j) + t ≤ t * (70 + i) := by
    have : t * (70 + j) + t = t * (70 + j + 1) := by rw [Nat.mul_succ]
    rw [this]; exact Nat.mul_le_mul_left _ (by omega)
  omega
theorem ex_two {s t i j l : Nat} (hs : 1 ≤ s) (hj : j < i) (hl : l < i) : s * (70 + j) + t * (70 + l) + 1 ≤ (s + t) * (70 + i) := by
  have h1 := ex_up (s := s) (t := s) hs (Nat.le_refl _) hj
  have h2 : t * (70 + l) ≤ t * (70 + i) := Nat.mul_le_mul_left _ (by omega)
  rw [Nat.add_mul]; omega
theorem ex_one {s i : Nat} (hs : 1 ≤ s) : 70 ≤ s * (70 + i) := by
  have := Nat.mul_le_mul_right (70 + i) hs; omega
theorem ex_le {n many most : Nat} {a : List Rs} {i : Nat} (h : ∀ x ∈ sizesS a, x ≤ most) (hi : i < a.length) (hl : a.length ≤ many) : ex a i ≤ most * (70 + many) := by
  unfold ex
  exact Nat.mul_le_mul (getD_le h i) (by omega)
theorem vals_mg {n : Nat} {p : List Int} {a : List Rs} (ho : okFrom n 0 a) (hp : ∀ k, k < n → mg 70 (p.getD k 0)) : ∀ {i : Nat}, i < a.length → mg (ex a i) ((valsS p a).getD i 0) := by
  intro i
  induction i using Nat.strongRecOn with
  | ind i ih =>
    intro hi
    have ok := ok_at ho hi
    have sp := size_pos ho hi
    unfold ex
    rw [vals_at ho hi, size_at ho hi]
    rw [size_at ho hi] at sp
    cases hs : a[i] with
    | inp k => rw [hs] at ok sp; exact mg_mono (hp k ok) (ex_one sp)
    | set c => rw [hs] at ok sp; exact mg_mono (mg_70 ok.1 ok.2) (ex_one sp)
    | neg j =>
      rw [hs] at ok sp
      have hj : j < i := ok
      refine mg_mono (mg_neg (ih j hj (by omega))) ?_
      have := ex_up sp (Nat.le_refl _) hj
      simp only [Rs.size] at this ⊢
      unfold ex; omega
    | add j l =>
      rw [hs] at ok sp
      have hj : j < i ∧ l < i := ok
      have s1 := size_pos ho (show j < a.length by omega)
      have s2 := size_pos ho (show l < a.length by omega)
      simp only [Rs.size]
      have g1 := ex_up s1 (Nat.le_max_left ((sizesS a).getD j 0) ((sizesS a).getD l 0)) hj.1
      have g2 := ex_up s2 (Nat.le_max_right ((sizesS a).getD j 0) ((sizesS a).getD l 0)) hj.2
      refine mg_mono (mg_add (e := max (ex a j) (ex a l)) (mg_mono (ih j hj.1 (by omega)) (Nat.le_max_left ..)) (mg_mono (ih l hj.2 (by omega)) (Nat.le_max_right ..))) ?_
      unfold ex; omega
    | sub j l =>
      rw [hs] at ok sp
      have hj : j < i ∧ l < i := ok
      have s1 := size_pos ho (show j < a.length by omega)
      have s2 := size_pos ho (show l < a.length by omega)
      simp only [Rs.size]
      have g1 := ex_up s1 (Nat.le_max_left ((sizesS a).getD j 0) ((sizesS a).getD l 0)) hj.1
      have g2 := ex_up s2 (Nat.le_max_right ((sizesS a).getD j 0) ((sizesS a).getD l 0)) hj.2
      refine mg_mono (mg_sub (e := max (ex a j) (ex a l)) (mg_mono (ih j hj.1 (by omega)) (Nat.le_max_left ..)) (mg_mono (ih l hj.2 (by omega)) (Nat.le_max_right ..))) ?_
      unfold ex; omega
    | mul j l =>
      rw [hs] at ok sp
      have hj : j < i ∧ l < i := ok
      have s1 := size_pos ho (show j < a.length by omega)
      simp only [Rs.size]
      refine mg_mono (mg_mul (ih j hj.1 (by omega)) (ih l hj.2 (by omega))) ?_
      have := ex_two (t := (sizesS a).getD l 0) s1 hj.1 hj.2
      unfold ex; omega
end DL
namespace DL
open PySem PySem.Spec PyProof.Rows L2
/-! RW6: loops over steps. -/
@[simp ↓] theorem wp_asZ {f g : M D} {s : S} {Q : List D → S → Prop} : wp (asZ (aCons f (aCons g aNil))) s Q ↔ wp f s fun x s1 => wp g s1 fun y s2 => ∃ ds es, ((x = .list ds ∧ y = .list es) ∨ (x = .tuple ds ∧ y = .tuple es)) ∧ Q (zipD ds es) s2 := by
  unfold asZ; simp only [wp_bd, wp_aCons, wp_aNil]
  constructor <;> intro h <;> refine wp_mono h fun x s1 h => ?_ <;> refine wp_mono h fun y s2 q => ?_
  · cases x with
    | list ds => cases y with
      | list es => exact ⟨ds, es, .inl ⟨rfl, rfl⟩, wp_rtn.mp q⟩
      | _ => exact (wp_no.mp q).elim
    | tuple ds => cases y with
      | tuple es => exact ⟨ds, es, .inr ⟨rfl, rfl⟩, wp_rtn.mp q⟩
      | _ => exact (wp_no.mp q).elim
    | _ => exact (wp_no.mp q).elim
  · obtain ⟨ds, es, ⟨rfl, rfl⟩ | ⟨rfl, rfl⟩, q⟩ := q <;> exact wp_rtn.mpr q
@[simp ↓] theorem wp_rg2 {f g : M D} {s : S} {Q : List D → S → Prop} : wp (rg2 (aCons f (aCons g aNil))) s Q ↔ wp f s fun x s1 => wp g s1 fun y s2 => ∃ i j : Int, x = .int i ∧ y = .int j ∧ (-(2 ^ 62) ≤ i ∧ i < 2 ^ 62 ∧ -(2 ^ 62) ≤ j ∧ j < 2 ^ 62) ∧ Q (rngD i (j - i).toNat) s2 := by
  unfold rg2; simp only [wp_bd, wp_aCons, wp_aNil]
  constructor <;> intro h <;> refine wp_mono h fun x s1 h => ?_ <;> refine wp_mono h fun y s2 q => ?_
  · cases x with
    | int i => cases y with
      | int j =>
        refine ⟨i, j, rfl, rfl, ?_⟩
        simp only at q
        split at q
        · rename_i hc; exact ⟨hc, wp_rtn.mp q⟩
        · exact (wp_no.mp q).elim
      | _ => exact (wp_no.mp q).elim
    | _ => exact (wp_no.mp q).elim
  · obtain ⟨i, j, rfl, rfl, hc, q⟩ := q
    simp only [if_pos hc, wp_rtn]; exact q
@[simp ↓] theorem wp_rg3 {f g h : M D} {s : S} {Q : List D → S → Prop} : wp (rg3 (aCons f (aCons g (aCons h aNil)))) s Q ↔ wp f s fun x s1 => wp g s1 fun y s2 => wp h s2 fun z s3 => ∃ i j : Int, x = .int i ∧ y = .int j ∧ z = .int (-1) ∧ ((-(2 ^ 62) ≤ i ∧ i < 2 ^ 62) ∧ -(2 ^ 62) ≤ j ∧ j < 2 ^ 62) ∧ Q ((List.range (i - j).toNat).map fun n => .int (i - (n : Nat))) s3 := by
  unfold rg3; simp only [wp_bd, wp_aCons, wp_aNil]
  constructor <;> intro h <;> refine wp_mono h fun x s1 h => ?_ <;> refine wp_mono h fun y s2 h => ?_ <;> refine wp_mono h fun z s3 q => ?_
  · cases x with
    | int i => cases y with
      | int j => cases z with
        | int c =>
          simp only at q
          split at q
          · rename_i hc; exact ⟨i, j, rfl, rfl, by rw [hc.1], hc.2, wp_rtn.mp q⟩
          · exact (wp_no.mp q).elim
        | _ => exact (wp_no.mp q).elim
      | _ => exact (wp_no.mp q).elim
    | _ => exact (wp_no.mp q).elim
  · obtain ⟨i, j, rfl, rfl, rfl, hc, q⟩ := q
    simp only [hc, and_self, if_true, wp_rtn]; exact q
theorem runS_take_getD {α : Type} {op : List α → Rs → α} {d : α} {a : List Rs} {m i : Nat} (hm : m ≤ a.length) (hi : i < m) : (runS op (a.take m) []).getD i d = (runS op a []).getD i d := by
  have e : runS op a [] = runS op (a.drop m) (runS op (a.take m) []) := by rw [← runS_app, List.take_append_drop]
  obtain ⟨t, e2⟩ := runS_pre (op := op) (a := a.drop m) (acc := runS op (a.take m) [])
  have hl : (runS op (a.take m) []).length = m := runS_take_len hm
  rw [e, e2]
  simp only [List.getD_eq_getElem?_getD]
  rw [List.getElem?_append_left (by omega)]
theorem wp_steps {α : Type} {op : List α → Rs → α} (d : α) {n : Nat} {a : List Rs} {asg : D → M Unit} {body : M Fl} {Z : Fl → S → Prop} (I : List α → S → Prop) (ho : okFrom n 0 a)
    (step : ∀ (m : Nat) (h : m < a.length) (l : List α) (s : S), l.length = m → (∀ i, i < m → l.getD i d = (runS op a []).getD i d) → (a[m]).ok n m → I l s → wp (asg (a[m]).d) s fun _ s1 => wp body s1 fun fl s2 => fl = .nx ∧ I (l ++ [op l a[m]]) s2)
    (fin : ∀ s, I (runS op a []) s → Z .nx s) {s : S} (h0 : I [] s) : wp (loop asg body (spsD a)) s Z := by
  refine wp_loop (fun r s => ∃ m, m ≤ a.length ∧ r = (spsD a).drop m ∧ I (runS op (a.take m) []) s) (fun x r s hI => ?_) (fun s hI => ?_) _ _ ⟨0, by omega, rfl, h0⟩
  · obtain ⟨m, hm, hr, hi⟩ := hI
    obtain ⟨h, rfl, rfl⟩ := sps_drop hr.symm
    refine wp_mono (step m h _ s (runS_take_len hm) (fun i hi => runS_take_getD hm hi) (ok_at ho h) hi) fun _ s1 q => ?_
    refine wp_mono q fun fl s2 ⟨e, q⟩ => ?_
    subst e
    exact ⟨m + 1, h, rfl, by rw [runS_take h]; exact q⟩
  · obtain ⟨m, hm, hr, hi⟩ := hI
    have := sps_nil hr.symm
    have e : m = a.length := by omega
    subst e
    rw [List.take_length] at hi
    exact fin s hi
def ivD (x : Iv) : D := .tuple [.int x.1, .int x.2]
def ivsD (l : List Iv) : List D := l.map ivD
theorem ivsD_len {l : List Iv} : (ivsD l).length = l.length := by simp [ivsD]
theorem ivsD_snoc {l : List Iv} {x : Iv} : ivsD l ++ [ivD x] = ivsD (l ++ [x]) := by simp [ivsD]
/-- what evaluating a row asks for -/
structure VOk (n : Nat) (a : List Rs) : Prop where
  ok : okFrom n 0 a
  ex : ∀ i, i < a.length → DL.ex a i ≤ 100000
  al : a.length ≤ 1000
  nl : n ≤ 1000
structure POk (n : Nat) (p : List Int) : Prop where
  len : p.length = n
  mg : ∀ k, k < n → DL.mg 70 (p.getD k 0)
theorem mul_ok {e f : Nat} {x y : Int} (hx : mg e x) (hy : mg f y) (he : e ≤ 200000) (hf : f ≤ 200000) : x.natAbs.log2 + y.natAbs.log2 < 1000000 := by
  have h1 := mg_lg (by omega) (mg_mono hx (show e ≤ 200001 by omega))
  have h2 := mg_lg (by omega) (mg_mono hy (show f ≤ 200001 by omega))
  omega
@[simp] theorem dMinL_n {ns : List Int} (h : ns ≠ []) : dMinL [.list (ns.map PyData.int)] = some (.int (minI ns)) := by
  simp [dMinL, nsD_map, h]
@[simp] theorem dMaxL_n {ns : List Int} (h : ns ≠ []) : dMaxL [.list (ns.map PyData.int)] = some (.int (maxI ns)) := by
  simp [dMaxL, nsD_map, h]
@[simp] theorem atI_c3 {α : Type} {u v w x : α} {r : List α} : atI (u :: v :: w :: x :: r) 3 = some x := atI_nat (j := 3) rfl
def toldS (p : List Int) (a : List Rs) (e : List Nat) : List Int := e.map fun i => (valsS p a).getD i 0
theorem vals_big {n : Nat} {a : List Rs} {p : List Int} (v : VOk n a) (hp : POk n p) {i : Nat} (hi : i < a.length) : mg 100000 ((valsS p a).getD i 0) := mg_mono (vals_mg v.ok hp.mg hi) (v.ex i hi)
theorem intsD_mem {e : List Nat} {x : D} (h : x ∈ intsD e) : ∃ i, i ∈ e ∧ x = .int (i : Nat) := by
  simp only [intsD, List.mem_map] at h
  obtain ⟨i, hi, rfl⟩ := h
  exact ⟨i, hi, rfl⟩
theorem intsD_map {e : List Nat} {α : Type} {f : D → α} {g : Nat → α} (h : ∀ i, i ∈ e → f (.int (i : Nat)) = g i) : (intsD e).map f = e.map g := by
  simp only [intsD, List.map_map]
  exact List.map_congr_left fun i hi => h i hi
end DL
namespace DL
open PySem PySem.Spec PyProof.Rows L2
/-! RW7: rates at points, all inputs at once; sizes of what is shown. -/
/-! sizes -/
theorem sz_mg {e : Nat} {x : Int} (h : mg e x) (he : 0 < e) (h2 : e ≤ 1900) : sz (.int x) ≤ e + 2 := sz_intB he (by omega) h
theorem sz_iv {e : Nat} {x : Iv} (h : mgI e x) (he : 0 < e) (h2 : e ≤ 1900) : sz (ivD x) ≤ 2 * e + 12 ∧ (ivD x).depth ≤ 1 := by
  have h3 := sz_mg h.1 he h2
  have h4 := sz_mg h.2 he h2
  unfold ivD
  constructor
  · simp only [sz_tup, szA]; omega
  · simp [PyData.depth, PyData.depthAll]
theorem sz_ivs {e : Nat} {l : List Iv} (h : ∀ x ∈ l, mgI e x) (he : 0 < e) (h2 : e ≤ 1900) : szA (ivsD l) ≤ l.length * (2 * e + 14) ∧ PyData.depthAll (ivsD l) ≤ 1 := by
  have h1 : ∀ d ∈ ivsD l, sz d ≤ 2 * e + 12 ∧ d.depth ≤ 1 := fun d hd => by
    simp only [ivsD, List.mem_map] at hd
    obtain ⟨x, hx, rfl⟩ := hd
    exact sz_iv (h x hx) he h2
  have z1 := szA_le_of fun d hd => (h1 d hd).1
  rw [ivsD_len] at z1
  exact ⟨z1, depthA_le_of fun d hd => (h1 d hd).2⟩
theorem sz_nums {e : Nat} {l : List Int} (h : ∀ x ∈ l, mg e x) (he : 0 < e) (h2 : e ≤ 1900) : szA (numsD l) ≤ l.length * (e + 4) ∧ PyData.depthAll (numsD l) ≤ 0 := by
  have h1 : ∀ d ∈ numsD l, sz d ≤ e + 2 ∧ d.depth ≤ 0 := fun d hd => by
    simp only [numsD, List.mem_map] at hd
    obtain ⟨x, hx, rfl⟩ := hd
    exact ⟨sz_mg (h x hx) he h2, by simp [PyData.depth]⟩
  have z1 := szA_le_of fun d hd => (h1 d hd).1
  rw [numsD_len] at z1
  exact ⟨z1, depthA_le_of fun d hd => (h1 d hd).2⟩
/-- a box as the law draws it -/
structure BxOk (n : Nat) (b : List Iv) : Prop where
  len : b.length = n
  at_ : ∀ x ∈ b, -100000000000000000000 ≤ x.1 ∧ x.1 ≤ x.2 ∧ x.2 ≤ 100000000000000000000
end DL
namespace DL
open PySem PySem.Spec PyProof.Rows L2
/-! DL26: x.extend(e); while. -/
section
variable {X : Cx} {K : PySem.W.Frag} {e : Expr} {te : TE} {f : M D} {pos : Pos}
def sExt (i : Nat) (f : M D) : M Fl := fun s => match s.g[i]? with
  | some (some (.lst _)) => (bd f fun d => fun s1 => match s1.g[i]?, d with
    | some (some (.lst ds)), .list es => if ds.length + es.length ≤ lim then some (.nx, { s1 with g := s1.g.set i (some (.lst (ds ++ es))) }) else none
    | _, _ => none) s
  | _ => none
theorem es_ext {i : Nat} (h : EvE K te f) : EvS K (tDrop (tBM K "list" rExtend (tVar i) (tCons te tNil))) (sExt i f) := by
  intro A hid P s σ H fl s' ok e D q
  unfold sExt at e
  split at e
  · rename_i ds0 hg0
    obtain ⟨d, s1, h1, e⟩ := bd_some e
    obtain ⟨a, vs0, ea, k1, _⟩ := ok.slot i _ hg0
    refine ⟨.ref a, ea, .inl ⟨rfl, vs0, SqL.of k1⟩, ?_⟩
    refine h A hid P s σ H d s1 ok h1 _ fun v P1 H1 ok1 st1 r => ?_
    split at e
    · rename_i ds es hg
      split at e
      · rename_i hl
        cases e
        obtain ⟨b, vs, eb, m1, m2, m3, m4, mr⟩ := ok1.slot i _ hg
        rw [ea] at eb; cases eb
        obtain ⟨b2, us, rfl, n1, nr⟩ := r.lst_inv
        obtain ⟨ok2, st2⟩ := ok1.put_cell hg ea (mr.append nr)
        refine ⟨a, b2, vs, us, rfl, rfl, m1, mask_le _ _ n1, by rw [mr.length, nr.length]; exact lim_le hl, ?_⟩
        exact q σ P1 _ ok2 (st1.trans st2)
      · cases e
    · cases e
  · cases e
theorem ds_extend (i : Nat) {x : Str} {px pa pe : Pos} (h : DE X e te f) (hN : X.N[i]? = some x := by rfl) (hv : Vis X.env.scope x := by first | exact Or.inl rfl | exact Or.inr (Or.inl rfl) | exact Or.inr (Or.inr rfl))
    (hd : (x == ("__debug__" : Str)) = false := by decide) (hcd : (x == ("__classdict__" : Str)) = false := by decide) (hst : starEach [e] X.env = (false, eval e X.env) :: starEach [] X.env := by rfl)
    (hbase : attributeBase (.Name x px) "extend" X.env (eval (.Name x px) X.env) = eval (.Name x px) X.env := by rfl)
    (hfew : ((backTo pe (starEach [e] X.env)).all (fun x => !x.1) && (backToKw pe (keywordEach [] X.env)).all (fun x => x.1.isSome) && decide ([e].length + ([] : List Keyword).length + (if ([] : List Keyword).isEmpty then 0 else 1) < 30)) = true := by rfl)
    (hline : (pa.endLine == pe.line) = true := by rfl) (hplain : (backTo pe (starEach [] X.env)).any (·.1) = false := by rfl)
    (hs : swapsWith (.Call (.Attribute (.Name x px) "extend" pa) [e] [] pe) none pos.line X.env = pure false := by rfl) : DS X (.Expr (.Call (.Attribute (.Name x px) "extend" pa) [e] [] pe) pos) (tDrop (tBM X.K "list" rExtend (tVar i) (tCons te tNil))) (sExt i f) :=
  ⟨ps_expr (pe_bm PySem.F.plainAttrs_list PySem.F.slot_list_extend PySem.F.type_list_extend mt_extend (pe_var hN hv hd hcd) (pa_cons h.p pa_nil hst) hbase hfew hline hst hplain) hs, es_ext h.v⟩
/-! ### while -/
end
end DL
namespace DL
open PySem PySem.Spec PyProof.Rows L2
/-! DL28: range(a, b) of any ints. -/
theorem turn_long {P : Program} {w : World} {K : PySem.W.Frag} {tg : Expr} (it : Addr) (lo : Int) (n : Nat) : Turn P w K tg (Itr lo n) [it] it (fun i h => IsLongIter h it (lo + (i : Nat) * 1) ((n : Int) - (i : Nat)) 1) where
  mem := by simp
  obj := fun i h st b hb => by
    have e : b = it := by simpa using hb
    subst e
    exact ⟨_, st, fun v z => by
      have z' : Data.fields _ = Data.cell v := z
      cases z'⟩
  keep := fun i h h' st k => k it (by simp) _ st
  item := by
    intro X hP hw hK hc i pins s σ H E I hf st hg
    subst hP hw hK
    obtain ⟨f0, f1, f2, f3, f4, f5⟩ := hf it (by simp)
    have W := Walks.longrange (prog := X.prog) (w := X.w) (I.ok.hd hc) it lo 1 n
    refine W.item i s _ _ hg st fun v h' tk hv st' kk => ?_
    obtain ⟨t, rfl⟩ := hv
    have I1 : Inv X pins σ H { s with heap := h', toks := tk } := I.turned (fun b o hb e => kk b o (by simpa using hb) e) f0 f1 f3 f4 f5
    refine ⟨_, rfl, go_of (s := { s with heap := h', toks := tk }) (n := "longrange_iterator") st' rfl rfl (by decide) ⟨.int (lo + i), H, I1, ⟨t, ?_⟩, ⟨rfl, rfl⟩, st', fun b hb => (hf b hb).1⟩⟩
    rw [Int.mul_one]
  done := by
    intro X hP hw hK hc i pins s σ H E I hf st hg
    subst hP hw hK
    obtain ⟨f0, f1, f2, f3, f4, f5⟩ := hf it (by simp)
    exact wpAny_pyNext_long_end (I.ok.hd hc) st (by have : n ≤ i := hg; omega) fun h' eb => ⟨rfl, I.turned (t' := s.toks) (fun b o hb e => eb b o hb e) f0 f1 f3 f4 f5⟩
  self := fun _ _ _ _ _ st h => wpAny_pyIter_longiter st h
section
variable {X : Cx} {tg : Expr} {K : PySem.W.Frag}
theorem range_any {pins : List (Addr × Obj)} {σ : St} {H : Hp} {s : Shared} {R : It → Hp → Prop} {E : Value → Shared → Prop} {lo hi : Int} {t u v : Tok} {tk : Nat} (I : Inv X pins σ H s)
    (q : R (Itr lo (hi - lo).toNat) H) : wpAny (model X.prog X.w) X.A (pyIter (.ref s.heap.objs.size)) (PIE X pins σ tg R) E { s with heap := s.heap.push { cls := .type "range", data := .fields #[.int lo t, .int hi u, .int 1 v] }, toks := tk } := by
  have I1 : Inv X pins σ H { s with heap := s.heap.push { cls := .type "range", data := .fields #[.int lo t, .int hi u, .int 1 v] }, toks := tk } := I.kept fun b o e => Heap.get?_push_of_some _ e
  have e1 : lo + ((0 : Nat) : Int) * 1 = lo := by simp
  have e2 : (((hi - lo).toNat : Nat) : Int) - ((0 : Nat) : Int) = Builtin.Range.rangeSize lo hi 1 := by rw [rangeSize_one]; split <;> omega
  have hf : ∀ b ∈ [(s.heap.push { cls := .type "range", data := .fields #[.int lo t, .int hi u, .int 1 v] }).objs.size], FpOk X pins H b := fun b hb => by
    have e : b = (s.heap.push { cls := .type "range", data := .fields #[.int lo t, .int hi u, .int 1 v] }).objs.size := by simpa using hb
    subst e
    exact I1.fpOk (Nat.le_refl _) (I1.hok.fresh (Nat.le_refl _))
  cases hs : Builtin.Range.small lo hi 1 with
  | true =>
    refine wpAny_pyIter_range (IsRange.new ..) hs ?_
    refine ⟨(s.heap.push { cls := .type "range", data := .fields #[.int lo t, .int hi u, .int 1 v] }).objs.size, [(s.heap.push { cls := .type "range", data := .fields #[.int lo t, .int hi u, .int 1 v] }).objs.size], _, _, H, rfl,
      I1.kept (t' := tk) fun b o e => Heap.get?_push_of_some _ e, turn_range _ lo (hi - lo).toNat, ?_, hf, q⟩
    show IsRangeIter _ _ (lo + ((0 : Nat) : Int) * 1) ((((hi - lo).toNat : Nat) : Int) - ((0 : Nat) : Int)) 1
    rw [e1, e2]
    exact Heap.get?_push_size _ rfl
  | false =>
    refine wpAny_pyIter_longrange (IsRange.new ..) hs ?_
    refine ⟨(s.heap.push { cls := .type "range", data := .fields #[.int lo t, .int hi u, .int 1 v] }).objs.size, [(s.heap.push { cls := .type "range", data := .fields #[.int lo t, .int hi u, .int 1 v] }).objs.size], _, _, H, rfl,
      I1.kept (t' := tk) fun b o e => Heap.get?_push_of_some _ e, turn_long _ lo (hi - lo).toNat, ?_, hf, q⟩
    show IsLongIter _ _ (lo + ((0 : Nat) : Int) * 1) ((((hi - lo).toNat : Nat) : Int) - ((0 : Nat) : Int)) 1
    rw [e1, e2]
    exact Heap.get?_push_size _ rfl
def iRngW (ta : TA) : TI := fun σ H R => ta σ H fun vs H1 => ∃ i j : Int, vs = [.int i, .int j] ∧ R (Itr i (j - i).toNat) H1
theorem pi_rangeW {a b : Expr} {ta : TA} {p pos : Pos} (hg : Gl X "range") (hm : X.mg "range" = none) (ha : PA X [a, b] ta) (hs : starEach [a, b] X.env = [(false, eval a X.env), (false, eval b X.env)] := by rfl) (hs2 : starEach [b] X.env = [(false, eval b X.env)] := by rfl) :
    PI X tg (.Call (.Name "range" p) [a, b] [] pos) (iRngW ta) := by
  refine ⟨fun pins s σ H R I h => ?_⟩
  refine Call_ (ld_blt I hg hm boot_range (PyProof.Rows.callWith_type1 (thn (ha.run pos pins s σ H _ I h) fun us s1 ⟨vs, H1, I1, r1, q1⟩ => ?_) (by rw [hs, hs2]) (by rw [hs2]; rfl)))
  obtain ⟨i, j, e, q⟩ := q1
  subst e
  cases r1 with
  | cons r rr =>
    cases rr with
    | cons r' rr =>
      cases rr
      obtain ⟨t, rfl⟩ := r
      obtain ⟨t', rfl⟩ := r'
      exact call_range_2 (range_any I1 q)
def rgW (fr : M (List D)) : M (List D) := bd fr fun ds => match ds with
  | [.int i, .int j] => rtn (rngD i (j - i).toNat)
  | _ => fun _ => none
theorem ei_rgW {tr : TA} {fr : M (List D)} (h : EvA K tr fr) : EvI K (iRngW tr) (rgW fr) := by
  intro A hid P s σ H ds s' ok e R q
  obtain ⟨x, s1, h1, e⟩ := bd_some e
  refine h A hid P s σ H x s1 ok h1 _ fun v P1 H1 ok1 st1 r => ?_
  split at e
  · rename_i i j
    obtain ⟨rfl, rfl⟩ := rtn_some e
    obtain ⟨v, u, rfl, r0, r1⟩ := r.two
    cases r0; cases r1
    exact ⟨i, j, rfl, q _ _ P1 H1 ok1 st1 walkR trivial⟩
  · cases e
theorem k_rgW {a b : Expr} {ta : TA} {f : M (List D)} {p pos : Pos} (hg : Gl X "range") (hm : X.mg "range" = none) (ha : DAr X [a, b] ta f) (hs : starEach [a, b] X.env = [(false, eval a X.env), (false, eval b X.env)] := by rfl) (hs2 : starEach [b] X.env = [(false, eval b X.env)] := by rfl) :
    DI X tg (.Call (.Name "range" p) [a, b] [] pos) (iRngW ta) (rgW f) := ⟨pi_rangeW hg hm ha.p hs hs2, ei_rgW ha.v⟩
end
end DL
namespace DL
open PySem PySem.Spec PyProof.Rows L2
/-! DL27: the pure side of DL26. -/
section
variable {s : S} {Z : Fl → S → Prop}
@[simp ↓] theorem wp_sExt {i : Nat} {f : M D} : wp (sExt i f) s Z ↔ (∃ l0, s.g[i]? = some (some (.lst l0))) ∧ wp f s fun d s1 => ∃ ds es, s1.g[i]? = some (some (.lst ds)) ∧ d = .list es ∧ ds.length + es.length ≤ lim ∧ Z .nx ⟨s1.g.set i (some (.lst (ds ++ es))), s1.k⟩ := by
  constructor
  · rintro ⟨fl, s', e, q⟩
    unfold sExt at e
    split at e
    · rename_i l0 h0
      obtain ⟨d, s1, e1, e2⟩ := bd_some e
      refine ⟨⟨l0, h0⟩, d, s1, e1, ?_⟩
      split at e2
      · rename_i ds es h1
        split at e2
        · rename_i hl; cases e2; exact ⟨ds, es, h1, rfl, hl, q⟩
        · cases e2
      · cases e2
    · cases e
  · rintro ⟨⟨l0, h0⟩, d, s1, e1, ds, es, h1, rfl, hl, q⟩
    refine ⟨.nx, _, ?_, q⟩
    unfold sExt
    rw [h0]
    show bd f _ s = _
    unfold bd
    rw [e1]
    simp only [h1, hl, if_true]
@[simp ↓] theorem wp_rgW {f g : M D} {Q : List D → S → Prop} : wp (rgW (aCons f (aCons g aNil))) s Q ↔ wp f s fun x s1 => wp g s1 fun y s2 => ∃ i j : Int, x = .int i ∧ y = .int j ∧ Q (rngD i (j - i).toNat) s2 := by
  unfold rgW; simp only [wp_bd, wp_aCons, wp_aNil]
  constructor <;> intro h <;> refine wp_mono h fun x s1 h => ?_ <;> refine wp_mono h fun y s2 q => ?_
  · cases x with
    | int i => cases y with
      | int j => exact ⟨i, j, rfl, rfl, wp_rtn.mp q⟩
      | _ => exact (wp_no.mp q).elim
    | _ => exact (wp_no.mp q).elim
  · obtain ⟨i, j, rfl, rfl, q⟩ := q
    exact wp_rtn.mpr q
end
end DL
namespace DL
open PySem PySem.Spec PyProof.Rows L2
/-! RW8: words of growth, corners, points of boxes. -/
/-! how many points -/
def ptsD (P : List (List Int)) : List D := P.map fun p => .tuple (numsD p)
end DL
namespace DL
open PySem PySem.Spec PyProof.Rows L2
/-! RW9: degrees and sizes; points; what may be shown of long numbers. -/
end DL
namespace DL
open PySem PySem.Spec PyProof.Rows L2
/-! DL29: x[i] = v, x a list cell. -/
/-! ### a list that is made anew by an operator -/
end DL
namespace DL
open PySem PySem.Spec PyProof.Rows L2
/-! DL30: list(enumerate(x)), x a list or a tuple. -/
section
variable {prog : Program} {w : World} {A : Around} {E : Value → Shared → Prop} {s : Shared} {e it S : Addr} {fp : List Addr} {items : Array Value} {St : Nat → Heap → Prop}
/-- draws under any frames -/
def DrawsE (prog : Program) (w : World) (it : Addr) (fp : List Addr) (items : Array Value) (St : Nat → Heap → Prop) : Prop := ∀ A : Around, A.handled = none → Draws prog w A it fp items.size (fun i v => items[i]? = some v) St
/-- where the enumerate object stands -/
def EnSt (St : Nat → Heap → Prop) (e it S : Addr) (i : Nat) (h : Heap) : Prop := St i h ∧ ((∃ old, IsEnum h e it i old) ∨ ∃ old T f oT, IsEnumHeld h e it i old T f ∧ h.get? T = some oT ∧ T ≠ e ∧ T ≠ it ∧ T ≠ S)
theorem EnSt.keep {i : Nat} {h h' : Heap} (hh : A.handled = none) (DD : DrawsE prog w it fp items St) (x : EnSt St e it S i h) (hk : ∀ b o, b ≠ S → h.get? b = some o → h'.get? b = some o) (h1 : e ≠ S) (h2 : it ≠ S) (h3 : S ∉ fp) : EnSt St e it S i h' := by
  obtain ⟨st, x⟩ := x
  refine ⟨(DD A hh).frame _ _ _ st fun b hb o y => hk b o (fun z => h3 (z ▸ hb)) y, ?_⟩
  rcases x with ⟨old, he⟩ | ⟨old, T, f, oT, he, hT, r1, r2, r3⟩
  · exact .inl ⟨old, hk _ _ h1 he⟩
  · exact .inr ⟨old, T, f, oT, hk _ _ h1 he, hk _ _ r3 hT, r1, r2, r3⟩
end
/-! the hand rule -/
end DL
namespace DL
open PySem PySem.Spec PyProof.Rows L2
/-! DL31: list(enumerate(x)), dict(list of pairs), list(range), tuple(range), pop, d.get(k, x). -/
section
variable {K : PySem.W.Frag}
def eLE (fr : M (List D)) : M D := bd (asE fr) fun ds => rtn (.list ds)
/-! dict(xs) of a list of pairs -/
/-! range as a list, as a tuple -/
def nRg1 (fa : M D) : M (List D) := bd fa fun x => match x with
  | .int j => if -(2 ^ 62) ≤ j ∧ j ≤ 1000000 then rtn (rngD 0 j.toNat) else fun _ => none
  | _ => fun _ => none
def nRg2 (fa fb : M D) : M (List D) := bd fa fun x => bd fb fun y => match x, y with
  | .int i, .int j => if -(2 ^ 62) ≤ i ∧ i < 2 ^ 62 ∧ -(2 ^ 62) ≤ j ∧ j < 2 ^ 62 ∧ j - i ≤ 1000000 then rtn (rngD i (j - i).toNat) else fun _ => none
  | _, _ => fun _ => none
def eTR (f : M (List D)) : M D := bd f fun ds => rtn (.tuple ds)
variable {ta tb : TE} {fa fb : M D}
/-! x.pop(), x.pop(i) -/
def ePop (i : Nat) : M D := fun s => match s.g[i]? with
  | some (some (.lst ds)) => (ds[ds.length - 1]?).map fun d => (d, { s with g := s.g.set i (some (.lst ds.dropLast)) })
  | _ => none
theorem RpA.dropLast {H : Hp} {vs : List V} {ds : List D} (h : RpA K H vs ds) : RpA K H vs.dropLast ds.dropLast := by
  rw [List.dropLast_eq_take, List.dropLast_eq_take, h.length]
  exact h.take _
/-! d.get(k, x), d data with flat keys -/
def eOp3 (op : D → D → D → Option D) (fa fb fc : M D) : M D := bd fa fun x => bd fb fun y => bd fc fun z => lf (op x y z)
end
/-! the pure side -/
section
variable {s : S} {Q : D → S → Prop}
@[simp ↓] theorem wp_eLE {f : M D} : wp (eLE (aCons f aNil)) s Q ↔ wp f s fun d s1 => ∃ ds, (d = .list ds ∨ d = .tuple ds) ∧ Q (.list (enmD ds)) s1 := by
  unfold eLE asE; simp only [wp_bd, wp_aCons, wp_aNil]
  constructor <;> intro h <;> refine wp_mono h fun d s1 q => ?_
  · cases d with
    | list ds => exact ⟨ds, .inl rfl, by simpa only [wp_rtn] using q⟩
    | tuple ds => exact ⟨ds, .inr rfl, by simpa only [wp_rtn] using q⟩
    | _ => simp only [wp_no] at q
  · obtain ⟨ds, rfl | rfl, q⟩ := q <;> simpa only [wp_rtn] using q
@[simp ↓] theorem wp_nRg1 {f : M D} {Q : List D → S → Prop} : wp (nRg1 f) s Q ↔ wp f s fun d s1 => ∃ j : Int, d = .int j ∧ (-(2 ^ 62) ≤ j ∧ j ≤ 1000000) ∧ Q (rngD 0 j.toNat) s1 := by
  unfold nRg1; simp only [wp_bd]
  constructor <;> intro h <;> refine wp_mono h fun d s1 q => ?_
  · cases d with
    | int j =>
      refine ⟨j, rfl, ?_⟩
      by_cases hj : -(2 ^ 62) ≤ j ∧ j ≤ 1000000
      · simp only [if_pos hj, wp_rtn] at q; exact ⟨hj, q⟩
      · simp only [if_neg hj, wp_no] at q
    | _ => exact (wp_no.mp q).elim
  · obtain ⟨j, rfl, hj, q⟩ := q
    simp only [if_pos hj, wp_rtn]; exact q
@[simp ↓] theorem wp_nRg2 {f g : M D} {Q : List D → S → Prop} : wp (nRg2 f g) s Q ↔ wp f s fun x s1 => wp g s1 fun y s2 => ∃ i j : Int, x = .int i ∧ y = .int j ∧ (-(2 ^ 62) ≤ i ∧ i < 2 ^ 62 ∧ -(2 ^ 62) ≤ j ∧ j < 2 ^ 62 ∧ j - i ≤ 1000000) ∧ Q (rngD i (j - i).toNat) s2 := by
  unfold nRg2; simp only [wp_bd]
  constructor <;> intro h <;> refine wp_mono h fun x s1 h => ?_ <;> refine wp_mono h fun y s2 q => ?_
  · cases x with
    | int i => cases y with
      | int j =>
        refine ⟨i, j, rfl, rfl, ?_⟩
        by_cases hj : -(2 ^ 62) ≤ i ∧ i < 2 ^ 62 ∧ -(2 ^ 62) ≤ j ∧ j < 2 ^ 62 ∧ j - i ≤ 1000000
        · simp only [if_pos hj, wp_rtn] at q; exact ⟨hj, q⟩
        · simp only [if_neg hj, wp_no] at q
      | _ => exact (wp_no.mp q).elim
    | _ => exact (wp_no.mp q).elim
  · obtain ⟨i, j, rfl, rfl, hj, q⟩ := q
    simp only [if_pos hj, wp_rtn]; exact q
@[simp ↓] theorem wp_eTR {f : M (List D)} : wp (eTR f) s Q ↔ wp f s fun ds s1 => Q (.tuple ds) s1 := by unfold eTR; simp only [wp_bd, wp_rtn]
@[simp ↓] theorem wp_eOp3 {op : D → D → D → Option D} {fa fb fc : M D} : wp (eOp3 op fa fb fc) s Q ↔ wp fa s fun x s1 => wp fb s1 fun y s2 => wp fc s2 fun z s3 => ∃ d, op x y z = some d ∧ Q d s3 := by
  unfold eOp3; simp only [wp_bd, wp_lf]
@[simp ↓] theorem wp_ePop {i : Nat} : wp (ePop i) s Q ↔ ∃ ds d, s.g[i]? = some (some (.lst ds)) ∧ ds[ds.length - 1]? = some d ∧ Q d ⟨s.g.set i (some (.lst ds.dropLast)), s.k⟩ := by
  constructor
  · rintro ⟨d, s', e, q⟩
    unfold ePop at e
    split at e
    · rename_i ds h
      cases hd : ds[ds.length - 1]? with
      | none => rw [hd] at e; cases e
      | some d0 => rw [hd] at e; cases e; exact ⟨ds, _, h, hd, q⟩
    · cases e
  · rintro ⟨ds, d, h, hd, q⟩
    refine ⟨d, _, ?_, q⟩
    unfold ePop
    simp only [h, hd]; rfl
end
end DL
namespace DL
open PySem PySem.Spec PyProof.Rows L2
/-! DL32: objects of the program's classes: one at a time, in a slot. -/
abbrev FSO := List Val → Dk → Option (D × Ob × Dk)
def ob0 (s : S) : Option Ob := match (s.g[0]? : Option (Option Val)) with
  | some (some (.obj o)) => some o
  | _ => none
/-! ### slots with and without the object -/
def isObj : Option Val → Bool
  | some (.obj _) => true
  | _ => false
def objFree (g : List (Option Val)) : Bool := g.all fun x => !isObj x
section
variable {K : PySem.W.Frag} {A : DA} {hid P : Addr → Prop} {s : S} {σ : St} {H : Hp}
/-- a slot is forgotten -/
theorem SOk.drop {i : Nat} (ok : SOk K A hid P s σ H) : SOk K A hid P ⟨s.g.set i none, s.k⟩ σ H := by
  have back : ∀ (j : Nat) (w : Val), (s.g.set i none)[j]? = some (some w) → s.g[j]? = some (some w) := fun j w e => by
    rw [get_set] at e
    split at e
    · cases e
    · exact e
  exact ⟨ok.trk, ok.hp, ok.hd, by simpa using ok.len, fun j w e => ok.slot j w (back j w e), fun j l w u a e1 e2 => ok.apart j l w u a (back j w e1) (back l u e2), ok.deck⟩
theorem ArgsOk.no {vs : List V} {xs : List Val} : ∀ {vs : List V} {xs : List Val}, ArgsOk K A.no P H vs xs → ArgsOk K A.ng P H vs xs
  | [], [], h => h
  | v :: vs, x :: xs, h => ⟨by
      have h1 := h.1
      cases x with
      | dat d => exact h1
      | deck => exact h1
      | obj o => obtain ⟨y, z, _⟩ := h1; cases z
      | fn _ => exact h1
      | gst _ => obtain ⟨y, us, z, _⟩ := h1; cases z
      | lst _ => exact h1
      | dct _ _ => exact h1, ArgsOk.no (vs := vs) (xs := xs) h.2⟩
  | [], _ :: _, h => h
  | _ :: _, [], h => h
def noMutOV : OV → Bool
  | .dat d => noMut d
  | .lst ds => noMutA ds
def noMutOb (o : Ob) : Bool := o.fs.all fun p => noMutOV p.2
theorem FldsOk.tupsOnly {P' : Addr → Prop} {H' : Hp} (h : ∀ a o, TupO o → mask P H a = some o → mask P' H a = some o) {fs : List (Str × V)} {ov : List (Str × OV)} {ls : List Addr} (q : FldsOk K P H fs ov ls) (n : (ov.all fun p => noMutOV p.2) = true) : FldsOk K P' H fs ov ls := by
  induction q with
  | nil => exact .nil
  | dat r _ ih =>
    rw [List.all_cons, Bool.and_eq_true] at n
    exact .dat (r.tupsOnly h n.1) (ih n.2)
  | lst e r _ ih =>
    rw [List.all_cons, Bool.and_eq_true] at n
    exact .lst e (r.tupsOnly h n.1) (ih n.2)
end
/-! ### calls that hold the object of slot i -/
def eCallO (i : Nat) (B : List Nat) (sem : FSO) (ok : Ob → Bool) (fr : M (List AV)) : M D := fun s => match s.g[i]? with
  | some (some (.obj o0)) => if ok o0 = true then (bd fr fun avs => fun s1 => match s1.g[i]?, avs.mapM (res s1) with
    | some (some (.obj o)), some xs => if cellsB B s1 = true ∧ objFree (s1.g.set i none) = true then (match sem (.obj o :: xs) s1.k with
      | some (d, o', k') => if (B.isEmpty || (noMut d && noMutOb o')) = true then some (d, ⟨s1.g.set i (some (.obj o')), k'⟩) else none
      | none => none) else none
    | _, _ => none) s else none
  | _ => none
end DL
namespace DL
open PySem PySem.Spec PyProof.Rows L2
/-! DL33: calls with the object, its fields, its making. -/
section
variable {X : Cx} {B : List Nat} {x c m : Str} {p apos pos : Pos} {es : List Expr} {e : Expr} {te : TE} {fe : M D} {tr : TA} {fr : M (List AV)} {k : Nat} {ps : List Str} {sem : FSO}
/-! ### fields -/
def eFldD (c : Str) (i : Nat) (f : Str) : M D := fun s => match s.g[i]? with
  | some (some (.obj o)) => if o.cls = c then (match o.fs.lookup f with
    | some (.dat d) => some (d, s)
    | _ => none) else none
  | _ => none
/-- len(steps.rows), tuple(steps.rows) -/
def eFldL (c : Str) (i : Nat) (f : Str) (op : List D → Option D) : M D := fun s => match s.g[i]? with
  | some (some (.obj o)) => if o.cls = c then (match o.fs.lookup f with
    | some (.lst ds) => (op ds).map fun d => (d, s)
    | _ => none) else none
  | _ => none
def opLen (ds : List D) : Option D := some (.int ds.length)
def opTup (ds : List D) : Option D := some (.tuple ds)
/-! self.rows.append(x), x a name -/
def setL : List (Str × OV) → Str → List D → List (Str × OV)
  | [], _, _ => []
  | (g, x) :: r, f, ds => if (f == g) = true then (g, .lst ds) :: r else (g, x) :: setL r f ds
def sFldApp (c : Str) (i : Nat) (f : Str) (j : Nat) : M Fl := fun s => match s.g[i]?, s.g[j]? with
  | some (some (.obj o)), some (some (.dat d)) => if o.cls = c ∧ objFree (s.g.set i none) = true then (match o.fs.lookup f with
    | some (.lst ds) => if ds.length ≤ lim then some (.nx, ⟨s.g.set i (some (.obj ⟨o.cls, setL o.fs f (ds ++ [d])⟩)), s.k⟩) else none
    | _ => none) else none
  | _, _ => none
/-! ### the making of an object with one list -/
end
end DL
namespace DL
open PySem PySem.Spec PyProof.Rows L2
/-! DL34: x in a tuple of the module; a method's reading named; the wp of objects. -/
/-! ### wp -/
def fo (sem : FSO) (xs : List Val) (k : Dk) (Q : D → Ob → Dk → Prop) : Prop := ∃ d o' k', sem xs k = some (d, o', k') ∧ Q d o' k'
section
variable {s : S} {Q : D → S → Prop} {Z : Fl → S → Prop}
@[simp ↓] theorem wp_callO {i : Nat} {B : List Nat} {sem : FSO} {okf : Ob → Bool} {fr : M (List AV)} : wp (eCallO i B sem okf fr) s Q ↔ ∃ o0, s.g[i]? = some (some (.obj o0)) ∧ okf o0 = true ∧ wp fr s fun avs s1 => ∃ o xs, s1.g[i]? = some (some (.obj o)) ∧ avs.mapM (res s1) = some xs ∧ cellsB B s1 = true ∧ objFree (s1.g.set i none) = true ∧
    fo sem (.obj o :: xs) s1.k fun d o' k' => (B.isEmpty || (noMut d && noMutOb o')) = true ∧ Q d ⟨s1.g.set i (some (.obj o')), k'⟩ := by
  constructor
  · rintro ⟨d, s', e, q⟩
    unfold eCallO at e
    split at e
    · rename_i o0 hg
      split at e
      · rename_i hk
        obtain ⟨avs, s1, h1, e⟩ := bd_some e
        refine ⟨o0, hg, hk, avs, s1, h1, ?_⟩
        split at e
        · rename_i o xs hg1 hx
          split at e
          · rename_i hc
            split at e
            · rename_i d' o' k' hs
              split at e
              · rename_i hm
                cases e
                exact ⟨o, xs, hg1, hx, hc.1, hc.2, _, _, _, hs, hm, q⟩
              · cases e
            · cases e
          · cases e
        · cases e
      · cases e
    · cases e
  · rintro ⟨o0, hg, hk, avs, s1, h1, o, xs, hg1, hx, hc1, hc2, d, o', k', hs, hm, q⟩
    refine ⟨d, _, ?_, q⟩
    unfold eCallO
    rw [hg]
    simp only [if_pos hk]
    unfold bd
    rw [h1]
    simp only [hg1, hx, hs, if_pos hm, if_pos (And.intro hc1 hc2)]
@[simp ↓] theorem wp_fldL {i : Nat} {c f : Str} {op : List D → Option D} : wp (eFldL c i f op) s Q ↔ ∃ o, s.g[i]? = some (some (.obj o)) ∧ o.cls = c ∧ ∃ ds, o.fs.lookup f = some (.lst ds) ∧ ∃ d, op ds = some d ∧ Q d s := by
  constructor
  · rintro ⟨d, s', e, q⟩
    unfold eFldL at e
    split at e
    · rename_i o hg
      split at e
      · rename_i hc
        split at e
        · rename_i ds hl
          cases ho : op ds with
          | none => rw [ho] at e; cases e
          | some d' => rw [ho] at e; cases e; exact ⟨o, hg, hc, ds, hl, d, ho, q⟩
        · cases e
      · cases e
    · cases e
  · rintro ⟨o, hg, hc, ds, hl, d, ho, q⟩
    refine ⟨d, s, ?_, q⟩
    unfold eFldL
    rw [hg]
    simp only [if_pos hc, hl, ho, Option.map_some]
@[simp ↓] theorem wp_fldD {i : Nat} {c f : Str} : wp (eFldD c i f) s Q ↔ ∃ o, s.g[i]? = some (some (.obj o)) ∧ o.cls = c ∧ ∃ d, o.fs.lookup f = some (.dat d) ∧ Q d s := by
  constructor
  · rintro ⟨d, s', e, q⟩
    unfold eFldD at e
    split at e
    · rename_i o hg
      split at e
      · rename_i hc
        split at e
        · rename_i d' hl
          cases e; exact ⟨o, hg, hc, _, hl, q⟩
        · cases e
      · cases e
    · cases e
  · rintro ⟨o, hg, hc, d, hl, q⟩
    refine ⟨d, s, ?_, q⟩
    unfold eFldD
    rw [hg]
    simp only [if_pos hc, hl]
@[simp ↓] theorem wp_fldApp {i j : Nat} {c f : Str} : wp (sFldApp c i f j) s Z ↔ ∃ o, s.g[i]? = some (some (.obj o)) ∧ ∃ d, s.g[j]? = some (some (.dat d)) ∧ o.cls = c ∧ objFree (s.g.set i none) = true ∧ ∃ ds, o.fs.lookup f = some (.lst ds) ∧ ds.length ≤ lim ∧ Z .nx ⟨s.g.set i (some (.obj ⟨o.cls, setL o.fs f (ds ++ [d])⟩)), s.k⟩ := by
  constructor
  · rintro ⟨fl, s', e, q⟩
    unfold sFldApp at e
    split at e
    · rename_i o d hg hj
      split at e
      · rename_i hc
        split at e
        · rename_i ds hl
          split at e
          · rename_i hlen
            cases e; exact ⟨o, hg, d, hj, hc.1, hc.2, ds, hl, hlen, q⟩
          · cases e
        · cases e
      · cases e
    · cases e
  · rintro ⟨o, hg, d, hj, hc, hf, ds, hl, hlen, q⟩
    refine ⟨_, _, ?_, q⟩
    unfold sFldApp
    rw [hg, hj]
    simp only [if_pos (And.intro hc hf), hl, if_pos hlen]
end
/-! an object of one list -/
def mkL (c f : Str) (ds : List D) : Ob := ⟨c, [(f, .lst ds)]⟩
section
variable {c f g : Str} {ds es : List D}
@[simp] theorem mkL_cls : (mkL c f ds).cls = c := rfl
@[simp] theorem mkL_look : (mkL c f ds).fs.lookup f = some (.lst ds) := by
  show List.lookup f [(f, OV.lst ds)] = _
  rw [List.lookup_cons, beq_self_eq_true]
@[simp] theorem mkL_set : (⟨(mkL c f ds).cls, setL (mkL c f ds).fs f es⟩ : Ob) = mkL c f es := by
  unfold mkL setL
  rw [if_pos (beq_self_eq_true f)]
@[simp] theorem mkL_set' : (⟨c, setL (mkL c f ds).fs f es⟩ : Ob) = mkL c f es := mkL_set
@[simp] theorem noMutOb_mkL : noMutOb (mkL c f ds) = noMutA ds := by
  unfold noMutOb mkL
  rw [List.all_cons, List.all_nil, Bool.and_true]; rfl
end
end DL
namespace DL
open PySem PySem.Spec PyProof.Rows L2
/-! DL35: x, y, z = C(), [], [] where a name is read in a comprehension. -/
end DL
namespace DL
open PySem PySem.Spec PyProof.Rows L2
/-! DL36: for simp: objFree, is None. -/
@[simp] theorem objFree_nil : objFree [] = true := rfl
@[simp] theorem objFree_cons {x : Option Val} {r : List (Option Val)} : objFree (x :: r) = (!DL.isObj x && objFree r) := rfl
@[simp] theorem isObj_none : DL.isObj none = false := rfl
@[simp] theorem isObj_dat {d : D} : DL.isObj (some (.dat d)) = false := rfl
@[simp] theorem isObj_lst {d : List D} : DL.isObj (some (.lst d)) = false := rfl
@[simp] theorem isObj_dct {t : Bool} {d : List (D × D)} : DL.isObj (some (.dct t d)) = false := rfl
@[simp] theorem isObj_deck : DL.isObj (some .deck) = false := rfl
@[simp] theorem ob0_obj {o : Ob} {r : List (Option Val)} {k : Dk} : ob0 ⟨some (.obj o) :: r, k⟩ = some o := rfl
@[simp] theorem opLen_eq {l : List D} : opLen l = some (.int l.length) := rfl
@[simp] theorem opTup_eq {l : List D} : opTup l = some (.tuple l) := rfl
@[simp] theorem setL_mkL {c f : Str} {ds es : List D} : setL (mkL c f ds).fs f es = (mkL c f es).fs := by
  unfold mkL setL
  rw [if_pos (beq_self_eq_true f)]
@[simp] theorem mkL_eta {c f : Str} {es : List D} : (⟨c, (mkL c f es).fs⟩ : Ob) = mkL c f es := rfl
end DL
namespace DL
open PySem PySem.Spec PyProof.Rows L2
/-! DL37: exceptions of own classes, without fields or with one: raise C(), raise C(e), a def that may raise, try. -/
def isCls (K : PySem.W.Frag) (c : Str) (cls : Value) : Prop := ∃ C, cls = .ref C ∧ PySem.W.nsIn K mainGlobals c = some (some (.ref C))
/-- a raised error: its class, its field -/
structure Xt where
  c : Str
  fd : Option (Str × D) := none
instance : Coe String Xt := ⟨fun s => ⟨Str.ofString s, none⟩⟩
inductive RX (α : Type) where
  | ok (a : α)
  | xc (c : Xt)
abbrev MX (α : Type) := S → Option (RX α × S)
def isXt (K : PySem.W.Frag) (P : Addr → Prop) (H : Hp) (c : Xt) (cls : Value) (dx : Option Addr) : Prop := isCls K c.c cls ∧ match c.fd with
  | none => dx = none
  | some (f, d) => ∃ a v, dx = some a ∧ mask P H a = some (.xd [(f, v)]) ∧ Rp K (mask P H) v d
theorem isXt.mono {K : PySem.W.Frag} {P P' : Addr → Prop} {H H' : Hp} {c : Xt} {cls : Value} {dx : Option Addr} (h : isXt K P H c cls dx) (g : Grw (mask P H) (mask P' H')) : isXt K P' H' c cls dx := by
  obtain ⟨h1, h2⟩ := h
  refine ⟨h1, ?_⟩
  obtain ⟨c, fd⟩ := c
  cases fd with
  | none => exact h2
  | some fd =>
    obtain ⟨a, v, e, m, r⟩ := h2
    exact ⟨a, v, e, g _ _ m, r.mono g⟩
theorem isXt.st {K : PySem.W.Frag} {hid P P' : Addr → Prop} {H H' : Hp} {c : Xt} {cls : Value} {dx : Option Addr} (h : isXt K P H c cls dx) (st : Stp hid P P' H H') : isXt K P' H' c cls dx := h.mono st.mg
def XcOk (K : PySem.W.Frag) (A : DA) (hid P : Addr → Prop) (H : Hp) (s' : S) (c : Xt) (W : WX) : Prop := ∀ cls dx σ' P' H', isXt K P' H' c cls dx → SOk K A hid P' s' σ' H' → Stp hid P P' H H' → W cls dx σ' H'
def ROk (K : PySem.W.Frag) (A : DA) (hid P : Addr → Prop) (H : Hp) (s' : S) (D : Ends) (W : WX) : RX Fl → Prop
  | .ok fl => FlOk K A hid P H s' D fl
  | .xc c => XcOk K A hid P H s' c W
theorem ROk.back {K : PySem.W.Frag} {A : DA} {hid P P1 : Addr → Prop} {H H1 : Hp} {s' : S} {D : Ends} {W : WX} {r : RX Fl} (h : ROk K A hid P H s' D W r) (z : Stp hid P P1 H H1) : ROk K A hid P1 H1 s' D W r := by
  cases r with
  | ok fl => exact FlOk.back h z
  | xc c => exact fun cls dx σ2 P2 H2 i o st => h cls dx σ2 P2 H2 i o (z.trans st)
def EvSX (K : PySem.W.Frag) (W : WX) (t : TS) (m : MX Fl) : Prop := ∀ (A : DA) (hid P : Addr → Prop) (s : S) (σ : St) (H : Hp) (r : RX Fl) (s' : S), SOk K A hid P s σ H → m s = some (r, s') →
  ∀ D : Ends, ROk K A hid P H s' D W r → t D σ H
def EvEX (K : PySem.W.Frag) (W : WX) (te : TE) (f : MX D) : Prop := ∀ (A : DA) (hid P : Addr → Prop) (s : S) (σ : St) (H : Hp) (r : RX D) (s' : S), SOk K A hid P s σ H → f s = some (r, s') →
  ∀ Q : VK, (match r with
    | .ok d => ∀ v P' H', SOk K A hid P' s' σ H' → Stp hid P P' H H' → Rp K (mask P' H') v d → Q v H'
    | .xc c => ∀ cls dx P' H', isXt K P' H' c cls dx → SOk K A hid P' s' σ H' → Stp hid P P' H H' → W cls dx σ H') → te σ H Q
structure DSsX (X : Cx) (W : WX) (st : List Stmt) (t : TS) (m : MX Fl) : Prop where
  p : PSs X st t
  v : EvSX X.K W t m
structure DSX (X : Cx) (W : WX) (st : Stmt) (t : TS) (m : MX Fl) : Prop where
  p : PS X st t
  v : EvSX X.K W t m
structure DEX (X : Cx) (W : WX) (e : Expr) (t : TE) (m : MX D) : Prop where
  p : PE X e t
  v : EvEX X.K W t m
def xLf (m : M Fl) : MX Fl := fun s => (m s).map fun q => (.ok q.1, q.2)
def xRaise (c : Str) : MX Fl := fun s => some (.xc ⟨c, none⟩, s)
/-- raise C(e), C's one field being f -/
def xRaiseF (c f : Str) (m : M D) : MX Fl := fun s => match m s with
  | some (d, s1) => some (.xc ⟨c, some (f, d)⟩, s1)
  | none => none
def xSeq (m n : MX Fl) : MX Fl := fun s => match m s with
  | some (.ok .nx, s1) => n s1
  | r => r
def xIf (c : M Bool) (m n : MX Fl) : MX Fl := fun s => match c s with
  | some (b, s1) => if b = true then m s1 else n s1
  | none => none
def xRet (f : MX D) : MX Fl := fun s => match f s with
  | some (.ok d, s1) => some (.ok (.rt d), s1)
  | some (.xc c, s1) => some (.xc c, s1)
  | none => none
def xAsg (f : MX D) (g : D → M Unit) : MX Fl := fun s => match f s with
  | some (.ok d, s1) => (match g d s1 with
    | some (_, s2) => some (.ok .nx, s2)
    | none => none)
  | some (.xc c, s1) => some (.xc c, s1)
  | none => none
abbrev FSX := List Val → Dk → Option (RX D × Dk)
def xCall (sem : FSX) (fr : M (List AV)) : MX D := fun s => match fr s with
  | some (avs, s1) => (match avs.mapM (res s1) with
    | some xs => (match sem xs s1.k with
      | some (r, k') => some (r, { s1 with k := k' })
      | none => none)
    | none => none)
  | none => none
section
variable {K : PySem.W.Frag} {W : WX} {t u : TS} {te : TE} {m n : MX Fl} {f : MX D}
theorem ev_xlf {m : M Fl} (h : EvS K t m) : EvSX K W t (xLf m) := by
  intro A hid P s σ H r s' ok e D q
  unfold xLf at e
  cases hm : m s with
  | none => rw [hm] at e; cases e
  | some x =>
    rw [hm] at e; cases e
    exact h A hid P s σ H x.1 x.2 ok hm D q
theorem ev_xseq (h1 : EvSX K W t m) (h2 : EvSX K W u n) : EvSX K W (tSeq t u) (xSeq m n) := by
  intro A hid P s σ H r s' ok e D q
  unfold xSeq at e
  cases hm : m s with
  | none => rw [hm] at e; cases e
  | some x =>
    obtain ⟨r1, s1⟩ := x
    rw [hm] at e
    refine h1 A hid P s σ H r1 s1 ok hm { D with nx := u D } ?_
    cases r1 with
    | xc c => cases e; exact q
    | ok fl =>
      cases fl with
      | nx =>
        intro σ1 P1 H1 ok1 st1
        exact h2 A hid P1 s1 σ1 H1 r s' ok1 e D (q.back st1)
      | rt d => cases e; exact q
      | bk => cases e; exact q
      | ct => cases e; exact q
theorem ev_xif {tc : TT} {g : M Bool} (hc : EvT K tc g) (h1 : EvSX K W t m) (h2 : EvSX K W u n) : EvSX K W (tIfS tc t u) (xIf g m n) := by
  intro A hid P s σ H r s' ok e D q
  unfold xIf at e
  cases hg : g s with
  | none => rw [hg] at e; cases e
  | some x =>
    obtain ⟨b, s1⟩ := x
    rw [hg] at e
    refine hc A hid P s σ H b s1 ok hg _ fun P1 H1 ok1 st1 => ?_
    cases b with
    | true => dsimp only at e; rw [if_pos rfl] at e ⊢; exact h1 A hid P1 s1 σ H1 r s' ok1 e D (q.back st1)
    | false => dsimp only at e; rw [if_neg Bool.false_ne_true] at e ⊢; exact h2 A hid P1 s1 σ H1 r s' ok1 e D (q.back st1)
theorem ev_xasg {js : List Nat} {tg : TG} {g : D → M Unit} (h : EvEX K W te f) (hg : EvG K js tg g) : EvSX K W (tAsg te tg) (xAsg f g) := by
  intro A hid P s σ H r s' ok e D q
  unfold xAsg at e
  cases hf : f s with
  | none => rw [hf] at e; cases e
  | some x =>
    obtain ⟨r1, s1⟩ := x
    rw [hf] at e
    refine h A hid P s σ H r1 s1 ok hf _ ?_
    cases r1 with
    | xc c => cases e; exact fun cls dx P' H' i ok' st' => q cls dx σ P' H' i ok' st'
    | ok d =>
      dsimp only at e
      cases hgd : g d s1 with
      | none => rw [hgd] at e; cases e
      | some y =>
        rw [hgd] at e; cases e
        intro v P1 H1 ok1 st1 rv
        exact hg A hid P1 s1 σ H1 v d _ ok1 rv hgd _ fun σ2 P2 H2 ok2 st2 _ => q σ2 P2 H2 ok2 (st1.trans st2)
/-! a call that may raise -/
def spX (K : PySem.W.Frag) (sem : FSX) : Sp := fun vs H Q E => ∃ (A : DA) (P : Addr → Prop) (xs : List Val) (k : Dk) (r : RX D) (k' : Dk), A.x = none ∧ Trk P H ∧ DkOk K A P H k ∧ ArgsOk K A P H vs xs ∧ sem xs k = some (r, k') ∧
  (match r with
    | .ok d => ∀ v H', (∀ a o, H a = some o → ¬ A.is a → H' a = some o) → DkOk K A P H' k' → Rp K (mask P H') v d → Q v H'
    | .xc c => ∀ cls dx H', isXt K P H' c cls dx → (∀ a o, H a = some o → ¬ A.is a → H' a = some o) → DkOk K A P H' k' → E cls dx H')
def semOX (np n : Nat) (m : MX Fl) : FSX := fun xs k => if xs.length = np then (match m ⟨xs.map some ++ List.replicate (n - xs.length) none, k⟩ with
  | some (.ok (.rt d), s') => some (.ok d, s'.k)
  | some (.ok .nx, s') => some (.ok .none, s'.k)
  | some (.xc c, s') => some (.xc c, s'.k)
  | _ => none) else none
theorem ev_xcall {sem : FSX} {tr : TA} {fr : M (List AV)} (h : EvV K [] tr fr) : EvEX K W (tCallS (spX K sem) (WE W) tr) (xCall sem fr) := by
  intro A hid P s σ H r s' ok e Q q
  unfold xCall at e
  cases hf : fr s with
  | none => rw [hf] at e; cases e
  | some x =>
    obtain ⟨avs, s1⟩ := x
    rw [hf] at e
    dsimp only at e
    cases hx : avs.mapM (res s1) with
    | none => rw [hx] at e; cases e
    | some xs =>
      rw [hx] at e
      dsimp only at e
      cases hs : sem xs s1.k with
      | none => rw [hs] at e; cases e
      | some y =>
        obtain ⟨r1, k1⟩ := y
        rw [hs] at e
        cases e
        refine h A hid P s σ H avs s1 ok hf _ fun vs P1 H1 ok1 st1 r1' => ?_
        have ar := avs_args ok1 r1' hx
        have nB : ∀ a, A.no.is a → Pb P1 σ [] a := fun a z => ⟨ok1.deck.rs a (DA.no_is z), fun i iB => by simp at iB⟩
        refine ⟨A.no, Pb P1 σ [], xs, s1.k, _, _, rfl, fun a z => ok1.trk a z.1, ⟨ok1.deck.ho, ok1.deck.hg, ok1.deck.hc, nB, ok1.deck.og, ok1.deck.oc, ok1.deck.gc, ok1.deck.tb, ok1.deck.tk⟩, ar, hs, ?_⟩
        cases r with
        | ok d =>
          intro v H' hk dk rv
          obtain ⟨ok2, st2⟩ := sok_after ok1 hk dk
          exact q v P1 H' ok2 (st1.trans st2) (rv.mono (mask_grw fun a o ha na => ⟨fun z => na ⟨z, fun i iB => by simp at iB⟩, ha⟩))
        | xc c =>
          intro cls dx H' i hk dk
          obtain ⟨ok2, st2⟩ := sok_after ok1 hk dk
          exact q cls dx P1 H' (i.mono (mask_grw fun a o ha na => ⟨fun z => na ⟨z, fun i iB => by simp at iB⟩, ha⟩)) ok2 (st1.trans st2)
end
section
variable {P : Program} {w : World} {K : PySem.W.Frag} {mg : Str → Option Value} {base : Heap}
theorem fnX_of {x qual : Str} {st : Stmt} {f : Addr} {fd : FuncData} {N ps : List Str} {k : Nat} {m : MX Fl} (F : Fun K x qual st f fd) (Sc : FnScope N ps (defScope st))
    (body : ∀ (cdv : Value) (A : Around) (outer : List Env) (s : Shared) (H : Hp) (E : XK), Room k (A.deeper (envOfC qual (defScope st) s.heap.objs.size f cdv)) →
      ∃ t, DSsX (cxOf (L2.CX P w) P w K mg base N qual (defScope st) f cdv A outer s H E) (fun cls d _ H => E cls d H) (defBody st) t m) : FnOk P w K mg base (L2.CX P w) (k + 1) f fd ps (spX K (semOX ps.length N.length m)) := by
  refine F.okX Sc (fun vs H Q E h => ?_) (fun cdv A outer s H vs Q E hr h => ?_)
  · obtain ⟨A, R, xs, k, r, k', _, t, dk, ar, e, _⟩ := h
    unfold semOX at e
    split at e
    · rename_i hl; rw [ar.length]; exact hl
    · cases e
  · obtain ⟨A0, R, xs, k0, r0, k', _, t, dk, ar, e, q⟩ := h
    obtain ⟨tt, hD⟩ := body cdv A outer s H E hr
    refine ⟨tt, hD.p, ?_⟩
    unfold semOX at e
    split at e
    · have ok := sok_start (N := N) t dk ar
      have done : ∀ (P' : Addr → Prop) (H' : Hp) (s' : S) (σ' : St), SOk K A0 (fun a => R a ∧ ¬ A0.is a) P' s' σ' H' → Stp (fun a => R a ∧ ¬ A0.is a) R P' H H' →
          (∀ a o, H a = some o → ¬ A0.is a → H' a = some o) ∧ DkOk K A0 R H' s'.k ∧ Grw (mask P' H') (mask R H') := fun P' H' s' σ' ok' st' => by
        refine ⟨fun a o ha na => st'.keep a o ha ?_, ⟨ok'.deck.ho, ok'.deck.hg, ok'.deck.hc, dk.rs, dk.og, dk.oc, dk.gc, ok'.deck.tb, ok'.deck.tk⟩, mask_grw fun a o ha na => ⟨fun z => na ?_, ha⟩⟩
        · by_cases hR : R a
          · exact .inl ⟨hR, na⟩
          · exact .inr hR
        · by_cases hA : A0.is a
          · exact ok'.deck.rs a hA
          · exact ok'.hp a ⟨z, hA⟩
      cases hm : m ⟨xs.map some ++ List.replicate (N.length - xs.length) none, k0⟩ with
      | none => rw [hm] at e; cases e
      | some r =>
        obtain ⟨r, s'⟩ := r
        rw [hm] at e
        refine hD.v A0 _ R _ _ H r s' ok hm _ ?_
        cases r with
        | xc c =>
          cases e
          intro cls dx σ' P' H' i ok' st'
          obtain ⟨h1, h2, h3⟩ := done P' H' s' σ' ok' st'
          exact q cls dx H' (i.mono h3) h1 h2
        | ok fl =>
          cases fl with
          | nx =>
            cases e
            intro σ' P' H' ok' st'
            obtain ⟨h1, h2, _⟩ := done P' H' s' σ' ok' st'
            exact q .non H' h1 h2 .non
          | rt d2 =>
            cases e
            intro v σ' P' H' ok' st' r
            obtain ⟨h1, h2, h3⟩ := done P' H' s' σ' ok' st'
            exact q v H' h1 h2 (r.mono h3)
          | bk => cases e
          | ct => cases e
    · cases e
end
/-- a def that may raise -/
structure FnX (P : Program) (w : World) (K : PySem.W.Frag) (mg : Str → Option Value) (base : Heap) (k : Nat) (x : Str) (ps : List Str) (kws : List (List Str × List Nat)) (sem : FSX) : Prop where
  ex : ∃ (f : Addr) (fd : FuncData), FnOk P w K mg base (L2.CX P w) k f fd ps (spX K sem) ∧ mg x = some (.ref f) ∧ PySem.W.keepIn K (.ref f) = true ∧ Binds K fd ps [] ∧
    ∀ q ∈ kws, KBinds K fd ps q.1 (gK q.2) (gK q.2)
section
variable {X : Cx} {W : WX} {x : Str} {p pos : Pos} {e : Expr} {es : List Expr} {tr : TA} {fr : M (List AV)} {k : Nat} {ps : List Str} {kws : List (List Str × List Nat)} {sem : FSX}
theorem de_xcall (F : FnX X.prog X.w X.K X.mg X.base k x ps kws sem) (tk : Takes X W) (hr : Room k X.A) (hg : Gl X x) (ha : DV X (e :: es) [] tr fr) (hdb : (x == ("__debug__" : Str)) = false := by decide) (he : starEach (e :: es) X.env = (false, eval e X.env) :: starEach es X.env := by rfl)
    (hpl : (backTo pos (starEach es X.env)).any (·.1) = false := by rfl) : DEX X W (.Call (.Name x p) (e :: es) [] pos) (tCallS (spX X.K sem) (WE W) tr) (xCall sem fr) := by
  obtain ⟨f, fd, F1, hm, hk, hb, _⟩ := F.ex
  exact ⟨pe_callS F1 hr hg hm hk hb (fun σ => passAt tk σ) ha.p hdb he hpl, ev_xcall ha.v⟩
end
end DL
namespace DL
open PySem PySem.Spec PyProof.Rows L2
/-! DL38: statements that may raise, put together; try .. except C as e: return ... -/
def XSX (X : Cx) (W : WX) (sts : List Stmt) (m : MX Fl) : Prop := ∃ t, DSsX X W sts t m
def X1X (X : Cx) (W : WX) (st : Stmt) (m : MX Fl) : Prop := ∃ t, DSX X W st t m
section
variable {X : Cx} {W : WX} {st : Stmt} {rest p q : List Stmt} {m n : MX Fl} {pos : Pos} {e : Expr} {t : TS}
theorem xx_one (h : X1X X W st m) : XSX X W [st] m := by
  obtain ⟨t, h⟩ := h
  exact ⟨t, pss_one h.p, h.v⟩
theorem xx_cons (h : X1X X W st m) (hr : XSX X W rest n) : XSX X W (st :: rest) (xSeq m n) := by
  obtain ⟨t, h⟩ := h
  obtain ⟨u, hr⟩ := hr
  exact ⟨_, pss_cons h.p hr.p, ev_xseq h.v hr.v⟩
theorem xx_lfs {m : M Fl} (h : XS X.nox rest m) : XSX X W rest (xLf m) := by
  obtain ⟨t, h⟩ := h
  exact ⟨t, h.p.nox, ev_xlf h.v⟩
theorem xx_if {c : Expr} {tc : TT} {g : M Bool} (hc : DT X c tc g) (ha : XSX X W p m) (hb : XSX X W q n) : X1X X W (.If c p q pos) (xIf g m n) := by
  obtain ⟨t, ha⟩ := ha
  obtain ⟨u, hb⟩ := hb
  exact ⟨_, ps_if hc.p ha.p hb.p, ev_xif hc.v ha.v hb.v⟩
theorem fnX_of' {P : Program} {w : World} {K : PySem.W.Frag} {mg : Str → Option Value} {base : Heap} {x qual : Str} {st : Stmt} {f : Addr} {fd : FuncData} {N ps : List Str} {k : Nat} {m : MX Fl} (F : Fun K x qual st f fd) (Sc : FnScope N ps (defScope st))
    (body : ∀ (cdv : Value) (A : Around) (outer : List Env) (s : Shared) (H : Hp) (E : XK), Room k (A.deeper (envOfC qual (defScope st) s.heap.objs.size f cdv)) → Takes (cxOf (L2.CX P w) P w K mg base N qual (defScope st) f cdv A outer s H E) (fun cls d _ H => E cls d H) →
      XSX (cxOf (L2.CX P w) P w K mg base N qual (defScope st) f cdv A outer s H E) (fun cls d _ H => E cls d H) (defBody st) m) : FnOk P w K mg base (L2.CX P w) (k + 1) f fd ps (spX K (semOX ps.length N.length m)) :=
  fnX_of F Sc fun cdv A outer s H E hr => body cdv A outer s H E hr (takes_of rfl rfl rfl rfl)
end
/-! a keyword call that may raise -/
section
variable {X : Cx} {W : WX} {x : Str} {p pos : Pos} {e : Expr} {es : List Expr} {tr : TA} {fr : M (List AV)} {k : Nat} {ps : List Str} {kws : List (List Str × List Nat)} {sem : FSX}
theorem pe_callKS0 {CX : CXT} {f : Addr} {fd : FuncData} {sp : Sp} {E : St → XK} {kw : List Keyword} {ks : List Str} {tk : TA} {g : List Value → List Value → List Value} {gV : List V → List V → List V} (F : FnOk X.prog X.w X.K X.mg X.base CX k f fd ps sp) (hr : Room k X.A) (hg : Gl X x) (hm : X.mg x = some (.ref f)) (hk : PySem.W.keepIn X.K (.ref f) = true) (hb : KBinds X.K fd ps ks g gV) (hx : ∀ σ, PassesAt CX X σ (E σ))
    (hkw : PK X kw tk) (hall : (backToKw pos (keywordEach kw X.env)).all (·.1.isSome) = true := by rfl) (hks : (backToKw pos (keywordEach kw X.env)).filterMap (·.1) = ks := by rfl)
    (hdb : (x == ("__debug__" : Str)) = false := by decide) (hpl : ((backTo pos (starEach [] X.env)).any (·.1) || (backToKw pos (keywordEach kw X.env)).any (·.1.isNone)) = false := by rfl) :
    PE X (.Call (.Name x p) [] kw pos) (tCallS sp E (fun σ H Q => tk σ H fun zs H2 => Q (gV [] zs) H2)) := by
  refine ⟨fun pins s σ H Q I h => ?_⟩
  refine wpAny_Call_Name_kw (ld_glob I hg hm ?_ hdb)
  refine PySem.W.callWith_KW0 (h₀ := X.base) I.ok.mod.kin hk hall (thn (hkw.run pos pins s σ H _ I h) fun ws s2 ⟨zs, H2, I2, rz, q2⟩ => ⟨I2.kIn, ?_⟩) hpl
  rw [hks]
  have r2 := hb.rel (vs := []) (us := []) .nil rz
  have hl : (g [] ws).length = ps.length := by rw [← r2.length]; exact F.len _ _ _ _ q2
  refine wpAny_call (codeAny_mono (F.run X.A X.stack s2 H2 ⟨[], ks.zip ws⟩ (g [] ws) (gV [] zs) Q (E σ) hr I2.env0 (hb.to s2 [] ws I2.kIn hl) r2 q2) fun r s' hq => ?_)
  cases r with
  | error e => exact hx σ pins H2 s2 e s' I2 hq
  | ok fl =>
    cases fl with
    | ret u => exact I2.after hq
    | next => exact False.elim hq
    | brk => exact False.elim hq
    | cont => exact False.elim hq
theorem ev_vperm {K : PySem.W.Frag} {B : List Nat} {pm : List Nat} (h : EvV K B tr fr) : EvV K B (fun σ H Q => tr σ H fun zs H2 => Q (gK pm [] zs) H2) (vPerm pm fr) := by
  intro A hid P s σ H xs s' ok e Q q
  obtain ⟨ys, s1, h1, e⟩ := bd_some e
  split at e
  · rename_i hp
    obtain ⟨rfl, rfl⟩ := rtn_some e
    refine h A hid P s σ H ys _ ok h1 _ fun vs P1 H1 ok1 st1 r1 => q _ P1 H1 ok1 st1 ?_
    unfold gK
    rw [if_pos ⟨rfl, by rw [r1.length]; exact hp.1⟩]
    exact r1.perm pm hp.2
  · cases e
end
/-! ### what an except suite answers: constants that hang on the error's class alone -/
abbrev HF := Xt → Option D
def HEv (K : PySem.W.Frag) (i : Nat) (te : Addr → Value → Option Addr → TE) (h : HF) : Prop := ∀ a cls dx c d0, h c = some d0 → ∀ A hid P s σ H, isXt K P H c cls dx → SOk K A hid P s σ H → σ[i]? = some (some (.ref a)) → ∀ Q : VK,
  (∀ v P' H', SOk K A hid P' s σ H' → Stp hid P P' H H' → Rp K (mask P' H') v d0 → Q v H') → te a cls dx σ H Q
def HE (X : Cx) (i : Nat) (e : Expr) (h : HF) : Prop := ∃ te : Addr → Value → Option Addr → TE,
  (∀ a oe cls d pn, Zc cls d oe → (∃ vs, oe.data = .fields vs) → PE (X.suite a ((a, oe) :: pn)) e (te a cls d)) ∧ HEv X.K i te h
def HA (X : Cx) (i : Nat) (es : List Expr) (h : Xt → Option (List D)) : Prop := ∃ te : Addr → Value → Option Addr → TA,
  (∀ a oe cls d pn, Zc cls d oe → (∃ vs, oe.data = .fields vs) → PA (X.suite a ((a, oe) :: pn)) es (te a cls d)) ∧
  ∀ a cls dx c ds, h c = some ds → ∀ A hid P s σ H, isXt X.K P H c cls dx → SOk X.K A hid P s σ H → σ[i]? = some (some (.ref a)) → ∀ Q : List V → Hp → Prop,
    (∀ vs P' H', SOk X.K A hid P' s σ H' → Stp hid P P' H H' → RpA X.K (mask P' H') vs ds → Q vs H') → te a cls dx σ H Q
section
variable {X : Cx} {i : Nat} {e a b : Expr} {es : List Expr} {h ha hb : HF} {pos : Pos}
theorem he_str {x : Str} {j p0} : HE X i (.Constant (.str x) j p0) (fun _ => some (.str x)) := ⟨fun _ _ _ => tC (.str x), fun _ _ _ _ _ _ _ => pe_str, fun _ _ _ _ _ e _ _ P _ _ H _ ok _ Q q => by cases e; exact q _ P H ok Stp.refl (.str _)⟩
theorem ha_nil : HA X i [] (fun _ => some []) := ⟨fun _ _ _ => tNil, fun _ _ _ _ _ _ _ => pa_nil, fun _ _ _ _ _ e _ _ P _ _ H _ ok _ Q q => by cases e; exact q _ P H ok Stp.refl .nil⟩
theorem ha_cons {hr : Xt → Option (List D)} (h1 : HE X i e h) (h2 : HA X i es hr) (he : starEach (e :: es) X.env = (false, eval e X.env) :: starEach es X.env := by rfl) : HA X i (e :: es) (fun c => match h c, hr c with
    | some d, some ds => some (d :: ds)
    | _, _ => none) := by
  obtain ⟨t1, p1, v1⟩ := h1
  obtain ⟨t2, p2, v2⟩ := h2
  refine ⟨fun a cls d => tCons (t1 a cls d) (t2 a cls d), fun a oe cls d pn hz hf => pa_cons (p1 a oe cls d pn hz hf) (p2 a oe cls d pn hz hf) he, ?_⟩
  intro a cls dx c ds e A hid P s σ H hc ok hs Q q
  cases q1 : h c with
  | none => simp only [q1] at e; cases e
  | some d =>
    cases q2 : hr c with
    | none => simp only [q1, q2] at e; cases e
    | some dr =>
      simp only [q1, q2] at e
      cases e
      refine v1 a cls dx c d q1 A hid P s σ H hc ok hs _ fun v P1 H1 ok1 st1 r1 => ?_
      refine v2 a cls dx c dr q2 A hid P1 s σ H1 (hc.st st1) ok1 hs _ fun vs P2 H2 ok2 st2 r2 => ?_
      exact q _ P2 H2 ok2 (st1.trans st2) (.cons (st2.rp r1) r2)
/-- a class by its name: an own one or one of Python's -/
def NamV (K : PySem.W.Frag) (mg : Str → Option Value) (x : Str) (v : V) (cv : Value) : Prop := (∃ C, v = .ref C ∧ cv = .ref C ∧ mg x = some (.ref C)) ∨ (∃ n, v = .ty n ∧ cv = .type n ∧ mg x = none ∧ bootBuiltins x = some (.type n) ∧ x ≠ "__name__")
theorem NamV.uniq {K : PySem.W.Frag} {mg : Str → Option Value} {x : Str} {v : V} {cv : Value} (h : NamV K mg x v cv) : ∀ u, RelV v u → u = cv := by
  rcases h with ⟨C, rfl, rfl, hm⟩ | ⟨n, rfl, rfl, hm, hb, hn⟩
  · exact fun u r => r
  · exact fun u r => r
theorem he_lst {hr : Xt → Option (List D)} (h1 : HA X i es hr) : HE X i (.List es pos) (fun c => match hr c with
    | some ds => if ds.length ≤ lim then some (.list ds) else none
    | none => none) := by
  obtain ⟨t1, p1, v1⟩ := h1
  refine ⟨fun a cls d => tLst (t1 a cls d), fun a oe cls d pn hz hf => pe_lst (p1 a oe cls d pn hz hf), ?_⟩
  intro a cls dx c d0 e A hid P s σ H hc ok hs Q q
  cases q1 : hr c with
  | none => simp only [q1] at e; cases e
  | some ds =>
    simp only [q1] at e
    split at e
    · rename_i hl
      cases e
      refine v1 a cls dx c ds q1 A hid P s σ H hc ok hs _ fun vs P1 H1 ok1 st1 r1 => ⟨by rw [r1.length]; exact lim_le hl, fun p hp => ?_⟩
      have g := Grw.new (o := HO.lst vs) hp
      exact q _ P1 _ (ok1.grw g) (st1.trans (Stp.grw g)) (rp_newL ok1.trk hp r1)
    · cases e
end
/-! ### try -/
/-- the clause of the class x takes the errors of the classes in cs -/
structure ClF (K : PySem.W.Frag) (mg : Str → Option Value) (x : Str) (cs : List Str) : Prop where
  ex : ∃ C, mg x = some (.ref C) ∧ ∀ c ∈ cs, ∃ D, PySem.W.nsIn K mainGlobals c = some (some (.ref D)) ∧ PySem.W.exmOne K (.ref D) (.ref C) = some true
def sTry (i : Nat) (cs : List Str) (m : MX Fl) (h : HF) : M Fl := fun s => match m s with
  | some (.ok fl, s') => some (fl, s')
  | some (.xc c, s') => if c.c ∈ cs ∧ i < s'.g.length then (h c).map fun d => (.rt d, ⟨s'.g.set i none, s'.k⟩) else none
  | none => none
end DL
namespace DL
open PySem PySem.Spec PyProof.Rows L2
/-! DL39: the handlers' words; wp of what may raise. -/
def hStr (x : Str) : HF := fun _ => some (.str x)
def hNil : Xt → Option (List D) := fun _ => some []
def hCons (h : HF) (hr : Xt → Option (List D)) : Xt → Option (List D) := fun c => match h c, hr c with
  | some d, some ds => some (d :: ds)
  | _, _ => none
def hLst (hr : Xt → Option (List D)) : HF := fun c => match hr c with
  | some ds => if ds.length ≤ lim then some (.list ds) else none
  | none => none
section
variable {X : Cx} {i : Nat} {e a b : Expr} {es : List Expr} {h ha hb : HF} {pos : Pos}
theorem hs_str {x : Str} {j p0} : HE X i (.Constant (.str x) j p0) (hStr x) := he_str
theorem hs_nil : HA X i [] hNil := ha_nil
theorem hs_cons {hr : Xt → Option (List D)} (h1 : HE X i e h) (h2 : HA X i es hr) (he : starEach (e :: es) X.env = (false, eval e X.env) :: starEach es X.env := by rfl) : HA X i (e :: es) (hCons h hr) := ha_cons h1 h2 he
theorem hs_lst {hr : Xt → Option (List D)} (h1 : HA X i es hr) : HE X i (.List es pos) (hLst hr) := he_lst h1
end
/-! wp -/
def fx (sem : FSX) (xs : List Val) (k : Dk) (Q : RX D → Dk → Prop) : Prop := ∃ r k', sem xs k = some (r, k') ∧ Q r k'
theorem fx_eq {sem : FSX} {xs : List Val} {k k' : Dk} {r : RX D} (h : sem xs k = some (r, k')) {Q : RX D → Dk → Prop} : fx sem xs k Q ↔ Q r k' := by
  unfold fx
  rw [h]
  constructor
  · rintro ⟨a, b, e, q⟩; cases e; exact q
  · exact fun q => ⟨_, _, rfl, q⟩
theorem eq_fx {sem : FSX} {xs : List Val} {k k' : Dk} {r : RX D} (h : fx sem xs k fun a c => a = r ∧ c = k') : sem xs k = some (r, k') := by
  obtain ⟨_, _, e, rfl, rfl⟩ := h
  exact e
theorem fx_of {np n : Nat} {m : MX Fl} {xs : List Val} {k : Dk} {Q : RX D → Dk → Prop} (hl : xs.length = np) (h : wp (α := RX Fl) m ⟨xs.map some ++ List.replicate (n - xs.length) none, k⟩ fun r s' => (∃ d, r = .ok (.rt d) ∧ Q (.ok d) s'.k) ∨ ∃ c, r = .xc c ∧ Q (.xc c) s'.k) : fx (semOX np n m) xs k Q := by
  obtain ⟨fl, s', e, q⟩ := h
  unfold fx semOX
  rw [if_pos hl, e]
  rcases q with ⟨d, rfl, q⟩ | ⟨c, rfl, q⟩
  · exact ⟨_, _, rfl, q⟩
  · exact ⟨_, _, rfl, q⟩
section
variable {s : S} {Q : RX Fl → S → Prop} {Z : Fl → S → Prop}
@[simp ↓] theorem wp_xLf {m : M Fl} : wp (α := RX Fl) (xLf m) s Q ↔ wp m s fun fl s1 => Q (.ok fl) s1 := by
  unfold wp xLf
  constructor
  · rintro ⟨a, s', e, q⟩
    cases h : m s with
    | none => rw [h] at e; cases e
    | some x => rw [h] at e; cases e; exact ⟨x.1, x.2, rfl, q⟩
  · rintro ⟨a, s', e, q⟩
    exact ⟨_, _, by rw [e]; rfl, q⟩
@[simp ↓] theorem wp_xRaise {c : Str} : wp (α := RX Fl) (xRaise c) s Q ↔ Q (.xc ⟨c, none⟩) s := ⟨fun ⟨_, _, e, q⟩ => by cases e; exact q, fun q => ⟨_, _, rfl, q⟩⟩
@[simp ↓] theorem wp_xRaiseF {c f : Str} {m : M D} : wp (α := RX Fl) (xRaiseF c f m) s Q ↔ wp m s fun d s1 => Q (.xc ⟨c, some (f, d)⟩) s1 := by
  unfold wp xRaiseF
  constructor
  · rintro ⟨a, s', e, q⟩
    cases h : m s with
    | none => rw [h] at e; cases e
    | some x => rw [h] at e; cases e; exact ⟨x.1, x.2, rfl, q⟩
  · rintro ⟨d, s', e, q⟩
    exact ⟨_, _, by rw [e], q⟩
@[simp ↓] theorem wp_xSeq {m n : MX Fl} : wp (α := RX Fl) (xSeq m n) s Q ↔ wp (α := RX Fl) m s fun r s1 => match r with
    | .ok .nx => wp (α := RX Fl) n s1 Q
    | r => Q r s1 := by
  unfold wp xSeq
  constructor
  · rintro ⟨a, s', e, q⟩
    cases h : m s with
    | none => rw [h] at e; cases e
    | some x =>
      obtain ⟨r, s1⟩ := x
      rw [h] at e
      refine ⟨r, s1, rfl, ?_⟩
      cases r with
      | xc c => cases e; exact q
      | ok fl => cases fl <;> first | exact ⟨a, s', e, q⟩ | (cases e; exact q)
  · rintro ⟨r, s1, e, q⟩
    rw [e]
    cases r with
    | xc c => exact ⟨_, _, rfl, q⟩
    | ok fl =>
      cases fl with
      | nx => obtain ⟨a, s', e2, q⟩ := q; exact ⟨a, s', e2, q⟩
      | rt d => exact ⟨_, _, rfl, q⟩
      | bk => exact ⟨_, _, rfl, q⟩
      | ct => exact ⟨_, _, rfl, q⟩
@[simp ↓] theorem wp_xIf {c : M Bool} {m n : MX Fl} : wp (α := RX Fl) (xIf c m n) s Q ↔ wp c s fun b s1 => if b = true then wp (α := RX Fl) m s1 Q else wp (α := RX Fl) n s1 Q := by
  unfold wp xIf
  constructor
  · rintro ⟨a, s', e, q⟩
    cases h : c s with
    | none => rw [h] at e; cases e
    | some x =>
      obtain ⟨b, s1⟩ := x
      rw [h] at e
      refine ⟨b, s1, rfl, ?_⟩
      cases b
      · exact ⟨a, s', e, q⟩
      · exact ⟨a, s', e, q⟩
  · rintro ⟨b, s1, e, q⟩
    rw [e]
    cases b
    · obtain ⟨a, s', e2, q⟩ := q; exact ⟨a, s', e2, q⟩
    · obtain ⟨a, s', e2, q⟩ := q; exact ⟨a, s', e2, q⟩
@[simp ↓] theorem wp_xRet {f : MX D} : wp (α := RX Fl) (xRet f) s Q ↔ wp (α := RX D) f s fun r s1 => match r with
    | .ok d => Q (.ok (.rt d)) s1
    | .xc c => Q (.xc c) s1 := by
  unfold wp xRet
  constructor
  · rintro ⟨a, s', e, q⟩
    cases h : f s with
    | none => rw [h] at e; cases e
    | some x =>
      obtain ⟨r, s1⟩ := x
      rw [h] at e
      cases r with
      | ok d => cases e; exact ⟨_, _, rfl, q⟩
      | xc c => cases e; exact ⟨_, _, rfl, q⟩
  · rintro ⟨r, s1, e, q⟩
    rw [e]
    cases r with
    | ok d => exact ⟨_, _, rfl, q⟩
    | xc c => exact ⟨_, _, rfl, q⟩
@[simp ↓] theorem wp_xCall {sem : FSX} {fr : M (List AV)} {Q : RX D → S → Prop} : wp (α := RX D) (xCall sem fr) s Q ↔ wp fr s fun avs s1 => ∃ xs, avs.mapM (res s1) = some xs ∧ fx sem xs s1.k fun r k' => Q r ⟨s1.g, k'⟩ := by
  unfold wp xCall fx
  constructor
  · rintro ⟨a, s', e, q⟩
    cases h : fr s with
    | none => rw [h] at e; cases e
    | some x =>
      obtain ⟨avs, s1⟩ := x
      rw [h] at e
      dsimp only at e
      refine ⟨avs, s1, rfl, ?_⟩
      cases hx : avs.mapM (res s1) with
      | none => rw [hx] at e; cases e
      | some xs =>
        rw [hx] at e
        dsimp only at e
        cases hs : sem xs s1.k with
        | none => rw [hs] at e; cases e
        | some y =>
          obtain ⟨r, k'⟩ := y
          rw [hs] at e
          cases e
          exact ⟨xs, hx, _, _, hs, q⟩
  · rintro ⟨avs, s1, e, xs, hx, r, k', hs, q⟩
    rw [e]
    dsimp only
    rw [hx]
    dsimp only
    rw [hs]
    exact ⟨_, _, rfl, q⟩
@[simp ↓] theorem wp_sTry {i : Nat} {cs : List Str} {m : MX Fl} {h : HF} : wp (sTry i cs m h) s Z ↔ wp (α := RX Fl) m s fun r s1 => match r with
    | .ok fl => Z fl s1
    | .xc c => (c.c ∈ cs ∧ i < s1.g.length) ∧ ∃ d, h c = some d ∧ Z (.rt d) ⟨s1.g.set i none, s1.k⟩ := by
  unfold wp sTry
  constructor
  · rintro ⟨a, s', e, q⟩
    cases hm : m s with
    | none => rw [hm] at e; cases e
    | some x =>
      obtain ⟨r, s1⟩ := x
      rw [hm] at e
      refine ⟨r, s1, rfl, ?_⟩
      cases r with
      | ok fl => cases e; exact q
      | xc c =>
        dsimp only at e ⊢
        split at e
        · rename_i hc
          cases hd : h c with
          | none => rw [hd] at e; cases e
          | some d => rw [hd] at e; cases e; exact ⟨hc, d, rfl, q⟩
        · cases e
  · rintro ⟨r, s1, e, q⟩
    rw [e]
    cases r with
    | ok fl => exact ⟨_, _, rfl, q⟩
    | xc c =>
      obtain ⟨hc, d, hd, q⟩ := q
      refine ⟨.rt d, _, ?_, q⟩
      dsimp only
      rw [if_pos hc, hd]; rfl
end
end DL
namespace DL
open PySem PySem.Spec PyProof.Rows L2
/-! DL40: a raising def where it does not raise; raising calls in displays and assignments; except C: with a suite of its own. -/
/-- the call, where it does not raise -/
def eCallX (sem : FSX) (fr : M (List AV)) : M D := fun s => match xCall sem fr s with
  | some (.ok d, s') => some (d, s')
  | _ => none
section
variable {X : Cx} {x : Str} {p pos : Pos} {e : Expr} {es : List Expr} {tr : TA} {fr : M (List AV)} {k : Nat} {ps : List Str} {kws : List (List Str × List Nat)} {sem : FSX} {K : PySem.W.Frag}
theorem pass_x : ∀ σ, PassesAt (L2.CX X.prog X.w) X σ (fun _ _ _ => False) := fun σ pins H s e s' I c => by
  obtain ⟨_, _, _, _, _, _, _, _, _, _, _, _, z⟩ := c
  exact z.elim
theorem ev_callX {tr : TA} (h : EvV K [] tr fr) : EvE K (tCallS (spX K sem) (fun _ _ _ _ => False) tr) (eCallX sem fr) := by
  intro A hid P s σ H d s' ok e Q q
  have hx := ev_xcall (W := fun _ _ _ _ => False) (sem := sem) h
  unfold eCallX at e
  split at e
  · rename_i d' s1 hc
    cases e
    exact hx A hid P s σ H (.ok d) s' ok hc Q q
  · cases e
theorem de_callX (F : FnX X.prog X.w X.K X.mg X.base k x ps kws sem) (hr : Room k X.A) (hg : Gl X x) (ha : DV X (e :: es) [] tr fr) (hK : X.K = K := by rfl) (hdb : (x == ("__debug__" : Str)) = false := by decide) (he : starEach (e :: es) X.env = (false, eval e X.env) :: starEach es X.env := by rfl)
    (hpl : (backTo pos (starEach es X.env)).any (·.1) = false := by rfl) : DE X (.Call (.Name x p) (e :: es) [] pos) (tCallS (spX K sem) (fun _ _ _ _ => False) tr) (eCallX sem fr) := by
  subst hK
  obtain ⟨f, fd, F1, hm, hk, hb, _⟩ := F.ex
  exact ⟨pe_callS F1 hr hg hm hk hb pass_x ha.p hdb he hpl, ev_callX ha.v⟩
theorem de_callXK {kw : List Keyword} (ks : List Str) (pm : List Nat) (F : FnX X.prog X.w X.K X.mg X.base k x ps kws sem) (hq : (ks, pm) ∈ kws) (hr : Room k X.A) (hg : Gl X x) (ha : DVK X kw [] tr fr) (hK : X.K = K := by rfl)
    (hall : (backToKw pos (keywordEach kw X.env)).all (·.1.isSome) = true := by rfl) (hks : (backToKw pos (keywordEach kw X.env)).filterMap (·.1) = ks := by rfl)
    (hdb : (x == ("__debug__" : Str)) = false := by decide) (hpl : ((backTo pos (starEach [] X.env)).any (·.1) || (backToKw pos (keywordEach kw X.env)).any (·.1.isNone)) = false := by rfl) :
    DE X (.Call (.Name x p) [] kw pos) (tCallS (spX K sem) (fun _ _ _ _ => False) (fun σ H Q => tr σ H fun zs H2 => Q (gK pm [] zs) H2)) (eCallX sem (vPerm pm fr)) := by
  subst hK
  obtain ⟨f, fd, F1, hm, hk, hb, hkb⟩ := F.ex
  exact ⟨pe_callKS0 F1 hr hg hm hk (hkb _ hq) pass_x ha.p hall hks hdb hpl, ev_callX (ev_vperm ha.v)⟩
end
/-! arguments that may raise -/
def xE (f : M D) : MX D := fun s => (f s).map fun q => (.ok q.1, q.2)
def xaNil : MX (List D) := fun s => some (.ok [], s)
def xaCons (f : MX D) (fr : MX (List D)) : MX (List D) := fun s => match f s with
  | some (.ok d, s1) => (match fr s1 with
    | some (.ok ds, s2) => some (.ok (d :: ds), s2)
    | some (.xc c, s2) => some (.xc c, s2)
    | none => none)
  | some (.xc c, s1) => some (.xc c, s1)
  | none => none
def xLst (fr : MX (List D)) : MX D := fun s => match fr s with
  | some (.ok ds, s1) => if ds.length ≤ lim then some (.ok (.list ds), s1) else none
  | some (.xc c, s1) => some (.xc c, s1)
  | none => none
section
variable {X : Cx} {W : WX} {e : Expr} {es : List Expr} {te : TE} {tr : TA} {f : M D} {fx_ : MX D} {frx : MX (List D)} {pos : Pos} {K : PySem.W.Frag}
theorem xx_asg {tg : Expr} {js : List Nat} {g : TG} {fg : D → M Unit} (h : DEX X W e te fx_) (hg : DG X tg js g fg) (hs : swapsWithSole [tg] e pos.line X.env = pure false := by rfl) (hw : swappedStores [tg] e X.env = pure none := by rfl)
    (h1 : (assignEach [tg] X.env).map (·.2) = [assign tg X.env] := by rfl) : X1X X W (.Assign [tg] e pos) (xAsg fx_ fg) := ⟨_, ps_asg h.p hg.p hs hw h1, ev_xasg h.v hg.v⟩
end
/-! except C: suite -/
def sTryO (cs : List Str) (m : MX Fl) (ms : M Fl) : M Fl := fun s => match m s with
  | some (.ok fl, s') => some (fl, s')
  | some (.xc c, s') => if c.c ∈ cs then ms s' else none
  | none => none
/-! wp -/
section
variable {s : S} {Z : Fl → S → Prop}
@[simp ↓] theorem wp_sTryO {cs : List Str} {m : MX Fl} {ms : M Fl} : wp (sTryO cs m ms) s Z ↔ wp (α := RX Fl) m s fun r s1 => match r with
    | .ok fl => Z fl s1
    | .xc c => c.c ∈ cs ∧ wp ms s1 Z := by
  unfold wp sTryO
  constructor
  · rintro ⟨a, s', e, q⟩
    cases hm : m s with
    | none => rw [hm] at e; cases e
    | some x =>
      obtain ⟨r, s1⟩ := x
      rw [hm] at e
      refine ⟨r, s1, rfl, ?_⟩
      cases r with
      | ok fl => cases e; exact q
      | xc c =>
        dsimp only at e ⊢
        split at e
        · rename_i hc; exact ⟨hc, a, s', e, q⟩
        · cases e
  · rintro ⟨r, s1, e, q⟩
    rw [e]
    cases r with
    | ok fl => exact ⟨_, _, rfl, q⟩
    | xc c =>
      obtain ⟨hc, a, s', e2, q⟩ := q
      refine ⟨a, s', ?_, q⟩
      dsimp only
      rw [if_pos hc]; exact e2
@[simp ↓] theorem wp_xAsg {f : MX D} {g : D → M Unit} {Q : RX Fl → S → Prop} : wp (α := RX Fl) (xAsg f g) s Q ↔ wp (α := RX D) f s fun r s1 => match r with
    | .ok d => wp (g d) s1 fun _ s2 => Q (.ok .nx) s2
    | .xc c => Q (.xc c) s1 := by
  unfold wp xAsg
  constructor
  · rintro ⟨a, s', e, q⟩
    cases h : f s with
    | none => rw [h] at e; cases e
    | some x =>
      obtain ⟨r, s1⟩ := x
      rw [h] at e
      refine ⟨r, s1, rfl, ?_⟩
      cases r with
      | xc c => cases e; exact q
      | ok d =>
        dsimp only at e
        cases hg : g d s1 with
        | none => rw [hg] at e; cases e
        | some y => rw [hg] at e; cases e; exact ⟨y.1, y.2, hg, q⟩
  · rintro ⟨r, s1, e, q⟩
    rw [e]
    cases r with
    | xc c => exact ⟨_, _, rfl, q⟩
    | ok d =>
      obtain ⟨u, s2, e2, q⟩ := q
      refine ⟨_, _, ?_, q⟩
      dsimp only
      rw [e2]
end
end DL
namespace DL
open PySem PySem.Spec PyProof.Rows L2
/-! DL41: wp of DL40. -/
section
variable {s : S}
@[simp ↓] theorem wp_callX {sem : FSX} {fr : M (List AV)} {Q : D → S → Prop} : wp (eCallX sem fr) s Q ↔ wp fr s fun avs s1 => ∃ xs, avs.mapM (res s1) = some xs ∧ fx sem xs s1.k fun r k' => ∃ d, r = .ok d ∧ Q d ⟨s1.g, k'⟩ := by
  have h := wp_xCall (s := s) (sem := sem) (fr := fr) (Q := fun r s1 => ∃ d, r = .ok d ∧ Q d s1)
  rw [← h]
  unfold wp eCallX
  constructor
  · rintro ⟨a, s', e, q⟩
    split at e
    · rename_i d s1 hc
      cases e
      exact ⟨_, _, hc, _, rfl, q⟩
    · cases e
  · rintro ⟨r, s1, e, d, rfl, q⟩
    exact ⟨d, s1, by rw [e], q⟩
@[simp ↓] theorem wp_xE {f : M D} {Q : RX D → S → Prop} : wp (α := RX D) (xE f) s Q ↔ wp f s fun d s1 => Q (.ok d) s1 := by
  unfold wp xE
  constructor
  · rintro ⟨a, s', e, q⟩
    cases h : f s with
    | none => rw [h] at e; cases e
    | some x => rw [h] at e; cases e; exact ⟨x.1, x.2, rfl, q⟩
  · rintro ⟨a, s', e, q⟩
    exact ⟨_, _, by rw [e]; rfl, q⟩
@[simp ↓] theorem wp_xaNil {Q : RX (List D) → S → Prop} : wp (α := RX (List D)) xaNil s Q ↔ Q (.ok []) s := ⟨fun ⟨_, _, e, q⟩ => by cases e; exact q, fun q => ⟨_, _, rfl, q⟩⟩
@[simp ↓] theorem wp_xaCons {f : MX D} {fr : MX (List D)} {Q : RX (List D) → S → Prop} : wp (α := RX (List D)) (xaCons f fr) s Q ↔ wp (α := RX D) f s fun r s1 => match r with
    | .ok d => wp (α := RX (List D)) fr s1 fun r2 s2 => (match r2 with
      | .ok ds => Q (.ok (d :: ds)) s2
      | .xc c => Q (.xc c) s2)
    | .xc c => Q (.xc c) s1 := by
  unfold wp xaCons
  constructor
  · rintro ⟨a, s', e, q⟩
    cases h : f s with
    | none => rw [h] at e; cases e
    | some x =>
      obtain ⟨r, s1⟩ := x
      rw [h] at e
      refine ⟨r, s1, rfl, ?_⟩
      cases r with
      | xc c => cases e; exact q
      | ok d =>
        dsimp only at e
        cases hr : fr s1 with
        | none => rw [hr] at e; cases e
        | some y =>
          obtain ⟨r2, s2⟩ := y
          rw [hr] at e
          refine ⟨r2, s2, rfl, ?_⟩
          cases r2 with
          | ok ds => cases e; exact q
          | xc c => cases e; exact q
  · rintro ⟨r, s1, e, q⟩
    rw [e]
    cases r with
    | xc c => exact ⟨_, _, rfl, q⟩
    | ok d =>
      obtain ⟨r2, s2, e2, q⟩ := q
      dsimp only
      rw [e2]
      cases r2 with
      | ok ds => exact ⟨_, _, rfl, q⟩
      | xc c => exact ⟨_, _, rfl, q⟩
@[simp ↓] theorem wp_xLst {fr : MX (List D)} {Q : RX D → S → Prop} : wp (α := RX D) (xLst fr) s Q ↔ wp (α := RX (List D)) fr s fun r s1 => match r with
    | .ok ds => ds.length ≤ lim ∧ Q (.ok (.list ds)) s1
    | .xc c => Q (.xc c) s1 := by
  unfold wp xLst
  constructor
  · rintro ⟨a, s', e, q⟩
    cases h : fr s with
    | none => rw [h] at e; cases e
    | some x =>
      obtain ⟨r, s1⟩ := x
      rw [h] at e
      refine ⟨r, s1, rfl, ?_⟩
      cases r with
      | xc c => cases e; exact q
      | ok ds =>
        dsimp only at e ⊢
        split at e
        · rename_i hl; cases e; exact ⟨hl, q⟩
        · cases e
  · rintro ⟨r, s1, e, q⟩
    rw [e]
    cases r with
    | xc c => exact ⟨_, _, rfl, q⟩
    | ok ds =>
      obtain ⟨hl, q⟩ := q
      exact ⟨_, _, by dsimp only; rw [if_pos hl], q⟩
end
end DL
namespace DL
open PySem PySem.Spec PyProof.Rows L2
/-! DL42: dict cells: made, changed. -/
def DRep (K : PySem.W.Frag) (H : Hp) (o : HO) (t : Bool) (ds : List (D × D)) : Prop := (t = false ∧ ∃ ks, o = .dK ks ∧ RpK K H ks ds) ∨ (t = true ∧ ∃ ks, o = .dT ks ∧ RpT K H ks ds)
theorem DRep.mono {K : PySem.W.Frag} {H H' : Hp} {o : HO} {t : Bool} {ds : List (D × D)} (r : DRep K H o t ds) (g : Grw H H') : DRep K H' o t ds := by
  rcases r with ⟨ht, ks, h1, r⟩ | ⟨ht, ks, h1, r⟩
  · exact .inl ⟨ht, ks, h1, r.mono g⟩
  · exact .inr ⟨ht, ks, h1, r.mono g⟩
theorem DRep.at {K : PySem.W.Frag} {H G : Hp} {o : HO} {t : Bool} {ds : List (D × D)} {a : Addr} (r : DRep K H o t ds) (h : G a = some o) : (t = false ∧ ∃ ks, G a = some (.dK ks) ∧ RpK K H ks ds) ∨ t = true ∧ ∃ ks, G a = some (.dT ks) ∧ RpT K H ks ds := by
  rcases r with ⟨ht, ks, rfl, r⟩ | ⟨ht, ks, rfl, r⟩
  · exact .inl ⟨ht, ks, h, r⟩
  · exact .inr ⟨ht, ks, h, r⟩
/-! x = {} -/
def sNewD (i : Nat) (t : Bool) : M Fl := fun s => some (.nx, { s with g := s.g.set i (some (.dct t [])) })
end DL
namespace DL
open PySem PySem.Spec PyProof.Rows L2
/-! DL43: dicts with tuples as keys, as data; x[k] = v on a dict cell. -/
abbrev tupD (k : List Key) : D := .tuple (k.map keyD)
def kTs : List D → Option (List Key)
  | [] => some []
  | d :: r => match kD d, kTs r with
    | some k, some ks => some (k :: ks)
    | _, _ => none
def kT : D → Option (List Key)
  | .tuple ds => kTs ds
  | _ => none
theorem kTs_map : ∀ k : List Key, kTs (k.map keyD) = some k
  | [] => rfl
  | x :: r => by rw [List.map_cons]; unfold kTs; rw [kD_keyD, kTs_map r]
theorem kT_tupD (k : List Key) : kT (tupD k) = some k := kTs_map k
theorem kTs_some : ∀ {ds : List D} {k : List Key}, kTs ds = some k → ds = k.map keyD
  | [], k, h => by cases h; rfl
  | d :: r, k, h => by
    unfold kTs at h
    cases h1 : kD d with
    | none => simp only [h1] at h; cases h
    | some a =>
      cases h2 : kTs r with
      | none => simp only [h1, h2] at h; cases h
      | some b =>
        simp only [h1, h2] at h
        cases h
        rw [kD_some h1, kTs_some h2]; rfl
theorem kT_some {d : D} {k : List Key} (h : kT d = some k) : d = tupD k := by
  cases d with
  | tuple ds => unfold tupD; rw [kTs_some h]
  | _ => cases h
theorem RpA.keys {K : PySem.W.Frag} {H : Hp} : ∀ {vs : List V} {k : List Key}, RpA K H vs (k.map keyD) → vs = k.map kV
  | [], [], _ => rfl
  | [], _ :: _, h => by cases h
  | v :: vs, [], h => by cases h
  | v :: vs, x :: r, h => by
    cases h with
    | cons a b => rw [List.map_cons, a.key, RpA.keys b]
/-- a tuple of keys stands tracked -/
theorem Rp.tkey {K : PySem.W.Frag} {P : Addr → Prop} {H : Hp} {v : V} {k : List Key} (h : Rp K (mask P H) v (tupD k)) : ∃ b, v = .ref b ∧ ¬ P b ∧ H b = some (.tup (k.map kV)) := by
  cases h with
  | @tup a vs _ e r =>
    obtain ⟨n, e⟩ := mask_some.mp e
    exact ⟨a, rfl, n, by rw [← r.keys]; exact e⟩
def sameT (a b : D) : Bool := (kT a).isSome && decide (kT a = kT b)
theorem sameT_key (a b : List Key) : sameT (tupD a) (tupD b) = decide (a = b) := by
  unfold sameT
  rw [kT_tupD, kT_tupD]
  by_cases h : a = b <;> simp [h]
def lookT (ds : List (D × D)) (y : D) : Option D := (ds.find? fun p => sameT p.1 y).map (·.2)
theorem RpT.look {K : PySem.W.Frag} {H : Hp} {k : List Key} : ∀ {kvs : List (List Key × V)} {ds : List (D × D)}, RpT K H kvs ds → (∃ v d, valV kvs k = some v ∧ lookT ds (tupD k) = some d ∧ Rp K H v d) ∨ (valV kvs k = none ∧ lookT ds (tupD k) = none)
  | _, _, .nil => .inr ⟨rfl, rfl⟩
  | (k', v) :: r, (_, d) :: ds, .cons h t => by
    by_cases e : k' = k
    · subst e
      refine .inl ⟨v, d, by rw [valV_pos rfl], ?_, h⟩
      unfold lookT
      rw [List.find?_cons_of_pos (by show sameT (tupD k') (tupD k') = true; rw [sameT_key]; simp)]
      rfl
    · have e2 : lookT ((tupD k', d) :: ds) (tupD k) = lookT ds (tupD k) := by
        unfold lookT
        rw [List.find?_cons_of_neg (by show ¬ sameT (tupD k') (tupD k) = true; rw [sameT_key]; simp [e])]
      rw [valV_neg (show ¬ (k', v).1 = k from e), e2]
      exact RpT.look t
def putT (ds : List (D × D)) (k v : D) : List (D × D) := if (ds.any fun p => sameT p.1 k) = true then ds.map (fun p => if sameT p.1 k = true then (p.1, v) else p) else ds ++ [(k, v)]
theorem RpT.length {K : PySem.W.Frag} {H : Hp} : ∀ {kvs : List (List Key × V)} {ds : List (D × D)}, RpT K H kvs ds → kvs.length = ds.length
  | _, _, .nil => rfl
  | _, _, .cons _ t => by rw [List.length_cons, List.length_cons, RpT.length t]
/-! x[k] = v -/
def putU (t : Bool) (ds : List (D × D)) (j d : D) : Option (List (D × D)) := if t = true then (kT j).map fun _ => putT ds j d else (kD j).map fun _ => putD ds j d
def gPutD (i : Nat) (fi : M D) (d : D) : M Unit := fun s => match s.g[i]? with
  | some (some (.dct _ _)) => bd fi (fun j s1 => match s1.g[i]? with
      | some (some (.dct t ds)) => if ds.length ≤ lim then (match putU t ds j d with
          | some ds' => some ((), { s1 with g := s1.g.set i (some (.dct t ds')) })
          | none => none) else none
      | _ => none) s
  | _ => none
end DL
namespace DL
open PySem PySem.Spec PyProof.Rows L2
/-! DL44: a dict cell looked at: k in x, x[k]. -/
def lookU (t : Bool) (ds : List (D × D)) (j : D) : Option (Option D) := if t = true then (kT j).map fun _ => lookT ds j else (kD j).map fun _ => lookD ds j
section
variable {K : PySem.W.Frag} {A : DA} {hid P : Addr → Prop} {s : S} {σ : St} {H : Hp}
theorem SOk.getD {i : Nat} {t : Bool} {ds : List (D × D)} {w : V} {j : D} {o : Option D} (ok : SOk K A hid P s σ H) (hg : s.g[i]? = some (some (.dct t ds))) (r : Rp K (mask P H) w j) (e : lookU t ds j = some o) :
    ∃ a ov, σ[i]? = some (some (.ref a)) ∧ DGet H a w ov ∧ ov.isSome = o.isSome ∧ ∀ d, o = some d → ∃ v, ov = some v ∧ Rp K (mask P H) v d := by
  obtain ⟨a, ea, m2, m3, m4, mr⟩ := ok.slot i _ hg
  rcases mr with ⟨ht, ks, m1, mr⟩ | ⟨ht, ks, m1, mr⟩
  · subst ht
    unfold lookU at e
    rw [if_neg (by decide)] at e
    cases hk : kD j with
    | none => rw [hk] at e; cases e
    | some k =>
      rw [hk] at e; cases e
      obtain rfl := kD_some hk
      refine ⟨a, valV ks k, ea, by rw [r.key]; exact DGet.k m1, ?_⟩
      rcases mr.look (k := k) with ⟨v', d', q1, q2, q3⟩ | ⟨q1, q2⟩
      · rw [q1, q2]; exact ⟨rfl, fun d hd => by cases hd; exact ⟨v', rfl, q3⟩⟩
      · rw [q1, q2]; exact ⟨rfl, fun d hd => by cases hd⟩
  · subst ht
    unfold lookU at e
    rw [if_pos rfl] at e
    cases hk : kT j with
    | none => rw [hk] at e; cases e
    | some k =>
      rw [hk] at e; cases e
      obtain rfl := kT_some hk
      obtain ⟨c, rfl, _, hc⟩ := r.tkey
      refine ⟨a, valV ks k, ea, DGet.t m1 hc, ?_⟩
      rcases mr.look (k := k) with ⟨v', d', q1, q2, q3⟩ | ⟨q1, q2⟩
      · rw [q1, q2]; exact ⟨rfl, fun d hd => by cases hd; exact ⟨v', rfl, q3⟩⟩
      · rw [q1, q2]; exact ⟨rfl, fun d hd => by cases hd⟩
end
def eInD (neg : Bool) (fb : M D) (i : Nat) : M D := bd fb fun y => fun s1 => match s1.g[i]? with
  | some (some (.dct t ds)) => (lookU t ds y).map fun o => (.bool (if neg = true then !o.isSome else o.isSome), s1)
  | _ => none
def eGetD (i : Nat) (fb : M D) : M D := fun s => match s.g[i]? with
  | some (some (.dct _ _)) => bd fb (fun y s1 => match s1.g[i]? with
    | some (some (.dct t ds)) => (match lookU t ds y with
      | some (some d) => some (d, s1)
      | _ => none)
    | _ => none) s
  | _ => none
end DL
namespace DL
open PySem PySem.Spec PyProof.Rows L2
/-! DL45: wp of dict cells. -/
section
variable {s : S}
@[simp ↓] theorem wp_sNewD {i : Nat} {t : Bool} {Z : Fl → S → Prop} : wp (sNewD i t) s Z ↔ Z .nx ⟨s.g.set i (some (.dct t [])), s.k⟩ := ⟨fun ⟨_, _, e, q⟩ => by cases e; exact q, fun q => ⟨_, _, rfl, q⟩⟩
@[simp ↓] theorem wp_eInD {neg : Bool} {fb : M D} {i : Nat} {Q : D → S → Prop} : wp (eInD neg fb i) s Q ↔ wp fb s fun y s1 => ∃ t ds o, s1.g[i]? = some (some (.dct t ds)) ∧ lookU t ds y = some o ∧ Q (.bool (if neg = true then !o.isSome else o.isSome)) s1 := by
  unfold eInD
  rw [wp_bd]
  constructor <;> intro h <;> refine wp_mono h fun y s1 q => ?_
  · obtain ⟨d, s2, e, q⟩ := q
    dsimp only at e
    split at e
    · rename_i t ds hg
      cases hl : lookU t ds y with
      | none => rw [hl] at e; cases e
      | some o => rw [hl] at e; cases e; exact ⟨t, ds, o, hg, hl, q⟩
    · cases e
  · obtain ⟨t, ds, o, hg, hl, q⟩ := q
    refine ⟨_, s1, ?_, q⟩
    simp only [hg, hl, Option.map_some]
end
end DL
namespace DL
open PySem PySem.Spec PyProof.Rows L2
/-! DL46: sorted(set(x)), x a list of ints, any number of them. -/
section
variable {P : Program} {w : World} {A : Around} {E : Value → Shared → Prop} {s : Shared}
abbrev setO0 (w : World) : Obj := { cls := .type "set", dict := none, data := .set #[] 0 (.fresh 0 0 (!w.params.followText "set-order")) }
/-- set(xs), xs a list of ints -/
theorem call_setLI {l : Addr} {items : Array Value} (ns : List Int) {Q : Value → Shared → Prop} (hh : A.handled = none) (hl : s.heap.IsList l items) (hit : IntsAre items.toList ns) (hb : ns.length + 1 < scanBound)
    (h : ∀ (h' : Heap) (tk c : Nat), SetR w h' s.heap.objs.size (fun j => decide (j ∈ ns)) c → c ≤ ns.length → (∀ b o, s.heap.get? b = some o → h'.get? b = some o) → Q (.ref s.heap.objs.size) { s with heap := h', toks := tk }) :
    wpAny (model P w) A (call (.type "set") [.ref l]) Q E s := by
  have zsz : items.size = ns.length := by
    have q := IntsAre.length hit
    rw [Array.length_toList] at q
    exact q
  obtain ⟨c0, tl, hmro⟩ := F.called_set.mro
  have hmade := F.called_set.made
  have hsub := F.called_set.sub
  refine wpAny_call (codeAny_of_tree ?_)
  show wpAny _ _ (callAny (.type "set") _) _ _ _
  refine wpAny_pure ⟨Code.quiet_builtin _ (by decide +kernel), codeAny_builtin F.entry_type_call ?_⟩
  rw [Around.under_plain (weight_type_call_type "set" [.ref l] []) rfl]
  have g1 := F.called_set.notType
  have g2 := F.called_set.canCreate
  have g3 := F.typeCall_set_1 (.ref l)
  repeat (any_goals (first | assumption | wp_step))
  refine codeAny_mono (code_set_led1 (.ref l) (E := E) (Q₁ := fun obj s₁ => obj = .ref s.heap.objs.size ∧ s₁ = { s with heap := s.heap.push (setO0 w) }) ⟨rfl, rfl⟩) fun r s₁ hr => ?_
  cases r with
  | error e => exact hr
  | ok fl =>
    cases fl with
    | ret obj =>
      obtain ⟨rfl, rfl⟩ := hr
      have kS : (s.heap.push (setO0 w)).get? s.heap.objs.size = some (setO0 w) := Heap.get?_push_size _ rfl
      have kT : Shared.TypeIs { s with heap := s.heap.push (setO0 w) } (.ref s.heap.objs.size) "set" := ⟨_, kS, rfl⟩
      have k1 := F.called_set.init.lookup
      have k2 := F.called_set.init.bind (.ref s.heap.objs.size)
      repeat (any_goals (first | assumption | wp_step))
      refine codeAny_mono (codeAny_call_builtin (R := wants (fun r s₂ => r = .none ∧ ∃ h' tk c, s₂ = { s with heap := h', toks := tk } ∧ SetR w h' s.heap.objs.size (fun j => decide (j ∈ ns)) c ∧ c ≤ ns.length ∧
          (∀ b o, s.heap.get? b = some o → h'.get? b = some o)) E) F.called_set.init.plain F.entry_set_init (check_set_init_1 kT ?_)) fun r₂ s₂ hr₂ => ?_
      · obtain ⟨ol, hol, hcl, nl, hdl⟩ := hl
        obtain ⟨ocls, odict, odata, oslots⟩ := ol
        simp only at hcl hdl
        subst hcl; subst hdl
        have holS : (s.heap.push (setO0 w)).get? l = some { cls := .type "list", dict := odict, data := .seq items nl, slots := oslots } := Heap.get?_push_of_some _ hol
        have q1 := F.sub_list_set
        have q2 := F.sub_list_frozenset
        have q3 : (Value.type "list" == Value.type "dict") = false := by decide
        have q4 : (s.heap.push (setO0 w)).IsList l items := ⟨_, holS, rfl, nl, rfl⟩
        unfold Builtin.«set.__init__» noKeywords Builtin.Frozenset.updateFrom
        generalize hPI : pyIter = PI
        wp_walk
        subst hPI
        refine wpAny_pyIter_list q4 ?_
        refine wpAny_bind (wpAny_runValue ?_)
        have hlS : l < s.heap.objs.size := Heap.lt_size hol
        have hh3 : A.in1.in1.in1.handled = none := by simp [hh]
        have nI : l ≠ (s.heap.push (setO0 w)).objs.size := by
          rw [Heap.size_push]; exact Nat.ne_of_lt (Nat.lt_succ_of_lt hlS)
        have nf : s.heap.objs.size ∉ [(s.heap.push (setO0 w)).objs.size, l] := by
          rw [Heap.size_push]; simp only [List.mem_cons, List.mem_singleton, List.not_mem_nil, or_false, not_or]
          exact ⟨Nat.ne_of_lt (Nat.lt_succ_self _), Nat.ne_of_gt hlS⟩
        have hv : ∀ (i : Nat) (v : Value), items[i]? = some v → ∃ k t, ns[i]? = some k ∧ v = .int k t := fun i v hv => by
          have hi : i < ns.length := by rw [← zsz]; exact (Array.getElem?_eq_some_iff.mp hv).1
          obtain ⟨t, e⟩ := PyProof.Rows.IntsAre.int_at hit i v (by rw [Array.getElem?_toList]; exact hv)
          refine ⟨ns[i], t, List.getElem?_eq_getElem hi, ?_⟩
          rw [e, List.getD_eq_getElem?_getD, List.getElem?_eq_getElem hi] <;> rfl
        refine set_update_ints ((Walks.list hh3 _ l nI items).toS) s.heap.objs.size
          nf ns zsz hb hv (items.size - 0) 0 _ (by omega) (Nat.zero_le _)
          ⟨⟨_, Heap.get?_push_size _ rfl, rfl, rfl⟩, (q4.push _)⟩ ?hA ?hB
        case hA =>
          have hget : ((s.heap.push (setO0 w)).push { cls := .type "list_iterator", data := .fields #[.ref l, .int 0 0] }).get? s.heap.objs.size = some (setO0 w) := Heap.get?_push_of_some _ kS
          exact ⟨0, Nat.le_refl 0, setR_new_at hget⟩
        case hB =>
          intro s' c' hm hc' hS'
          obtain ⟨h', g2, d', tk', os'⟩ := s'
          have eg : g2 = s.gens := hm.gens
          have ed : d' = s.drawn := hm.drawn
          have eo : os' = s.os := hm.os
          subst eg; subst ed; subst eo
          show wpAny _ _ _ _ _ _
          refine wpAny_pure ?_
          show wpAny _ _ (ret Value.none) _ _ _
          rw [zsz] at hc'
          refine wpAny_pure ⟨rfl, h', tk', c', rfl, hS', hc', fun b o e => ?_⟩
          have z0 : b < s.heap.objs.size := Heap.lt_size e
          have z1 : b ≠ s.heap.objs.size := Nat.ne_of_lt z0
          have z2 : b ≠ (s.heap.push (setO0 w)).objs.size := by
            rw [Heap.size_push]; exact Nat.ne_of_lt (Nat.lt_succ_of_lt z0)
          exact hm.heap b o (by simp only [List.mem_cons, List.mem_singleton, List.not_mem_nil, or_false, not_or]; exact ⟨z1, z2⟩) (Heap.get?_push_of_some _ (Heap.get?_push_of_some _ e))
      · cases r₂ with
        | error e => exact hr₂
        | ok fl₂ =>
          cases fl₂ with
          | ret r =>
            obtain ⟨rfl, h', tk, c', rfl, hS', hc', hk'⟩ := hr₂
            repeat (any_goals (first | assumption | wp_step))
            exact h _ _ _ hS' hc' hk'
          | _ => exact hr₂.elim
    | _ => exact hr.elim
/-- sorted(s), s a set of ints, any number of them -/
theorem sorted_setA {a : Addr} {S : Int → Bool} {n : Nat} {Q : Value → Shared → Prop} (R : SetR w s.heap a S n) (hh : A.handled = none) (hz : n ≤ sizeLine)
    (hQ : ∀ s' p (out : Array Value) (c : Nat) (ns : List Int), (∀ b o, s.heap.get? b = some o → s'.heap.get? b = some o) → s'.gens = s.gens → s'.os = s.os → s.heap.objs.size ≤ p →
      s'.heap.get? p = some (seqObj "list" out c) → IntsAre out.toList ns → ns.Pairwise (· < ·) → (∀ k, k ∈ ns ↔ S k = true) → ns.length = n → Q (.ref p) s') :
    wpAny (model P w) A (call (.builtin "sorted") [.ref a]) Q E s := by
  obtain ⟨o, es, ep, t, ho, hex, hd, g, nd, hm, hb, hf, hn, hr, hl⟩ := R
  refine Calls.call_function_entry kind_sorted plain_sorted entry_sorted (args_sorted1 _) ?_
  unfold Builtin.«sorted»
  refine wpAny_bind (m := checkCount "sorted" 1 1 _) (wpAny_pure ?_)
  refine wpAny_bind (collect_set (A := A.in1) hh ⟨o, ho, hex.1, hd⟩ hf hb hr hl fun s1 vs k1 kz kg ko pm => ?_)
  have vl : vs.length = n := by rw [pm.length_eq, List.length_map, Array.length_toList]; exact hn
  have vI : IntsAre vs (vs.map Builtin.Re.reRawOf) := ints_of vs fun v hv => by
    obtain ⟨e, he, q⟩ := List.mem_map.mp (pm.mem_iff.mp hv)
    obtain ⟨k, tk, h1, _⟩ := g e he
    exact ⟨k, tk, by rw [← q]; exact h1⟩
  have vp : (vs.map Builtin.Re.reRawOf).Perm (es.toList.map keyOf) := by
    have q := pm.map Builtin.Re.reRawOf
    rw [List.map_map] at q
    exact q
  refine wpAny_bind (wpAny_newList ?_ (by rw [vl]; exact hz))
  have hoL : (s1.heap.push (seqObj "list" vs.toArray 0)).get? s1.heap.objs.size = some (seqObj "list" vs.toArray 0) := Heap.get?_push_size _ rfl
  refine wpAny_bind (wpAny_holding (wpAny_call_entry slot_list_sort ⟨_, hoL, rfl⟩ entry_list_sort (SrtO.list_sort_ord SrtO.swo_int hoL (by rw [vl]; exact hz) (fun h2 => SrtO.ints_sortable vI h2) fun out o1 o2 => ⟨_, rfl, ?_⟩) (args_list_sort _)))
  obtain ⟨i1, i2, i3⟩ := SrtO.ints_out vI o1 o2
  obtain ⟨c, hc⟩ := sortedHeap_at (vs := vs) (out := out.toArray) hoL
  have pn : (out.map SrtO.iv).Perm (es.toList.map keyOf) := i2.trans vp
  refine wpAny_pure ⟨_, rfl, hQ _ s1.heap.objs.size out.toArray c (out.map SrtO.iv) (fun b u e => ?_) kg ko kz hc (by simpa using i1) (lt_of_le_nodup _ i3 (pn.nodup_iff.mpr nd)) (fun k => by rw [pn.mem_iff, ← hm k]) ?_⟩
  · have q := k1 b u e
    have hlt := Heap.lt_size q
    show (sortedHeap (s1.heap.push (seqObj "list" vs.toArray 0)) s1.heap.objs.size vs out.toArray).get? b = some u
    rw [sortedHeap_old (Nat.ne_of_lt hlt) (by rw [size_push']; exact Nat.lt_succ_of_lt hlt)]
    exact Heap.get?_push_of_some _ q
  · rw [pn.length_eq, List.length_map, Array.length_toList]; exact hn
end
section
variable {X : Cx} {e : Expr} {te : TE} {f : M D} {K : PySem.W.Frag}
/-- sorted(set(e)), e a list of ints -/
def tSrtSet (K : PySem.W.Frag) (te : TE) : TE := fun σ H Q => te σ H fun x H1 => ∃ (l : Addr) (ns : List Int), x = .ref l ∧ SqL K H1 l (ns.map V.int) ∧ ns.length ≤ 4000 ∧
  ∀ (ks : List Int) (p : Addr), ks.Pairwise (· < ·) → (∀ k, k ∈ ks ↔ k ∈ ns) → H1 p = none → Q (.ref p) (upd H1 p (.lst (ks.map V.int)))
theorem pe_srtSet {p p2 q pos : Pos} (hg : Gl X "sorted") (hm : X.mg "sorted" = none) (hg2 : Gl X "set") (hm2 : X.mg "set" = none) (ha : PE X e te) (hc : X.calm = true := by rfl)
    (na : starEach [e] X.env = (false, eval e X.env) :: starEach [] X.env := by rfl) : PE X (.Call (.Name "sorted" p) [.Call (.Name "set" p2) [e] [] q] [] pos) (tSrtSet X.K te) := by
  refine ⟨fun pins s σ H Q I h => ?_⟩
  refine Call_ (ld_blt I hg hm (show bootBuiltins "sorted" = some (.builtin "sorted") by decide +kernel) ?_)
  refine PyProof.Rows.callWith_builtin1 (PyProof.Rows.args_cons ?_ rfl) rfl rfl
  refine Call_ (ld_blt I hg2 hm2 boot_set ?_)
  refine PyProof.Rows.callWith_type1 (PyProof.Rows.args_cons (thn (ha.run pins s σ H _ I h) fun v s1 ⟨x, H1, I1, r1, q1⟩ => PyProof.Rows.args_nil ?_) na) na rfl
  obtain ⟨l, ns, rfl, hq, hl, q1⟩ := q1
  cases r1
  obtain ⟨its, r, pl, hz⟩ := I1.list hq
  refine call_setLI ns (I1.ok.hd hc) pl.isList (by simpa using RZ.intsAre_vals r) (by unfold scanBound; omega) fun h' tk c hS hc' hk => ?_
  refine PyProof.Rows.args_nil ?_
  have I2 : Inv X pins σ H1 { s1 with heap := h', toks := tk } := I1.kept hk
  refine sorted_setA hS (I2.ok.hd hc) (by rw [sizeLine_eq]; omega) fun s' p out c ns' k g o hp hg hi hs hm hl' => ?_
  have hlen : (ns'.map V.int).length ≤ sizeLine := by rw [List.length_map, hl', sizeLine_eq]; omega
  have hn : H1 p = none := I2.hok.fresh hp
  have J : Inv X pins σ (upd H1 p (.lst (ns'.map V.int))) { ({ s1 with heap := h', toks := tk } : Shared) with heap := s'.heap, gens := s'.gens, drawn := s'.drawn, toks := s'.toks } :=
    I2.call (ch := []) (Un.laid k hp hn) (I2.hok.laid k hp ⟨hlen, out.toList, c, vals_of_ints hi, hg⟩) (by rw [g]; exact I2.bare) (fun _ z => nomatch z)
  have e : s' = { ({ s1 with heap := h', toks := tk } : Shared) with heap := s'.heap, gens := s'.gens, drawn := s'.drawn, toks := s'.toks } := by
    cases s'
    cases s1
    cases o
    rfl
  rw [e]
  exact ⟨.ref p, _, J, rfl, q1 ns' p hs (fun k => by rw [hm k, decide_eq_true_eq]) hn⟩
/-- the ints, each once, ascending -/
def dedI : List Int → List Int
  | [] => []
  | n :: r => if n ∈ dedI r then dedI r else n :: dedI r
theorem dedI_mem {k : Int} : ∀ {l : List Int}, k ∈ dedI l ↔ k ∈ l
  | [] => Iff.rfl
  | n :: r => by
    unfold dedI
    by_cases h : n ∈ dedI r
    · rw [if_pos h, dedI_mem, List.mem_cons]
      exact ⟨.inr, fun z => z.elim (fun e => by rw [e]; exact dedI_mem.mp h) id⟩
    · rw [if_neg h, List.mem_cons, List.mem_cons, dedI_mem]
theorem dedI_nodup : ∀ l : List Int, (dedI l).Nodup
  | [] => List.nodup_nil
  | n :: r => by
    unfold dedI
    by_cases h : n ∈ dedI r
    · rw [if_pos h]; exact dedI_nodup r
    · rw [if_neg h]; exact List.nodup_cons.mpr ⟨h, dedI_nodup r⟩
def ssI (l : List Int) : List Int := srtI (dedI l)
theorem ssI_mem {k : Int} {l : List Int} : k ∈ ssI l ↔ k ∈ l := by rw [ssI, (srtI_perm _).mem_iff, dedI_mem]
theorem ssI_lt (l : List Int) : (ssI l).Pairwise (· < ·) := lt_of_le_nodup _ (srtI_sorted _) ((srtI_perm _).nodup_iff.mpr (dedI_nodup l))
/-- two strictly ascending lists of the same members are one -/
theorem asc_one : ∀ {a b : List Int}, a.Pairwise (· < ·) → b.Pairwise (· < ·) → (∀ k, k ∈ a ↔ k ∈ b) → a = b
  | [], [], _, _, _ => rfl
  | [], y :: b, _, _, h => absurd ((h y).mpr List.mem_cons_self) (by simp)
  | x :: a, [], _, _, h => absurd ((h x).mp List.mem_cons_self) (by simp)
  | x :: a, y :: b, ha, hb, h => by
    rw [List.pairwise_cons] at ha hb
    have e : x = y := by
      rcases List.mem_cons.mp ((h x).mp List.mem_cons_self) with e | h1
      · exact e
      · rcases List.mem_cons.mp ((h y).mpr List.mem_cons_self) with e | h2
        · exact e.symm
        · have := ha.1 y h2; have := hb.1 x h1; omega
    subst e
    rw [asc_one ha.2 hb.2 fun k => ⟨fun z => ?_, fun z => ?_⟩]
    · rcases List.mem_cons.mp ((h k).mp (List.mem_cons_of_mem _ z)) with e | z'
      · have := ha.1 k z; omega
      · exact z'
    · rcases List.mem_cons.mp ((h k).mpr (List.mem_cons_of_mem _ z)) with e | z'
      · have := hb.1 k z; omega
      · exact z'
def dSrtSet : D → Option D
  | .list ds => if ds.length ≤ 4000 then (nsD ds).map fun ns => .list ((ssI ns).map PyData.int) else none
  | _ => none
theorem nsD_len : ∀ {ds : List D} {ns : List Int}, nsD ds = some ns → ns.length = ds.length
  | [], ns, h => by cases h; rfl
  | d :: r, ns, h => by
    cases d <;> simp [nsD] at h
    obtain ⟨a, e, rfl⟩ := h
    simp [nsD_len e]
theorem ev_srtSet (h : EvE K te f) : EvE K (tSrtSet K te) (eOp1 dSrtSet f) := by
  intro A hid P s σ H d s' ok e Q q
  obtain ⟨x, s1, e1, e⟩ := bd_some e
  refine h A hid P s σ H x s1 ok e1 _ fun v P1 H1 ok1 st1 r1 => ?_
  obtain ⟨e, rfl⟩ := lf_some e
  cases x with
  | list ds =>
    simp only [dSrtSet] at e
    by_cases hl : ds.length ≤ 4000
    · rw [if_pos hl] at e
      cases hb : nsD ds with
      | none => rw [hb] at e; cases e
      | some ns =>
        rw [hb] at e; cases e
        obtain ⟨a, vs, rfl, h1, rr⟩ := r1.lst_inv
        have := rr.nums hb
        subst this
        refine ⟨a, ns, rfl, SqL.of (mask_le _ _ h1), by rw [nsD_len hb]; exact hl, fun ks p k1 k2 hp => ?_⟩
        have ek : ks = ssI ns := asc_one k1 (ssI_lt ns) fun k => by rw [k2, ssI_mem]
        rw [ek]
        exact q _ P1 _ (ok1.grw (Grw.new hp)) (st1.trans (Stp.grw (Grw.new hp))) (rp_newL ok1.trk hp (RpA.ints _))
    · rw [if_neg hl] at e; cases e
  | _ => cases e
theorem k_srtSet {p p2 q pos : Pos} (hm : X.mg "sorted" = none) (hm2 : X.mg "set" = none) (h : DE X e te f) (hK : X.K = K := by rfl) (hg : Gl X "sorted" := by rfl) (hg2 : Gl X "set" := by rfl) (hc : X.calm = true := by rfl)
    (na : starEach [e] X.env = (false, eval e X.env) :: starEach [] X.env := by rfl) : DE X (.Call (.Name "sorted" p) [.Call (.Name "set" p2) [e] [] q] [] pos) (tSrtSet K te) (eOp1 dSrtSet f) := by
  subst hK; exact ⟨pe_srtSet hg hm hg2 hm2 h.p hc na, ev_srtSet h.v⟩
end
end DL
namespace DL
open PySem PySem.Spec PyProof.Rows L2
/-! DL47: sorted, min, max of lists and tuples of data that are alike. -/
/-! ### the pure side -/
section
variable {X : Cx} {K : PySem.W.Frag}
/-! min, max of a list or tuple of data -/
def okBest (ds : List D) : Bool := ds.all SeqAt.shaped && (ds.all fun x => ds.all fun y => PySem.W.alike x y) && ds.all fun d => match d with | .none => false | _ => true
theorem okBest_some {ds : List D} (h : okBest ds = true) : (∀ d ∈ ds, SeqAt.shaped d = true) ∧ PySem.W.AlikeAll ds := by
  simp only [okBest, Bool.and_eq_true, List.all_eq_true] at h
  exact ⟨h.1.1, fun x hx y hy => h.1.2 x hx y hy, fun d hd e => by have := h.2 d hd; subst e; cases this⟩
/-- f of the list, at one of its items -/
def rBest (K : PySem.W.Frag) (best : D → List D → D) : List V → Hp → VK → Prop := fun xs H Q => ∃ (a : Addr) (vs : List V) (x : D) (ds : List D), xs = [V.ref a] ∧ (SqL K H a vs ∨ SqT K H a vs) ∧ DpAll K H vs (x :: ds) ∧ okBest (x :: ds) = true ∧ ∀ (i : Nat) (v : V), vs[i]? = some v → (x :: ds)[i]? = some (best x ds) → Q v H
theorem dpA_shaped {ds : List D} (h : ∀ d ∈ ds, SeqAt.shaped d = true) : PyData.depthAll ds ≤ 64 := by
  induction ds with
  | nil => simp [PyData.depthAll]
  | cons d r ih =>
    rw [PyData.depthAll]
    have a := SeqAt.depth_of_shaped (h d List.mem_cons_self)
    have b := ih fun x hx => h x (List.mem_cons_of_mem _ hx)
    omega
theorem RelV.at_ {bs : List V} {us : List Value} (r : Vals bs us) : ∀ (i : Nat) (u : Value), us[i]? = some u → ∃ v, bs[i]? = some v ∧ RelV v u := by
  induction r with
  | nil => intro i u e; simp at e
  | cons a t ih =>
    intro i u e
    cases i with
    | zero => simp at e; subst e; exact ⟨_, rfl, a⟩
    | succ i => simpa using ih i u (by simpa using e)
theorem best_end {pins : List (Addr × Obj)} {σ : L2.St} {H : Hp} {s : Shared} {Q : VK} {vs : List V} {ds : List D} {its : List Value} {as : List Addr} {m : D} (I : Inv X pins σ H s) (rv : Vals vs its) (hr : ReadsAll s.heap its ds as) (hc : ∀ d ∈ ds, d.canLay0 = true)
    (q : ∀ (i : Nat) (v : V), vs[i]? = some v → ds[i]? = some m → Q v H) (i : Nat) (v : Value) (h' : Heap) (tk : Nat) (bs : List Addr) (hi : its[i]? = some v) (hm : Reads h' v m bs) (hk : ∀ b o, s.heap.get? b = some o → h'.get? b = some o) : EP X pins σ Q v { s with heap := h', toks := tk } := by
  obtain ⟨u, hu, ru⟩ := RelV.at_ rv i v hi
  obtain ⟨cs, r1, hlt, hmem, _⟩ := PySem.W.readsAll_at hr i v hi
  have e : ds.getD i .none = m := PySem.SeqAt.Reads.unique _ _ v cs bs (hc _ hmem) (PyProof.Rows.Reads.keeps hk r1) hm
  refine ⟨u, H, I.kept hk, ru, q i u hu ?_⟩
  rw [← e, List.getD_eq_getElem?_getD, List.getElem?_eq_getElem hlt]
  rfl
theorem cr_minQ (hc : X.calm = true) (hu : X.A.units + 100 < cLine) : CallR X (.builtin "min") (rBest X.K PySem.W.minD) := by
  intro pins s σ H vs us Q I r h
  obtain ⟨a, vs, x, ds, rfl, hs, hd, ho, q⟩ := h
  obtain ⟨h1, h2⟩ := okBest_some ho
  have dp := dpA_shaped h1
  rw [Vals.ref1 r]
  rcases hs with hs | hs
  · obtain ⟨its, rv, hl, hz⟩ := I.list hs
    obtain ⟨as, hr⟩ := Dp.readsAll I _ _ its hd rv
    exact PySem.W.min_list_data (I.ok.hd hc) hl.isList (by simpa using hr) h2 (by omega) fun i v h' tk bs hi hm hk => best_end I rv hr (fun d hd => SeqAt.canLay_of_shaped (h1 d hd)) q i v h' tk bs (by simpa using hi) hm hk
  · obtain ⟨its, rv, hl, hz⟩ := I.tuple hs
    obtain ⟨as, hr⟩ := Dp.readsAll I _ _ its hd rv
    exact PySem.W.min_tuple_data (I.ok.hd hc) hl (by simpa using hr) h2 (by omega) fun i v h' tk bs hi hm hk => best_end I rv hr (fun d hd => SeqAt.canLay_of_shaped (h1 d hd)) q i v h' tk bs (by simpa using hi) hm hk
theorem cr_maxQ (hc : X.calm = true) (hu : X.A.units + 100 < cLine) : CallR X (.builtin "max") (rBest X.K PySem.W.maxD) := by
  intro pins s σ H vs us Q I r h
  obtain ⟨a, vs, x, ds, rfl, hs, hd, ho, q⟩ := h
  obtain ⟨h1, h2⟩ := okBest_some ho
  have dp := dpA_shaped h1
  rw [Vals.ref1 r]
  rcases hs with hs | hs
  · obtain ⟨its, rv, hl, hz⟩ := I.list hs
    obtain ⟨as, hr⟩ := Dp.readsAll I _ _ its hd rv
    exact PySem.W.max_list_data (I.ok.hd hc) hl.isList (by simpa using hr) h2 (by omega) fun i v h' tk bs hi hm hk => best_end I rv hr (fun d hd => SeqAt.canLay_of_shaped (h1 d hd)) q i v h' tk bs (by simpa using hi) hm hk
  · obtain ⟨its, rv, hl, hz⟩ := I.tuple hs
    obtain ⟨as, hr⟩ := Dp.readsAll I _ _ its hd rv
    exact PySem.W.max_tuple_data (I.ok.hd hc) hl (by simpa using hr) h2 (by omega) fun i v h' tk bs hi hm hk => best_end I rv hr (fun d hd => SeqAt.canLay_of_shaped (h1 d hd)) q i v h' tk bs (by simpa using hi) hm hk
/-- the least of a list, ints or data -/
def dBest (f : List D → Option D) (best : D → List D → D) : List D → Option D
  | [.list ds] => match nsD ds with
    | some _ => f [.list ds]
    | none => match ds with
      | [] => none
      | x :: r => if okBest (x :: r) = true then some (best x r) else none
  | [.tuple (x :: r)] => if okBest (x :: r) = true then some (best x r) else none
  | _ => none
def dMinQ : List D → Option D := dBest dMinL PySem.W.minD
def dMaxQ : List D → Option D := dBest dMaxL PySem.W.maxD
theorem do_bestQ {best : D → List D → D} {P : Addr → Prop} {H : Hp} {a : Addr} {vs : List V} {x : D} {ds : List D} (hs : SqL K H a vs ∨ SqT K H a vs) (r : RpA K (mask P H) vs (x :: ds)) (ho : okBest (x :: ds) = true) :
    ∀ Q : VK, (∀ z H', Grw H H' → Rp K (mask P H') z (best x ds) → Q z H') → rBest K best [V.ref a] H Q := by
  intro Q q
  have hok := (okBest_some ho).1
  have lay : ∀ {ds : List D}, (∀ d ∈ ds, SeqAt.shaped d = true) → PyData.canLayAll0 ds = true := by
    intro ds
    induction ds with
    | nil => intro _; simp [PyData.canLayAll0]
    | cons d r ih => intro h; simp [PyData.canLayAll0, SeqAt.canLay_of_shaped (h d List.mem_cons_self), ih fun x hx => h x (List.mem_cons_of_mem _ hx)]
  refine ⟨a, vs, x, ds, rfl, hs, (r.mono mask_le).dp (lay hok), ho, fun i v hv hm => ?_⟩
  obtain ⟨d, h1, h2⟩ := r.getv hv
  rw [h1] at hm; cases hm
  exact q v H (Grw.refl H) h2
theorem do_best {f : List D → Option D} {best : D → List D → D} {rI : List V → Hp → VK → Prop} (hf : DOC K rI f) : DOC K (rOrC rI (rBest K best)) (dBest f best) := by
  intro P H xs ds d t r e Q q
  unfold dBest at e
  split at e
  · rename_i ds
    split at e
    · exact .inl (hf P H xs _ d t r e Q q)
    · split at e
      · cases e
      · rename_i x l
        split at e
        · rename_i ho
          cases e
          obtain ⟨v, rfl, h⟩ := r.one
          obtain ⟨a, vs, rfl, h1, r1⟩ := h.lst_inv
          exact .inr (do_bestQ (.inl (SqL.of (mask_le _ _ h1))) r1 ho Q q)
        · cases e
  · rename_i x l
    split at e
    · rename_i ho
      cases e
      obtain ⟨v, rfl, h⟩ := r.one
      obtain ⟨a, vs, rfl, h1, r1⟩ := h.tup_inv
      exact .inr (do_bestQ (.inr (sqT_le h1)) r1 ho Q q)
    · cases e
  · cases e
theorem k_minQ (hu : X.A.units + 100 < cLine) (hc : X.calm = true := by rfl) (hK : X.K = K := by rfl) : CallR X (.builtin "min") (rOrC (rMin K) (rBest K PySem.W.minD)) := hK ▸ call_or (cr_min hc) (cr_minQ hc hu)
theorem k_maxQ (hu : X.A.units + 100 < cLine) (hc : X.calm = true := by rfl) (hK : X.K = K := by rfl) : CallR X (.builtin "max") (rOrC (rMax K) (rBest K PySem.W.maxD)) := hK ▸ call_or (cr_max hc) (cr_maxQ hc hu)
theorem do_minQ : DOC K (rOrC (rMin K) (rBest K PySem.W.minD)) dMinQ := do_best do_minL
theorem do_maxQ : DOC K (rOrC (rMax K) (rBest K PySem.W.maxD)) dMaxQ := do_best do_maxL
end
end DL
namespace DL
open PySem PySem.Spec PyProof.Rows L2
/-! DL48: a dict that is walked: it is held still meanwhile. -/
/-- all stays, but that a dict may be held or let go -/
def Grz (H H' : Hp) : Prop := ∀ a o, H a = some o → H' a = some o ∨ (∃ kvs, Rd H a (.dK kvs) ∧ Rd H' a (.dK kvs)) ∨ ∃ kvs, Rd H a (.dT kvs) ∧ Rd H' a (.dT kvs)
theorem Grz.frz {H H' : Hp} (g : Grz H H') {a : Addr} {o : Obj} {xs : List V} (h : H a = some (.frz o (.tup xs))) : H' a = some (.frz o (.tup xs)) := by
  rcases g a _ h with z | ⟨kvs, z, _⟩ | ⟨kvs, z, _⟩
  · exact z
  · rcases z with z | ⟨p, z⟩ <;> rw [h] at z <;> cases z
  · rcases z with z | ⟨p, z⟩ <;> rw [h] at z <;> cases z
/-! ### what is walked -/
/-- the keys of the dict in slot i; a dict of its own is given up -/
def itK (i : Nat) : M (List D) := fun s => match s.g[i]? with
  | some (some (.dat (.dict kvs))) => if isP kvs = true then none else some (kvs.map (·.1), s)
  | some (some (.dct _ kvs)) => some (kvs.map (·.1), { s with g := s.g.set i (some (.dat (.dict kvs))) })
  | _ => none
section
variable {K : PySem.W.Frag} {A : DA} {hid P : Addr → Prop} {s : S} {σ : St} {H : Hp}
theorem RpK.len {H : Hp} : ∀ {kvs : List (Key × V)} {ds : List (D × D)}, RpK K H kvs ds → kvs.length = ds.length
  | _, _, .nil => rfl
  | _, _, .cons _ t => by rw [List.length_cons, List.length_cons, RpK.len t]
end
section
variable {X : Cx} {K : PySem.W.Frag}
variable {js : List Nat} {g : TG} {fg : D → M Unit} {tb : TS} {m : M Fl}
/-- a dict of its own, given up -/
def eGiveD (i : Nat) : M D := fun s => match s.g[i]? with
  | some (some (.dat d)) => some (d, s)
  | some (some (.dct _ kvs)) => some (.dict kvs, { s with g := s.g.set i (some (.dat (.dict kvs))) })
  | _ => none
/-! wp -/
@[simp ↓] theorem wp_itK {i : Nat} {s : S} {Q : List D → S → Prop} : wp (itK i) s Q ↔ match s.g[i]? with
    | some (some (.dat (.dict kvs))) => isP kvs = false ∧ Q (kvs.map (·.1)) s
    | some (some (.dct _ kvs)) => Q (kvs.map (·.1)) ⟨s.g.set i (some (.dat (.dict kvs))), s.k⟩
    | _ => False := by
  unfold wp itK
  split
  · rename_i kvs _
    cases np : isP kvs with
    | true => exact ⟨fun ⟨_, _, e, _⟩ => by simp at e, fun h => by simp at h⟩
    | false => exact ⟨fun ⟨_, _, e, q⟩ => by simp at e; obtain ⟨rfl, rfl⟩ := e; exact ⟨rfl, q⟩, fun q => ⟨_, _, by simp, q.2⟩⟩
  · exact ⟨fun ⟨_, _, e, q⟩ => by cases e; exact q, fun q => ⟨_, _, rfl, q⟩⟩
  · exact ⟨fun ⟨_, _, e, _⟩ => (by cases e), fun h => h.elim⟩
@[simp ↓] theorem wp_eGiveD {i : Nat} {s : S} {Q : D → S → Prop} : wp (eGiveD i) s Q ↔ match s.g[i]? with
    | some (some (.dat d)) => Q d s
    | some (some (.dct _ kvs)) => Q (.dict kvs) ⟨s.g.set i (some (.dat (.dict kvs))), s.k⟩
    | _ => False := by
  unfold wp eGiveD
  split
  · exact ⟨fun ⟨_, _, e, q⟩ => by cases e; exact q, fun q => ⟨_, _, rfl, q⟩⟩
  · exact ⟨fun ⟨_, _, e, q⟩ => by cases e; exact q, fun q => ⟨_, _, rfl, q⟩⟩
  · exact ⟨fun ⟨_, _, e, _⟩ => (by cases e), fun h => h.elim⟩
end
end DL
namespace DL
open PySem PySem.Spec PyProof.Rows L2
/-! DL49: list(d) of an own dict; a, b = two raising calls; x = a list or another; defs that show. -/
/-- list(d), d an own dict with flat keys -/
def eListK (i : Nat) : M D := fun s => match s.g[i]? with
  | some (some (.dct false kvs)) => some (.list (kvs.map (·.1)), s)
  | _ => none
section
variable {i : Nat} {s : S} {Q : D → S → Prop}
@[simp ↓] theorem wp_eListK : wp (eListK i) s Q ↔ ∃ kvs, s.g[i]? = some (some (.dct false kvs)) ∧ Q (.list (kvs.map (·.1))) s := by
  unfold wp eListK
  constructor
  · rintro ⟨a, s', e, q⟩
    split at e
    · rename_i kvs hg; cases e; exact ⟨kvs, hg, q⟩
    · cases e
  · rintro ⟨kvs, hg, q⟩
    exact ⟨_, _, by simp only [hg], q⟩
end
/-! a, b = x, y where one may raise -/
def xPar (i j : Nat) (fr : MX (List D)) : MX Fl := fun s => match fr s with
  | some (.ok [x, y], s1) => some (.ok .nx, putP j (.dat y) (putP i (.dat x) s1))
  | some (.xc c, s1) => some (.xc c, s1)
  | _ => none
@[simp ↓] theorem wp_xPar {i j : Nat} {fr : MX (List D)} {s : S} {Q : RX Fl → S → Prop} : wp (α := RX Fl) (xPar i j fr) s Q ↔ wp (α := RX (List D)) fr s fun r s1 => match r with
    | .ok ds => ∃ x y, ds = [x, y] ∧ Q (.ok .nx) ⟨(s1.g.set i (some (.dat x))).set j (some (.dat y)), s1.k⟩
    | .xc c => Q (.xc c) s1 := by
  unfold wp xPar
  constructor
  · rintro ⟨a, s', e, q⟩
    split at e
    · rename_i x y s1 hf; cases e; exact ⟨_, _, hf, x, y, rfl, q⟩
    · rename_i c s1 hf; cases e; exact ⟨_, _, hf, q⟩
    · cases e
  · rintro ⟨r, s1, e, q⟩
    rw [e]
    cases r with
    | ok ds => obtain ⟨x, y, rfl, q⟩ := q; exact ⟨_, _, rfl, q⟩
    | xc c => exact ⟨_, _, rfl, q⟩
/-! a new list, one or another -/
def nIf (c : M Bool) (a b : M (List D)) : M (List D) := bd c fun x => if x = true then a else b
@[simp ↓] theorem wp_nIf {c : M Bool} {a b : M (List D)} {s : S} {Q : List D → S → Prop} : wp (nIf c a b) s Q ↔ wp c s fun x s1 => if x = true then wp a s1 Q else wp b s1 Q := by
  unfold wp nIf bd
  constructor
  · rintro ⟨d, s', e, q⟩
    cases h : c s with
    | none => rw [h] at e; cases e
    | some x =>
      obtain ⟨x, s1⟩ := x
      rw [h] at e
      refine ⟨x, s1, rfl, ?_⟩
      dsimp only at e
      split at e
      · rw [if_pos (by assumption)]; exact ⟨d, s', e, q⟩
      · rw [if_neg (by assumption)]; exact ⟨d, s', e, q⟩
  · rintro ⟨x, s1, e, q⟩
    rw [e]
    dsimp only
    split at q
    · rw [if_pos (by assumption)]; exact q
    · rw [if_neg (by assumption)]; exact q
/-! a def that shows values: called where nothing is being shown -/
end DL
namespace DL
open PySem PySem.Spec PyProof.Rows L2
/-! DL50: wp of x[k] = v and x[k] on dict cells. -/
section
variable {s : S} {i : Nat} {fi : M D} {d : D}
@[simp ↓] theorem wp_gPutD {Q : Unit → S → Prop} : wp (gPutD i fi d) s Q ↔ (∃ t0 ds0, s.g[i]? = some (some (.dct t0 ds0))) ∧ wp fi s fun j s1 => ∃ t ds ds', s1.g[i]? = some (some (.dct t ds)) ∧ ds.length ≤ lim ∧ putU t ds j d = some ds' ∧ Q () ⟨s1.g.set i (some (.dct t ds')), s1.k⟩ := by
  constructor
  · rintro ⟨u, s', e, q⟩
    unfold gPutD at e
    split at e
    · rename_i t0 ds0 h0
      refine ⟨⟨t0, ds0, h0⟩, ?_⟩
      obtain ⟨j, s1, h1, e⟩ := bd_some e
      refine ⟨j, s1, h1, ?_⟩
      split at e
      · rename_i t ds hg
        split at e
        · rename_i hl
          split at e
          · rename_i ds' hp
            cases e
            exact ⟨t, ds, ds', hg, hl, hp, q⟩
          · cases e
        · cases e
      · cases e
    · cases e
  · rintro ⟨⟨t0, ds0, h0⟩, j, s1, h1, t, ds, ds', hg, hl, hp, q⟩
    refine ⟨(), _, ?_, q⟩
    unfold gPutD
    simp only [h0]
    unfold bd
    simp only [h1, hg, hl, hp, if_true]
@[simp ↓] theorem wp_eGetD {fb : M D} {Q : D → S → Prop} : wp (eGetD i fb) s Q ↔ (∃ t0 ds0, s.g[i]? = some (some (.dct t0 ds0))) ∧ wp fb s fun y s1 => ∃ t ds d, s1.g[i]? = some (some (.dct t ds)) ∧ lookU t ds y = some (some d) ∧ Q d s1 := by
  constructor
  · rintro ⟨u, s', e, q⟩
    unfold eGetD at e
    split at e
    · rename_i t0 ds0 h0
      refine ⟨⟨t0, ds0, h0⟩, ?_⟩
      obtain ⟨j, s1, h1, e⟩ := bd_some e
      refine ⟨j, s1, h1, ?_⟩
      split at e
      · rename_i t ds hg
        split at e
        · rename_i d' hl
          cases e
          exact ⟨t, ds, _, hg, hl, q⟩
        · cases e
      · cases e
    · cases e
  · rintro ⟨⟨t0, ds0, h0⟩, y, s1, h1, t, ds, d, hg, hl, q⟩
    refine ⟨d, s1, ?_, q⟩
    unfold eGetD
    simp only [h0]
    unfold bd
    simp only [h1, hg, hl]
end
end DL
namespace DL
open PySem PySem.Spec PyProof.Rows L2
/-! DL51: several fresh empty cells at once; x in a list or tuple of data; l.index(x). -/
inductive EY where
  | l | k | t
def mtY : EY → Option Val
  | .l => some (.lst [])
  | .k => some (.dct false [])
  | .t => some (.dct true [])
def sF2 (i j : Nat) (y z : EY) : M Fl := fun s => some (.nx, ⟨(s.g.set i (mtY y)).set j (mtY z), s.k⟩)
def sF3 (i j l : Nat) (y z u : EY) : M Fl := fun s => some (.nx, ⟨((s.g.set i (mtY y)).set j (mtY z)).set l (mtY u), s.k⟩)
section
variable {s : S} {i j l : Nat} {y z u : EY} {Z : Fl → S → Prop}
@[simp ↓] theorem wp_sF2 : wp (sF2 i j y z) s Z ↔ Z .nx ⟨(s.g.set i (mtY y)).set j (mtY z), s.k⟩ := ⟨fun ⟨_, _, e, q⟩ => by cases e; exact q, fun q => ⟨_, _, rfl, q⟩⟩
@[simp ↓] theorem wp_sF3 : wp (sF3 i j l y z u) s Z ↔ Z .nx ⟨((s.g.set i (mtY y)).set j (mtY z)).set l (mtY u), s.k⟩ := ⟨fun ⟨_, _, e, q⟩ => by cases e; exact q, fun q => ⟨_, _, rfl, q⟩⟩
end
@[simp] theorem mtY_l : mtY .l = some (.lst []) := rfl
@[simp] theorem mtY_k : mtY .k = some (.dct false []) := rfl
@[simp] theorem mtY_t : mtY .t = some (.dct true []) := rfl
/-! x in data -/
/-! l.index(x) -/
def idxD (d : D) (ds : List D) : Option Nat := ds.findIdx? fun z => PyData.eqv z d
def eIdx (i : Nat) (f : M D) : M D := fun s => match s.g[i]? with
  | some (some (.lst _)) => bd f (fun d s1 => match s1.g[i]? with
    | some (some (.lst ds)) => if SeqAt.shaped d = true ∧ SeqAt.shaped (.list ds) = true then (idxD d ds).map fun j => (.int (j : Nat), s1) else none
    | _ => none) s
  | _ => none
theorem idxD_at {d : D} {ds : List D} {j : Nat} (h : idxD d ds = some j) : ∃ z, ds[j]? = some z ∧ PyData.eqv z d = true ∧ ∀ (m : Nat) (z' : D), m < j → ds[m]? = some z' → PyData.eqv z' d = false := by
  unfold idxD at h
  rw [List.findIdx?_eq_some_iff_getElem] at h
  obtain ⟨hl, h1, h2⟩ := h
  refine ⟨ds[j], List.getElem?_eq_getElem hl, h1, fun m z' hm hz => ?_⟩
  have hml : m < ds.length := by omega
  rw [List.getElem?_eq_getElem hml] at hz
  cases hz
  have := h2 m hm
  simpa using this
@[simp ↓] theorem wp_eIdx {i : Nat} {f : M D} {s : S} {Q : D → S → Prop} : wp (eIdx i f) s Q ↔ (∃ ds0, s.g[i]? = some (some (.lst ds0))) ∧ wp f s fun d s1 => ∃ ds j, s1.g[i]? = some (some (.lst ds)) ∧ (SeqAt.shaped d = true ∧ SeqAt.shaped (.list ds) = true) ∧ idxD d ds = some j ∧ Q (.int (j : Nat)) s1 := by
  constructor
  · rintro ⟨u, s', e, q⟩
    unfold eIdx at e
    split at e
    · rename_i ds0 h0
      refine ⟨⟨ds0, h0⟩, ?_⟩
      obtain ⟨d, s1, h1, e⟩ := bd_some e
      refine ⟨d, s1, h1, ?_⟩
      split at e
      · rename_i ds hg
        split at e
        · rename_i hl
          cases hj : idxD d ds with
          | none => rw [hj] at e; cases e
          | some j => rw [hj] at e; cases e; exact ⟨ds, j, hg, hl, hj, q⟩
        · cases e
      · cases e
    · cases e
  · rintro ⟨⟨ds0, h0⟩, d, s1, h1, ds, j, hg, hl, hj, q⟩
    refine ⟨_, s1, ?_, q⟩
    unfold eIdx
    simp only [h0]
    unfold bd
    simp only [h1, hg, hl, hj, and_self, if_true, Option.map_some]
end DL
namespace PySem.SeqAt
open AutoSeq1 (wpAny_loadPart')
open MeetsSeq
end PySem.SeqAt
namespace DL
open PySem PySem.Spec PyProof.Rows L2
/-! DL52: any data against a text. -/
def neW (d : D) (w : Str) : Bool := match d with
  | .str a => !(a == w)
  | _ => true
def dNeW (x y : D) : Option D := match y with
  | .str w => some (.bool (neW x w))
  | _ => none
@[simp] theorem dNeW_str {x : D} {w : Str} : dNeW x (.str w) = some (.bool (neW x w)) := rfl
end DL
namespace DL
open PySem PySem.Spec PyProof.Rows L2
/-! DL53: a, b = a list. -/
def gTl (n : Nat) (g : List D → M Unit) : D → M Unit := fun d => match d with
  | .list ds => if ds.length = n then g ds else fun _ => none
  | _ => fun _ => none
theorem wp_gTl {n : Nat} {g : List D → M Unit} {ds : List D} {s : S} {Q : Unit → S → Prop} (h : ds.length = n) : wp (gTl n g (.list ds)) s Q ↔ wp (g ds) s Q := by
  show wp (if ds.length = n then g ds else fun _ => none) s Q ↔ _
  rw [if_pos h]
@[simp ↓] theorem wp_gTl2 {g : List D → M Unit} {u v : D} {s : S} {Q : Unit → S → Prop} : wp (gTl 2 g (.list [u, v])) s Q ↔ wp (g [u, v]) s Q := wp_gTl rfl
end DL
namespace PySem.F
end PySem.F
namespace PySem
open Sem (wp)
end PySem
namespace PySem.SeqAt
open AutoSeq1 (wpAny_loadPart')
open MeetsSeq
end PySem.SeqAt
namespace DL
open PySem PySem.Spec PyProof.Rows L2
/-! DL55: () in t, t == (), t != () of any data; sum(l, []). -/
def isP0 : List (D × D) → Bool
  | [(.none, .tuple [])] => true
  | _ => false
def isE : D → Bool
  | .tuple [] => true
  | .dict ds => isP0 ds
  | _ => false
def dIn0 (x y : D) : Option D := match x, y with
  | .tuple [], .tuple ds => some (.bool (ds.any isE))
  | _, _ => none
def dEq0 (x y : D) : Option D := match x, y with
  | .tuple ds, .tuple [] => some (.bool ds.isEmpty)
  | _, _ => none
def dNe0 (x y : D) : Option D := match x, y with
  | .tuple ds, .tuple [] => some (.bool (!ds.isEmpty))
  | _, _ => none
@[simp] theorem dIn0_tup {ds : List D} : dIn0 (.tuple []) (.tuple ds) = some (.bool (ds.any isE)) := rfl
@[simp] theorem dEq0_tup {ds : List D} : dEq0 (.tuple ds) (.tuple []) = some (.bool ds.isEmpty) := rfl
@[simp] theorem dNe0_tup {ds : List D} : dNe0 (.tuple ds) (.tuple []) = some (.bool (!ds.isEmpty)) := rfl
end DL
namespace DL
open PySem PySem.Spec PyProof.Rows L2
/-! DL56: sum(l, []) of a list of lists. -/
inductive LL (H : Hp) : List V → List (List V) → Prop
  | nil : LL H [] []
  | cons {a : Addr} {vs r : List V} {rs : List (List V)} : H a = some (.lst vs) → LL H r rs → LL H (.ref a :: r) (vs :: rs)
section
variable {X : Cx} {pins : List (Addr × Obj)} {σ : St} {H : Hp} {s : Shared}
theorem LL.at {vs : List V} {vss : List (List V)} {us : List Value} (I : Inv X pins σ H s) (h : LL H vs vss) : ∀ (_ : Vals vs us) (j : Nat), ∃ c : Addr × List Value × Nat, j < us.length → us[j]? = some (.ref c.1) ∧ IsL s.heap c.1 c.2.1.toArray c.2.2 ∧ Vals (vss.getD j []) c.2.1 := by
  induction h generalizing us with
  | nil => intro r j; cases r; exact ⟨(0, [], 0), fun h => absurd h (by simp)⟩
  | cons ha hr ih =>
    intro r j
    cases r with
    | cons r t =>
      cases r
      cases j with
      | zero =>
        obtain ⟨z, its, n, rv, hl, e⟩ := I.lstM ha
        exact ⟨(_, its, n), fun _ => ⟨rfl, e, by simpa using rv⟩⟩
      | succ j =>
        obtain ⟨c, hc⟩ := ih t j
        exact ⟨c, fun h => by simpa using hc (by simpa using h)⟩
theorem LL.len {vs : List V} {vss : List (List V)} (h : LL H vs vss) : vs.length = vss.length := by
  induction h with
  | nil => rfl
  | cons _ _ ih => simp [ih]
end
end DL
namespace DL
open PySem PySem.Spec PyProof.Rows L2
/-! DL57: x is True, x is not True, of truth values. -/
end DL
namespace DL
open PySem PySem.Spec PyProof.Rows L2
/-! DL58: dicts with tuples as keys: d[k] of data, d.get(k, x) on cells, dict(l) of pairs. -/
section
variable {K : PySem.W.Frag} {ta tb tc : TE} {fa fb fc : M D}
/-- x.get(k, y), x a dict cell -/
def eGetOrD (i : Nat) (fb fc : M D) : M D := fun s => match s.g[i]? with
  | some (some (.dct _ _)) => bd fb (fun y => bd fc fun z => fun s1 => match s1.g[i]? with
    | some (some (.dct t ds)) => (match lookU t ds y with
      | some (some d) => some (d, s1)
      | some none => some (z, s1)
      | none => none)
    | _ => none) s
  | _ => none
end
/-! dict(l), l a list of pairs whose keys are tuples -/
def mergeT (ds more : List (D × D)) : List (D × D) := more.foldl (fun acc p => putT acc p.1 p.2) ds
def prsT : List D → Option (List (D × D))
  | [] => some []
  | .tuple [k, v] :: r => if (kT k).isSome = true then (prsT r).map ((k, v) :: ·) else none
  | _ => none
end DL
namespace DL
open PySem PySem.Spec PyProof.Rows L2
/-! DL59: a dict of the module with texts as keys: x in T, T[x]. -/
def tabLook (kvs : List (Str × D)) (z : Str) : Option D := (kvs.find? fun p => p.1 == z).map (·.2)
def tabIn (kvs : List (Str × D)) (neg : Bool) : D → Option D
  | .str z => some (.bool (if neg then !(tabLook kvs z).isSome else (tabLook kvs z).isSome))
  | _ => none
end DL
namespace DL
open PySem PySem.Spec PyProof.Rows L2
/-! DL60: an except suite that asks `x and y`. -/
end DL
namespace PySem
open Sem (wp)
open SeqAt
end PySem
namespace DL
open PySem PySem.Spec PyProof.Rows L2
/-! DL61: dict(d) and displays where the keys are tuples of ints. -/
def keyHI : Key → Int
  | .inl i => hashInt i
  | .inr _ => 0
def thI (k : List Key) : Int := reduceHash (Builtin.Tuple.tupleHashOf (k.map keyHI))
def intsK (k : List Key) : Bool := k.all fun x => match x with
  | .inl _ => true
  | .inr _ => false
/-! {k: v, ..} -/
end DL
namespace DL
open PySem PySem.Spec PyProof.Rows L2
/-! DL62: dicts with tuples of ints as keys: copies, displays, len. -/
def thD (d : D) : Int := match kT d with
  | some k => thI k
  | none => 0
def intsT (d : D) : Bool := match kT d with
  | some k => intsK k
  | none => false
/-- it can be copied: tuples of ints, no two of which hash alike -/
def hashOk (ds : List (D × D)) : Bool := (ds.all fun p => intsT p.1) && decide ((ds.map fun p => thD p.1).Nodup)
def nCopyT (fr : M (List D)) : M (List (D × D)) := bd fr fun xs => match xs with
  | [.dict ds] => if hashOk ds = true then rtn ds else fun _ => none
  | _ => fun _ => none
section
variable {X : Cx} {K : PySem.W.Frag} {tr : TA} {fr : M (List D)} {es : List Expr} {pos : Pos}
/-- x = dict(..), a cell -/
def sNewT (i : Nat) (f : M (List (D × D))) : M Fl := bd f fun ds => fun s => some (.nx, { s with g := s.g.set i (some (.dct true ds)) })
end
/-! {k: v, ..} -/
def dDispT (ds : List (D × D)) : Option D := if ds.length ≤ 15 ∧ (ds.all fun p => (kT p.1).isSome) = true then some (.dict (mergeT [] ds)) else none
def eDispT (f : M (List (D × D))) : M D := bd f fun ds => lf (dDispT ds)
end DL
namespace PySem
open Sem (wp)
end PySem
namespace DL
open PySem PySem.Spec PyProof.Rows L2
/-! DL63: len(d); the pure side of dicts with tuple keys. -/
/-! wp -/
section
variable {s : S} {Q : D → S → Prop} {Z : Fl → S → Prop}
@[simp ↓] theorem wp_nCopyT {fr : M (List D)} {Q : List (D × D) → S → Prop} : wp (nCopyT fr) s Q ↔ wp fr s fun xs s1 => ∃ ds, xs = [.dict ds] ∧ hashOk ds = true ∧ Q ds s1 := by
  unfold nCopyT; rw [wp_bd]
  constructor <;> intro h <;> refine wp_mono h fun xs s1 q => ?_
  · split at q
    · rename_i ds
      split at q
      · rename_i hh
        exact ⟨ds, rfl, hh, wp_rtn.mp q⟩
      · exact (wp_no.mp q).elim
    · exact (wp_no.mp q).elim
  · obtain ⟨ds, rfl, hh, q⟩ := q
    simp only [hh, if_true]
    exact wp_rtn.mpr q
@[simp ↓] theorem wp_sNewT {i : Nat} {f : M (List (D × D))} : wp (sNewT i f) s Z ↔ wp f s fun ds s1 => Z .nx ⟨s1.g.set i (some (.dct true ds)), s1.k⟩ := by
  unfold sNewT; rw [wp_bd]
  constructor <;> intro h <;> refine wp_mono h fun ds s1 q => ?_
  · obtain ⟨_, _, e, q⟩ := q; cases e; exact q
  · exact ⟨_, _, rfl, q⟩
@[simp ↓] theorem wp_eDispT {f : M (List (D × D))} : wp (eDispT f) s Q ↔ wp f s fun ds s1 => ∃ d, dDispT ds = some d ∧ Q d s1 := by
  unfold eDispT; simp only [wp_bd, wp_lf]
@[simp ↓] theorem wp_eGetOrD {i : Nat} {fb fc : M D} : wp (eGetOrD i fb fc) s Q ↔ (∃ t ds, s.g[i]? = some (some (.dct t ds))) ∧ wp fb s fun y s1 => wp fc s1 fun z s2 => ∃ t ds o, s2.g[i]? = some (some (.dct t ds)) ∧ lookU t ds y = some o ∧ Q (o.getD z) s2 := by
  constructor
  · rintro ⟨a, s', e, q⟩
    unfold eGetOrD at e
    split at e
    · rename_i t0 ds0 hg
      refine ⟨⟨t0, ds0, hg⟩, ?_⟩
      obtain ⟨y, s1, e1, e⟩ := bd_some e
      obtain ⟨z, s2, e2, e⟩ := bd_some e
      refine ⟨y, s1, e1, z, s2, e2, ?_⟩
      split at e
      · rename_i t ds hg2
        split at e
        · rename_i d hl; cases e; exact ⟨t, ds, some a, hg2, hl, q⟩
        · rename_i hl; cases e; exact ⟨t, ds, none, hg2, hl, q⟩
        · cases e
      · cases e
    · cases e
  · rintro ⟨⟨t0, ds0, hg⟩, y, s1, e1, z, s2, e2, t, ds, o, hg2, hl, q⟩
    refine ⟨o.getD z, s2, ?_, q⟩
    unfold eGetOrD
    rw [hg]
    show bd fb _ s = _
    unfold bd
    rw [e1]
    dsimp only
    rw [e2]
    simp only [hg2, hl]
    cases o <;> rfl
end
end DL
namespace DL
open PySem PySem.Spec PyProof.Rows L2
/-! DL64: list(d) of a dict that is data. -/
end DL
namespace DL
open PySem PySem.Spec PyProof.Rows L2
/-! DL65: sum of a tuple of ints. -/
end DL
namespace DL
open PySem PySem.Spec PyProof.Rows L2
/-! DL66: defs whose result is a new object; a borrowed call that gives a list of lists. -/
/-- v is no object that was seen -/
def NotOld (P : Addr → Prop) (H : Hp) : V → Prop
  | .ref a => ∀ o, H a = some o → P a
  | _ => True
theorem NotOld.back {hid P P1 : Addr → Prop} {H H1 : Hp} {v : V} (n : NotOld P1 H1 v) (z : Stp hid P P1 H H1) : NotOld P H v := by
  cases v with
  | ref a =>
    intro o e
    by_cases h : P a
    · exact h
    · exact absurd (n o (z.keep a o e (.inr h))) (z.vis a o e h)
  | _ => trivial
theorem NotOld.new {hid P P1 : Addr → Prop} {H H1 : Hp} {p : Addr} (z : Stp hid P P1 H H1) (h : H1 p = none) : NotOld P H (.ref p) := by
  intro o e
  by_cases hp : P p
  · exact hp
  · have := z.keep p o e (.inr hp)
    rw [h] at this; cases this
def FlOkF (K : PySem.W.Frag) (A : DA) (hid P : Addr → Prop) (H : Hp) (s' : S) (D : Ends) : Fl → Prop
  | .nx => FlOk K A hid P H s' D .nx
  | .rt d => ∀ v σ' P' H', SOk K A hid P' s' σ' H' → Stp hid P P' H H' → Rp K (mask P' H') v d → NotOld P H v → D.rt v H'
  | .bk => FlOk K A hid P H s' D .bk
  | .ct => FlOk K A hid P H s' D .ct
theorem FlOkF.back {K : PySem.W.Frag} {A : DA} {hid P P1 : Addr → Prop} {H H1 : Hp} {s' : S} {D : Ends} {fl : Fl} (h : FlOkF K A hid P H s' D fl) (z : Stp hid P P1 H H1) : FlOkF K A hid P1 H1 s' D fl := by
  cases fl with
  | nx => exact FlOk.back (fl := .nx) h z
  | rt d => exact fun v σ' P' H' o e r n => h v σ' P' H' o (z.trans e) r (n.back z)
  | bk => exact FlOk.back (fl := .bk) h z
  | ct => exact FlOk.back (fl := .ct) h z
def EvSF (K : PySem.W.Frag) (t : TS) (f : M Fl) : Prop := ∀ (A : DA) (hid P : Addr → Prop) (s : S) (σ : St) (H : Hp) (fl : Fl) (s' : S), SOk K A hid P s σ H → f s = some (fl, s') →
  ∀ D : Ends, FlOkF K A hid P H s' D fl → t D σ H
def NoRt (m : M Fl) : Prop := ∀ s d s', m s ≠ some (.rt d, s')
theorem EvSF.of {K : PySem.W.Frag} {t : TS} {m : M Fl} (h : EvS K t m) (n : NoRt m) : EvSF K t m := by
  intro A hid P s σ H fl s' ok e D q
  cases fl with
  | nx => exact h A hid P s σ H _ s' ok e D q
  | rt d => exact absurd e (n s d s')
  | bk => exact h A hid P s σ H _ s' ok e D q
  | ct => exact h A hid P s σ H _ s' ok e D q
/-- return x, x an own list -/
def eGiveN (i : Nat) : M D := fun s => match s.g[i]? with
  | some (some (.lst ds)) => some (.list ds, { s with g := s.g.set i (some (.dat (.list ds))) })
  | _ => none
@[simp ↓] theorem wp_eGiveN {i : Nat} {s : S} {Q : D → S → Prop} : wp (eGiveN i) s Q ↔ ∃ ds, s.g[i]? = some (some (.lst ds)) ∧ Q (.list ds) ⟨s.g.set i (some (.dat (.list ds))), s.k⟩ := by
  unfold wp eGiveN
  constructor
  · rintro ⟨a, s', e, q⟩
    split at e
    · rename_i ds hg; cases e; exact ⟨ds, hg, q⟩
    · cases e
  · rintro ⟨ds, hg, q⟩
    exact ⟨_, _, by simp only [hg], q⟩
/-! the def -/
/-! the call -/
def isIn : D → Bool
  | .int _ => true
  | _ => false
/-- the two differ, as far as a look tells -/
def diffL : List D → List D → Bool
  | [], [] => false
  | x :: _, y :: _ => isIn x != isIn y
  | _, _ => true
def okE (cs : List (List D)) : D → Bool
  | .list fs => noMutA fs && cs.all fun c => diffL c fs
  | d => noMut d
def okN (cs : List (List D)) : D → Bool
  | .list es => es.all (okE cs)
  | d => noMut d
def cellL (s : S) (i : Nat) : Option (List D) := match s.g[i]? with
  | some (some (.lst c)) => some c
  | _ => none
def eCallBN (B : List Nat) (sem : FS) (fr : M (List AV)) : M D := bd fr fun avs => fun s => match B.mapM (cellL s) with
  | some cs => (match avs.mapM (res s) with
    | some xs => (match sem xs s.k with
      | some (d, k') => if okN cs d = true then some (d, { s with k := k' }) else none
      | none => none)
    | none => none)
  | none => none
@[simp ↓] theorem wp_callN {B : List Nat} {sem : FS} {fr : M (List AV)} {s : S} {Q : D → S → Prop} : wp (eCallBN B sem fr) s Q ↔ wp fr s fun avs s1 => ∃ cs, B.mapM (cellL s1) = some cs ∧ ∃ xs, avs.mapM (res s1) = some xs ∧ fp sem xs s1.k fun d k' => okN cs d = true ∧ Q d ⟨s1.g, k'⟩ := by
  unfold eCallBN
  rw [wp_bd]
  constructor <;> intro h <;> refine wp_mono h fun avs s1 q => ?_
  · obtain ⟨d, s', e, q⟩ := q
    dsimp only at e
    split at e
    · rename_i cs hc
      split at e
      · rename_i xs hx
        split at e
        · rename_i d' k' hs
          split at e
          · rename_i hm
            cases e
            exact ⟨cs, hc, xs, hx, _, _, hs, hm, q⟩
          · cases e
        · cases e
      · cases e
    · cases e
  · obtain ⟨cs, hc, xs, e, d, k', e2, hm, q⟩ := q
    refine ⟨d, ⟨s1.g, k'⟩, ?_, q⟩
    simp only [hc, e, e2, hm, if_true]
end DL
namespace DL
open PySem PySem.Spec PyProof.Rows L2
/-! DL67: a for whose body may raise. -/
def xloop (asg : D → M Unit) (body : MX Fl) : List D → MX Fl
  | [] => fun s => some (.ok .nx, s)
  | x :: r => fun s => match asg x s with
    | some (_, s1) => (match body s1 with
      | some (.ok .nx, s2) => xloop asg body r s2
      | some (.ok .ct, s2) => xloop asg body r s2
      | some (.ok .bk, s2) => some (.ok .nx, s2)
      | some (.ok (.rt d), s2) => some (.ok (.rt d), s2)
      | some (.xc c, s2) => some (.xc c, s2)
      | none => none)
    | none => none
def xFor (it : M (List D)) (asg : D → M Unit) (body : MX Fl) : MX Fl := fun s => match it s with
  | some (ds, s1) => xloop asg body ds s1
  | none => none
@[simp ↓] theorem wp_xFor {it : M (List D)} {asg : D → M Unit} {body : MX Fl} {s : S} {Q : RX Fl → S → Prop} : wp (α := RX Fl) (xFor it asg body) s Q ↔ wp it s fun ds s1 => wp (α := RX Fl) (xloop asg body ds) s1 Q := by
  unfold wp xFor
  constructor
  · rintro ⟨a, s', e, q⟩
    split at e
    · rename_i ds s1 h; exact ⟨_, _, h, _, _, e, q⟩
    · cases e
  · rintro ⟨ds, s1, h, a, s', e, q⟩
    exact ⟨_, _, by rw [h]; exact e, q⟩
end DL
namespace DL
open PySem PySem.Spec PyProof.Rows L2
/-! DL68: expressions with calls inside that may raise. -/
def bx {α β : Type} (f : MX α) (g : α → MX β) : MX β := fun s => match f s with
  | some (.ok a, s1) => g a s1
  | some (.xc c, s1) => some (.xc c, s1)
  | none => none
def lx {α : Type} (o : Option α) : MX α := fun s => o.map fun d => (.ok d, s)
def xOp2 (op : D → D → Option D) (fa fb : MX D) : MX D := bx fa fun x => bx fb fun y => lx (op x y)
def xTup (fr : MX (List D)) : MX D := bx fr fun ds => if ds.length ≤ lim then lx (some (.tuple ds)) else lx none
theorem bx_some {α β : Type} {f : MX α} {g : α → MX β} {s s' : S} {r : RX β} (e : bx f g s = some (r, s')) : (∃ a s1, f s = some (.ok a, s1) ∧ g a s1 = some (r, s')) ∨ ∃ c, f s = some (.xc c, s') ∧ r = .xc c := by
  unfold bx at e
  split at e
  · rename_i a s1 h; exact .inl ⟨a, s1, h, e⟩
  · rename_i c s1 h; cases e; exact .inr ⟨c, h, rfl⟩
  · cases e
theorem lx_some {α : Type} {o : Option α} {s s' : S} {r : RX α} (e : lx o s = some (r, s')) : ∃ a, o = some a ∧ r = .ok a ∧ s' = s := by
  unfold lx at e
  cases o with
  | none => cases e
  | some a => cases e; exact ⟨a, rfl, rfl, rfl⟩
/-! wp -/
section
variable {s : S}
@[simp ↓] theorem wp_bx {α β : Type} {f : MX α} {g : α → MX β} {Q : RX β → S → Prop} : wp (α := RX β) (bx f g) s Q ↔ wp (α := RX α) f s fun r s1 => match r with
    | .ok a => wp (α := RX β) (g a) s1 Q
    | .xc c => Q (.xc c) s1 := by
  unfold wp bx
  constructor
  · rintro ⟨r, s', e, q⟩
    split at e
    · rename_i a s1 h; exact ⟨_, _, h, _, _, e, q⟩
    · rename_i c s1 h; cases e; exact ⟨_, _, h, q⟩
    · cases e
  · rintro ⟨r, s1, h, q⟩
    rw [h]
    cases r with
    | ok a => exact q
    | xc c => exact ⟨_, _, rfl, q⟩
@[simp ↓] theorem wp_lx {α : Type} {o : Option α} {Q : RX α → S → Prop} : wp (α := RX α) (lx o) s Q ↔ ∃ a, o = some a ∧ Q (.ok a) s := by
  unfold wp lx
  constructor
  · rintro ⟨r, s', e, q⟩
    cases o with
    | none => cases e
    | some a => cases e; exact ⟨a, rfl, q⟩
  · rintro ⟨a, rfl, q⟩
    exact ⟨_, _, rfl, q⟩
end
end DL
namespace DL
open PySem PySem.Spec PyProof.Rows L2
/-! DL69: a for over what a raising call gives. -/
def axQ (f : MX D) : MX (List D) := bx f fun x => match x with
  | .list ds => lx (some ds)
  | .tuple ds => lx (some ds)
  | .dict [(.none, .tuple ds)] => lx (some ds)
  | _ => lx none
def xForX (it : MX (List D)) (asg : D → M Unit) (body : MX Fl) : MX Fl := bx it fun ds => xloop asg body ds
@[simp ↓] theorem wp_xForX {it : MX (List D)} {asg : D → M Unit} {body : MX Fl} {s : S} {Q : RX Fl → S → Prop} : wp (α := RX Fl) (xForX it asg body) s Q ↔ wp (α := RX (List D)) it s fun r s1 => match r with
    | .ok ds => wp (α := RX Fl) (xloop asg body ds) s1 Q
    | .xc c => Q (.xc c) s1 := by
  unfold xForX
  rw [wp_bx]
  constructor <;> intro h <;> refine wp_mono (α := RX (List D)) h fun r s1 q => ?_ <;> cases r <;> exact q
end DL
namespace DL
open PySem PySem.Spec PyProof.Rows L2
/-! DL70: plain tuples: made, and dict(a plain tuple of pairs), keys tuples. -/
def dTupleP : List D → Option D
  | [.list a] => some (.dict [(.none, .tuple a)])
  | _ => none
@[simp] theorem dTupleP_l {a : List D} : dTupleP [.list a] = some (.dict [(.none, .tuple a)]) := rfl
/-! a display -/
def eTupP (fr : M (List D)) : M D := bd fr fun ds => if ds.length ≤ lim then rtn (.dict [(.none, .tuple ds)]) else fun _ => none
@[simp ↓] theorem wp_eTupP {fr : M (List D)} {s : S} {Q : D → S → Prop} : wp (eTupP fr) s Q ↔ wp fr s fun ds s1 => ds.length ≤ lim ∧ Q (.dict [(.none, .tuple ds)]) s1 := by
  unfold eTupP; rw [wp_bd]
  constructor <;> intro h <;> refine wp_mono h fun ds s1 q => ?_
  · split at q
    · rename_i hl; exact ⟨hl, wp_rtn.mp q⟩
    · exact (wp_no.mp q).elim
  · rw [if_pos q.1]; exact wp_rtn.mpr q.2
/-! dict(a plain tuple) -/
def asPr : List D → Option (List (D × D))
  | [.dict [(.none, .tuple ps)]] => (prsT ps).map (mergeT [])
  | _ => none
theorem asPr_some {xs : List D} {ds : List (D × D)} (h : asPr xs = some ds) : ∃ ps kvs, xs = [.dict [(.none, .tuple ps)]] ∧ prsT ps = some kvs ∧ ds = mergeT [] kvs := by
  unfold asPr at h
  split at h
  · rename_i ps
    cases e : prsT ps with
    | none => rw [e] at h; cases h
    | some kvs => rw [e] at h; cases h; exact ⟨ps, kvs, rfl, e, rfl⟩
  · cases h
def nPairsT (fr : M (List D)) : M (List (D × D)) := bd fr fun xs => lf (asPr xs)
@[simp ↓] theorem wp_nPairsT {fr : M (List D)} {s : S} {Q : List (D × D) → S → Prop} : wp (nPairsT fr) s Q ↔ wp fr s fun xs s1 => ∃ ps kvs, xs = [.dict [(.none, .tuple ps)]] ∧ prsT ps = some kvs ∧ Q (mergeT [] kvs) s1 := by
  unfold nPairsT; rw [wp_bd]
  constructor <;> intro h <;> refine wp_mono h fun xs s1 q => ?_
  · obtain ⟨ds, e, q⟩ := wp_lf.mp q
    obtain ⟨ps, kvs, rfl, hk, rfl⟩ := asPr_some e
    exact ⟨ps, kvs, rfl, hk, q⟩
  · obtain ⟨ps, kvs, rfl, hk, q⟩ := q
    exact wp_lf.mpr ⟨_, by simp [asPr, hk], q⟩
end DL
namespace DL
open PySem PySem.Spec PyProof.Rows L2
/-! DL71: [.. for k in l[i] ..], l[i] a dict. -/
def itX (i j : Nat) : M (List D) := fun s => match s.g[i]?, s.g[j]? with
  | some (some (.dat x)), some (some (.dat y)) => (match dIx x y with
    | some (.dict kvs) => if isP kvs = true then none else some (kvs.map (·.1), s)
    | _ => none)
  | _, _ => none
theorem itX_some {i j : Nat} {s s1 : S} {ds : List D} (e : itX i j s = some (ds, s1)) : ∃ x y kvs, s.g[i]? = some (some (.dat x)) ∧ s.g[j]? = some (some (.dat y)) ∧ dIx x y = some (.dict kvs) ∧ isP kvs = false ∧ ds = kvs.map (·.1) ∧ s1 = s := by
  unfold itX at e
  split at e
  · rename_i x y h1 h2
    split at e
    · rename_i kvs h3
      split at e
      · cases e
      · rename_i np
        cases e
        exact ⟨x, y, kvs, h1, h2, h3, by simpa using np, rfl, rfl⟩
    · cases e
  · cases e
@[simp ↓] theorem wp_itX {i j : Nat} {s : S} {Q : List D → S → Prop} : wp (itX i j) s Q ↔ match s.g[i]?, s.g[j]? with
    | some (some (.dat x)), some (some (.dat y)) => ∃ kvs, dIx x y = some (.dict kvs) ∧ isP kvs = false ∧ Q (kvs.map (·.1)) s
    | _, _ => False := by
  constructor
  · intro ⟨ds, s1, e, q⟩
    obtain ⟨x, y, kvs, h1, h2, h3, h4, rfl, rfl⟩ := itX_some e
    rw [h1, h2]
    exact ⟨kvs, h3, h4, q⟩
  · intro h
    split at h
    · rename_i x y h1 h2
      obtain ⟨kvs, h3, h4, q⟩ := h
      exact ⟨_, s, by simp [itX, h1, h2, h3, h4], q⟩
    · exact h.elim
end DL
namespace DL
open PySem PySem.Spec PyProof.Rows L2
/-! DL72: f(raising, ..), raising if c else raising, x and y in an except suite. -/
def xOwn (sem : FS) (fr : MX (List D)) : MX D := bx fr fun ds => fun s => match sem (ds.map Val.dat) s.k with
  | some (d, k') => some (.ok d, { s with k := k' })
  | none => none
def xIfE (c : M Bool) (fa fb : MX D) : MX D := fun s => match c s with
  | some (b, s1) => if b = true then fa s1 else fb s1
  | none => none
section
variable {s : S}
theorem wp_lx_ok {α : Type} {x : α} {Q : RX α → S → Prop} (h : wp (α := RX α) (lx (some x)) s Q) : Q (.ok x) s := by
  obtain ⟨r, s1, e, q⟩ := h
  cases e; exact q
theorem wp_lx_no {α : Type} {Q : RX α → S → Prop} (h : wp (α := RX α) (lx none) s Q) : False := by
  obtain ⟨r, s1, e, q⟩ := h
  cases e
@[simp ↓] theorem wp_axQ {f : MX D} {Q : RX (List D) → S → Prop} : wp (α := RX (List D)) (axQ f) s Q ↔ wp (α := RX D) f s fun r s1 => match r with
    | .ok d => ∃ ds, (d = .list ds ∨ d = .tuple ds ∨ d = .dict [(.none, .tuple ds)]) ∧ Q (.ok ds) s1
    | .xc c => Q (.xc c) s1 := by
  unfold axQ
  rw [wp_bx]
  constructor <;> intro h <;> refine wp_mono (α := RX D) h fun r s1 q => ?_
  · cases r with
    | xc c => exact q
    | ok d =>
      dsimp only at q
      split at q
      · exact ⟨_, .inl rfl, wp_lx_ok q⟩
      · exact ⟨_, .inr (.inl rfl), wp_lx_ok q⟩
      · exact ⟨_, .inr (.inr rfl), wp_lx_ok q⟩
      · exact (wp_lx_no q).elim
  · cases r with
    | xc c => exact q
    | ok d => obtain ⟨ds, rfl | rfl | rfl, q⟩ := q <;> exact ⟨_, _, rfl, q⟩
@[simp ↓] theorem wp_xTup {fr : MX (List D)} {Q : RX D → S → Prop} : wp (α := RX D) (xTup fr) s Q ↔ wp (α := RX (List D)) fr s fun r s1 => match r with
    | .ok ds => ds.length ≤ lim ∧ Q (.ok (.tuple ds)) s1
    | .xc c => Q (.xc c) s1 := by
  unfold xTup
  rw [wp_bx]
  constructor <;> intro h <;> refine wp_mono (α := RX (List D)) h fun r s1 q => ?_
  · cases r with
    | xc c => exact q
    | ok ds =>
      dsimp only at q ⊢
      by_cases hl : ds.length ≤ lim
      · rw [if_pos hl] at q
        exact ⟨hl, wp_lx_ok q⟩
      · rw [if_neg hl] at q
        exact (wp_lx_no q).elim
  · cases r with
    | xc c => exact q
    | ok ds =>
      dsimp only at q ⊢
      rw [if_pos q.1]
      exact ⟨_, _, rfl, q.2⟩
@[simp ↓] theorem wp_xOp2 {op : D → D → Option D} {fa fb : MX D} {Q : RX D → S → Prop} : wp (α := RX D) (xOp2 op fa fb) s Q ↔ wp (α := RX D) fa s fun r s1 => match r with
    | .ok x => wp (α := RX D) fb s1 fun r2 s2 => (match r2 with
      | .ok y => ∃ d, op x y = some d ∧ Q (.ok d) s2
      | .xc c => Q (.xc c) s2)
    | .xc c => Q (.xc c) s1 := by
  unfold xOp2
  rw [wp_bx]
  constructor <;> intro h <;> refine wp_mono (α := RX D) h fun r s1 q => ?_ <;> cases r with
  | xc c => exact q
  | ok x =>
    dsimp only at q ⊢
    first
    | (rw [wp_bx] at q
       refine wp_mono (α := RX D) q fun r2 s2 q => ?_
       cases r2 with
       | xc c => exact q
       | ok y => exact wp_lx.mp q)
    | (rw [wp_bx]
       refine wp_mono (α := RX D) q fun r2 s2 q => ?_
       cases r2 with
       | xc c => exact q
       | ok y => exact wp_lx.mpr q)
@[simp ↓] theorem wp_xOwn {sem : FS} {fr : MX (List D)} {Q : RX D → S → Prop} : wp (α := RX D) (xOwn sem fr) s Q ↔ wp (α := RX (List D)) fr s fun r s1 => match r with
    | .ok ds => fp sem (ds.map Val.dat) s1.k fun d k' => Q (.ok d) ⟨s1.g, k'⟩
    | .xc c => Q (.xc c) s1 := by
  unfold xOwn
  rw [wp_bx]
  constructor <;> intro h <;> refine wp_mono (α := RX (List D)) h fun r s1 q => ?_
  · cases r with
    | xc c => exact q
    | ok ds =>
      dsimp only at q ⊢
      obtain ⟨r, s2, e, q⟩ := q
      dsimp only at e
      split at e
      · rename_i d k' hs
        cases e
        exact ⟨d, k', hs, q⟩
      · cases e
  · cases r with
    | xc c => exact q
    | ok ds =>
      dsimp only at q ⊢
      obtain ⟨d, k', hs, q⟩ := q
      exact ⟨_, _, by simp only [hs], q⟩
@[simp ↓] theorem wp_xIfE {c : M Bool} {fa fb : MX D} {Q : RX D → S → Prop} : wp (α := RX D) (xIfE c fa fb) s Q ↔ wp c s fun b s1 => if b = true then wp (α := RX D) fa s1 Q else wp (α := RX D) fb s1 Q := by
  constructor
  · rintro ⟨r, s', e, q⟩
    unfold xIfE at e
    split at e
    · rename_i b s1 h1
      refine ⟨b, s1, h1, ?_⟩
      cases b with
      | true => rw [if_pos rfl] at e ⊢; exact ⟨r, s', e, q⟩
      | false => rw [if_neg Bool.false_ne_true] at e ⊢; exact ⟨r, s', e, q⟩
    · cases e
  · rintro ⟨b, s1, h1, q⟩
    cases b with
    | true => rw [if_pos rfl] at q; obtain ⟨r, s', e, q⟩ := q; exact ⟨r, s', by unfold xIfE; simp only [h1]; exact e, q⟩
    | false => rw [if_neg Bool.false_ne_true] at q; obtain ⟨r, s', e, q⟩ := q; exact ⟨r, s', by unfold xIfE; simp only [h1]; exact e, q⟩
end
end DL
namespace PySem.SeqAt
open PySem PySem.Calls PyProof.Rows PyProof.V PySem.Spec
end PySem.SeqAt
namespace DL
open PySem PySem.Spec PyProof.Rows L2
/-! DL73: a dict != {}. -/
def dNe0D (x y : D) : Option D := match x, y with
  | .dict ds, .dict [] => if isP ds = true then none else some (.bool (!(ds.length == 0)))
  | _, _ => none
@[simp] theorem dNe0D_e {ds : List (D × D)} : dNe0D (.dict ds) (.dict []) = if isP ds = true then none else some (.bool (!(ds.length == 0))) := rfl
end DL
namespace DL
open PySem PySem.Spec PyProof.Rows L2
open LamX (TabB TabS Tabs CodeO LamS lamEnv lamCx)
/-! DL74: a lambda handed to a def that tells what its call gives, or how it is refused. -/
/-! ### what is told of a call -/
/-- the first clause that takes the class answers -/
def hsel : List ((Str → Option Bool) × D) → Str → Option D
  | [], _ => none
  | (tb, d) :: r, c => match tb c with
    | some true => some d
    | some false => hsel r c
    | none => none
def eTold (ok : Str) (hs : List ((Str → Option Bool) × D)) (fm : MX D) : M D := fun s => match fm s with
  | some (.ok d, s') => some (.list [.str ok, d], s')
  | some (.xc c, s') => (hsel hs c.c).map fun d => (d, s')
  | none => none
end DL
namespace DL
open PySem PySem.Spec PyProof.Rows L2
/-! DL75: the end of a law whose own def makes lambdas. -/
/-- where law's table stands -/
theorem lawTab_of {K : PySem.W.Frag} {mg : Str → Option Value} {base : Heap} {c T0 f : Addr} (hn : PySem.W.nsIn K mainGlobals "law" = some (some (.ref f))) (hti : PySem.W.tabIn K "law" = some (c, T0)) (tb : LamX.TabB base mg c T0) : ∀ cdv, LookC K f cdv → LawTab K mg base cdv := by
  rintro cdv ⟨oc, od, fd, osl, lk, rfl⟩
  have e : tbsOf K = [(T0, ("law" : Str) ++ ".<locals>.<lambda>")] := by simp [tbsOf, lamDefs, hti]
  refine ⟨c, T0, ?_, ?_, tb⟩
  · rw [e]; exact List.mem_singleton.mpr rfl
  · unfold PySem.W.tabIn at hti
    rw [hn] at hti
    simp only [lk] at hti
    split at hti
    · rename_i c2 hc
      rw [hc]
      split at hti
      · split at hti
        · cases hti; rfl
        · cases hti
      · cases hti
    · cases hti
theorem LawTab.at {K : PySem.W.Frag} {mg : Str → Option Value} {base : Heap} {cdv : Value} (h : LawTab K mg base cdv) : ∃ c P : Addr, cdv = .ref c ∧ LamX.TabB base mg c P ∧ (P, ("law" : Str) ++ ".<locals>." ++ "<lambda>") ∈ tbsOf K ∧ ∀ p ∈ tbsOf K, p.1 = P → p.2 = ("law" : Str) ++ ".<locals>." ++ "<lambda>" := by
  obtain ⟨c, P, h1, h2, h3⟩ := h.ex
  have s0 : (("law" : Str) ++ ".<locals>." ++ "<lambda>") = "law.<locals>.<lambda>" := by decide
  refine ⟨c, P, h2, h3, by rw [s0]; exact h1, fun p hp _ => ?_⟩
  rw [s0]
  have key : ∀ p ∈ tbsOf K, p.2 = ("law.<locals>.<lambda>" : Str) := by
    intro p hp
    unfold tbsOf lamDefs at hp
    simp only [List.filterMap_cons, List.filterMap_nil] at hp
    split at hp
    · cases hp
    · rename_i b hb
      obtain rfl := List.mem_singleton.mp hp
      cases hq : PySem.W.tabIn K "law" with
      | none => rw [hq] at hb; cases hb
      | some z => rw [hq] at hb; cases hb; rfl
  exact key p hp
section
variable {P : Program} {w : World} {K : PySem.W.Frag} {mg : Str → Option Value} {base : Heap}
/-- the law's def is called -/
theorem law_callGT {mb : Str → Option Value} {k : Nat} {fa a c T0 : Addr} {fd : FuncData} {x : Str} {sp : Sp} {s₁ : Shared} {vs : List Value} {ns : List Int}
    (kx : K.In s₁.heap) (gl : s₁.heap.Ns mainGlobals mg) (bl : s₁.heap.Ns builtinsNs mb) (blb : ∀ x : Str, x ≠ "__name__" → mb x = bootBuiltins x) (lim : s₁.heap.NoLimit) (gens : s₁.gens = #[])
    (obj : s₁.heap.get? a = some { cls := .type "list", data := .seq vs.toArray }) (inN : IntsAre vs ns) (short : ns.length ≤ sizeLine) (room : Room k callerA) (hT : s₁.heap.get? T0 = some { cls := .none, data := .fields #[] }) (nT : K.lookup T0 = none) (C : PySem.W.CodeHd s₁.heap c T0) (hti : PySem.W.tabIn K "law" = some (c, T0))
    (hbm : ∃ (bm : Addr) (ob : Obj), mg "__builtins__" = some (.ref bm) ∧ bm ≠ builtinsNs ∧ s₁.heap.get? bm = some ob ∧ ob.cls = .type "module" ∧ ob.dict = some builtinsNs ∧ ob.data = .plain)
    (fn : ∀ base : Heap, K.In base → base.Ns mainGlobals mg → LamX.TabB base mg c T0 → FnG P w K mg base k fa fd [x] sp) (binds : ∀ (s : Shared) (u : Value), BindsTo s fd ⟨[u], []⟩ [(x, u)])
    (prom : ∀ H : Hp, LamX.Tabs (tbsOf K) H → SqL K H a (ns.map V.int) → sp [.ref a] H (fun v _ => v = .bl true) fun _ _ _ => False) :
    codeAny (model P w) callerA (.call (.ref fa) ⟨[.ref a], []⟩) (fun r s' => r = .ok (.ret (.bool true)) ∧ OldK s₁.heap s'.heap ∧ s'.os = s₁.os ∧ AllBare s'.gens) s₁ := by
  have rel := vals_ints inN
  have lenV := inN.length
  have naT : a ≠ T0 := fun z => by
    rw [z, hT] at obj
    have z2 : Data.fields #[] = Data.seq vs.toArray _ := congrArg Obj.data (Option.some.inj obj)
    cases z2
  have main : ∀ H : Hp, H T0 = some (.tbl #[]) → (∀ b, H b = none ∨ b = T0 ∨ ∃ o xs, H b = some (.frz o (.lst xs))) → SqL K H a (ns.map V.int) → HOk P w H s₁.heap → (∀ b, H b ≠ none → b = a ∨ b = T0) → (H a ≠ none → K.lookup a = none) →
      codeAny (model P w) callerA (.call (.ref fa) ⟨[.ref a], []⟩) (fun r s' => r = .ok (.ret (.bool true)) ∧ OldK s₁.heap s'.heap ∧ s'.os = s₁.os ∧ AllBare s'.gens) s₁ := by
    intro H hHT only seq held oneA noK
    have isA : ∀ {b : Addr} {u : HO}, H b = some u → b = a ∨ b = T0 := fun {b u} q => oneA b (by rw [q]; simp)
    have inB : ∀ {b : Addr} {o : Obj}, s₁.heap.get? b = some o → H b = none → (hidT s₁.heap H).get? b = some o := fun e n => hidT_get e n
    have dictFree : ∀ {b : Addr} {o : Obj} {es : Array DictEntry} {ep : Nat}, s₁.heap.get? b = some o → o.data = .dict es ep → H b = none := by
      intro b o es ep e d
      cases q : H b with
      | none => rfl
      | some u =>
        rcases isA q with rfl | rfl
        · rw [obj] at e; cases e
          have dd : Data.seq vs.toArray _ = Data.dict es ep := d
          cases dd
        · rw [hT] at e; cases e
          have dd : Data.fields #[] = Data.dict es ep := d
          cases dd
    have nsB : ∀ {b : Addr} {m : Str → Option Value}, s₁.heap.Ns b m → (hidT s₁.heap H).Ns b m := fun {b m} ⟨o, es, ep, e, d, r⟩ => ⟨o, es, ep, inB e (dictFree e d), d, r⟩
    have kB : K.In (hidT s₁.heap H) := by
      intro b o e
      refine inB (kx b o e) ?_
      cases q : H b with
      | none => rfl
      | some u =>
        rcases isA q with rfl | rfl
        · rw [noK (by rw [q]; simp)] at e; cases e
        · rw [nT] at e; cases e
    have free : ∀ {b : Addr} {o : Obj}, s₁.heap.get? b = some o → (∀ vs n, o.data ≠ .seq vs n) → o.data ≠ .fields #[] → H b = none := by
      intro b o e n1 n2
      cases q : H b with
      | none => rfl
      | some u =>
        rcases isA q with rfl | rfl
        · rw [obj] at e; cases e; exact (n1 _ _ rfl).elim
        · rw [hT] at e; cases e; exact (n2 rfl).elim
    have tb : LamX.TabB (hidT s₁.heap H) mg c T0 := by
      refine ⟨?_, ?_, fun z => ?_⟩
      · obtain ⟨o, us, file, tf, flags, tg, inF, text, tt, e1, r1, r2, r3, r4, r5, r6, r7, r8, hne⟩ := C
        refine ⟨o, us, file, tf, flags, tg, inF, text, tt, inB e1 (free e1 (fun vs n z => ?_) fun z => ?_), r1, r2, r3, r4, r5, r6, r7, r8, hne⟩
        · rw [r2] at z; cases z
        · rw [r2] at z; cases z; simp at r3
      · obtain ⟨bm, ob, b1, b2, b3, b4, b5, b6⟩ := hbm
        refine ⟨bm, ob, b1, b2, fun q => ?_, fun q => ?_, inB b3 (free b3 (fun vs n z => ?_) fun z => ?_), b4, b5, b6⟩
        · obtain ⟨o, es, ep, e, hd, _⟩ := gl
          rw [q, e] at b3; cases b3; rw [hd] at b6; cases b6
        · rw [q, hT] at b3; cases b3; cases b6
        · rw [b6] at z; cases z
        · rw [b6] at z; cases z
      · obtain ⟨o, es, ep, e, hd, _⟩ := gl
        rw [z, hT] at e; cases e; cases hd
    have tabs : LamX.Tabs (tbsOf K) H := by
      intro p hp
      have e : tbsOf K = [(T0, ("law" : Str) ++ ".<locals>.<lambda>")] := by simp [tbsOf, lamDefs, hti]
      rw [e] at hp
      obtain rfl := List.mem_singleton.mp hp
      exact LamX.TabS.nil hHT
    have md : Mod K mg (hidT s₁.heap H) := ⟨kB, nsB gl, ⟨mb, nsB bl, blb⟩, let ⟨mc, h1, h2⟩ := lim; ⟨mc, nsB h1, h2⟩⟩
    have en : Env0 P w K mg (hidT s₁.heap H) callerA [] s₁ H := ⟨rfl, md, fun b o e => of_hidT e, Nat.le_of_eq (hidT_size _ _), trivial, fun b z => absurd (show b ∈ ([] : List Addr) from z) (by simp), held, .of_eq gens⟩
    refine codeAny_mono ((fn _ kB (nsB gl) tb).run callerA [] s₁ H ⟨[.ref a], []⟩ [.ref a] [.ref a] _ _ rfl room en (binds s₁ (.ref a)) (.cons rfl .nil) (prom H tabs seq)) fun r s' res => ?_
    cases r with
    | error e => exact False.elim res
    | ok fl =>
      cases fl with
      | next => exact False.elim res
      | brk => exact False.elim res
      | cont => exact False.elim res
      | ret u =>
        obtain ⟨v, H', os, bare, un, held', rv, q⟩ := res
        have q : v = .bl true := q
        subst q
        obtain rfl : u = Value.bool true := rv
        have key : ∀ b o, b ≠ T0 → s₁.heap.get? b = some o → s'.heap.get? b = some o := fun b o nb e => by
          cases q : H b with
          | none => exact un.keep b o e q (fun z => absurd (show b ∈ ([] : List Addr) from z) (by simp)) (by simp)
          | some u =>
            rcases only b with z | z | ⟨ob, xs, z⟩
            · rw [q] at z; cases z
            · exact (nb z).elim
            · obtain ⟨e1, _⟩ := held b _ z
              obtain ⟨e2, _⟩ := held' b _ (un.frzs b ob _ z)
              rw [e] at e1; cases e1
              exact e2
        obtain ⟨more, hm⟩ : ∃ more : Array Value, s'.heap.get? T0 = some { cls := .none, data := .fields more } := by
          obtain ⟨more, z⟩ := un.tbls T0 #[] hHT
          exact ⟨_, held' T0 _ z⟩
        refine ⟨rfl, ⟨fun b o e => ?_, fun b o e => ?_⟩, os, bare⟩
        · by_cases hb : b = T0
          · subst hb
            rw [hT] at e; cases e
            exact .inr (.inl ⟨(C.tab hT).isCodeTable, rfl, #[], more, rfl, by rw [Array.empty_append]; exact hm⟩)
          · exact .inl (key b o hb e)
        · by_cases hb : b = T0
          · subst hb; exact ⟨_, hm⟩
          · exact ⟨o, key b o hb e⟩
  cases hk : K.lookup a with
  | some o =>
    have e := kx a o hk
    rw [obj] at e
    cases e
    refine main (fun b => if b = T0 then some (.tbl #[]) else none) (if_pos rfl) (fun b => ?_) (.inr ⟨_, vs.toArray, _, hk, rfl, rfl, rfl, by rw [List.size_toArray, lenV]; exact short, by simpa using rel⟩) (fun b u z => ?_) (fun b z => ?_) fun z => absurd (if_neg naT) z
    · by_cases hb : b = T0
      · exact .inr (.inl hb)
      · exact .inl (if_neg hb)
    · by_cases hb : b = T0
      · subst hb
        have z := (if_pos rfl).symm.trans z
        cases z
        exact hT
      · exact nomatch (if_neg hb).symm.trans z
    · by_cases hb : b = T0
      · exact .inr hb
      · exact absurd (if_neg hb) z
  | none =>
    refine main (fun b => if b = a then some (.frz { cls := .type "list", data := .seq vs.toArray } (.lst (ns.map V.int))) else if b = T0 then some (.tbl #[]) else none) ((if_neg naT.symm).trans (if_pos rfl)) (fun b => ?_) (.inl (.inr ⟨_, if_pos rfl⟩)) (fun b u z => ?_) (fun b z => ?_) fun _ => hk
    · by_cases hb : b = a
      · exact .inr (.inr ⟨_, _, if_pos hb⟩)
      · by_cases hb2 : b = T0
        · exact .inr (.inl hb2)
        · exact .inl ((if_neg hb).trans (if_neg hb2))
    · by_cases hb : b = a
      · subst hb
        have z := (if_pos rfl).symm.trans z
        cases z
        exact ⟨obj, by rw [List.length_map]; exact short, vs, _, rel, obj⟩
      · have z := (if_neg hb).symm.trans z
        by_cases hb2 : b = T0
        · subst hb2
          have z := (if_pos rfl).symm.trans z
          cases z
          exact hT
        · exact nomatch (if_neg hb2).symm.trans z
    · by_cases hb : b = a
      · exact .inl hb
      · by_cases hb2 : b = T0
        · exact .inr hb2
        · exact absurd ((if_neg hb).trans (if_neg hb2)) z
end
theorem walk_GT {l : PySem.W.OpenLaw} {n k : Nat} {q : Program} {loose : List Str} {XP : (Str → Option Value) → Heap → Prop} {YP : World → Heap → Prop} {d : DefRec} {K : Params → PySem.W.Frag} {sp : PySem.W.Frag → Sp} {x : Str}
    (hn : l.most = some n) (hn2 : n ≤ sizeLine) (hdf : d.params.defaults = []) (hr : Room k callerA) (hrec : (recsOf q).find? (fun e => e.name == ("law" : Str)) = some d) (hY : ∀ (w : World) (h : Heap), YP w h → (K w.params).In h)
    (F : ∀ (w : World) (mg : Str → Option Value) (fa : Addr) (h : Heap), (K w.params).In h → h.Ns mainGlobals mg → mg d.name = some (.ref fa) →
      ∃ (fd : FuncData) (c T0 : Addr), PySem.W.tabIn (K w.params) "law" = some (c, T0) ∧ (K w.params).lookup T0 = none ∧ (∀ (s : Shared) (u : Value), BindsTo s fd ⟨[u], []⟩ [(x, u)]) ∧ ∀ base : Heap, (K w.params).In base → base.Ns mainGlobals mg → LamX.TabB base mg c T0 → FnG l.prog w (K w.params) mg base k fa fd [x] (sp (K w.params)))
    (hsp : ∀ (K : PySem.W.Frag) (H : Hp) (a : Addr) (ns : List Int), ns.length ≤ n → LamX.Tabs (tbsOf K) H → SqL K H a (ns.map V.int) → sp K [.ref a] H (fun v _ => v = .bl true) fun _ _ _ => False) :
    PySem.W.WalkO q loose XP YP l.row.toRowW d [] (fun f vs => PySem.call f vs) := by
  refine Att.attach_call hn hdf fun w s₀ s₁ mg mb fa o pm cd doc a vs ns G Y ho hd hcd hmg hobj hints hlen hg => ?_
  have kx := hY w _ Y
  obtain ⟨fd, c, T0, hti, nT, bnd, fnG⟩ := F w mg fa _ kx G.T.g hmg
  obtain ⟨C, hT⟩ := PySem.W.tab_of G.T kx hrec hti
  exact law_callGT kx G.T.g G.T.b G.T.builtins G.T.nolimit hg hobj hints (Nat.le_trans hlen hn2) hr hT nT C hti G.T.bmain fnG bnd fun H tabs seq => hsp _ H a ns hlen tabs seq
@[simp ↓] theorem wp_eTold {okw : Str} {hs : List ((Str → Option Bool) × D)} {fm : MX D} {s : S} {Q : D → S → Prop} : wp (eTold okw hs fm) s Q ↔ wp (α := RX D) fm s fun r s1 => match r with
    | .ok d => Q (.list [.str okw, d]) s1
    | .xc c => ∃ d, hsel hs c.c = some d ∧ Q d s1 := by
  unfold wp eTold
  constructor
  · rintro ⟨a, s', e, q⟩
    cases h : fm s with
    | none => rw [h] at e; cases e
    | some x =>
      obtain ⟨r, s1⟩ := x
      rw [h] at e
      refine ⟨r, s1, rfl, ?_⟩
      cases r with
      | ok d => cases e; exact q
      | xc c =>
        dsimp only at e ⊢
        cases hd : hsel hs c.c with
        | none => rw [hd] at e; cases e
        | some d => rw [hd] at e; cases e; exact ⟨_, rfl, q⟩
  · rintro ⟨r, s1, e, q⟩
    rw [e]
    cases r with
    | ok d => exact ⟨_, _, rfl, q⟩
    | xc c =>
      obtain ⟨d, hd, q⟩ := q
      exact ⟨d, s1, by dsimp only; rw [hd]; rfl, q⟩
end DL
namespace DL
open PySem PySem.Spec PyProof.Rows L2
/-! DL76: a list of the caller that a def with an object changes: a guest. -/
abbrev FSG := List Val → Dk → Option (D × Ob × List D × Dk)
/-- x(obj, e1, e2, list, e3) -/
def eCallG (i j : Nat) (sem : FSG) (f1 f2 f3 : M D) : M D := fun s => match s.g[i]?, s.g[j]? with
  | some (some (.obj _)), some (some (.lst _)) => (bd f1 fun x1 => bd f2 fun x2 => bd f3 fun x3 => fun s1 => match s1.g[i]?, s1.g[j]? with
    | some (some (.obj o)), some (some (.lst ds)) => if objFree (s1.g.set i none) = true ∧ i ≠ j then (match sem [.obj o, .dat x1, .dat x2, .gst ds, .dat x3] s1.k with
      | some (d, o', ds', k') => some (d, (⟨(s1.g.set i (some (.obj o'))).set j (some (.lst ds')), k'⟩ : S))
      | none => none) else none
    | _, _ => none) s
  | _, _ => none
/-! the guest in the def -/
def isGst : Option Val → Bool
  | some (.gst _) => true
  | _ => false
def gstFree (g : List (Option Val)) : Bool := g.all fun x => !isGst x
@[simp] theorem gstFree_nil : gstFree [] = true := rfl
@[simp] theorem gstFree_cons {x : Option Val} {r : List (Option Val)} : gstFree (x :: r) = (!isGst x && gstFree r) := rfl
@[simp] theorem isGst_none : isGst none = false := rfl
@[simp] theorem isGst_dat {d : D} : isGst (some (.dat d)) = false := rfl
@[simp] theorem isGst_obj {o : Ob} : isGst (some (.obj o)) = false := rfl
@[simp] theorem isGst_lst {d : List D} : isGst (some (.lst d)) = false := rfl
@[simp] theorem isGst_deck : isGst (some .deck) = false := rfl
@[simp] theorem isObj_gst {d : List D} : isObj (some (.gst d)) = false := rfl
def eIxG (i : Nat) (fb : M D) : M D := fun s => match s.g[i]? with
  | some (some (.gst _)) => (bd fb fun y s1 => match y, s1.g[i]? with
    | .int j, some (some (.gst ds)) => (match atI ds j with
      | some d => some (d, s1)
      | none => none)
    | _, _ => none) s
  | _ => none
/-! wp -/
def fg (sem : FSG) (xs : List Val) (k : Dk) (Q : D → Ob → List D → Dk → Prop) : Prop := ∃ d o ds k', sem xs k = some (d, o, ds, k') ∧ Q d o ds k'
section
variable {s : S} {Q : D → S → Prop}
@[simp ↓] theorem wp_callG {i j : Nat} {sem : FSG} {f1 f2 f3 : M D} : wp (eCallG i j sem f1 f2 f3) s Q ↔ (∃ o0, s.g[i]? = some (some (.obj o0))) ∧ (∃ l0, s.g[j]? = some (some (.lst l0))) ∧ wp f1 s fun x1 s1 => wp f2 s1 fun x2 s2 => wp f3 s2 fun x3 s3 => ∃ o ds, s3.g[i]? = some (some (.obj o)) ∧ s3.g[j]? = some (some (.lst ds)) ∧ objFree (s3.g.set i none) = true ∧ i ≠ j ∧
    fg sem [.obj o, .dat x1, .dat x2, .gst ds, .dat x3] s3.k fun d o' ds' k' => Q d ⟨(s3.g.set i (some (.obj o'))).set j (some (.lst ds')), k'⟩ := by
  constructor
  · rintro ⟨d, s', e, q⟩
    unfold eCallG at e
    split at e
    · rename_i o0 ds0 hi0 hj0
      obtain ⟨x1, s1, e1, e⟩ := bd_some e
      obtain ⟨x2, s2, e2, e⟩ := bd_some e
      obtain ⟨x3, s3, e3, e⟩ := bd_some e
      refine ⟨⟨_, hi0⟩, ⟨_, hj0⟩, x1, s1, e1, x2, s2, e2, x3, s3, e3, ?_⟩
      split at e
      · rename_i o ds hi hj
        split at e
        · rename_i hc
          split at e
          · rename_i d' o' ds' k' hs
            cases e
            exact ⟨o, ds, hi, hj, hc.1, hc.2, _, _, _, _, hs, q⟩
          · cases e
        · cases e
      · cases e
    · cases e
  · rintro ⟨⟨o0, hi0⟩, ⟨l0, hj0⟩, x1, s1, e1, x2, s2, e2, x3, s3, e3, o, ds, hi, hj, hc1, hc2, d, o', ds', k', hs, q⟩
    refine ⟨d, _, ?_, q⟩
    unfold eCallG
    simp only [hi0, hj0]
    unfold bd
    simp only [e1, e2, e3, hi, hj, hs, if_pos (And.intro hc1 hc2)]
@[simp ↓] theorem wp_ixG {i : Nat} {fb : M D} : wp (eIxG i fb) s Q ↔ (∃ l0, s.g[i]? = some (some (.gst l0))) ∧ wp fb s fun y s1 => ∃ j ds d, y = .int j ∧ s1.g[i]? = some (some (.gst ds)) ∧ atI ds j = some d ∧ Q d s1 := by
  constructor
  · rintro ⟨d, s', e, q⟩
    unfold eIxG at e
    split at e
    · rename_i ds0 hi0
      obtain ⟨y, s1, e1, e⟩ := bd_some e
      refine ⟨⟨_, hi0⟩, y, s1, e1, ?_⟩
      split at e
      · rename_i j ds hi
        split at e
        · rename_i d' hd
          cases e
          exact ⟨j, ds, _, rfl, hi, hd, q⟩
        · cases e
      · cases e
    · cases e
  · rintro ⟨⟨l0, hi0⟩, y, s1, e1, j, ds, d, rfl, hi, hd, q⟩
    refine ⟨d, s1, ?_, q⟩
    unfold eIxG
    simp only [hi0]
    unfold bd
    simp only [e1, hi, hd]
end
end DL
namespace DL
open PySem PySem.Spec PyProof.Rows L2
/-! DL77: zip of lists and tuples in any mix. -/
/-! as data -/
def asZB (f : M (List D)) : M (List D) := bd f fun x => match x with
  | [.list ds, .list es] => rtn (zipD ds es)
  | [.tuple ds, .tuple es] => rtn (zipD ds es)
  | [.tuple ds, .list es] => rtn (zipD ds es)
  | [.list ds, .tuple es] => rtn (zipD ds es)
  | _ => fun _ => none
@[simp ↓] theorem wp_asZB {f g : M D} {s : S} {Q : List D → S → Prop} : wp (asZB (aCons f (aCons g aNil))) s Q ↔ wp f s fun x s1 => wp g s1 fun y s2 => ∃ ds es, (x = .list ds ∨ x = .tuple ds) ∧ (y = .list es ∨ y = .tuple es) ∧ Q (zipD ds es) s2 := by
  have no : ∀ {s : S} {Q : List D → S → Prop}, wp (fun _ => none) s Q → False := fun h => by obtain ⟨_, _, e, _⟩ := h; cases e
  unfold asZB; simp only [wp_bd, wp_aCons, wp_aNil]
  constructor <;> intro h <;> refine wp_mono h fun x s1 h => ?_ <;> refine wp_mono h fun y s2 q => ?_
  · cases x with
    | list ds => cases y with
      | list es => exact ⟨ds, es, .inl rfl, .inl rfl, wp_rtn.mp q⟩
      | tuple es => exact ⟨ds, es, .inl rfl, .inr rfl, wp_rtn.mp q⟩
      | _ => exact (no q).elim
    | tuple ds => cases y with
      | list es => exact ⟨ds, es, .inr rfl, .inl rfl, wp_rtn.mp q⟩
      | tuple es => exact ⟨ds, es, .inr rfl, .inr rfl, wp_rtn.mp q⟩
      | _ => exact (no q).elim
    | _ => exact (no q).elim
  · obtain ⟨ds, es, rfl | rfl, rfl | rfl, q⟩ := q <;> exact wp_rtn.mpr q
end DL
namespace DL
open PySem PySem.Spec PyProof.Rows L2
/-! DL78: plain tuples compared. -/
def fgD : D → D
  | .dict [(.none, .tuple ds)] => .tuple ds
  | d => d
@[simp] theorem fgD_pln {ds : List D} : fgD (.dict [(.none, .tuple ds)]) = .tuple ds := rfl
@[simp] theorem fgD_tup {ds : List D} : fgD (.tuple ds) = .tuple ds := rfl
end DL
namespace DL
open PySem PySem.Spec PyProof.Rows L2
/-! DL79: errors of own classes with one field: made, raised; their fields and classes in a suite. -/
/-- what __init__ keeps: the field is set -/
def spEr (K : PySem.W.Frag) (f : Str) : Sp := fun vs H Q _ => ∃ (a C : Addr) (y : V), vs = [.ref a, y] ∧ OexC K C ∧ PySem.W.findIn K (.ref C) f = some none ∧ H a = some (exo a C none) ∧
  ∀ dx, H dx = none → dx ≠ a → Q .non (upd (upd H dx (exd dx [(f, y)])) a (exo a C (some dx)))
/-- a class whose errors have the field f -/
structure ErB (P : Program) (w : World) (K : PySem.W.Frag) (mg : Str → Option Value) (base : Heap) (k : Nat) (c f : Str) : Prop where
  ex : ∃ (C fI : Addr) (fd : FuncData), mg c = some (.ref C) ∧ PySem.W.nsIn K mainGlobals c = some (some (.ref C)) ∧ OexC K C ∧ PySem.W.findIn K (.ref C) f = some none ∧ PySem.W.findIn K (.ref C) "__init__" = some (some (.ref fI)) ∧
    PySem.W.typeIn K (.ref fI) = some (.type "function") ∧ FnOk P w K mg base CX0 k fI fd ["self", f] (spEr K f) ∧ Binds K fd ["self", f] []
/-- an error's field may be read -/
structure ErF (K : PySem.W.Frag) (c f : Str) : Prop where
  ex : ∃ C, PySem.W.nsIn K mainGlobals c = some (some (.ref C)) ∧ XfC K C ∧ PySem.W.findIn K (.ref C) f = some none
theorem heap_made {H : Hp} {a dx : Addr} {o1 o2 o3 o4 : HO} (ha : H a = none) (n : dx ≠ a) : upd (del (upd (upd (upd H a o1) dx o2) a o3) a) dx o4 = upd H dx o4 := by
  funext b
  by_cases hb : b = dx
  · rw [hb, upd_same, upd_same]
  · rw [upd_ne hb, upd_ne hb]
    by_cases hx : b = a
    · rw [hx, del_same, ha]
    · rw [del_ne hx, upd_ne hx, upd_ne hb, upd_ne hx]
section
variable {X : Cx} {W : WX} {x f : Str} {p0 pos pos2 : Pos} {e : Expr} {te : TE} {m : M D} {k : Nat}
/-- raise C(e) -/
theorem xx_raiseF (T : ErB X.prog X.w X.K X.mg X.base k x f) (tk : Takes X W) (hr : Room (k + 1) X.A) (h : DE X e te m) (hc : X.calm = true := by rfl) (hg : Gl X x := by rfl) (hdb : (x == ("__debug__" : Str)) = false := by decide)
    (he : starEach (e :: []) X.env = (false, eval e X.env) :: starEach [] X.env := by rfl) (hpl : (backTo pos (starEach [] X.env)).any (·.1) = false := by rfl) :
    X1X X W (.Raise (some (.Call (.Name x p0) [e] [] pos)) none pos2) (xRaiseF x f m) := by
  obtain ⟨C, fI, fd, hm, hn, hox, hno, hi, hti, F, hb⟩ := T.ex
  refine ⟨_, ps_raise hc tk (pmk_oex hox hi hti F hr hb .nil pass0 hg hm (pa_cons h.p pa_nil he) hdb he hpl), ?_⟩
  intro A hid P s σ H r s' ok e0 D q
  unfold xRaiseF at e0
  cases hms : m s with
  | none => rw [hms] at e0; cases e0
  | some y =>
    obtain ⟨d, s1⟩ := y
    rw [hms] at e0
    cases e0
    refine h.v A hid P s σ H d _ ok hms _ fun v P1 H1 ok1 st1 rv => ⟨by show 1 ≤ 1000; decide, fun a ha => ?_⟩
    refine ⟨a, C, v, rfl, hox, hno, upd_same, fun dx h1 h2 => ?_⟩
    have hdx : H1 dx = none := by rwa [upd_ne h2] at h1
    refine ⟨rfl, dx, [(f, v)], upd_same, ?_, hdx, ?_⟩
    · rw [upd_ne h2, upd_same]
    · rw [heap_made ha h2]
      have g := Grw.new (o := HO.xd [(f, v)]) hdx
      exact q (.ref C) (some dx) σ P1 _ ⟨⟨C, rfl, hn⟩, dx, v, rfl, mask_new (ok1.free hdx), rv.mono (grw_mask g)⟩ (ok1.grw g) (st1.trans (Stp.grw g))
end
/-! in a suite: the field -/
def hFld (x f : Str) : HF := fun c => if c.c = x then (match c.fd with
  | some (g, d) => if g = f then some d else none
  | none => none) else none
def hInt (i : Int) : HF := fun _ => some (.int i)
def hEq (h1 h2 : HF) : HF := fun c => match h1 c, h2 c with
  | some (.int i), some (.int j) => some (.bool (decide (i = j)))
  | _, _ => none
section
variable {X : Cx} {i : Nat} {e a b : Expr} {h ha hb : HF} {pos : Pos}
theorem isCls.uniq {K : PySem.W.Frag} {x : Str} {cls : Value} {C : Addr} (h : isCls K x cls) (n : PySem.W.nsIn K mainGlobals x = some (some (.ref C))) : cls = .ref C := by
  obtain ⟨C2, rfl, n2⟩ := h
  rw [n] at n2
  injection n2 with n2; injection n2 with n2; injection n2 with n2
  rw [n2]
theorem hs_fld {x y f : Str} {py : Pos} (T : ErF X.K x f) (hN : X.N[i]? = some y := by rfl) (hv : Vis X.env.scope y := by first | exact Or.inl rfl | exact Or.inr (Or.inl rfl) | exact Or.inr (Or.inr rfl))
    (hd : (y == ("__debug__" : Str)) = false := by decide) (hcd : (y == ("__classdict__" : Str)) = false := by decide)
    (hbs : attributeBase (.Name y py) f X.env (eval (.Name y py) X.env) = eval (.Name y py) X.env := by rfl) : HE X i (.Attribute (.Name y py) f pos) (hFld x f) := by
  obtain ⟨C, hn, hx, hno⟩ := T.ex
  refine ⟨fun a cls d => tXf a cls d C f (tVar i), fun a oe cls d pn hz hf => pe_xf hx hno hz hf (pe_var hN hv hd hcd) hbs, ?_⟩
  intro a cls dx c d0 e A hid P s σ H hc ok hs Q q
  obtain ⟨c, fd⟩ := c
  obtain ⟨h1, h2⟩ := hc
  unfold hFld at e
  dsimp only at e h1 h2
  split at e
  · rename_i hcx
    subst hcx
    cases fd with
    | none => cases e
    | some fd =>
      obtain ⟨g, d⟩ := fd
      dsimp only at e h2
      split at e
      · rename_i hg
        subst hg
        cases e
        obtain ⟨dd, v, rfl, m, r⟩ := h2
        exact ⟨_, hs, rfl, h1.uniq hn, dd, [(g, v)], v, rfl, (mask_some.mp m).2, by simp [List.lookup], q v P H ok Stp.refl r⟩
      · cases e
  · cases e
theorem hs_int {n : Int} {j p0} : HE X i (.Constant (.int n) j p0) (hInt n) := ⟨fun _ _ _ => tC (.int n), fun _ _ _ _ _ _ _ => pe_int, fun _ _ _ _ _ e _ _ P _ _ H _ ok _ Q q => by cases e; exact q _ P H ok Stp.refl (.int _)⟩
theorem hs_eq {p1 : Pos} (h1 : HE X i a ha) (h2 : HE X i b hb) : HE X i (.Compare a [.Eq] [b] p1) (hEq ha hb) := by
  obtain ⟨t1, p1, v1⟩ := h1
  obtain ⟨t2, p2, v2⟩ := h2
  refine ⟨fun x cls d => tOp rEq (t1 x cls d) (t2 x cls d), fun x oe cls d pn hz hf => pe_cmpR op_eq (p1 x oe cls d pn hz hf) (p2 x oe cls d pn hz hf) (nomark _), ?_⟩
  intro x cls dx c d0 e A hid P s σ H hc ok hs Q q
  unfold hEq at e
  split at e
  · rename_i i1 j1 q1 q2
    cases e
    refine v1 x cls dx c _ q1 A hid P s σ H hc ok hs _ fun v P1 H1 ok1 st1 r1 => ?_
    refine v2 x cls dx c _ q2 A hid P1 s σ H1 (hc.st st1) ok1 hs _ fun u P2 H2 ok2 st2 r2 => ?_
    cases r1; cases r2
    have ed : decide (V.int i1 = V.int j1) = decide (i1 = j1) := by simp
    exact ⟨rfl, by rw [ed]; exact q _ P2 H2 ok2 (st1.trans st2) (.bl _)⟩
  · cases e
/-! ### suites -/
def HSu (X : Cx) (i : Nat) (suite : List Stmt) (hs : Xt → M Fl) : Prop := ∃ ts : Addr → Value → Option Addr → TS,
  (∀ a oe cls d pn, Zc cls d oe → (∃ vs, oe.data = .fields vs) → PSs (X.suite a ((a, oe) :: pn)) suite (ts a cls d)) ∧
  ∀ a cls dx c A hid P s σ H fl s', isXt X.K P H c cls dx → SOk X.K A hid P s σ H → σ[i]? = some (some (.ref a)) → hs c s = some (fl, s') → ∀ D : Ends, FlOk X.K A hid P H s' D fl → ts a cls dx D σ H
def hD (h : HF) (g : D → M Fl) : Xt → M Fl := fun c s => match h c with
  | some d => g d s
  | none => none
theorem su_asg {y : Str} {py : Pos} (j : Nat) (hh : HE X i e h) (hN : X.N.Nodup) (hj : X.N[j]? = some y := by rfl) (hx : Loc X.env.scope y := by first | exact Or.inl rfl | exact Or.inr rfl) (hf : X.fn y = true ∨ X.env.scope.names.lookup y = some .local := by first | exact .inl rfl | exact .inr rfl | assumption)
    (hs : swapsWithSole [.Name y py] e pos.line X.env = pure false := by rfl) (hw : swappedStores [.Name y py] e X.env = pure none := by rfl)
    (h1 : (assignEach [.Name y py] X.env).map (·.2) = [assign (.Name y py) X.env] := by rfl) : HSu X i [.Assign [.Name y py] e pos] (hD h fun d s => some (.nx, ⟨s.g.set j (some (.dat d)), s.k⟩)) := by
  obtain ⟨te, pe, ve⟩ := hh
  refine ⟨fun a cls d => tAsg (te a cls d) (gName j), fun a oe cls d pn hz hf2 => pss_one (ps_asg (X := X.suite a ((a, oe) :: pn)) (pe a oe cls d pn hz hf2) (pg_name (X := X.suite a ((a, oe) :: pn)) hN hj hx hf) hs hw h1), ?_⟩
  intro a cls dx c A hid P s σ H fl s' hc ok hs e0 D q
  unfold hD at e0
  cases hd : h c with
  | none => rw [hd] at e0; cases e0
  | some d0 =>
    rw [hd] at e0
    cases e0
    refine ve a cls dx c d0 hd A hid P _ σ H hc ok hs _ fun v P1 H1 ok1 st1 r1 => ?_
    exact q _ P1 H1 (ok1.set_dat r1) st1
theorem su_app {y : Str} {px pa pe : Pos} (j : Nat) (hh : HE X i e h) (hN : X.N[j]? = some y := by rfl) (hv : Vis X.env.scope y := by first | exact Or.inl rfl | exact Or.inr (Or.inl rfl) | exact Or.inr (Or.inr rfl))
    (hd : (y == ("__debug__" : Str)) = false := by decide) (hcd : (y == ("__classdict__" : Str)) = false := by decide) (hst : starEach [e] X.env = (false, eval e X.env) :: starEach [] X.env := by rfl)
    (hbase : attributeBase (.Name y px) "append" X.env (eval (.Name y px) X.env) = eval (.Name y px) X.env := by rfl)
    (hfew : ((backTo pe (starEach [e] X.env)).all (fun x => !x.1) && (backToKw pe (keywordEach [] X.env)).all (fun x => x.1.isSome) && decide ([e].length + ([] : List Keyword).length + (if ([] : List Keyword).isEmpty then 0 else 1) < 30)) = true := by rfl)
    (hline : (pa.endLine == pe.line) = true := by rfl) (hplain : (backTo pe (starEach [] X.env)).any (·.1) = false := by rfl)
    (hs : swapsWith (.Call (.Attribute (.Name y px) "append" pa) [e] [] pe) none pos.line X.env = pure false := by rfl) :
    HSu X i [.Expr (.Call (.Attribute (.Name y px) "append" pa) [e] [] pe) pos] (hD h fun d s => match s.g[j]? with
      | some (some (.lst ds)) => if ds.length ≤ lim then some (.nx, ⟨s.g.set j (some (.lst (ds ++ [d]))), s.k⟩) else none
      | _ => none) := by
  obtain ⟨te, pte, ve⟩ := hh
  refine ⟨fun a cls d => tDrop (tBM X.K "list" rAppend (tVar j) (tCons (te a cls d) tNil)), fun a oe cls d pn hz hf2 => pss_one (ps_expr (X := X.suite a ((a, oe) :: pn)) (pe_bm (X := X.suite a ((a, oe) :: pn)) PySem.F.plainAttrs_list PySem.F.slot_list_append PySem.F.type_list_append mt_append (pe_var hN hv hd hcd) (pa_cons (pte a oe cls d pn hz hf2) pa_nil hst) hbase hfew hline hst hplain) hs), ?_⟩
  intro a cls dx c A hid P s σ H fl s' hc ok hs e0 D q
  unfold hD at e0
  cases hdd : h c with
  | none => rw [hdd] at e0; cases e0
  | some d0 =>
    rw [hdd] at e0
    dsimp only at e0
    split at e0
    · rename_i ds hg
      split at e0
      · rename_i hl
        cases e0
        obtain ⟨b, vs0, eb, k1, _⟩ := ok.slot j _ hg
        refine ⟨.ref b, eb, .inl ⟨rfl, vs0, SqL.of k1⟩, ?_⟩
        refine ve a cls dx c d0 hdd A hid P _ σ H hc ok hs _ fun v P1 H1 ok1 st1 r1 => ?_
        obtain ⟨b2, vs, eb2, m1, m2, m3, m4, mr⟩ := ok1.slot j _ hg
        rw [eb] at eb2; cases eb2
        obtain ⟨ok2, st2⟩ := ok1.put_cell hg eb (mr.append (.cons r1 .nil))
        refine ⟨b, vs, v, rfl, rfl, m1, by rw [mr.length]; exact lim_lt hl, ?_⟩
        exact q σ P1 _ ok2 (st1.trans st2)
      · cases e0
    · cases e0
end
/-- try: .. except C as e: suite -/
def sTryK (i : Nat) (cs : List Str) (m : MX Fl) (hs : Xt → M Fl) : M Fl := fun s => match m s with
  | some (.ok fl, s') => some (fl, s')
  | some (.xc c, s') => if c.c ∈ cs ∧ i < s'.g.length then (match hs c ⟨s'.g.set i none, s'.k⟩ with
    | some (fl, s2) => some (fl, ⟨s2.g.set i none, s2.k⟩)
    | none => none) else none
  | none => none
section
variable {X : Cx} {body suite : List Stmt} {b₀ : Stmt} {m : MX Fl} {hsu : Xt → M Fl} {i : Nat} {x n : Str} {cs : List Str} {np pos pos' : Pos}
theorem x1_tryK (T : ClF X.K X.mg x cs) (hb : ∀ (W : WX) (pn : List (Addr × Obj)) (xe : Value → Shared → Prop), Takes (X.tr pn xe) W → XSX (X.tr pn xe) W body m) (hh : HSu X i (b₀ :: suite) hsu)
    (hN : X.N.Nodup) (hs : X.stack = X.env :: X.outer := by rfl) (hf : X.env.frame = some X.env.locals := by rfl) (hi : X.N[i]? = some n := by rfl) (hln : X.env.kindOf n = some .local := by rfl) (hg : Gl X x := by rfl) (hdb : (x == ("__debug__" : Str)) = false := by decide) :
    X1 X (.Try body [.ExceptHandler (some (.Name x np)) (some n) (b₀ :: suite) pos'] [] [] pos) (sTryK i cs m hsu) := by
  obtain ⟨C, hm, hc⟩ := T.ex
  obtain ⟨ts, ps, vs⟩ := hh
  refine ⟨_, ps_try_as (tb := fun W D σ H => ∀ pn xe, Takes (X.tr pn xe) W → ∀ t, PSs (X.tr pn xe) body t → EvSX X.K W t m → t D σ H) (ts := ts) (Wout := fun _ _ _ _ => False) hs hf hN hi hln ⟨hg, hdb, .inl hm⟩ takes0
    (fun W pn xe tk _ => ?_) ps, ?_⟩
  · obtain ⟨t, ht⟩ := hb W pn xe tk
    exact ⟨fun pins s σ H D I hw => ht.p.run pins s σ H D I (hw pn xe tk t ht.p ht.v)⟩
  · intro A hid P s σ H fl s' ok e0 D q
    intro pn xe tk t _ hv
    unfold sTryK at e0
    cases hms : m s with
    | none => rw [hms] at e0; cases e0
    | some r =>
      obtain ⟨r, s1⟩ := r
      rw [hms] at e0
      refine hv A hid P s σ H r s1 ok hms D ?_
      cases r with
      | ok fl1 => cases e0; exact q
      | xc c =>
        dsimp only at e0
        split at e0
        · rename_i hcs
          cases hd : hsu c ⟨s1.g.set i none, s1.k⟩ with
          | none => rw [hd] at e0; cases e0
          | some y =>
            obtain ⟨fl2, s2⟩ := y
            rw [hd] at e0; cases e0
            intro cls dx σ1 P1 H1 ic ok1 st1
            obtain ⟨⟨D0, rfl, n2⟩, _⟩ := id ic
            obtain ⟨D1, n1, m1⟩ := hc c.c hcs.1
            have eC : D1 = D0 := by rw [n1] at n2; injection n2 with n2; injection n2 with n2; injection n2 with n2
            subst eC
            refine ⟨true, m1, fun _ a ha => ?_, fun z => nomatch z⟩
            have ok2 := ok1.set_none (i := i) (v := some (.ref a))
            refine vs a _ dx c A hid P1 _ _ H1 fl s2 ic ok2 (by rw [List.getElem?_set_self (by rw [← ok1.len]; exact hcs.2)]) hd _ ?_
            cases fl with
            | nx => exact fun σ2 P2 H2 ok3 st3 => q _ P2 H2 ok3.set_none (st1.trans st3)
            | rt d => exact fun v σ2 P2 H2 ok3 st3 r3 => q v (σ2.set i none) P2 H2 ok3.set_none (st1.trans st3) r3
            | bk => exact fun σ2 P2 H2 ok3 st3 => q _ P2 H2 ok3.set_none (st1.trans st3)
            | ct => exact fun σ2 P2 H2 ok3 st3 => q _ P2 H2 ok3.set_none (st1.trans st3)
        · cases e0
end
/-! wp -/
section
variable {s : S} {Z : Fl → S → Prop}
@[simp ↓] theorem wp_sTryK {i : Nat} {cs : List Str} {m : MX Fl} {hs : Xt → M Fl} : wp (sTryK i cs m hs) s Z ↔ wp (α := RX Fl) m s fun r s1 => match r with
    | .ok fl => Z fl s1
    | .xc c => (c.c ∈ cs ∧ i < s1.g.length) ∧ wp (hs c) ⟨s1.g.set i none, s1.k⟩ fun fl s2 => Z fl ⟨s2.g.set i none, s2.k⟩ := by
  unfold wp sTryK
  constructor
  · rintro ⟨a, s', e, q⟩
    cases hm : m s with
    | none => rw [hm] at e; cases e
    | some x =>
      obtain ⟨r, s1⟩ := x
      rw [hm] at e
      refine ⟨r, s1, rfl, ?_⟩
      cases r with
      | ok fl => cases e; exact q
      | xc c =>
        dsimp only at e ⊢
        split at e
        · rename_i hc
          cases hd : hs c ⟨s1.g.set i none, s1.k⟩ with
          | none => rw [hd] at e; cases e
          | some d => rw [hd] at e; cases e; exact ⟨hc, d.1, d.2, rfl, q⟩
        · cases e
  · rintro ⟨r, s1, e, q⟩
    rw [e]
    cases r with
    | ok fl => exact ⟨_, _, rfl, q⟩
    | xc c =>
      obtain ⟨hc, fl, s2, hd, q⟩ := q
      refine ⟨fl, _, ?_, q⟩
      dsimp only
      rw [if_pos hc, hd]
@[simp] theorem wp_hD {h : HF} {g : D → M Fl} {c : Xt} : wp (hD h g c) s Z ↔ ∃ d, h c = some d ∧ wp (g d) s Z := by
  unfold wp hD
  constructor
  · rintro ⟨a, s', e, q⟩
    cases hd : h c with
    | none => rw [hd] at e; cases e
    | some d => rw [hd] at e; exact ⟨d, rfl, a, s', e, q⟩
  · rintro ⟨d, hd, a, s', e, q⟩
    exact ⟨a, s', by rw [hd]; exact e, q⟩
end
end DL
namespace DL
open PySem PySem.Spec PyProof.Rows L2
/-! DL80: a call that may raise where an expression is begun: the rest as if it had not. -/
def okOf {α : Type} (f : MX α) : M α := fun s => match f s with
  | some (.ok d, s') => some (d, s')
  | _ => none
/-- raises as f does, else as g -/
def xLift {α β : Type} (f : MX α) (g : M β) : MX β := fun s => match f s with
  | some (.xc c, s1) => some (.xc c, s1)
  | _ => (g s).map fun q => (.ok q.1, q.2)
section
variable {X : Cx} {W : WX} {e e2 : Expr} {es : List Expr} {te t2 : TE} {ta : TA} {f : MX D} {fa : MX (List D)} {g : M D} {pos : Pos}
/-- f(..), nothing done with what it tells -/
def xDrop (f : MX D) : MX Fl := bx f fun _ => lx (some .nx)
theorem xx_drop (h : DEX X W e te f) (hs : swapsWith e none pos.line X.env = pure false := by rfl) : X1X X W (.Expr e pos) (xDrop f) := ⟨tDrop te, ps_expr h.p hs, by
  intro A hid P s σ H r s' ok e D q
  rcases bx_some e with ⟨x, s1, h1, e⟩ | ⟨c, h1, rfl⟩
  · obtain ⟨fl, h3, rfl, rfl⟩ := lx_some e
    cases h3
    exact h.v A hid P s σ H _ s' ok h1 _ fun v P1 H1 ok1 st1 r => q σ P1 H1 ok1 st1
  · exact h.v A hid P s σ H _ s' ok h1 _ fun cls dx P1 H1 i o st => q cls dx σ P1 H1 i o st⟩
end
/-! wp -/
section
variable {s : S}
@[simp ↓] theorem wp_okOf {α : Type} {f : MX α} {Q : α → S → Prop} : wp (okOf f) s Q ↔ wp (α := RX α) f s fun r s1 => ∃ d, r = .ok d ∧ Q d s1 := by
  unfold wp okOf
  constructor
  · rintro ⟨a, s', e, q⟩
    split at e
    · rename_i d s1 h
      cases e
      exact ⟨_, _, h, _, rfl, q⟩
    · cases e
  · rintro ⟨r, s1, e, d, rfl, q⟩
    exact ⟨d, s1, by rw [e], q⟩
@[simp ↓] theorem wp_xLift {α β : Type} {f : MX α} {g : M β} {Q : RX β → S → Prop} : wp (α := RX β) (xLift f g) s Q ↔ (∃ c s1, f s = some (.xc c, s1) ∧ Q (.xc c) s1) ∨ ((∀ c s1, f s ≠ some (.xc c, s1)) ∧ wp g s fun d s1 => Q (.ok d) s1) := by
  unfold wp xLift
  constructor
  · rintro ⟨a, s', e, q⟩
    split at e
    · rename_i c s1 h
      cases e
      exact .inl ⟨c, _, h, q⟩
    · rename_i hn
      refine .inr ⟨fun c s1 h => hn c s1 h, ?_⟩
      cases hg : g s with
      | none => rw [hg] at e; cases e
      | some y => rw [hg] at e; cases e; exact ⟨y.1, y.2, rfl, q⟩
  · rintro (⟨c, s1, h, q⟩ | ⟨hn, d, s1, h, q⟩)
    · exact ⟨_, s1, by rw [h], q⟩
    · refine ⟨.ok d, s1, ?_, q⟩
      split
      · rename_i c s2 h2
        exact absurd h2 (hn c s2)
      · rw [h]; rfl
@[simp ↓] theorem wp_xDrop {f : MX D} {Q : RX Fl → S → Prop} : wp (α := RX Fl) (xDrop f) s Q ↔ wp (α := RX D) f s fun r s1 => match r with
    | .ok _ => Q (.ok .nx) s1
    | .xc c => Q (.xc c) s1 := by
  unfold wp xDrop bx
  constructor
  · rintro ⟨a, s', e, q⟩
    split at e
    · rename_i d s1 h
      cases e
      exact ⟨_, _, h, q⟩
    · rename_i c s1 h
      cases e
      exact ⟨_, _, h, q⟩
    · cases e
  · rintro ⟨r, s1, e, q⟩
    rw [e]
    cases r with
    | ok d => exact ⟨_, _, rfl, q⟩
    | xc c => exact ⟨_, _, rfl, q⟩
end
end DL
namespace DL
open PySem PySem.Spec PyProof.Rows L2
/-! DL81: len(set(ints)); x.index(y), x data. -/
section
variable {X : Cx} {e : Expr} {te : TE} {f : M D} {K : PySem.W.Frag}
/-! x.index(y), x a list that is data -/
def dIdxL : D → D → Option D
  | .list ds, d => if SeqAt.shaped d = true ∧ SeqAt.shaped (.list ds) = true then (idxD d ds).map fun j => .int (j : Nat) else none
  | _, _ => none
variable {tb : TE} {fb : M D} {b : Expr}
theorem ev_idxL (h : EvE K te f) (h2 : EvE K tb fb) : EvE K (tBM K "list" (rIndexD K) te (tCons tb tNil)) (eOp2 dIdxL f fb) := by
  intro A hid P s σ H d s' ok e Q q
  obtain ⟨x, s1, e1, e⟩ := bd_some e
  obtain ⟨y, s2, e2, e⟩ := bd_some e
  obtain ⟨e, rfl⟩ := lf_some e
  unfold dIdxL at e
  split at e
  · rename_i ds _ _
    split at e
    · rename_i hsh
      cases hj : idxD y ds with
      | none => rw [hj] at e; cases e
      | some j =>
        rw [hj] at e; cases e
        refine h A hid P s σ H _ s1 ok e1 _ fun v P1 H1 ok1 st1 r1 => ?_
        obtain ⟨a, vs, rfl, hx, rr⟩ := r1.lst_inv
        refine ⟨.inl ⟨rfl, vs, SqL.of (mask_le _ _ hx)⟩, ?_⟩
        refine h2 A hid P1 s1 σ H1 y _ ok1 e2 _ fun u P2 H2 ok2 st2 r2 => ?_
        obtain ⟨a2, vs2, ea, hx2, rr2⟩ := (st2.rp r1).lst_inv
        cases ea
        obtain ⟨z, hz, hzj, hno⟩ := idxD_at hj
        exact ⟨a, u, y, ds, j, z, rfl, rfl, .lst (SqL.of (mask_le _ _ hx2)) (RpA.dp (rr2.mono mask_le) (SeqAt.canLay_of_shaped hsh.2)), (r2.mono mask_le).dp (SeqAt.canLay_of_shaped hsh.1), hsh.2, hsh.1, hz, hzj, hno, q _ P2 H2 ok2 (st1.trans st2) (.int _)⟩
    · cases e
  · cases e
theorem k_idxL {apos cpos : Pos} (hu : X.A.units + 100 < cLine) (ha : DE X e te f) (h : DE X b tb fb) (hK : X.K = K := by rfl)
    (hst : starEach [b] X.env = (false, eval b X.env) :: starEach [] X.env := by rfl) (hbase : attributeBase e "index" X.env (eval e X.env) = eval e X.env := by rfl)
    (hfew : ((backTo cpos (starEach [b] X.env)).all (fun x => !x.1) && (backToKw cpos (keywordEach [] X.env)).all (fun x => x.1.isSome) && decide ([b].length + ([] : List Keyword).length + (if ([] : List Keyword).isEmpty then 0 else 1) < 30)) = true := by rfl)
    (hline : (apos.endLine == cpos.line) = true := by rfl) (hplain : (backTo cpos (starEach [] X.env)).any (·.1) = false := by rfl) :
    DE X (.Call (.Attribute e "index" apos) [b] [] cpos) (tBM K "list" (rIndexD K) te (tCons tb tNil)) (eOp2 dIdxL f fb) := hK ▸
  ⟨pe_bm PySem.F.plainAttrs_list PySem.F.slot_list_index PySem.F.type_list_index (mt_indexD (by omega)) ha.p (pa_cons h.p pa_nil hst) hbase hfew hline hst hplain, ev_idxL ha.v h.v⟩
end
end DL
namespace DL
open PySem PySem.Spec PyProof.Rows L2
/-! DL82: a loop over functions by name; a call of a local name that holds one of them. -/
structure FnN (K : PySem.W.Frag) (mg : Str → Option Value) (c : Str) : Prop where
  ex : ∃ a, mg c = some (.ref a) ∧ PySem.W.nsIn K mainGlobals c = some (some (.ref a))
def RefsN (K : PySem.W.Frag) : List V → List Str → Prop
  | [], [] => True
  | v :: vs, c :: cs => (∃ a, v = .ref a ∧ PySem.W.nsIn K mainGlobals c = some (some (.ref a))) ∧ RefsN K vs cs
  | _, _ => False
theorem RefsN.len {K : PySem.W.Frag} : ∀ {vs : List V} {cs : List Str}, RefsN K vs cs → vs.length = cs.length
  | [], [], _ => rfl
  | [], _ :: _, h => h.elim
  | _ :: _, [], h => h.elim
  | _ :: vs, _ :: cs, h => by rw [List.length_cons, List.length_cons, RefsN.len h.2]
theorem RefsN.at {K : PySem.W.Frag} : ∀ {vs : List V} {cs : List Str} {i : Nat} {v : V}, RefsN K vs cs → vs[i]? = some v → ∃ c a, cs[i]? = some c ∧ v = .ref a ∧ PySem.W.nsIn K mainGlobals c = some (some (.ref a))
  | [], [], i, v, _, e => by simp at e
  | [], _ :: _, _, _, h, _ => h.elim
  | _ :: _, [], _, _, h, _ => h.elim
  | u :: vs, c :: cs, 0, v, h, e => by
    obtain ⟨a, h1, h2⟩ := h.1
    have e : some u = some v := e
    cases e
    exact ⟨c, a, rfl, h1, h2⟩
  | u :: vs, c :: cs, i + 1, v, h, e => RefsN.at (i := i) h.2 e
structure FnAr (X : Cx) (es : List Expr) (cs : List Str) : Prop where
  ex : ∃ (vs : List V) (t : TA), PA X es t ∧ (∀ σ H (Q : List V → Hp → Prop), Q vs H → t σ H Q) ∧ RefsN X.K vs cs
section
variable {X : Cx}
theorem fa_nil : FnAr X [] [] := ⟨[], tNil, pa_nil, fun _ _ _ q => q, trivial⟩
theorem fa_cons {x : Str} {p : Pos} {es : List Expr} {cs : List Str} (F : FnN X.K X.mg x) (h : FnAr X es cs) (hg : Gl X x := by rfl) (hd : (x == ("__debug__" : Str)) = false := by decide)
    (he : starEach (.Name x p :: es) X.env = (false, eval (.Name x p) X.env) :: starEach es X.env := by rfl) : FnAr X (.Name x p :: es) (x :: cs) := by
  obtain ⟨vs, t, h1, h2, h3⟩ := h.ex
  obtain ⟨a, hm, hn⟩ := F.ex
  exact ⟨.ref a :: vs, tCons (tC (.ref a)) t, pa_cons (pe_glob hg hm rfl hd) h1 he, fun σ H Q q => h2 σ H _ q, ⟨a, rfl, hn⟩, h3⟩
end
section
variable {K : PySem.W.Frag} {A : DA} {hid P : Addr → Prop} {s : S} {σ : St} {H : Hp}
theorem SOk.set_fn {i : Nat} {a : Addr} {c : Str} (ok : SOk K A hid P s σ H) (hn : PySem.W.nsIn K mainGlobals c = some (some (.ref a))) : SOk K A hid P { s with g := s.g.set i (some (.fn c)) } (σ.set i (some (.ref a))) H := by
  have hl := ok.len
  refine ⟨ok.trk, ok.hp, ok.hd, by simpa using ok.len, fun j w e => ?_, fun j l w u a2 e1 e2 c1 c2 e3 e4 => ?_, ok.deck⟩
  · show SlotOk K A hid P H (σ.set i (some (.ref a)))[j]? w
    have e : (s.g.set i (some (.fn c)))[j]? = some (some w) := e
    rw [get_set] at e ⊢
    rw [← hl]
    split at e
    · cases e
      rw [if_pos (by assumption)]
      exact ⟨a, rfl, hn⟩
    · rw [if_neg (by assumption)]
      exact ok.slot j w e
  · have e1 : (s.g.set i (some (.fn c)))[j]? = some (some w) := e1
    have e2 : (s.g.set i (some (.fn c)))[l]? = some (some u) := e2
    rw [get_set] at e1 e2 e3 e4
    rw [← hl] at e3 e4
    split at e1
    · cases e1; cases c1
    · split at e2
      · cases e2; cases c2
      · rw [if_neg (by assumption)] at e3
        rw [if_neg (by assumption)] at e4
        exact ok.apart j l w u a2 e1 e2 c1 c2 e3 e4
end
def loopF (i : Nat) (body : M Fl) : List Str → M Fl
  | [] => rtn .nx
  | c :: r => fun s => bd body (fun fl => match fl with
    | .nx => loopF i body r
    | .ct => loopF i body r
    | .bk => rtn .nx
    | .rt d => rtn (.rt d)) { s with g := s.g.set i (some (.fn c)) }
section
variable {X : Cx} {K : PySem.W.Frag} {i0 : Nat} {cs : List Str} {vs : List V} {tb : TS} {m : M Fl}
theorem for_fn {t : TA} (ht : ∀ σ H (Q : List V → Hp → Prop), Q vs H → t σ H Q) (hl : vs.length ≤ sizeLine) (hv : RefsN K vs cs) (hb : EvS K tb m) : EvS K (tFor (iSeq K (tTup t)) (gName i0) tb) (loopF i0 m cs) := by
  intro A hid P s σ H fl s' ok e D q
  refine ht σ H _ ⟨hl, fun p hp => ⟨p, rfl, .inr ⟨⟨vs, SqT.of upd_same⟩, ?_⟩⟩⟩
  have g0 : Grw H (upd H p (.tup vs)) := Grw.new hp
  have ok0 := ok.grw g0
  have st0 : Stp hid P P H (upd H p (.tup vs)) := Stp.grw g0
  have gT : SqT K (mask P (upd H p (.tup vs))) p vs := SqT.of (by rw [mask_new (ok.free hp)])
  have hn := hv.len
  refine ⟨fun i n σ' H' => n = cs.length - i ∧ i ≤ cs.length ∧ ∃ P' s2, SOk K A hid P' s2 σ' H' ∧ Stp hid P P' H H' ∧ SqT K (mask P' H') p vs ∧ loopF i0 m (cs.drop i) s2 = some (fl, s'),
    ⟨cs.length, by omega, Nat.zero_le _, P, s, ok0, st0, gT, e⟩, ?_⟩
  rintro i n σ' H' ⟨rfl, hle, P', s2, ok2, st2, g2, e2⟩
  by_cases hlt : i < cs.length
  · refine .inr ⟨⟨vs, vs[i]'(by omega), sqT_le g2, by simp⟩, fun σ3 H3 => ∃ P3 s3, SOk K A hid P3 s3 σ3 H3 ∧ Stp hid P P3 H H3 ∧ SqT K (mask P3 H3) p vs ∧ loopF i0 m (cs.drop (i + 1)) s3 = some (fl, s'), fun σ3 H3 ⟨P3, s3, a1, a2, a3, a4⟩ => ⟨cs.length - (i + 1), by omega, rfl, hlt, P3, s3, a1, a2, a3, a4⟩, fun x H3 y => ?_⟩
    obtain ⟨rfl, y⟩ := y
    have h := y vs (sqT_le g2)
    obtain ⟨c, a, hc, rfl, hna⟩ := hv.at h
    rw [List.drop_eq_getElem_cons hlt] at e2
    have hd' : cs[i] = c := by rw [List.getElem?_eq_getElem hlt] at hc; exact Option.some.inj hc
    rw [hd'] at e2
    obtain ⟨fl5, s5, e6, e7⟩ := bd_some e2
    refine hb A hid P' _ _ H3 fl5 s5 (ok2.set_fn hna) e6 _ ?_
    have fwd : ∀ (σ6 : St) (P6 : Addr → Prop) (H6 : Hp), SOk K A hid P6 s5 σ6 H6 → Stp hid P' P6 H3 H6 → loopF i0 m (cs.drop (i + 1)) s5 = some (fl, s') →
        ∃ P3 s3, SOk K A hid P3 s3 σ6 H6 ∧ Stp hid P P3 H H6 ∧ SqT K (mask P3 H6) p vs ∧ loopF i0 m (cs.drop (i + 1)) s3 = some (fl, s') :=
      fun σ6 P6 H6 ok6 st6 e8 => ⟨P6, s5, ok6, st2.trans st6, SqT.grw st6.mg g2, e8⟩
    cases fl5 with
    | nx => exact fun σ6 P6 H6 ok6 st6 => fwd σ6 P6 H6 ok6 st6 e7
    | ct => exact fun σ6 P6 H6 ok6 st6 => fwd σ6 P6 H6 ok6 st6 e7
    | bk =>
      obtain ⟨rfl, rfl⟩ := rtn_some e7
      exact fun σ6 P6 H6 ok6 st6 => q σ6 P6 H6 ok6 (st2.trans st6)
    | rt r =>
      obtain ⟨rfl, rfl⟩ := rtn_some e7
      exact fun v σ6 P6 H6 ok6 st6 rr => q v σ6 P6 H6 ok6 (st2.trans st6) rr
  · have hi : i = cs.length := by omega
    subst hi
    rw [List.drop_length] at e2
    obtain ⟨rfl, rfl⟩ := rtn_some e2
    exact .inl ⟨⟨vs, sqT_le g2, by omega⟩, q σ' P' H' ok2 st2⟩
theorem x_forF (i : Nat) {x : Str} {es : List Expr} {x1} {p0 p1 pos : Pos} {body : List Stmt} (ha : FnAr X es cs) (hb : XS X body m) (hN : X.N.Nodup) (hi : X.N[i]? = some x := by rfl) (hx : Loc X.env.scope x := by first | exact Or.inl rfl | exact Or.inr rfl) (hf : X.fn x = true ∨ X.env.scope.names.lookup x = some .local := by first | exact .inl rfl | exact .inr rfl | assumption)
    (hl : cs.length ≤ 1000 := by decide) (hp : PassesOwn (model X.prog X.w) X.A X.env X.xe := by exact PassesOwn.never) (hc : X.calm = true := by rfl) (hs : ∀ y, foldedSetIterable (.Tuple es x1 p1) X.env y = pure y := by intro _; rfl) :
    X1 X (.For (.Name x p0) (.Tuple es x1 p1) body [] pos) (loopF i m cs) := by
  obtain ⟨vs, t, h1, h2, h3⟩ := ha.ex
  obtain ⟨_, hb⟩ := hb
  have hlen := h3.len
  exact ⟨_, ps_for hp hc (pi_seq (pe_tup h1)) (pg_name hN hi hx hf) hb.p hs, for_fn h2 (by rw [sizeLine_eq]; omega) h3 hb.v⟩
end
/-! a call of the local name -/
structure FnXN (P : Program) (w : World) (K : PySem.W.Frag) (mg : Str → Option Value) (base : Heap) (k : Nat) (x : Str) (sem : FSX) : Prop where
  ex : ∃ (f : Addr) (fd : FuncData) (ps : List Str), PySem.W.nsIn K mainGlobals x = some (some (.ref f)) ∧ FnOk P w K mg base (L2.CX P w) k f fd ps (spX K sem) ∧ PySem.W.keepIn K (.ref f) = true ∧ Binds K fd ps []
theorem FnXN.of {P : Program} {w : World} {K : PySem.W.Frag} {mg : Str → Option Value} {base : Heap} {k : Nat} {x : Str} {ps : List Str} {kws : List (List Str × List Nat)} {sem : FSX} (F : FnX P w K mg base k x ps kws sem) (N : FnN K mg x) : FnXN P w K mg base k x sem := by
  obtain ⟨f, fd, h1, h2, h3, h4, _⟩ := F.ex
  obtain ⟨a, n1, n2⟩ := N.ex
  rw [h2] at n1
  cases n1
  exact ⟨f, fd, ps, n2, h1, h3, h4⟩
/-- of a table of names -/
def semTbl (T : List (Str × FSX)) (c : Str) : FSX := match T.lookup c with
  | some sem => sem
  | none => fun _ _ => none
def TblF (X : Cx) (T : List (Str × FSX)) : Prop := ∀ c, (T.lookup c).isSome = true → ∃ k, Room k X.A ∧ ∃ (f : Addr) (fd : FuncData) (ps : List Str), PySem.W.nsIn X.K mainGlobals c = some (some (.ref f)) ∧ FnOk X.prog X.w X.K X.mg X.base (L2.CX X.prog X.w) k f fd ps (spX X.K (semTbl T c)) ∧ PySem.W.keepIn X.K (.ref f) = true ∧ Binds X.K fd ps []
theorem tb_nil {X : Cx} : TblF X [] := fun c h => by cases h
theorem tb_cons {X : Cx} {T : List (Str × FSX)} {k : Nat} {x : Str} {ps : List Str} {kws : List (List Str × List Nat)} {sem : FSX} (F : FnX X.prog X.w X.K X.mg X.base k x ps kws sem) (N : FnN X.K X.mg x) (hr : Room k X.A) (h : TblF X T) : TblF X ((x, sem) :: T) := fun c hc => by
  have g := h c
  unfold semTbl at g ⊢
  rw [List.lookup_cons] at hc ⊢
  split at hc
  · rename_i hq
    obtain rfl := eq_of_beq hq
    exact ⟨k, hr, (FnXN.of F N).ex⟩
  · exact g hc
def xCallL (i : Nat) (T : List (Str × FSX)) (fr : M (List AV)) : MX D := fun s => match s.g[i]? with
  | some (some (.fn c)) => xCall (semTbl T c) fr s
  | _ => none
def tCallF (K : PySem.W.Frag) (P : Program) (w : World) (mg : Str → Option Value) (base : Heap) (A : Around) (W : WX) (i : Nat) (t : TA) : TE := fun σ H Q => ∃ (k : Nat) (f : Addr) (fd : FuncData) (ps : List Str) (sem : FSX), σ[i]? = some (some (.ref f)) ∧ Room k A ∧
  FnOk P w K mg base (L2.CX P w) k f fd ps (spX K sem) ∧ PySem.W.keepIn K (.ref f) = true ∧ Binds K fd ps [] ∧ tCallS (spX K sem) (WE W) t σ H Q
section
variable {X : Cx} {W : WX} {i k : Nat} {x : Str} {p pos : Pos} {e : Expr} {es : List Expr} {tr : TA} {fr : M (List AV)} {T : List (Str × FSX)}
theorem pe_callF (tk : Takes X W) (ha : PA X (e :: es) tr) (hN : X.N[i]? = some x) (hv : Vis X.env.scope x) (hdb : (x == ("__debug__" : Str)) = false) (hcd : (x == ("__classdict__" : Str)) = false)
    (he : starEach (e :: es) X.env = (false, eval e X.env) :: starEach es X.env) (hpl : (backTo pos (starEach es X.env)).any (·.1) = false) :
    PE X (.Call (.Name x p) (e :: es) [] pos) (tCallF X.K X.prog X.w X.mg X.base X.A W i tr) := by
  refine ⟨fun pins s σ H Q I h => ?_⟩
  obtain ⟨k, f, fd, ps, sem, hs, hr, F, hk, hb, ht⟩ := h
  refine wpAny_Call_Name_kw (thn ((pe_var (pos := p) hN hv hdb hcd).run pins s σ H (fun v H1 => v = .ref f ∧ H1 = H) I ⟨.ref f, hs, rfl, rfl⟩) fun u s1 ⟨v, H1, I1, r1, q1⟩ => ?_)
  obtain ⟨rfl, rfl⟩ := q1
  cases r1
  refine PySem.W.callWith_K (h₀ := X.base) I.ok.mod.kin hk (thn (ha.run pos pins s1 σ _ _ I1 ht) fun us s2 ⟨vs, H2, I2, r, q⟩ => ⟨I2.kIn, ?_⟩) he hpl
  exact run_fnS F hr hb (passAt tk σ) I2 r q
theorem de_xcallL (i : Nat) (hT : TblF X T) (tk : Takes X W) (ha : DV X (e :: es) [] tr fr) (hN : X.N[i]? = some x := by rfl) (hv : Vis X.env.scope x := by first | exact Or.inl rfl | exact Or.inr (Or.inl rfl) | exact Or.inr (Or.inr rfl))
    (hdb : (x == ("__debug__" : Str)) = false := by decide) (hcd : (x == ("__classdict__" : Str)) = false := by decide) (he : starEach (e :: es) X.env = (false, eval e X.env) :: starEach es X.env := by rfl) (hpl : (backTo pos (starEach es X.env)).any (·.1) = false := by rfl) :
    DEX X W (.Call (.Name x p) (e :: es) [] pos) (tCallF X.K X.prog X.w X.mg X.base X.A W i tr) (xCallL i T fr) := by
  refine ⟨pe_callF tk ha.p hN hv hdb hcd he hpl, ?_⟩
  intro A hid P s σ H r s' ok e0 Q q
  unfold xCallL at e0
  split at e0
  · rename_i c hc
    obtain ⟨a, ha1, ha2⟩ := ok.slot i _ hc
    cases hl : T.lookup c with
    | none =>
      unfold xCall semTbl at e0
      rw [hl] at e0
      dsimp only at e0
      split at e0
      · split at e0
        · cases e0
        · cases e0
      · cases e0
    | some sem =>
      obtain ⟨k, hr, f, fd, ps, n1, n2, n3, n4⟩ := hT c (by rw [hl]; rfl)
      rw [ha2] at n1
      cases n1
      exact ⟨k, a, fd, ps, _, ha1, hr, n2, n3, n4, ev_xcall ha.v A hid P s σ H r s' ok e0 Q q⟩
  · cases e0
end
/-- append of what may raise -/
def xApp (i : Nat) (f : MX D) : MX Fl := fun s => match s.g[i]? with
  | some (some (.lst _)) => (match f s with
    | some (.ok d, s1) => (match s1.g[i]? with
      | some (some (.lst ds)) => if ds.length ≤ lim then some (.ok .nx, { s1 with g := s1.g.set i (some (.lst (ds ++ [d]))) }) else none
      | _ => none)
    | some (.xc c, s1) => some (.xc c, s1)
    | none => none)
  | _ => none
section
variable {X : Cx} {W : WX} {e : Expr} {te : TE} {f : MX D} {pos : Pos}
theorem ev_xapp {K : PySem.W.Frag} {i : Nat} (h : EvEX K W te f) : EvSX K W (tDrop (tBM K "list" rAppend (tVar i) (tCons te tNil))) (xApp i f) := by
  intro A hid P s σ H r s' ok e D q
  unfold xApp at e
  split at e
  · rename_i ds0 hg0
    obtain ⟨a, vs0, ea, k1, _⟩ := ok.slot i _ hg0
    refine ⟨.ref a, ea, .inl ⟨rfl, vs0, SqL.of k1⟩, ?_⟩
    cases hf : f s with
    | none => rw [hf] at e; cases e
    | some y =>
      obtain ⟨r1, s1⟩ := y
      rw [hf] at e
      cases r1 with
      | xc c => cases e; exact h A hid P s σ H _ _ ok hf _ fun cls dx P1 H1 i o st => q cls dx σ P1 H1 i o st
      | ok d =>
        dsimp only at e
        refine h A hid P s σ H _ s1 ok hf _ fun v P1 H1 ok1 st1 r => ?_
        split at e
        · rename_i ds hg
          split at e
          · rename_i hl
            cases e
            obtain ⟨b, vs, eb, m1, m2, m3, m4, mr⟩ := ok1.slot i _ hg
            rw [ea] at eb; cases eb
            obtain ⟨ok2, st2⟩ := ok1.put_cell hg ea (mr.append (.cons r .nil))
            refine ⟨a, vs, v, rfl, rfl, m1, by rw [mr.length]; exact lim_lt hl, ?_⟩
            exact q σ P1 _ ok2 (st1.trans st2)
          · cases e
        · cases e
  · cases e
theorem xx_app (i : Nat) {x : Str} {px pa pe : Pos} (h : DEX X W e te f) (hN : X.N[i]? = some x := by rfl) (hv : Vis X.env.scope x := by first | exact Or.inl rfl | exact Or.inr (Or.inl rfl) | exact Or.inr (Or.inr rfl))
    (hd : (x == ("__debug__" : Str)) = false := by decide) (hcd : (x == ("__classdict__" : Str)) = false := by decide) (hst : starEach [e] X.env = (false, eval e X.env) :: starEach [] X.env := by rfl)
    (hbase : attributeBase (.Name x px) "append" X.env (eval (.Name x px) X.env) = eval (.Name x px) X.env := by rfl)
    (hfew : ((backTo pe (starEach [e] X.env)).all (fun x => !x.1) && (backToKw pe (keywordEach [] X.env)).all (fun x => x.1.isSome) && decide ([e].length + ([] : List Keyword).length + (if ([] : List Keyword).isEmpty then 0 else 1) < 30)) = true := by rfl)
    (hline : (pa.endLine == pe.line) = true := by rfl) (hplain : (backTo pe (starEach [] X.env)).any (·.1) = false := by rfl)
    (hs : swapsWith (.Call (.Attribute (.Name x px) "append" pa) [e] [] pe) none pos.line X.env = pure false := by rfl) : X1X X W (.Expr (.Call (.Attribute (.Name x px) "append" pa) [e] [] pe) pos) (xApp i f) :=
  ⟨_, ps_expr (pe_bm PySem.F.plainAttrs_list PySem.F.slot_list_append PySem.F.type_list_append mt_append (pe_var hN hv hd hcd) (pa_cons h.p pa_nil hst) hbase hfew hline hst hplain) hs, ev_xapp h.v⟩
end
/-- append in an except suite -/
def hApp (j : Nat) (d : D) : M Fl := fun s => match s.g[j]? with
  | some (some (.lst ds)) => if ds.length ≤ lim then some (.nx, ⟨s.g.set j (some (.lst (ds ++ [d]))), s.k⟩) else none
  | _ => none
theorem su_appN {X : Cx} {i : Nat} {h : HF} {e : Expr} {pos : Pos} {y : Str} {px pa pe : Pos} (j : Nat) (hh : HE X i e h) (hN : X.N[j]? = some y := by rfl) (hv : Vis X.env.scope y := by first | exact Or.inl rfl | exact Or.inr (Or.inl rfl) | exact Or.inr (Or.inr rfl))
    (hd : (y == ("__debug__" : Str)) = false := by decide) (hcd : (y == ("__classdict__" : Str)) = false := by decide) (hst : starEach [e] X.env = (false, eval e X.env) :: starEach [] X.env := by rfl)
    (hbase : attributeBase (.Name y px) "append" X.env (eval (.Name y px) X.env) = eval (.Name y px) X.env := by rfl)
    (hfew : ((backTo pe (starEach [e] X.env)).all (fun x => !x.1) && (backToKw pe (keywordEach [] X.env)).all (fun x => x.1.isSome) && decide ([e].length + ([] : List Keyword).length + (if ([] : List Keyword).isEmpty then 0 else 1) < 30)) = true := by rfl)
    (hline : (pa.endLine == pe.line) = true := by rfl) (hplain : (backTo pe (starEach [] X.env)).any (·.1) = false := by rfl)
    (hs : swapsWith (.Call (.Attribute (.Name y px) "append" pa) [e] [] pe) none pos.line X.env = pure false := by rfl) :
    HSu X i [.Expr (.Call (.Attribute (.Name y px) "append" pa) [e] [] pe) pos] (hD h (hApp j)) := su_app j hh hN hv hd hcd hst hbase hfew hline hplain hs
/-! wp -/
section
variable {s : S}
@[simp ↓] theorem wp_hApp {j : Nat} {d : D} {Z : Fl → S → Prop} : wp (hApp j d) s Z ↔ ∃ ds, s.g[j]? = some (some (.lst ds)) ∧ ds.length ≤ lim ∧ Z .nx ⟨s.g.set j (some (.lst (ds ++ [d]))), s.k⟩ := by
  unfold wp hApp
  constructor
  · rintro ⟨a, s', e, q⟩
    split at e
    · rename_i ds hd
      split at e
      · rename_i hl; cases e; exact ⟨ds, hd, hl, q⟩
      · cases e
    · cases e
  · rintro ⟨ds, hd, hl, q⟩
    refine ⟨_, _, ?_, q⟩
    rw [hd]
    dsimp only
    rw [if_pos hl]
@[simp ↓] theorem wp_xApp {i : Nat} {f : MX D} {Q : RX Fl → S → Prop} : wp (α := RX Fl) (xApp i f) s Q ↔ (∃ l0, s.g[i]? = some (some (.lst l0))) ∧ wp (α := RX D) f s fun r s1 => match r with
    | .ok d => ∃ ds, s1.g[i]? = some (some (.lst ds)) ∧ ds.length ≤ lim ∧ Q (.ok .nx) ⟨s1.g.set i (some (.lst (ds ++ [d]))), s1.k⟩
    | .xc c => Q (.xc c) s1 := by
  unfold wp xApp
  constructor
  · rintro ⟨a, s', e, q⟩
    split at e
    · rename_i l0 h0
      refine ⟨⟨l0, h0⟩, ?_⟩
      cases hf : f s with
      | none => rw [hf] at e; cases e
      | some y =>
        obtain ⟨r, s1⟩ := y
        rw [hf] at e
        refine ⟨r, s1, rfl, ?_⟩
        cases r with
        | xc c => cases e; exact q
        | ok d =>
          dsimp only at e ⊢
          split at e
          · rename_i ds hd
            split at e
            · rename_i hl; cases e; exact ⟨ds, hd, hl, q⟩
            · cases e
          · cases e
    · cases e
  · rintro ⟨⟨l0, h0⟩, r, s1, hf, q⟩
    rw [h0]
    dsimp only
    rw [hf]
    cases r with
    | xc c => exact ⟨_, _, rfl, q⟩
    | ok d =>
      obtain ⟨ds, hd, hl, q⟩ := q
      refine ⟨_, _, ?_, q⟩
      dsimp only
      rw [hd]
      dsimp only
      rw [if_pos hl]
end
section
variable {s : S}
@[simp ↓] theorem wp_loopF_nil {i : Nat} {m : M Fl} {Z : Fl → S → Prop} : wp (loopF i m []) s Z ↔ Z .nx s := by unfold loopF; simp
@[simp ↓] theorem wp_loopF {i : Nat} {m : M Fl} {c : Str} {cs : List Str} {Z : Fl → S → Prop} : wp (loopF i m (c :: cs)) s Z ↔ wp m ⟨s.g.set i (some (.fn c)), s.k⟩ fun fl s1 => match fl with
    | .nx => wp (loopF i m cs) s1 Z
    | .ct => wp (loopF i m cs) s1 Z
    | .bk => Z .nx s1
    | .rt d => Z (.rt d) s1 := by
  show wp (bd m _) _ Z ↔ _
  rw [wp_bd]
  constructor <;> intro h <;> refine wp_mono h fun fl s1 q => ?_ <;> cases fl <;> simpa using q
theorem wp_xCallL {i : Nat} {T : List (Str × FSX)} {fr : M (List AV)} {c : Str} {Q : RX D → S → Prop} (h : s.g[i]? = some (some (.fn c))) : wp (α := RX D) (xCallL i T fr) s Q ↔ wp (α := RX D) (xCall (semTbl T c) fr) s Q := by
  unfold wp xCallL
  rw [h]
end
end DL
namespace Lw
open PySem PySem.Spec PyProof.Rows L2 DL
/-! the text of law_k61_leasts, by its defs (printed by gen.py) -/
def topS (i : Nat) : Stmt := PySem.Challenge.pw_rowsback_k61_leasts.main.body.getD i (.Pass ⟨0, 0, 0, 0⟩)
abbrev s_p_step_value : Stmt := topS 2
abbrev n_p_step_value : List Str := ["step", "point", "found", "one", "other"]
theorem sc_p_step_value : FnScope n_p_step_value ["step", "point", "found"] (defScope s_p_step_value) := ⟨rfl, rfl, rfl, by decide +kernel, rfl, by decide +kernel, by decide +kernel⟩
abbrev s_p_values : Stmt := topS 3
abbrev n_p_values : List Str := ["row", "point", "found", "step"]
theorem sc_p_values : FnScope n_p_values ["row", "point"] (defScope s_p_values) := ⟨rfl, rfl, rfl, by decide +kernel, rfl, by decide +kernel, by decide +kernel⟩
abbrev s_p_told : Stmt := topS 4
abbrev n_p_told : List Str := ["row", "point", "found", "end"]
theorem sc_p_told : FnScope n_p_told ["row", "point"] (defScope s_p_told) := ⟨rfl, rfl, rfl, by decide +kernel, rfl, by decide +kernel, by decide +kernel⟩
abbrev s_p_point_count : Stmt := topS 6
abbrev n_p_point_count : List Str := ["box", "found", "low", "high"]
theorem sc_p_point_count : FnScope n_p_point_count ["box"] (defScope s_p_point_count) := ⟨rfl, rfl, rfl, by decide +kernel, rfl, by decide +kernel, by decide +kernel⟩
abbrev s_p_middle : Stmt := topS 7
abbrev n_p_middle : List Str := ["box", "low", "high"]
theorem sc_p_middle : FnScope n_p_middle ["box"] (defScope s_p_middle) := ⟨rfl, rfl, rfl, by decide +kernel, rfl, by decide +kernel, by decide +kernel⟩
abbrev s_p_parted : Stmt := topS 8
abbrev n_p_parted : List Str := ["box", "unknown", "number", "low", "high", "ahead", "behind"]
theorem sc_p_parted : FnScope n_p_parted ["box", "unknown", "number"] (defScope s_p_parted) := ⟨rfl, rfl, rfl, by decide +kernel, rfl, by decide +kernel, by decide +kernel⟩
abbrev s_p_contrary : Stmt := topS 9
abbrev n_p_contrary : List Str := ["one"]
theorem sc_p_contrary : FnScope n_p_contrary ["one"] (defScope s_p_contrary) := ⟨rfl, rfl, rfl, by decide +kernel, rfl, by decide +kernel, by decide +kernel⟩
abbrev s_p_summed : Stmt := topS 10
abbrev n_p_summed : List Str := ["one", "other"]
theorem sc_p_summed : FnScope n_p_summed ["one", "other"] (defScope s_p_summed) := ⟨rfl, rfl, rfl, by decide +kernel, rfl, by decide +kernel, by decide +kernel⟩
abbrev s_p_multiplied : Stmt := topS 11
abbrev n_p_multiplied : List Str := ["one", "other", "found"]
theorem sc_p_multiplied : FnScope n_p_multiplied ["one", "other"] (defScope s_p_multiplied) := ⟨rfl, rfl, rfl, by decide +kernel, rfl, by decide +kernel, by decide +kernel⟩
abbrev s_p_step_range : Stmt := topS 12
abbrev n_p_step_range : List Str := ["step", "box", "found", "one", "other"]
theorem sc_p_step_range : FnScope n_p_step_range ["step", "box", "found"] (defScope s_p_step_range) := ⟨rfl, rfl, rfl, by decide +kernel, rfl, by decide +kernel, by decide +kernel⟩
abbrev s_p_step_ranges : Stmt := topS 13
abbrev n_p_step_ranges : List Str := ["row", "box", "found", "step"]
theorem sc_p_step_ranges : FnScope n_p_step_ranges ["row", "box"] (defScope s_p_step_ranges) := ⟨rfl, rfl, rfl, by decide +kernel, rfl, by decide +kernel, by decide +kernel⟩
abbrev s_p_ranges : Stmt := topS 14
abbrev n_p_ranges : List Str := ["row", "box", "found", "end"]
theorem sc_p_ranges : FnScope n_p_ranges ["row", "box"] (defScope s_p_ranges) := ⟨rfl, rfl, rfl, by decide +kernel, rfl, by decide +kernel, by decide +kernel⟩
abbrev s_p_step_rate_range : Stmt := topS 15
abbrev n_p_step_rate_range : List Str := ["step", "unknown", "own", "rates", "number", "one", "other"]
theorem sc_p_step_rate_range : FnScope n_p_step_rate_range ["step", "unknown", "own", "rates"] (defScope s_p_step_rate_range) := ⟨rfl, rfl, rfl, by decide +kernel, rfl, by decide +kernel, by decide +kernel⟩
abbrev s_p_rates_in : Stmt := topS 16
abbrev n_p_rates_in : List Str := ["row", "unknown", "own", "found", "step", "end"]
theorem sc_p_rates_in : FnScope n_p_rates_in ["row", "unknown", "own"] (defScope s_p_rates_in) := ⟨rfl, rfl, rfl, by decide +kernel, rfl, by decide +kernel, by decide +kernel⟩
abbrev s_p_rate_ranges : Stmt := topS 17
abbrev n_p_rate_ranges : List Str := ["row", "box", "own", "columns", "unknown", "end", "column"]
theorem sc_p_rate_ranges : FnScope n_p_rate_ranges ["row", "box"] (defScope s_p_rate_ranges) := ⟨rfl, rfl, rfl, by decide +kernel, rfl, by decide +kernel, by decide +kernel⟩
abbrev s_p_by_rates : Stmt := topS 18
abbrev n_p_by_rates : List Str := ["row", "box", "start", "found", "value", "rates", "own", "unknown", "rate", "low", "high"]
theorem sc_p_by_rates : FnScope n_p_by_rates ["row", "box"] (defScope s_p_by_rates) := ⟨rfl, rfl, rfl, by decide +kernel, rfl, by decide +kernel, by decide +kernel⟩
abbrev s_p_need_few : Stmt := topS 23
abbrev n_p_need_few : List Str := ["box"]
theorem sc_p_need_few : FnScope n_p_need_few ["box"] (defScope s_p_need_few) := ⟨rfl, rfl, rfl, by decide +kernel, rfl, by decide +kernel, by decide +kernel⟩
abbrev s_p_points : Stmt := topS 24
abbrev n_p_points : List Str := ["box", "found", "low", "high", "more", "point", "number"]
theorem sc_p_points : FnScope n_p_points ["box"] (defScope s_p_points) := ⟨rfl, rfl, rfl, by decide +kernel, rfl, by decide +kernel, by decide +kernel⟩
abbrev s_p_least : Stmt := topS 25
abbrev n_p_least : List Str := ["row", "end", "box", "point"]
theorem sc_p_least : FnScope n_p_least ["row", "end", "box"] (defScope s_p_least) := ⟨rfl, rfl, rfl, by decide +kernel, rfl, by decide +kernel, by decide +kernel⟩
abbrev s_p_greatest : Stmt := topS 26
abbrev n_p_greatest : List Str := ["row", "end", "box", "value", "point"]
theorem sc_p_greatest : FnScope n_p_greatest ["row", "end", "box"] (defScope s_p_greatest) := ⟨rfl, rfl, rfl, by decide +kernel, rfl, by decide +kernel, by decide +kernel⟩
abbrev s_p_signs : Stmt := topS 27
abbrev n_p_signs : List Str := ["row", "end", "box", "found", "point", "value"]
theorem sc_p_signs : FnScope n_p_signs ["row", "end", "box"] (defScope s_p_signs) := ⟨rfl, rfl, rfl, by decide +kernel, rfl, by decide +kernel, by decide +kernel⟩
abbrev s_p_grown : Stmt := topS 28
abbrev n_p_grown : List Str := ["row", "end", "box", "value", "widths", "unknown", "number", "one", "other", "low", "high"]
theorem sc_p_grown : FnScope n_p_grown ["row", "end", "box", "value"] (defScope s_p_grown) := ⟨rfl, rfl, rfl, by decide +kernel, rfl, by decide +kernel, by decide +kernel⟩
abbrev s_p_least_paper : Stmt := topS 29
abbrev n_p_least_paper : List Str := ["row", "end", "box", "value", "point"]
theorem sc_p_least_paper : FnScope n_p_least_paper ["row", "end", "box"] (defScope s_p_least_paper) := ⟨rfl, rfl, rfl, by decide +kernel, rfl, by decide +kernel, by decide +kernel⟩
abbrev s_l_deck : Stmt := topS 31
abbrev n_l_deck : List Str := ["_law_script", "_law_cells", "_law_cell"]
theorem sc_l_deck : FnScope n_l_deck ["_law_script"] (defScope s_l_deck) := ⟨rfl, rfl, rfl, by decide +kernel, rfl, by decide +kernel, by decide +kernel⟩
abbrev s_l_draw : Stmt := topS 32
abbrev n_l_draw : List Str := ["_law_deck_here", "_law_many", "_law_rest", "_law_cell", "_law_mixed"]
theorem sc_l_draw : FnScope n_l_draw ["_law_deck_here", "_law_many"] (defScope s_l_draw) := ⟨rfl, rfl, rfl, by decide +kernel, rfl, by decide +kernel, by decide +kernel⟩
abbrev s_l_one : Stmt := topS 33
abbrev n_l_one : List Str := ["_law_deck_here", "_law_items"]
theorem sc_l_one : FnScope n_l_one ["_law_deck_here", "_law_items"] (defScope s_l_one) := ⟨rfl, rfl, rfl, by decide +kernel, rfl, by decide +kernel, by decide +kernel⟩
abbrev s_l_size : Stmt := topS 34
abbrev n_l_size : List Str := ["_law_step", "_law_found"]
theorem sc_l_size : FnScope n_l_size ["_law_step", "_law_found"] (defScope s_l_size) := ⟨rfl, rfl, rfl, by decide +kernel, rfl, by decide +kernel, by decide +kernel⟩
abbrev s_l_row : Stmt := topS 35
abbrev n_l_row : List Str := ["_law_deck_here", "_law_inputs", "_law_many", "_law_most", "_law_steps", "_law_found", "_law_number_here", "_law_word", "_law_step", "_law_ends", "_law_k"]
theorem sc_l_row : FnScope n_l_row ["_law_deck_here", "_law_inputs", "_law_many", "_law_most"] (defScope s_l_row) := ⟨rfl, rfl, rfl, by decide +kernel, rfl, by decide +kernel, by decide +kernel⟩
abbrev s_l_far : Stmt := topS 36
abbrev n_l_far : List Str := ["_law_deck_here", "_law_many", "_law_found", "_law_turn"]
theorem sc_l_far : FnScope n_l_far ["_law_deck_here", "_law_many"] (defScope s_l_far) := ⟨rfl, rfl, rfl, by decide +kernel, rfl, by decide +kernel, by decide +kernel⟩
abbrev s_l_number : Stmt := topS 37
abbrev n_l_number : List Str := ["_law_deck_here", "_law_most"]
theorem sc_l_number : FnScope n_l_number ["_law_deck_here"] (defScope s_l_number) := ⟨rfl, rfl, rfl, by decide +kernel, rfl, by decide +kernel, by decide +kernel⟩
abbrev s_l_values : Stmt := topS 38
abbrev n_l_values : List Str := ["_law_row_here", "_law_point", "_law_found", "_law_step", "_law_one_here", "_law_other"]
theorem sc_l_values : FnScope n_l_values ["_law_row_here", "_law_point"] (defScope s_l_values) := ⟨rfl, rfl, rfl, by decide +kernel, rfl, by decide +kernel, by decide +kernel⟩
abbrev s_l_told : Stmt := topS 39
abbrev n_l_told : List Str := ["_law_row_here", "_law_point", "_law_found", "_law_end"]
theorem sc_l_told : FnScope n_l_told ["_law_row_here", "_law_point"] (defScope s_l_told) := ⟨rfl, rfl, rfl, by decide +kernel, rfl, by decide +kernel, by decide +kernel⟩
abbrev s_l_box : Stmt := topS 40
abbrev n_l_box : List Str := ["_law_deck_here", "_law_inputs", "_law_wide", "_law_found", "_law_k", "_law_low"]
theorem sc_l_box : FnScope n_l_box ["_law_deck_here", "_law_inputs", "_law_wide"] (defScope s_l_box) := ⟨rfl, rfl, rfl, by decide +kernel, rfl, by decide +kernel, by decide +kernel⟩
abbrev s_l_points : Stmt := topS 41
abbrev n_l_points : List Str := ["_law_box_here", "_law_found", "_law_low", "_law_high", "_law_more", "_law_point", "_law_number_here"]
theorem sc_l_points : FnScope n_l_points ["_law_box_here"] (defScope s_l_points) := ⟨rfl, rfl, rfl, by decide +kernel, rfl, by decide +kernel, by decide +kernel⟩
abbrev s_l_told_all : Stmt := topS 42
abbrev n_l_told_all : List Str := ["_law_row_here", "_law_end", "_law_box_here", "_law_found", "_law_call", "e"]
theorem sc_l_told_all : FnScope n_l_told_all ["_law_row_here", "_law_end", "_law_box_here"] (defScope s_l_told_all) := ⟨rfl, rfl, rfl, by decide +kernel, rfl, by decide +kernel, by decide +kernel⟩
abbrev s_l_is_refused : Stmt := topS 43
abbrev n_l_is_refused : List Str := ["_law_row_here", "_law_box_here", "_law_found", "e"]
theorem sc_l_is_refused : FnScope n_l_is_refused ["_law_row_here", "_law_box_here"] (defScope s_l_is_refused) := ⟨rfl, rfl, rfl, by decide +kernel, rfl, by decide +kernel, by decide +kernel⟩
abbrev s_p_law : Stmt := topS 44
abbrev n_p_law : List Str := ["_law_script", "_law_deck_here", "_law_turn", "_law_inputs", "_law_row_here", "_law_wide", "_law_box_here", "_law_points_here", "_law_shown", "_law_end", "_law_known", "_law_high", "_law_first", "_law_kinds", "_law_due", "_law_named", "_law_far_here", "_law_told_here", "_law_point", "_law_value"]
theorem sc_p_law : FnScope n_p_law ["_law_script"] (defScope s_p_law) := ⟨rfl, rfl, rfl, by decide +kernel, rfl, by decide +kernel, by decide +kernel⟩
abbrev s_p_TooGreat_init : Stmt := inClass (topS 21) 0
abbrev n_p_TooGreat_init : List Str := ["self", "limit"]
theorem sc_p_TooGreat_init : FnScope n_p_TooGreat_init ["self", "limit"] (defScope s_p_TooGreat_init) := ⟨rfl, rfl, rfl, by decide +kernel, rfl, by decide +kernel, by decide +kernel⟩
/-- what the top has written -/
structure Txt (K : PySem.W.Frag) (mg : Str → Option Value) : Prop where
  f_p_step_value : ∃ (f : Addr) (fd : FuncData), Fun K "step_value" "step_value" s_p_step_value f fd ∧ mg "step_value" = some (.ref f)
  f_p_values : ∃ (f : Addr) (fd : FuncData), Fun K "values" "values" s_p_values f fd ∧ mg "values" = some (.ref f)
  f_p_told : ∃ (f : Addr) (fd : FuncData), Fun K "told" "told" s_p_told f fd ∧ mg "told" = some (.ref f)
  f_p_point_count : ∃ (f : Addr) (fd : FuncData), Fun K "point_count" "point_count" s_p_point_count f fd ∧ mg "point_count" = some (.ref f)
  f_p_middle : ∃ (f : Addr) (fd : FuncData), Fun K "middle" "middle" s_p_middle f fd ∧ mg "middle" = some (.ref f)
  f_p_parted : ∃ (f : Addr) (fd : FuncData), Fun K "parted" "parted" s_p_parted f fd ∧ mg "parted" = some (.ref f)
  f_p_contrary : ∃ (f : Addr) (fd : FuncData), Fun K "contrary" "contrary" s_p_contrary f fd ∧ mg "contrary" = some (.ref f)
  f_p_summed : ∃ (f : Addr) (fd : FuncData), Fun K "summed" "summed" s_p_summed f fd ∧ mg "summed" = some (.ref f)
  f_p_multiplied : ∃ (f : Addr) (fd : FuncData), Fun K "multiplied" "multiplied" s_p_multiplied f fd ∧ mg "multiplied" = some (.ref f)
  f_p_step_range : ∃ (f : Addr) (fd : FuncData), Fun K "step_range" "step_range" s_p_step_range f fd ∧ mg "step_range" = some (.ref f)
  f_p_step_ranges : ∃ (f : Addr) (fd : FuncData), Fun K "step_ranges" "step_ranges" s_p_step_ranges f fd ∧ mg "step_ranges" = some (.ref f)
  f_p_ranges : ∃ (f : Addr) (fd : FuncData), Fun K "ranges" "ranges" s_p_ranges f fd ∧ mg "ranges" = some (.ref f)
  f_p_step_rate_range : ∃ (f : Addr) (fd : FuncData), Fun K "step_rate_range" "step_rate_range" s_p_step_rate_range f fd ∧ mg "step_rate_range" = some (.ref f)
  f_p_rates_in : ∃ (f : Addr) (fd : FuncData), Fun K "rates_in" "rates_in" s_p_rates_in f fd ∧ mg "rates_in" = some (.ref f)
  f_p_rate_ranges : ∃ (f : Addr) (fd : FuncData), Fun K "rate_ranges" "rate_ranges" s_p_rate_ranges f fd ∧ mg "rate_ranges" = some (.ref f)
  f_p_by_rates : ∃ (f : Addr) (fd : FuncData), Fun K "by_rates" "by_rates" s_p_by_rates f fd ∧ mg "by_rates" = some (.ref f)
  f_p_need_few : ∃ (f : Addr) (fd : FuncData), Fun K "need_few" "need_few" s_p_need_few f fd ∧ mg "need_few" = some (.ref f)
  f_p_points : ∃ (f : Addr) (fd : FuncData), Fun K "points" "points" s_p_points f fd ∧ mg "points" = some (.ref f)
  f_p_least : ∃ (f : Addr) (fd : FuncData), Fun K "least" "least" s_p_least f fd ∧ mg "least" = some (.ref f)
  f_p_greatest : ∃ (f : Addr) (fd : FuncData), Fun K "greatest" "greatest" s_p_greatest f fd ∧ mg "greatest" = some (.ref f)
  f_p_signs : ∃ (f : Addr) (fd : FuncData), Fun K "signs" "signs" s_p_signs f fd ∧ mg "signs" = some (.ref f)
  f_p_grown : ∃ (f : Addr) (fd : FuncData), Fun K "grown" "grown" s_p_grown f fd ∧ mg "grown" = some (.ref f)
  f_p_least_paper : ∃ (f : Addr) (fd : FuncData), Fun K "least_paper" "least_paper" s_p_least_paper f fd ∧ mg "least_paper" = some (.ref f)
  f_l_deck : ∃ (f : Addr) (fd : FuncData), Fun K "_law_deck" "_law_deck" s_l_deck f fd ∧ mg "_law_deck" = some (.ref f)
  f_l_draw : ∃ (f : Addr) (fd : FuncData), Fun K "_law_draw" "_law_draw" s_l_draw f fd ∧ mg "_law_draw" = some (.ref f)
  f_l_one : ∃ (f : Addr) (fd : FuncData), Fun K "_law_one" "_law_one" s_l_one f fd ∧ mg "_law_one" = some (.ref f)
  f_l_size : ∃ (f : Addr) (fd : FuncData), Fun K "_law_size" "_law_size" s_l_size f fd ∧ mg "_law_size" = some (.ref f)
  f_l_row : ∃ (f : Addr) (fd : FuncData), Fun K "_law_row" "_law_row" s_l_row f fd ∧ mg "_law_row" = some (.ref f)
  f_l_far : ∃ (f : Addr) (fd : FuncData), Fun K "_law_far" "_law_far" s_l_far f fd ∧ mg "_law_far" = some (.ref f)
  f_l_number : ∃ (f : Addr) (fd : FuncData), Fun K "_law_number" "_law_number" s_l_number f fd ∧ mg "_law_number" = some (.ref f)
  f_l_values : ∃ (f : Addr) (fd : FuncData), Fun K "_law_values" "_law_values" s_l_values f fd ∧ mg "_law_values" = some (.ref f)
  f_l_told : ∃ (f : Addr) (fd : FuncData), Fun K "_law_told" "_law_told" s_l_told f fd ∧ mg "_law_told" = some (.ref f)
  f_l_box : ∃ (f : Addr) (fd : FuncData), Fun K "_law_box" "_law_box" s_l_box f fd ∧ mg "_law_box" = some (.ref f)
  f_l_points : ∃ (f : Addr) (fd : FuncData), Fun K "_law_points" "_law_points" s_l_points f fd ∧ mg "_law_points" = some (.ref f)
  f_l_told_all : ∃ (f : Addr) (fd : FuncData), Fun K "_law_told_all" "_law_told_all" s_l_told_all f fd ∧ mg "_law_told_all" = some (.ref f)
  f_l_is_refused : ∃ (f : Addr) (fd : FuncData), Fun K "_law_is_refused" "_law_is_refused" s_l_is_refused f fd ∧ mg "_law_is_refused" = some (.ref f)
  f_p_law : ∃ (f : Addr) (fd : FuncData), Fun K "law" "law" s_p_law f fd ∧ mg "law" = some (.ref f)
  i_TooGreat : ∃ (C fI : Addr) (fd : FuncData), Fun K "__init__" "TooGreat.__init__" s_p_TooGreat_init fI fd ∧ mg "TooGreat" = some (.ref C) ∧ PySem.W.nsIn K mainGlobals "TooGreat" = some (some (.ref C)) ∧ OexC K C ∧ PySem.W.findIn K (.ref C) "limit" = some none ∧ PySem.W.findIn K (.ref C) "__init__" = some (some (.ref fI)) ∧ PySem.W.typeIn K (.ref fI) = some (.type "function")
  g_TooGreat : ErF K "TooGreat" "limit"
  l_TooGreat : ClF K mg "TooGreat" ["TooGreat"]
  v_p_least : FnN K mg "least"
  v_p_greatest : FnN K mg "greatest"
  v_p_signs : FnN K mg "signs"
  zd : NoDig K
  b_abs : mg "abs" = none
  b_enumerate : mg "enumerate" = none
  b_int : mg "int" = none
  b_len : mg "len" = none
  b_list : mg "list" = none
  b_max : mg "max" = none
  b_min : mg "min" = none
  b_range : mg "range" = none
  b_repr : mg "repr" = none
  b_set : mg "set" = none
  b_sorted : mg "sorted" = none
  b_tuple : mg "tuple" = none
  b_zip : mg "zip" = none
  c_MAX_BOX : ∃ (v : V) (u : Value), mg "MAX_BOX" = some u ∧ RelV v u ∧ ∀ H : Hp, Rp K H v (.int 2000)
theorem canLay_ints : ∀ ns : List Int, PyData.canLayAll0 (ns.map PyData.int) = true
  | [] => rfl
  | n :: r => by rw [List.map_cons, PyData.canLayAll0, canLay_ints r]; rfl
theorem depth_ints : ∀ ns : List Int, PyData.depthAll (ns.map PyData.int) ≤ 1
  | [] => by simp [PyData.depthAll]
  | n :: r => by
    have := depth_ints r
    rw [List.map_cons, PyData.depthAll]
    simp only [PyData.depth]
    omega
theorem shaped_ints (ns : List Int) : SeqAt.shaped (.list (ns.map PyData.int)) = true := by
  unfold SeqAt.shaped
  have := depth_ints ns
  rw [Bool.and_eq_true, decide_eq_true_eq]
  refine ⟨by rw [PyData.canLay0]; exact canLay_ints ns, ?_⟩
  rw [PyData.depth]; omega
theorem dp_ints {K : PySem.W.Frag} {H : Hp} : ∀ ns : List Int, DpAll K H (ns.map V.int) (ns.map PyData.int)
  | [] => .nil
  | n :: r => .cons (.int n) (dp_ints r)
theorem ixN0 {α : Type} (x : α) (l : List α) : ixN (x :: l).length 0 = some 0 := by
  unfold ixN
  rw [if_pos (by decide), if_pos (by simp)]; rfl
section
variable {P : Program} {w : World} {K : PySem.W.Frag} {mg : Str → Option Value} {base : Heap}
set_option maxHeartbeats 8000000 in
theorem ok_draw {f : Addr} {fd : FuncData} {k : Nat} (F : Fun K "_law_draw" "_law_draw" s_l_draw f fd) (m1 : mg "int" = none) (m2 : mg "len" = none) : FnOk P w K mg base CX0 (k + 1) f fd ["_law_deck_here", "_law_many"] (spD K drawSem) := by
  refine F.ok sc_l_draw (fun vs H Q E h => ?_) (fun cdv A outer s H vs Q E hr h => ?_)
  · obtain ⟨A, R, xs, k, d, k', hx, t, dk, ar, e, _⟩ := h
    unfold drawSem at e
    split at e
    · exact ar.length
    · cases e
  · obtain ⟨A0, R, xs, k0, d, k', hx, t, dk, ar, e, q⟩ := h
    unfold drawSem at e
    split at e
    · rename_i m
      split at e
      · rename_i hm
        match vs, ar with
        | [v0, v1], ar =>
          obtain ⟨rfl, rv, _⟩ := ar
          obtain rfl : v1 = .int m := Rp.int_inv rv
          refine ⟨_, pss_cons (ps_if (pt_cmpR (op_neD hr.units) (pe_ix ix_list (pv 0) pe_int (fun _ _ => rfl)) (pe_lst pa_nil) (nomark _))
            (pss_cons (ps_set (i := 2) sc_l_draw.nd rfl (Or.inl rfl) (pe_ix ix_list (pe_ix ix_list (pv 0) pe_int (fun _ _ => rfl)) pe_int (fun _ _ => rfl)))
            (pss_cons (ps_asg (pe_op op_fdivW (pv 2) (pv 1)) (pg_sub (pe_ix ix_list (pv 0) pe_int (fun _ _ => rfl)) pe_int set_list))
            (pss_cons (ps_if (pt_cmpR op_eq (pe_ix ix_list (pe_ix ix_list (pv 0) pe_int (fun _ _ => rfl)) pe_int (fun _ _ => rfl)) pe_int (nomark _))
              (pss_one (ps_expr (pe_bm PySem.F.plainAttrs_list PySem.F.slot_list_pop PySem.F.type_list_pop mt_popAt (pe_ix ix_list (pv 0) pe_int (fun _ _ => rfl)) (pa_cons pe_int pa_nil)))) pss_nil)
            (pss_one (ps_ret (pe_op op_modN (pe_callTy call_int1 (by rfl) m1 (by decide +kernel) (pa_cons (pv 2) pa_nil)) (pv 1))))))) pss_nil)
            (pss_cons (ps_asg (pe_op op_add (pe_ix ix_list (pv 0) pe_int (fun _ _ => rfl)) pe_int) (pg_sub (pv 0) pe_int set_list))
            (pss_cons (ps_set (i := 3) sc_l_draw.nd rfl (Or.inl rfl) (pe_ix ix_list (pe_ix ix_list (pv 0) pe_int (fun _ _ => rfl))
              (pe_op op_modN (pe_callTy call_int1 (by rfl) m1 (by decide +kernel) (pa_cons (pe_ix ix_list (pv 0) pe_int (fun _ _ => rfl)) pa_nil)) (pe_callB call_len_seq (by rfl) m2 (by decide +kernel) (pa_cons (pe_ix ix_list (pv 0) pe_int (fun _ _ => rfl)) pa_nil))) (fun _ _ => rfl)))
            (pss_cons (ps_set (i := 4) sc_l_draw.nd rfl (Or.inl rfl) (pe_op op_modN (pe_callTy call_int1 (by rfl) m1 (by decide +kernel) (pa_cons (pe_op op_add
                (pe_op op_modN (pe_callTy call_int1 (by rfl) m1 (by decide +kernel) (pa_cons (pv 3) pa_nil)) pe_int) (pe_op op_mul pe_int (pe_ix ix_list (pv 0) pe_int (fun _ _ => rfl)))) pa_nil)) pe_int))
            (pss_cons (ps_set (i := 4) sc_l_draw.nd rfl (Or.inl rfl) (pe_op op_modN (pe_callTy call_int1 (by rfl) m1 (by decide +kernel) (pa_cons (pe_op op_add
                (pe_op op_mul (pv 4) (pv 4)) (pe_op op_mul pe_int (pe_ix ix_list (pv 0) pe_int (fun _ _ => rfl)))) pa_nil)) pe_int))
            (pss_one (ps_ret (pe_op op_modN (pe_op op_fdivW (pe_op op_modN (pe_callTy call_int1 (by rfl) m1 (by decide +kernel) (pa_cons (pe_op op_mul (pv 4) (pv 4)) pa_nil)) pe_int) pe_int) (pv 1)))))))), ?_⟩
          have hne : ∀ (p : Addr) (hp : H p = none) (Q' : VK), Q' (.bl (!PyData.eqv (.list (k0.great.map PyData.int)) (.list []))) (upd H p (.lst [])) → rNeD K (.ref A0.g) (.ref p) (upd H p (.lst [])) Q' := fun p hp Q' h =>
            ⟨_, _, .lst (SqL.of (Grw.new hp _ _ dk.hg)) (dp_ints k0.great), .lst (SqL.of upd_same) .nil, shaped_ints _, rfl, h⟩
          refine ⟨.ref A0.o, rfl, A0.o, _, 0, .ref A0.g, rfl, rfl, SqL.of dk.ho, rfl, Nat.zero_le _, fun p hp => hne p hp _ ?_⟩
          have gr : Grw H (upd H p (.lst [])) := Grw.new hp
          have dk1 := dk.grw gr
          unfold Dk.drw at e
          cases hg : k0.great with
          | cons g r =>
            rw [hg] at e
            cases e
            have hG1 : (upd H p (.lst [])) A0.g = some (.lst ((g :: r).map V.int)) := by rw [← hg]; exact dk1.hg
            refine ⟨true, rfl, iteT ?_⟩
            -- rest = deck[0][0]
            refine ⟨.ref A0.o, rfl, A0.o, _, 0, .ref A0.g, rfl, rfl, SqL.of dk1.ho, rfl, A0.g, _, 0, .int g, rfl, rfl, SqL.of hG1, atI_nat (j := 0) rfl, ?_⟩
            -- deck[0][0] = rest // many
            have hm30 : m.natAbs < 2 ^ 30 := Nat.lt_of_lt_of_le (m := 1000000000) (by omega) (by decide)
            have hdv : CDivW g m := wide_div hm.1 hm30 (by decide) (by decide)
            refine ⟨.int g, rfl, .int m, rfl, g, m, rfl, rfl, hdv, ?_⟩
            refine ⟨.ref A0.o, rfl, A0.o, _, 0, .ref A0.g, rfl, rfl, SqL.of dk1.ho, rfl, A0.g, _, 0, 0, rfl, rfl, hG1, ixN0 _ _, ?_⟩
            have dk2 : DkOk K A0 R (upd (upd H p (.lst [])) A0.g (.lst ((g / m :: r).map V.int))) { k0 with great := g / m :: r } := dk1.putG
            have kp2 : ∀ a o, H a = some o → ¬ A0.is a → (upd (upd H p (.lst [])) A0.g (.lst ((g / m :: r).map V.int))) a = some o := fun a o h n => keepG (.inr (.inl rfl)) a o (gr a o h) n
            refine ⟨.ref A0.o, rfl, A0.o, _, 0, .ref A0.g, rfl, rfl, SqL.of dk2.ho, rfl, A0.g, _, 0, .int (g / m), rfl, rfl, SqL.of dk2.hg, atI_nat (j := 0) rfl, rfl, _, rfl, ?_⟩
            have hmod : ∀ (H' : Hp) (gs : List Int), (∀ a o, H a = some o → ¬ A0.is a → H' a = some o) → DkOk K A0 R H' { k0 with great := gs } → gs = (if g / m = 0 then r else g / m :: r) →
                tRet (tOp (rI (fun _ j => j ≠ 0) fun i j => .int (i.fmod j)) (tCB rInt1 (tCons (tVar 2) tNil)) (tVar 1)) { nx := fun _ H' => Q .non H', rt := Q } [some (.ref A0.o), some (.int m), some (.int g), none, none] H' := by
              intro H' gs k1 k2 k3
              refine ⟨.int g, rfl, .inl ⟨g, rfl, .int m, rfl, g, m, rfl, rfl, by omega, ?_⟩⟩
              subst k3
              exact q _ H' k1 k2 (.int _)
            by_cases hz : g / m = 0
            · have hz' : decide ((V.int (g / m)) = V.int 0) = true := by rw [hz]; rfl
              rw [hz']
              refine iteT ?_
              refine ⟨.ref A0.o, rfl, A0.o, _, 0, .ref A0.g, rfl, rfl, SqL.of dk2.ho, rfl, .inl ⟨rfl, _, SqL.of dk2.hg⟩, A0.g, _, 0, 0, .int (g / m), rfl, rfl, dk2.hg, by decide, by decide, ?_, rfl, ?_⟩
              · exact (ixN_seq (show ixN ((g / m :: r).map V.int).length 0 = some 0 from ixN0 _ _)).1
              · have dk3 : DkOk K A0 R (upd (upd (upd H p (.lst [])) A0.g (.lst ((g / m :: r).map V.int))) A0.g (.lst (r.map V.int))) { k0 with great := r } := by
                  have h := DkOk.putG (gs := r) dk2
                  exact h
                exact hmod _ r (fun a o h n => keepG (.inr (.inl rfl)) a o (kp2 a o h n) n) dk3 (by rw [if_pos hz])
            · have hz' : decide ((V.int (g / m)) = V.int 0) = false := decide_eq_false fun z => hz (by injection z)
              rw [hz']
              refine iteF ?_
              exact hmod _ (g / m :: r) kp2 dk2 (by rw [if_neg hz])
          | nil =>
            rw [hg] at e
            simp only at e
            refine ⟨false, rfl, iteF ?_⟩
            -- deck[2] = deck[2] + 1
            refine ⟨.ref A0.o, rfl, A0.o, _, 2, .int k0.n, rfl, rfl, SqL.of dk1.ho, rfl, k0.n, 1, rfl, rfl, ?_⟩
            refine ⟨.ref A0.o, rfl, A0.o, _, 2, 2, rfl, rfl, dk1.ho, rfl, ?_⟩
            have dk2 : DkOk K A0 R (upd (upd H p (.lst [])) A0.o (.lst [.ref A0.g, .ref A0.c, .int (k0.n + 1)])) { k0 with n := k0.n + 1 } := dk1.putN
            have kp2 : ∀ a o, H a = some o → ¬ A0.is a → (upd (upd H p (.lst [])) A0.o (.lst [.ref A0.g, .ref A0.c, .int (k0.n + 1)])) a = some o := fun a o h n => keepG (.inl rfl) a o (gr a o h) n
            cases hc : k0.cells[((k0.n + 1).fmod (k0.cells.length : Int)).toNat]? with
            | none => rw [hc] at e; cases e
            | some c =>
              rw [hc] at e
              cases e
              have hl : 0 < k0.cells.length := by
                have := (List.getElem?_eq_some_iff.mp hc).1
                omega
              have hb := fmod_lt (a := k0.n + 1) (m := (k0.cells.length : Int)) (by omega)
              -- cell
              refine ⟨.ref A0.o, rfl, A0.o, _, 1, .ref A0.c, rfl, rfl, SqL.of dk2.ho, rfl, .ref A0.o, rfl, A0.o, _, 2, .int (k0.n + 1), rfl, rfl, SqL.of dk2.ho, rfl, .inl ⟨k0.n + 1, rfl, .ref A0.o, rfl, A0.o, _, 1, .ref A0.c, rfl, rfl, SqL.of dk2.ho, rfl, A0.c, _, rfl, .inl (SqL.of dk2.hc), ?_⟩⟩
              refine ⟨k0.n + 1, ((k0.cells.map V.int).length : Int), rfl, rfl, by rw [List.length_map]; omega, ?_⟩
              refine ⟨A0.c, _, (k0.n + 1).fmod ((k0.cells.map V.int).length : Int), .int c, rfl, rfl, SqL.of dk2.hc, ?_, ?_⟩
              · rw [List.length_map]
                have h1 : ((((k0.n + 1).fmod (k0.cells.length : Int)).toNat : Nat) : Int) = (k0.n + 1).fmod (k0.cells.length : Int) := by omega
                have h2 := atI_nat (xs := k0.cells.map V.int) (j := ((k0.n + 1).fmod (k0.cells.length : Int)).toNat) (v := .int c) (by rw [List.getElem?_map, hc]; rfl)
                rw [h1] at h2
                exact h2
              -- mixed
              refine ⟨.int c, rfl, .inl ⟨c, rfl, c, 4294966297, rfl, rfl, (show (4294966297 : Int) ≠ 0 by decide), .ref A0.o, rfl, A0.o, _, 2, .int (k0.n + 1), rfl, rfl, SqL.of dk2.ho, rfl, 1640531527, k0.n + 1, rfl, rfl, .inl ⟨by decide, by decide⟩, _, _, rfl, rfl, .inl ⟨_, rfl, _, 4294966297, rfl, rfl, (show (4294966297 : Int) ≠ 0 by decide), ?_⟩⟩⟩
              have ha := fmod_lt (a := c.fmod 4294966297 + 1640531527 * (k0.n + 1)) (m := 4294966297) (by decide)
              have hbb := fmod_lt (a := (c.fmod 4294966297 + 1640531527 * (k0.n + 1)).fmod 4294966297 * (c.fmod 4294966297 + 1640531527 * (k0.n + 1)).fmod 4294966297 + 122949823 * (k0.n + 1)) (m := 4294966237) (by decide)
              refine ⟨_, rfl, _, rfl, _, _, rfl, rfl, .inl ⟨by omega, by omega⟩, .ref A0.o, rfl, A0.o, _, 2, .int (k0.n + 1), rfl, rfl, SqL.of dk2.ho, rfl, 122949823, k0.n + 1, rfl, rfl, .inl ⟨by decide, by decide⟩, _, _, rfl, rfl, .inl ⟨_, rfl, _, 4294966237, rfl, rfl, (show (4294966237 : Int) ≠ 0 by decide), ?_⟩⟩
              refine ⟨_, rfl, _, rfl, _, _, rfl, rfl, .inl ⟨by omega, by omega⟩, .inl ⟨_, rfl, _, 4294966187, rfl, rfl, (show (4294966187 : Int) ≠ 0 by decide), _, 1024, rfl, rfl, ⟨by decide, by decide⟩, .int m, rfl, _, m, rfl, rfl, by omega, ?_⟩⟩
              exact q _ _ kp2 (by have h := dk2; rw [hg] at h; exact h) (.int _)
      · cases e
    · cases e
end
/-- some ints -/
def Ints (xs : List V) : Prop := ∃ ns : List Int, xs = ns.map V.int
theorem Ints.nil : Ints [] := ⟨[], rfl⟩
theorem Ints.snoc {xs : List V} {i : Int} (h : Ints xs) : Ints (xs ++ [.int i]) := by
  obtain ⟨ns, rfl⟩ := h
  exact ⟨ns ++ [i], by simp⟩
theorem Ints.get {xs : List V} {i : Nat} {v : V} (h : Ints xs) (e : xs[i]? = some v) : ∃ n, v = .int n := by
  obtain ⟨ns, rfl⟩ := h
  rw [List.getElem?_map] at e
  cases q : ns[i]? with
  | none => rw [q] at e; cases e
  | some n => rw [q] at e; cases e; exact ⟨n, rfl⟩
theorem sz1 {n : Nat} (h : n ≤ 100000) : n < sizeLine := by rw [sizeLine_eq]; omega
theorem back_none {H H' : Hp} {p : Addr} (g : Grw H H') (h : H' p = none) : H p = none := by
  cases q : H p with
  | none => rfl
  | some o => rw [g p o q] at h; cases h
section
variable {P : Program} {w : World} {K : PySem.W.Frag} {mg : Str → Option Value} {base : Heap}
set_option maxHeartbeats 8000000 in
theorem ok_deck {f : Addr} {fd : FuncData} {k : Nat} (F : Fun K "_law_deck" "_law_deck" s_l_deck f fd) (m1 : mg "abs" = none) (m2 : mg "len" = none) : FnOk P w K mg base CX0 (k + 1) f fd ["_law_script"] (spDeck K) := by
  refine F.ok sc_l_deck (fun vs H Q E h => ?_) (fun cdv A outer s H vs Q E hr h => ?_)
  · obtain ⟨a, ns, rfl, _⟩ := h
    rfl
  · obtain ⟨a, ns, rfl, hS, hl, q⟩ := h
    refine ⟨_, pss_cons (ps_setLc (i := 1) (own := [("_law_cell", 2)]) (g := gName 2) (tt := tYes) rfl sc_l_deck.nd rfl rfl (sw_true rfl rfl rfl (by decide +kernel)) (pi_list (pe_slice sl_list (pv 0) po_none (po_some pe_int)))
        (blkOk_by (own := [("_law_cell", 2)]) (N := n_l_deck) (sc := defScope s_l_deck) (by decide +kernel)) (fun _ _ _ _ _ => pg_name (i := 2) sc_l_deck.nd rfl (Or.inl rfl)) (fun _ _ _ _ _ => pts_nil) (fun _ _ _ _ _ => pe_callB call_abs (by rfl) m1 (by decide +kernel) (pa_cons (pv 2) pa_nil)))
      (pss_one (ps_ret (pe_lst (pa_cons (pe_lc (own := [("_law_cell", 2)]) (g := gName 2) rfl sc_l_deck.nd (pi_list (pv 1)) (blkOk_by (own := [("_law_cell", 2)]) (N := n_l_deck) (sc := defScope s_l_deck) (by decide +kernel))
          (fun _ _ _ _ _ => pg_name (i := 2) sc_l_deck.nd rfl (Or.inl rfl)) (fun _ _ _ _ _ => pts_one (pt_cmpR op_ge (pv 2) (pe_op op_pow pe_int pe_int) (nomark _))) (fun _ _ _ _ _ => pv 2))
        (pa_cons (pe_op op_cat (pv 1) (pe_lst (pa_cons (pe_op op_add pe_int (pe_callB call_len_seq (by rfl) m2 (by decide +kernel) (pa_cons (pv 1) pa_nil))) pa_nil))) (pa_cons pe_int pa_nil)))))), ?_⟩
    have cutI : Ints (cutV (ns.map V.int) none (some 63)) := by
      unfold cutV
      exact ⟨_, by rw [← List.map_drop, ← List.map_take]⟩
    have cutL : (cutV (ns.map V.int) none (some 63)).length ≤ 1000 := Nat.le_trans (cutV_length _ _ _) (by rw [List.length_map]; exact hl)
    refine ⟨.ref a, rfl, 63, rfl, a, ns.map V.int, rfl, hS, fun c hc => ?_⟩
    revert cutI cutL
    generalize cutV (ns.map V.int) none (some 63) = cs
    intro cutI cutL
    have g1 : Grw H (upd H c (.lst cs)) := Grw.new hc
    refine ⟨c, rfl, ⟨cs, SqL.of upd_same⟩, fun d hd => lc_list (K := K) (a := c) (xs := cs) (fun i H' => Grw (upd H c (.lst cs)) H' ∧ ∃ xs, H' d = some (.lst xs) ∧ Ints xs ∧ xs.length = i) ⟨Grw.new hd, [], upd_same, .nil, rfl⟩
      (fun i H' _ p => SqL.of (p.1 c _ upd_same)) (fun i x H' hx p => ?_) (fun H' p => ?_)⟩
    · obtain ⟨p1, xs, p2, p3, p4⟩ := p
      obtain ⟨n, rfl⟩ := cutI.get hx
      have hi : i < cs.length := (List.getElem?_eq_some_iff.mp hx).1
      refine ⟨rfl, .int n, rfl, n, rfl, xs, p2, sz1 (by omega), ?_⟩
      refine ⟨fun b o e => ?_, _, upd_same, p3.snoc, by simp [p4]⟩
      rw [upd_ne (ne_of_none e hd)]
      exact p1 b o e
    · obtain ⟨p1, xs, p2, p3, p4⟩ := p
      have hxl : xs.length ≤ 1000 := by omega
      have gH : Grw H H' := g1.trans p1
      have dH : H d = none := by
        cases q : H d with
        | none => rfl
        | some o => rw [g1 d o q] at hd; cases hd
      -- the greats
      refine ⟨.ref d, rfl, d, rfl, ⟨xs, SqL.of p2⟩, fun g hg => lc_list (K := K) (a := d) (xs := xs) (fun i H2 => Grw H' H2 ∧ ∃ ys, H2 g = some (.lst ys) ∧ Ints ys ∧ ys.length ≤ i) ⟨Grw.new hg, [], upd_same, .nil, Nat.le_refl _⟩
        (fun i H2 _ p => SqL.of (p.1 d _ p2)) (fun i x H2 hx p => ?_) (fun H2 p => ?_)⟩
      · obtain ⟨r1, ys, r2, r3, r4⟩ := p
        obtain ⟨n, rfl⟩ := p3.get hx
        have hi : i < xs.length := (List.getElem?_eq_some_iff.mp hx).1
        refine ⟨rfl, .int n, rfl, 10, 18, rfl, rfl, ⟨by decide, by decide, by decide⟩, n, _, rfl, rfl, _, rfl, ?_⟩
        cases hb : decide ((10 : Int) ^ (18 : Int).toNat ≤ n) with
        | true =>
          refine iteT ⟨.int n, rfl, ys, r2, sz1 (by omega), fun b o e => ?_, _, upd_same, r3.snoc, by simp [r4]⟩
          rw [upd_ne (ne_of_none e hg)]
          exact r1 b o e
        | false => exact iteF ⟨r1, ys, r2, r3, by omega⟩
      · obtain ⟨r1, ys, r2, r3, r4⟩ := p
        obtain ⟨gs, rfl⟩ := r3
        obtain ⟨csn, rfl⟩ := p3
        have d2 : H2 d = some (.lst (csn.map V.int)) := r1 d _ p2
        have gH2 : Grw H H2 := gH.trans r1
        refine ⟨.ref d, rfl, .ref d, rfl, d, _, rfl, .inl (SqL.of d2), 11246, _, rfl, rfl, (show 1 ≤ sizeLine by rw [sizeLine_eq]; decide), fun e he => ?_⟩
        have d3 := Grw.new (o := .lst [.int (11246 + ((csn.map V.int).length : Int))]) he d _ d2
        refine ⟨d, e, csn.map V.int, _, rfl, rfl, d3, upd_same, (by rw [sizeLine_eq]; simp only [List.length_cons, List.length_nil]; omega), fun o ho => ?_⟩
        refine ⟨(show 3 ≤ sizeLine by rw [sizeLine_eq]; decide), fun z hz => ?_⟩
        have k0 : H2 g = some (.lst (gs.map V.int)) := r2
        have ge : Grw H2 (upd H2 e (.lst [.int (11246 + ((csn.map V.int).length : Int))])) := Grw.new he
        have go := Grw.new (o := .lst (csn.map V.int ++ [.int (11246 + ((csn.map V.int).length : Int))])) ho
        have gz := Grw.new (o := .lst [.ref g, .ref o, .int 0]) hz
        have gAll := gH2.trans (ge.trans (go.trans gz))
        have hgo := go _ _ (ge _ _ k0)
        have hoo : upd (upd H2 e (.lst [.int (11246 + ((csn.map V.int).length : Int))])) o (.lst (csn.map V.int ++ [.int (11246 + ((csn.map V.int).length : Int))])) o = _ := upd_same
        refine q ⟨z, g, o, none, [], none⟩ ⟨gs, csn ++ [11246 + ((csn.map V.int).length : Int)], 0⟩ _ rfl gAll ⟨upd_same, gz _ _ hgo, ?_, fun b h => h, ?_, ?_, ?_⟩ ?_ ?_
        · rw [List.map_append]
          exact gz _ _ hoo
        · exact fun w => by
            have w : z = g := w
            rw [w, hgo] at hz; cases hz
        · exact fun w => by
            have w : z = o := w
            rw [w, hoo] at hz; cases hz
        · exact fun w => by
            have w : g = o := w
            rw [← w, ge _ _ k0] at ho; cases ho
        · rintro b (w | w | w | ⟨y, w, _⟩ | ⟨p, w, _⟩ | w)
          · have w : b = z := w
            rw [w]; exact back_none (gH2.trans (ge.trans go)) hz
          · have w : b = g := w
            rw [w]; exact back_none gH hg
          · have w : b = o := w
            rw [w]; exact back_none (gH2.trans ge) ho
          · cases w
          · cases w
          · cases w
        · exact fun w => by
            have w : csn ++ [11246 + ((csn.map V.int).length : Int)] = [] := w
            simp at w
end
section
variable {P : Program} {w : World} {K : PySem.W.Frag} {mg : Str → Option Value} {base : Heap}
def m_p_step_value : M Fl :=
  (sSeq (sIf (tV (eOp2 dEq (eOp2 dIx (eVar 0) (eC (.int 0))) (eC (.str "in"))))
      (sRet (eOp2 dIx (eVar 1) (eOp2 dIx (eVar 0) (eC (.int 1)))))
      sNx)
    (sSeq (sIf (tV (eOp2 dEq (eOp2 dIx (eVar 0) (eC (.int 0))) (eC (.str "set"))))
      (sRet (eOp2 dIx (eVar 0) (eC (.int 1))))
      sNx)
    (sSeq (sIf (tV (eOp2 dEq (eOp2 dIx (eVar 0) (eC (.int 0))) (eC (.str "neg"))))
      (sRet (eOp2 dSub (eC (.int 0)) (eOp2 dIx (eVar 2) (eOp2 dIx (eVar 0) (eC (.int 1))))))
      sNx)
    (sSeq (sPar 3 4 (pDat (eOp2 dIx (eVar 2) (eOp2 dIx (eVar 0) (eC (.int 1)))) (pDat (eOp2 dIx (eVar 2) (eOp2 dIx (eVar 0) (eC (.int 2)))) pNil)))
    (sSeq (sIf (tV (eOp2 dEq (eOp2 dIx (eVar 0) (eC (.int 0))) (eC (.str "+"))))
      (sRet (eOp2 dAdd (eVar 3) (eVar 4)))
      sNx)
    (sRet (eIf (tV (eOp2 dEq (eOp2 dIx (eVar 0) (eC (.int 0))) (eC (.str "-")))) (eOp2 dSub (eVar 3) (eVar 4)) (eOp2 dMul (eVar 3) (eVar 4)))))))))
def sem_p_step_value : FS := semOf (List.length (["step", "point", "found"] : List Str)) (List.length n_p_step_value) m_p_step_value
theorem fd_p_step_value (T : Txt K mg) : FnD P w K mg base 1 "step_value" ["step", "point", "found"] [] sem_p_step_value := by
  obtain ⟨f, fd, F, hm⟩ := T.f_p_step_value
  refine ⟨f, fd, fnD_of (m := m_p_step_value) F sc_p_step_value (fun cdv A outer s H E hr => ?_), hm, F.kp, ?_, ?_⟩
  · show XS _ _ _
    refine xs_cons ?_ ?_
    · refine x_if (dt_cmp (k_eq (K := K) hr.units) do_eq (k_ix (K := K) (de_var 0) de_int) de_str (nomark _)) ?_ ?_
      · refine xs_one ?_
        · exact x_lf (ds_ret (k_ix (K := K) (de_var 1) (k_ix (K := K) (de_var 0) de_int)))
      · exact xs_nil
    refine xs_cons ?_ ?_
    · refine x_if (dt_cmp (k_eq (K := K) hr.units) do_eq (k_ix (K := K) (de_var 0) de_int) de_str (nomark _)) ?_ ?_
      · refine xs_one ?_
        · exact x_lf (ds_ret (k_ix (K := K) (de_var 0) de_int))
      · exact xs_nil
    refine xs_cons ?_ ?_
    · refine x_if (dt_cmp (k_eq (K := K) hr.units) do_eq (k_ix (K := K) (de_var 0) de_int) de_str (nomark _)) ?_ ?_
      · refine xs_one ?_
        · exact x_lf (ds_ret (de_bin op_sub do_sub de_int (k_ix (K := K) (de_var 2) (k_ix (K := K) (de_var 0) de_int))))
      · exact xs_nil
    refine xs_cons ?_ ?_
    · exact x_lf (ds_par 3 4 rfl sc_p_step_value.nd (dp_dat (k_ix (K := K) (de_var 2) (k_ix (K := K) (de_var 0) de_int)) (dp_dat (k_ix (K := K) (de_var 2) (k_ix (K := K) (de_var 0) de_int)) dp_nil)))
    refine xs_cons ?_ ?_
    · refine x_if (dt_cmp (k_eq (K := K) hr.units) do_eq (k_ix (K := K) (de_var 0) de_int) de_str (nomark _)) ?_ ?_
      · refine xs_one ?_
        · exact x_lf (ds_ret (de_bin (k_add (K := K)) do_add (de_var 3) (de_var 4)))
      · exact xs_nil
    refine xs_one ?_
    · exact x_lf (ds_ret (de_if (dt_cmp (k_eq (K := K) hr.units) do_eq (k_ix (K := K) (de_var 0) de_int) de_str (nomark _)) (de_bin op_sub do_sub (de_var 3) (de_var 4)) (de_bin (k_mul (K := K)) do_mul (de_var 3) (de_var 4))))
  · exact F.binds (ps := ["step", "point", "found"]) fun _ _ _ _ _ _ us hl => match us, hl with | [_, _, _], _ => rfl
  · exact fun q hq => by simp at hq
def m_p_values : M Fl :=
  (sSeq (sNew 2 (nLst aNil))
    (sSeq (sFor (asQ (eOp2 dIx (eVar 0) (eC (.int 1)))) (gN 3)
      (sApp 2 (eCallB [2] sem_p_step_value (vDat (eVar 3) (vDat (eVar 1) (vBor 2 vNil))))))
    (sRet (eCB dTupleOf (aCons (eGive 2) aNil)))))
def sem_p_values : FS := semOf (List.length (["row", "point"] : List Str)) (List.length n_p_values) m_p_values
theorem fd_p_values (T : Txt K mg) : FnD P w K mg base 2 "values" ["row", "point"] [] sem_p_values := by
  obtain ⟨f, fd, F, hm⟩ := T.f_p_values
  refine ⟨f, fd, fnD_of (m := m_p_values) F sc_p_values (fun cdv A outer s H E hr => ?_), hm, F.kp, ?_, ?_⟩
  · show XS _ _ _
    refine xs_cons ?_ ?_
    · exact x_lf (ds_new 2 (dn_lst da_nil) sc_p_values.nd)
    refine xs_cons ?_ ?_
    · refine x_for (k_seq (K := K) (k_ix (K := K) (de_var 0) de_int)) (dg_name 3 sc_p_values.nd) ?_
      · refine xs_one ?_
        · exact x_lf (ds_append 2 (k_call (K := K) (B := [2]) (fd_p_step_value T) (hr.mono (by omega)) (by rfl) (dv_dat (de_var 3) (dv_dat (de_var 1) (dv_bor 2 (by decide) dv_nil)))))
    refine xs_one ?_
    · exact x_lf (ds_ret (de_Ty (k_tupleOf (K := K)) do_tupleOf (by rfl) T.b_tuple (by decide +kernel) (da_cons (de_give 2) da_nil)))
  · exact F.binds (ps := ["row", "point"]) fun _ _ _ _ _ _ us hl => match us, hl with | [_, _], _ => rfl
  · exact fun q hq => by simp at hq
def m_p_told : M Fl :=
  (sSeq (sAsg (eCallB [] sem_p_values (vDat (eVar 0) (vDat (eVar 1) vNil))) (gN 2))
    (sRet (eCB dTupleOf (aCons (eL (nLc [3] (asQ (eOp2 dIx (eVar 0) (eC (.int 2)))) (gN 3) (rtn true) (eOp2 dIx (eVar 2) (eVar 3)))) aNil))))
def sem_p_told : FS := semOf (List.length (["row", "point"] : List Str)) (List.length n_p_told) m_p_told
theorem fd_p_told (T : Txt K mg) : FnD P w K mg base 3 "told" ["row", "point"] [] sem_p_told := by
  obtain ⟨f, fd, F, hm⟩ := T.f_p_told
  refine ⟨f, fd, fnD_of (m := m_p_told) F sc_p_told (fun cdv A outer s H E hr => ?_), hm, F.kp, ?_, ?_⟩
  · show XS _ _ _
    refine xs_cons ?_ ?_
    · exact x_lf (ds_asg (k_call (K := K) (B := []) (fd_p_values T) (hr.mono (by omega)) (by rfl) (dv_dat (de_var 0) (dv_dat (de_var 1) dv_nil))) (dg_name 2 sc_p_told.nd))
    refine xs_one ?_
    · exact x_lf (ds_ret (de_Ty (k_tupleOf (K := K)) do_tupleOf (by rfl) T.b_tuple (by decide +kernel) (da_cons (DN.de (dn_lc (own := [("end", 3)]) rfl sc_p_told.nd (k_seq (K := K) (k_ix (K := K) (de_var 0) de_int)) (blkOk_by (own := [("end", 3)]) (N := n_p_told) (sc := defScope s_p_told) (by decide +kernel)) (fun _ _ _ _ _ => (dg_name 3 sc_p_told.nd)) (by decide) (fun _ _ _ _ _ => dts_nil) (fun _ _ _ _ _ => (k_ix (K := K) (de_var 2) (de_var 3))))) da_nil)))
  · exact F.binds (ps := ["row", "point"]) fun _ _ _ _ _ _ us hl => match us, hl with | [_, _], _ => rfl
  · exact fun q hq => by simp at hq
def m_p_point_count : M Fl :=
  (sSeq (sAsg (eC (.int 1)) (gN 1))
    (sSeq (sFor (asQ (eVar 0)) (gTp 2 (gCn (gN 2) (gCn (gN 3) gNl)))
      (sAsg (eOp2 dMul (eVar 1) (eOp2 dAdd (eOp2 dSub (eVar 3) (eVar 2)) (eC (.int 1)))) (gN 1)))
    (sRet (eVar 1))))
def sem_p_point_count : FS := semOf (List.length (["box"] : List Str)) (List.length n_p_point_count) m_p_point_count
theorem fd_p_point_count (T : Txt K mg) : FnD P w K mg base 1 "point_count" ["box"] [] sem_p_point_count := by
  obtain ⟨f, fd, F, hm⟩ := T.f_p_point_count
  refine ⟨f, fd, fnD_of (m := m_p_point_count) F sc_p_point_count (fun cdv A outer s H E hr => ?_), hm, F.kp, ?_, ?_⟩
  · show XS _ _ _
    refine xs_cons ?_ ?_
    · exact x_lf (ds_asg de_int (dg_name 1 sc_p_point_count.nd))
    refine xs_cons ?_ ?_
    · refine x_for (k_seq (K := K) (de_var 0)) (k_gtup (K := K) (dgs_cons (dg_name 2 sc_p_point_count.nd) (dgs_cons (dg_name 3 sc_p_point_count.nd) dgs_nil))) ?_
      · refine xs_one ?_
        · exact x_lf (ds_asg (de_bin (k_mul (K := K)) do_mul (de_var 1) (de_bin (k_add (K := K)) do_add (de_bin op_sub do_sub (de_var 3) (de_var 2)) de_int)) (dg_name 1 sc_p_point_count.nd))
    refine xs_one ?_
    · exact x_lf (ds_ret (de_var 1))
  · exact F.binds (ps := ["box"]) fun _ _ _ _ _ _ us hl => match us, hl with | [_], _ => rfl
  · exact fun q hq => by simp at hq
def m_p_middle : M Fl :=
  (sRet (eCB dTupleOf (aCons (eL (nLc [1, 2] (asQ (eVar 0)) (gTp 2 (gCn (gN 1) (gCn (gN 2) gNl))) (rtn true) (eOp2 dAdd (eVar 1) (eOp2 dDiv (eOp2 dSub (eVar 2) (eVar 1)) (eC (.int 2)))))) aNil)))
def sem_p_middle : FS := semOf (List.length (["box"] : List Str)) (List.length n_p_middle) m_p_middle
theorem fd_p_middle (T : Txt K mg) : FnD P w K mg base 1 "middle" ["box"] [] sem_p_middle := by
  obtain ⟨f, fd, F, hm⟩ := T.f_p_middle
  refine ⟨f, fd, fnD_of (m := m_p_middle) F sc_p_middle (fun cdv A outer s H E hr => ?_), hm, F.kp, ?_, ?_⟩
  · show XS _ _ _
    refine xs_one ?_
    · exact x_lf (ds_ret (de_Ty (k_tupleOf (K := K)) do_tupleOf (by rfl) T.b_tuple (by decide +kernel) (da_cons (DN.de (dn_lc (own := [("low", 1), ("high", 2)]) rfl sc_p_middle.nd (k_seq (K := K) (de_var 0)) (blkOk_by (own := [("low", 1), ("high", 2)]) (N := n_p_middle) (sc := defScope s_p_middle) (by decide +kernel)) (fun _ _ _ _ _ => (k_gtup (K := K) (dgs_cons (dg_name 1 sc_p_middle.nd) (dgs_cons (dg_name 2 sc_p_middle.nd) dgs_nil)))) (by decide) (fun _ _ _ _ _ => dts_nil) (fun _ _ _ _ _ => (de_bin (k_add (K := K)) do_add (de_var 1) (de_bin op_fdivW do_div (de_bin op_sub do_sub (de_var 2) (de_var 1)) de_int))))) da_nil)))
  · exact F.binds (ps := ["box"]) fun _ _ _ _ _ _ us hl => match us, hl with | [_], _ => rfl
  · exact fun q hq => by simp at hq
def m_p_parted : M Fl :=
  (sSeq (sAsg (eOp2 dIx (eVar 0) (eVar 1)) (gTp 2 (gCn (gN 3) (gCn (gN 4) gNl))))
    (sSeq (sPar 5 6 (pDat (eSl (eVar 0) oN (oS (eVar 1))) (pDat (eSl (eVar 0) (oS (eOp2 dAdd (eVar 1) (eC (.int 1)))) oN) pNil)))
    (sRet (eTup (aCons (eOp2 dAdd (eOp2 dAdd (eVar 5) (eTup (aCons (eTup (aCons (eVar 3) (aCons (eVar 2) aNil))) aNil))) (eVar 6)) (aCons (eOp2 dAdd (eOp2 dAdd (eVar 5) (eTup (aCons (eTup (aCons (eOp2 dAdd (eVar 2) (eC (.int 1))) (aCons (eVar 4) aNil))) aNil))) (eVar 6)) aNil))))))
def sem_p_parted : FS := semOf (List.length (["box", "unknown", "number"] : List Str)) (List.length n_p_parted) m_p_parted
theorem fd_p_parted (T : Txt K mg) : FnD P w K mg base 1 "parted" ["box", "unknown", "number"] [] sem_p_parted := by
  obtain ⟨f, fd, F, hm⟩ := T.f_p_parted
  refine ⟨f, fd, fnD_of (m := m_p_parted) F sc_p_parted (fun cdv A outer s H E hr => ?_), hm, F.kp, ?_, ?_⟩
  · show XS _ _ _
    refine xs_cons ?_ ?_
    · exact x_lf (ds_asg (k_ix (K := K) (de_var 0) (de_var 1)) (k_gtup (K := K) (dgs_cons (dg_name 3 sc_p_parted.nd) (dgs_cons (dg_name 4 sc_p_parted.nd) dgs_nil))))
    refine xs_cons ?_ ?_
    · exact x_lf (ds_par 5 6 rfl sc_p_parted.nd (dp_dat (k_sl (K := K) (de_var 0) do_none (do_some (de_var 1))) (dp_dat (k_sl (K := K) (de_var 0) (do_some (de_bin (k_add (K := K)) do_add (de_var 1) de_int)) do_none) dp_nil)))
    refine xs_one ?_
    · exact x_lf (ds_ret (de_tup (da_cons (de_bin (k_add (K := K)) do_add (de_bin (k_add (K := K)) do_add (de_var 5) (de_tup (da_cons (de_tup (da_cons (de_var 3) (da_cons (de_var 2) da_nil))) da_nil))) (de_var 6)) (da_cons (de_bin (k_add (K := K)) do_add (de_bin (k_add (K := K)) do_add (de_var 5) (de_tup (da_cons (de_tup (da_cons (de_bin (k_add (K := K)) do_add (de_var 2) de_int) (da_cons (de_var 4) da_nil))) da_nil))) (de_var 6)) da_nil))))
  · exact F.binds (ps := ["box", "unknown", "number"]) fun _ _ _ _ _ _ us hl => match us, hl with | [_, _, _], _ => rfl
  · exact fun q hq => by simp at hq
def m_p_contrary : M Fl :=
  (sRet (eTup (aCons (eOp2 dSub (eC (.int 0)) (eOp2 dIx (eVar 0) (eC (.int 1)))) (aCons (eOp2 dSub (eC (.int 0)) (eOp2 dIx (eVar 0) (eC (.int 0)))) aNil))))
def sem_p_contrary : FS := semOf (List.length (["one"] : List Str)) (List.length n_p_contrary) m_p_contrary
theorem fd_p_contrary (T : Txt K mg) : FnD P w K mg base 1 "contrary" ["one"] [] sem_p_contrary := by
  obtain ⟨f, fd, F, hm⟩ := T.f_p_contrary
  refine ⟨f, fd, fnD_of (m := m_p_contrary) F sc_p_contrary (fun cdv A outer s H E hr => ?_), hm, F.kp, ?_, ?_⟩
  · show XS _ _ _
    refine xs_one ?_
    · exact x_lf (ds_ret (de_tup (da_cons (de_bin op_sub do_sub de_int (k_ix (K := K) (de_var 0) de_int)) (da_cons (de_bin op_sub do_sub de_int (k_ix (K := K) (de_var 0) de_int)) da_nil))))
  · exact F.binds (ps := ["one"]) fun _ _ _ _ _ _ us hl => match us, hl with | [_], _ => rfl
  · exact fun q hq => by simp at hq
def m_p_summed : M Fl :=
  (sRet (eTup (aCons (eOp2 dAdd (eOp2 dIx (eVar 0) (eC (.int 0))) (eOp2 dIx (eVar 1) (eC (.int 0)))) (aCons (eOp2 dAdd (eOp2 dIx (eVar 0) (eC (.int 1))) (eOp2 dIx (eVar 1) (eC (.int 1)))) aNil))))
def sem_p_summed : FS := semOf (List.length (["one", "other"] : List Str)) (List.length n_p_summed) m_p_summed
theorem fd_p_summed (T : Txt K mg) : FnD P w K mg base 1 "summed" ["one", "other"] [] sem_p_summed := by
  obtain ⟨f, fd, F, hm⟩ := T.f_p_summed
  refine ⟨f, fd, fnD_of (m := m_p_summed) F sc_p_summed (fun cdv A outer s H E hr => ?_), hm, F.kp, ?_, ?_⟩
  · show XS _ _ _
    refine xs_one ?_
    · exact x_lf (ds_ret (de_tup (da_cons (de_bin (k_add (K := K)) do_add (k_ix (K := K) (de_var 0) de_int) (k_ix (K := K) (de_var 1) de_int)) (da_cons (de_bin (k_add (K := K)) do_add (k_ix (K := K) (de_var 0) de_int) (k_ix (K := K) (de_var 1) de_int)) da_nil))))
  · exact F.binds (ps := ["one", "other"]) fun _ _ _ _ _ _ us hl => match us, hl with | [_, _], _ => rfl
  · exact fun q hq => by simp at hq
def m_p_multiplied : M Fl :=
  (sSeq (sAsg (eL (nLst (aCons (eOp2 dMul (eOp2 dIx (eVar 0) (eC (.int 0))) (eOp2 dIx (eVar 1) (eC (.int 0)))) (aCons (eOp2 dMul (eOp2 dIx (eVar 0) (eC (.int 0))) (eOp2 dIx (eVar 1) (eC (.int 1)))) (aCons (eOp2 dMul (eOp2 dIx (eVar 0) (eC (.int 1))) (eOp2 dIx (eVar 1) (eC (.int 0)))) (aCons (eOp2 dMul (eOp2 dIx (eVar 0) (eC (.int 1))) (eOp2 dIx (eVar 1) (eC (.int 1)))) aNil)))))) (gN 2))
    (sRet (eTup (aCons (eCB dMinL (aCons (eVar 2) aNil)) (aCons (eCB dMaxL (aCons (eVar 2) aNil)) aNil)))))
def sem_p_multiplied : FS := semOf (List.length (["one", "other"] : List Str)) (List.length n_p_multiplied) m_p_multiplied
theorem fd_p_multiplied (T : Txt K mg) : FnD P w K mg base 1 "multiplied" ["one", "other"] [] sem_p_multiplied := by
  obtain ⟨f, fd, F, hm⟩ := T.f_p_multiplied
  refine ⟨f, fd, fnD_of (m := m_p_multiplied) F sc_p_multiplied (fun cdv A outer s H E hr => ?_), hm, F.kp, ?_, ?_⟩
  · show XS _ _ _
    refine xs_cons ?_ ?_
    · exact x_lf (ds_asg (DN.de (dn_lst (da_cons (de_bin (k_mul (K := K)) do_mul (k_ix (K := K) (de_var 0) de_int) (k_ix (K := K) (de_var 1) de_int)) (da_cons (de_bin (k_mul (K := K)) do_mul (k_ix (K := K) (de_var 0) de_int) (k_ix (K := K) (de_var 1) de_int)) (da_cons (de_bin (k_mul (K := K)) do_mul (k_ix (K := K) (de_var 0) de_int) (k_ix (K := K) (de_var 1) de_int)) (da_cons (de_bin (k_mul (K := K)) do_mul (k_ix (K := K) (de_var 0) de_int) (k_ix (K := K) (de_var 1) de_int)) da_nil)))))) (dg_name 2 sc_p_multiplied.nd))
    refine xs_one ?_
    · exact x_lf (ds_ret (de_tup (da_cons (de_B (k_minL (K := K)) do_minL (by rfl) T.b_min (by decide +kernel) (da_cons (de_var 2) da_nil)) (da_cons (de_B (k_maxL (K := K)) do_maxL (by rfl) T.b_max (by decide +kernel) (da_cons (de_var 2) da_nil)) da_nil))))
  · exact F.binds (ps := ["one", "other"]) fun _ _ _ _ _ _ us hl => match us, hl with | [_, _], _ => rfl
  · exact fun q hq => by simp at hq
def m_p_step_range : M Fl :=
  (sSeq (sIf (tV (eOp2 dEq (eOp2 dIx (eVar 0) (eC (.int 0))) (eC (.str "in"))))
      (sRet (eOp2 dIx (eVar 1) (eOp2 dIx (eVar 0) (eC (.int 1)))))
      sNx)
    (sSeq (sIf (tV (eOp2 dEq (eOp2 dIx (eVar 0) (eC (.int 0))) (eC (.str "set"))))
      (sRet (eTup (aCons (eOp2 dIx (eVar 0) (eC (.int 1))) (aCons (eOp2 dIx (eVar 0) (eC (.int 1))) aNil))))
      sNx)
    (sSeq (sAsg (eOp2 dIx (eVar 2) (eOp2 dIx (eVar 0) (eC (.int 1)))) (gN 3))
    (sSeq (sIf (tV (eOp2 dEq (eOp2 dIx (eVar 0) (eC (.int 0))) (eC (.str "neg"))))
      (sRet (eCallB [] sem_p_contrary (vDat (eVar 3) vNil)))
      sNx)
    (sSeq (sAsg (eOp2 dIx (eVar 2) (eOp2 dIx (eVar 0) (eC (.int 2)))) (gN 4))
    (sSeq (sIf (tV (eOp2 dEq (eOp2 dIx (eVar 0) (eC (.int 0))) (eC (.str "*"))))
      (sRet (eCallB [] sem_p_multiplied (vDat (eVar 3) (vDat (eVar 4) vNil))))
      sNx)
    (sRet (eCallB [] sem_p_summed (vDat (eVar 3) (vDat (eIf (tV (eOp2 dEq (eOp2 dIx (eVar 0) (eC (.int 0))) (eC (.str "+")))) (eVar 4) (eCallB [] sem_p_contrary (vDat (eVar 4) vNil))) vNil))))))))))
def sem_p_step_range : FS := semOf (List.length (["step", "box", "found"] : List Str)) (List.length n_p_step_range) m_p_step_range
theorem fd_p_step_range (T : Txt K mg) : FnD P w K mg base 2 "step_range" ["step", "box", "found"] [] sem_p_step_range := by
  obtain ⟨f, fd, F, hm⟩ := T.f_p_step_range
  refine ⟨f, fd, fnD_of (m := m_p_step_range) F sc_p_step_range (fun cdv A outer s H E hr => ?_), hm, F.kp, ?_, ?_⟩
  · show XS _ _ _
    refine xs_cons ?_ ?_
    · refine x_if (dt_cmp (k_eq (K := K) hr.units) do_eq (k_ix (K := K) (de_var 0) de_int) de_str (nomark _)) ?_ ?_
      · refine xs_one ?_
        · exact x_lf (ds_ret (k_ix (K := K) (de_var 1) (k_ix (K := K) (de_var 0) de_int)))
      · exact xs_nil
    refine xs_cons ?_ ?_
    · refine x_if (dt_cmp (k_eq (K := K) hr.units) do_eq (k_ix (K := K) (de_var 0) de_int) de_str (nomark _)) ?_ ?_
      · refine xs_one ?_
        · exact x_lf (ds_ret (de_tup (da_cons (k_ix (K := K) (de_var 0) de_int) (da_cons (k_ix (K := K) (de_var 0) de_int) da_nil))))
      · exact xs_nil
    refine xs_cons ?_ ?_
    · exact x_lf (ds_asg (k_ix (K := K) (de_var 2) (k_ix (K := K) (de_var 0) de_int)) (dg_name 3 sc_p_step_range.nd))
    refine xs_cons ?_ ?_
    · refine x_if (dt_cmp (k_eq (K := K) hr.units) do_eq (k_ix (K := K) (de_var 0) de_int) de_str (nomark _)) ?_ ?_
      · refine xs_one ?_
        · exact x_lf (ds_ret (k_call (K := K) (B := []) (fd_p_contrary T) (hr.mono (by omega)) (by rfl) (dv_dat (de_var 3) dv_nil)))
      · exact xs_nil
    refine xs_cons ?_ ?_
    · exact x_lf (ds_asg (k_ix (K := K) (de_var 2) (k_ix (K := K) (de_var 0) de_int)) (dg_name 4 sc_p_step_range.nd))
    refine xs_cons ?_ ?_
    · refine x_if (dt_cmp (k_eq (K := K) hr.units) do_eq (k_ix (K := K) (de_var 0) de_int) de_str (nomark _)) ?_ ?_
      · refine xs_one ?_
        · exact x_lf (ds_ret (k_call (K := K) (B := []) (fd_p_multiplied T) (hr.mono (by omega)) (by rfl) (dv_dat (de_var 3) (dv_dat (de_var 4) dv_nil))))
      · exact xs_nil
    refine xs_one ?_
    · exact x_lf (ds_ret (k_call (K := K) (B := []) (fd_p_summed T) (hr.mono (by omega)) (by rfl) (dv_dat (de_var 3) (dv_dat (de_if (dt_cmp (k_eq (K := K) hr.units) do_eq (k_ix (K := K) (de_var 0) de_int) de_str (nomark _)) (de_var 4) (k_call (K := K) (B := []) (fd_p_contrary T) (hr.mono (by omega)) (by rfl) (dv_dat (de_var 4) dv_nil))) dv_nil))))
  · exact F.binds (ps := ["step", "box", "found"]) fun _ _ _ _ _ _ us hl => match us, hl with | [_, _, _], _ => rfl
  · exact fun q hq => by simp at hq
def m_p_step_ranges : M Fl :=
  (sSeq (sNew 2 (nLst aNil))
    (sSeq (sFor (asQ (eOp2 dIx (eVar 0) (eC (.int 1)))) (gN 3)
      (sApp 2 (eCallB [2] sem_p_step_range (vDat (eVar 3) (vDat (eVar 1) (vBor 2 vNil))))))
    (sRet (eGive 2))))
def sem_p_step_ranges : FS := semOf (List.length (["row", "box"] : List Str)) (List.length n_p_step_ranges) m_p_step_ranges
theorem fd_p_step_ranges (T : Txt K mg) : FnD P w K mg base 3 "step_ranges" ["row", "box"] [] sem_p_step_ranges := by
  obtain ⟨f, fd, F, hm⟩ := T.f_p_step_ranges
  refine ⟨f, fd, fnD_of (m := m_p_step_ranges) F sc_p_step_ranges (fun cdv A outer s H E hr => ?_), hm, F.kp, ?_, ?_⟩
  · show XS _ _ _
    refine xs_cons ?_ ?_
    · exact x_lf (ds_new 2 (dn_lst da_nil) sc_p_step_ranges.nd)
    refine xs_cons ?_ ?_
    · refine x_for (k_seq (K := K) (k_ix (K := K) (de_var 0) de_int)) (dg_name 3 sc_p_step_ranges.nd) ?_
      · refine xs_one ?_
        · exact x_lf (ds_append 2 (k_call (K := K) (B := [2]) (fd_p_step_range T) (hr.mono (by omega)) (by rfl) (dv_dat (de_var 3) (dv_dat (de_var 1) (dv_bor 2 (by decide) dv_nil)))))
    refine xs_one ?_
    · exact x_lf (ds_ret (de_give 2))
  · exact F.binds (ps := ["row", "box"]) fun _ _ _ _ _ _ us hl => match us, hl with | [_, _], _ => rfl
  · exact fun q hq => by simp at hq
def m_p_ranges : M Fl :=
  (sSeq (sAsg (eCallB [] sem_p_step_ranges (vDat (eVar 0) (vDat (eVar 1) vNil))) (gN 2))
    (sRet (eCB dTupleOf (aCons (eL (nLc [3] (asQ (eOp2 dIx (eVar 0) (eC (.int 2)))) (gN 3) (rtn true) (eOp2 dIx (eVar 2) (eVar 3)))) aNil))))
def sem_p_ranges : FS := semOf (List.length (["row", "box"] : List Str)) (List.length n_p_ranges) m_p_ranges
theorem fd_p_ranges (T : Txt K mg) : FnD P w K mg base 4 "ranges" ["row", "box"] [] sem_p_ranges := by
  obtain ⟨f, fd, F, hm⟩ := T.f_p_ranges
  refine ⟨f, fd, fnD_of (m := m_p_ranges) F sc_p_ranges (fun cdv A outer s H E hr => ?_), hm, F.kp, ?_, ?_⟩
  · show XS _ _ _
    refine xs_cons ?_ ?_
    · exact x_lf (ds_asg (k_call (K := K) (B := []) (fd_p_step_ranges T) (hr.mono (by omega)) (by rfl) (dv_dat (de_var 0) (dv_dat (de_var 1) dv_nil))) (dg_name 2 sc_p_ranges.nd))
    refine xs_one ?_
    · exact x_lf (ds_ret (de_Ty (k_tupleOf (K := K)) do_tupleOf (by rfl) T.b_tuple (by decide +kernel) (da_cons (DN.de (dn_lc (own := [("end", 3)]) rfl sc_p_ranges.nd (k_seq (K := K) (k_ix (K := K) (de_var 0) de_int)) (blkOk_by (own := [("end", 3)]) (N := n_p_ranges) (sc := defScope s_p_ranges) (by decide +kernel)) (fun _ _ _ _ _ => (dg_name 3 sc_p_ranges.nd)) (by decide) (fun _ _ _ _ _ => dts_nil) (fun _ _ _ _ _ => (k_ix (K := K) (de_var 2) (de_var 3))))) da_nil)))
  · exact F.binds (ps := ["row", "box"]) fun _ _ _ _ _ _ us hl => match us, hl with | [_, _], _ => rfl
  · exact fun q hq => by simp at hq
def m_p_step_rate_range : M Fl :=
  (sSeq (sIf (tV (eOp2 dIn (eOp2 dIx (eVar 0) (eC (.int 0))) (eTup (aCons (eC (.str "in")) (aCons (eC (.str "set")) aNil)))))
      (sSeq (sAsg (eCB dInt (aCons (eAnd (eOp2 dEq (eOp2 dIx (eVar 0) (eC (.int 0))) (eC (.str "in"))) (eOp2 dEq (eOp2 dIx (eVar 0) (eC (.int 1))) (eVar 1))) aNil)) (gN 4))
        (sRet (eTup (aCons (eVar 4) (aCons (eVar 4) aNil)))))
      sNx)
    (sSeq (sAsg (eOp2 dIx (eVar 3) (eOp2 dIx (eVar 0) (eC (.int 1)))) (gN 5))
    (sSeq (sIf (tV (eOp2 dEq (eOp2 dIx (eVar 0) (eC (.int 0))) (eC (.str "neg"))))
      (sRet (eCallB [] sem_p_contrary (vDat (eVar 5) vNil)))
      sNx)
    (sSeq (sAsg (eOp2 dIx (eVar 3) (eOp2 dIx (eVar 0) (eC (.int 2)))) (gN 6))
    (sSeq (sIf (tV (eOp2 dEq (eOp2 dIx (eVar 0) (eC (.int 0))) (eC (.str "*"))))
      (sRet (eCallB [] sem_p_summed (vDat (eCallB [] sem_p_multiplied (vDat (eVar 5) (vDat (eOp2 dIx (eVar 2) (eOp2 dIx (eVar 0) (eC (.int 2)))) vNil))) (vDat (eCallB [] sem_p_multiplied (vDat (eOp2 dIx (eVar 2) (eOp2 dIx (eVar 0) (eC (.int 1)))) (vDat (eVar 6) vNil))) vNil))))
      sNx)
    (sRet (eCallB [] sem_p_summed (vDat (eVar 5) (vDat (eIf (tV (eOp2 dEq (eOp2 dIx (eVar 0) (eC (.int 0))) (eC (.str "+")))) (eVar 6) (eCallB [] sem_p_contrary (vDat (eVar 6) vNil))) vNil)))))))))
def sem_p_step_rate_range : FS := semOf (List.length (["step", "unknown", "own", "rates"] : List Str)) (List.length n_p_step_rate_range) m_p_step_rate_range
theorem fd_p_step_rate_range (T : Txt K mg) : FnD P w K mg base 2 "step_rate_range" ["step", "unknown", "own", "rates"] [] sem_p_step_rate_range := by
  obtain ⟨f, fd, F, hm⟩ := T.f_p_step_rate_range
  refine ⟨f, fd, fnD_of (m := m_p_step_rate_range) F sc_p_step_rate_range (fun cdv A outer s H E hr => ?_), hm, F.kp, ?_, ?_⟩
  · show XS _ _ _
    refine xs_cons ?_ ?_
    · refine x_if (dt_cmp (k_in (K := K)) do_in (k_ix (K := K) (de_var 0) de_int) (de_tup (da_cons de_str (da_cons de_str da_nil))) (by rfl)) ?_ ?_
      · refine xs_cons ?_ ?_
        · exact x_lf (ds_asg (de_Ty call_int1 do_int (by rfl) T.b_int (by decide +kernel) (da_cons (de_and (de_cmp (k_eq (K := K) hr.units) do_eq (k_ix (K := K) (de_var 0) de_int) de_str (nomark _)) (de_one (de_cmp (k_eq (K := K) hr.units) do_eq (k_ix (K := K) (de_var 0) de_int) (de_var 1) (nomark _)))) da_nil)) (dg_name 4 sc_p_step_rate_range.nd))
        refine xs_one ?_
        · exact x_lf (ds_ret (de_tup (da_cons (de_var 4) (da_cons (de_var 4) da_nil))))
      · exact xs_nil
    refine xs_cons ?_ ?_
    · exact x_lf (ds_asg (k_ix (K := K) (de_var 3) (k_ix (K := K) (de_var 0) de_int)) (dg_name 5 sc_p_step_rate_range.nd))
    refine xs_cons ?_ ?_
    · refine x_if (dt_cmp (k_eq (K := K) hr.units) do_eq (k_ix (K := K) (de_var 0) de_int) de_str (nomark _)) ?_ ?_
      · refine xs_one ?_
        · exact x_lf (ds_ret (k_call (K := K) (B := []) (fd_p_contrary T) (hr.mono (by omega)) (by rfl) (dv_dat (de_var 5) dv_nil)))
      · exact xs_nil
    refine xs_cons ?_ ?_
    · exact x_lf (ds_asg (k_ix (K := K) (de_var 3) (k_ix (K := K) (de_var 0) de_int)) (dg_name 6 sc_p_step_rate_range.nd))
    refine xs_cons ?_ ?_
    · refine x_if (dt_cmp (k_eq (K := K) hr.units) do_eq (k_ix (K := K) (de_var 0) de_int) de_str (nomark _)) ?_ ?_
      · refine xs_one ?_
        · exact x_lf (ds_ret (k_call (K := K) (B := []) (fd_p_summed T) (hr.mono (by omega)) (by rfl) (dv_dat (k_call (K := K) (B := []) (fd_p_multiplied T) (hr.mono (by omega)) (by rfl) (dv_dat (de_var 5) (dv_dat (k_ix (K := K) (de_var 2) (k_ix (K := K) (de_var 0) de_int)) dv_nil))) (dv_dat (k_call (K := K) (B := []) (fd_p_multiplied T) (hr.mono (by omega)) (by rfl) (dv_dat (k_ix (K := K) (de_var 2) (k_ix (K := K) (de_var 0) de_int)) (dv_dat (de_var 6) dv_nil))) dv_nil))))
      · exact xs_nil
    refine xs_one ?_
    · exact x_lf (ds_ret (k_call (K := K) (B := []) (fd_p_summed T) (hr.mono (by omega)) (by rfl) (dv_dat (de_var 5) (dv_dat (de_if (dt_cmp (k_eq (K := K) hr.units) do_eq (k_ix (K := K) (de_var 0) de_int) de_str (nomark _)) (de_var 6) (k_call (K := K) (B := []) (fd_p_contrary T) (hr.mono (by omega)) (by rfl) (dv_dat (de_var 6) dv_nil))) dv_nil))))
  · exact F.binds (ps := ["step", "unknown", "own", "rates"]) fun _ _ _ _ _ _ us hl => match us, hl with | [_, _, _, _], _ => rfl
  · exact fun q hq => by simp at hq
def m_p_rates_in : M Fl :=
  (sSeq (sNew 3 (nLst aNil))
    (sSeq (sFor (asQ (eOp2 dIx (eVar 0) (eC (.int 1)))) (gN 4)
      (sApp 3 (eCallB [3] sem_p_step_rate_range (vDat (eVar 4) (vDat (eVar 1) (vDat (eVar 2) (vBor 3 vNil)))))))
    (sRet (eL (nLc [5] (asQ (eOp2 dIx (eVar 0) (eC (.int 2)))) (gN 5) (rtn true) (eIxC 3 (eVar 5)))))))
def sem_p_rates_in : FS := semOf (List.length (["row", "unknown", "own"] : List Str)) (List.length n_p_rates_in) m_p_rates_in
theorem fd_p_rates_in (T : Txt K mg) : FnD P w K mg base 3 "rates_in" ["row", "unknown", "own"] [] sem_p_rates_in := by
  obtain ⟨f, fd, F, hm⟩ := T.f_p_rates_in
  refine ⟨f, fd, fnD_of (m := m_p_rates_in) F sc_p_rates_in (fun cdv A outer s H E hr => ?_), hm, F.kp, ?_, ?_⟩
  · show XS _ _ _
    refine xs_cons ?_ ?_
    · exact x_lf (ds_new 3 (dn_lst da_nil) sc_p_rates_in.nd)
    refine xs_cons ?_ ?_
    · refine x_for (k_seq (K := K) (k_ix (K := K) (de_var 0) de_int)) (dg_name 4 sc_p_rates_in.nd) ?_
      · refine xs_one ?_
        · exact x_lf (ds_append 3 (k_call (K := K) (B := [3]) (fd_p_step_rate_range T) (hr.mono (by omega)) (by rfl) (dv_dat (de_var 4) (dv_dat (de_var 1) (dv_dat (de_var 2) (dv_bor 3 (by decide) dv_nil))))))
    refine xs_one ?_
    · exact x_lf (ds_ret (DN.de (dn_lc (own := [("end", 5)]) rfl sc_p_rates_in.nd (k_seq (K := K) (k_ix (K := K) (de_var 0) de_int)) (blkOk_by (own := [("end", 5)]) (N := n_p_rates_in) (sc := defScope s_p_rates_in) (by decide +kernel)) (fun _ _ _ _ _ => (dg_name 5 sc_p_rates_in.nd)) (by decide) (fun _ _ _ _ _ => dts_nil) (fun _ _ _ _ _ => (k_ixC (K := K) 3 (de_var 5))))))
  · exact F.binds (ps := ["row", "unknown", "own"]) fun _ _ _ _ _ _ us hl => match us, hl with | [_, _, _], _ => rfl
  · exact fun q hq => by simp at hq
def m_p_rate_ranges : M Fl :=
  (sSeq (sAsg (eCallB [] sem_p_step_ranges (vDat (eVar 0) (vDat (eVar 1) vNil))) (gN 2))
    (sSeq (sAsg (eL (nLc [4] (rg1 (aCons (eOp2 dIx (eVar 0) (eC (.int 0))) aNil)) (gN 4) (rtn true) (eCallB [] sem_p_rates_in (vDat (eVar 0) (vDat (eVar 4) (vDat (eVar 2) vNil)))))) (gN 3))
    (sRet (eCB dTupleOf (aCons (eL (nLc [5] (rg1 (aCons (eCB dLen (aCons (eOp2 dIx (eVar 0) (eC (.int 2))) aNil)) aNil)) (gN 5) (rtn true) (eCB dTupleOf (aCons (eL (nLc [6] (asQ (eVar 3)) (gN 6) (rtn true) (eOp2 dIx (eVar 6) (eVar 5)))) aNil)))) aNil)))))
def sem_p_rate_ranges : FS := semOf (List.length (["row", "box"] : List Str)) (List.length n_p_rate_ranges) m_p_rate_ranges
theorem fd_p_rate_ranges (T : Txt K mg) : FnD P w K mg base 4 "rate_ranges" ["row", "box"] [] sem_p_rate_ranges := by
  obtain ⟨f, fd, F, hm⟩ := T.f_p_rate_ranges
  refine ⟨f, fd, fnD_of (m := m_p_rate_ranges) F sc_p_rate_ranges (fun cdv A outer s H E hr => ?_), hm, F.kp, ?_, ?_⟩
  · show XS _ _ _
    refine xs_cons ?_ ?_
    · exact x_lf (ds_asg (k_call (K := K) (B := []) (fd_p_step_ranges T) (hr.mono (by omega)) (by rfl) (dv_dat (de_var 0) (dv_dat (de_var 1) dv_nil))) (dg_name 2 sc_p_rate_ranges.nd))
    refine xs_cons ?_ ?_
    · exact x_lf (ds_asg (DN.de (dn_lc (own := [("unknown", 4)]) rfl sc_p_rate_ranges.nd (di_rg1 (by rfl) T.b_range (da_cons (k_ix (K := K) (de_var 0) de_int) da_nil)) (blkOk_by (own := [("unknown", 4)]) (N := n_p_rate_ranges) (sc := defScope s_p_rate_ranges) (by decide +kernel)) (fun _ _ _ _ _ => (dg_name 4 sc_p_rate_ranges.nd)) (by decide) (fun _ _ _ _ _ => dts_nil) (fun _ _ _ _ _ => (k_call (K := K) (B := []) (fd_p_rates_in T) (hr.mono (by omega)) (by rfl) (dv_dat (de_var 0) (dv_dat (de_var 4) (dv_dat (de_var 2) dv_nil))))))) (dg_name 3 sc_p_rate_ranges.nd))
    refine xs_one ?_
    · exact x_lf (ds_ret (de_Ty (k_tupleOf (K := K)) do_tupleOf (by rfl) T.b_tuple (by decide +kernel) (da_cons (DN.de (dn_lc (own := [("end", 5)]) rfl sc_p_rate_ranges.nd (di_rg1 (by rfl) T.b_range (da_cons (de_B (k_len (K := K)) do_len (by rfl) T.b_len (by decide +kernel) (da_cons (k_ix (K := K) (de_var 0) de_int) da_nil)) da_nil)) (blkOk_by (own := [("end", 5)]) (N := n_p_rate_ranges) (sc := defScope s_p_rate_ranges) (by decide +kernel)) (fun _ _ _ _ _ => (dg_name 5 sc_p_rate_ranges.nd)) (by decide) (fun _ _ _ _ _ => dts_nil) (fun _ _ _ _ _ => (de_Ty (k_tupleOf (K := K)) do_tupleOf (by rfl) T.b_tuple (by decide +kernel) (da_cons (DN.de (dn_lc (own := [("column", 6)]) rfl sc_p_rate_ranges.nd (k_seq (K := K) (de_var 3)) (blkOk_by (own := [("column", 6)]) (N := n_p_rate_ranges) (sc := ({ kind := PySem.ScopeKind.function, names := [ (PySem.Str.ofString ".0", PySem.NameKind.local), (PySem.Str.ofString "end", PySem.NameKind.cell), (PySem.Str.ofString "tuple", PySem.NameKind.globalImplicit), (PySem.Str.ofString "columns", PySem.NameKind.cell)], isGenerator := false, isCoroutine := false, more := [] : PySem.Scope })) (by decide +kernel)) (fun _ _ _ _ _ => (dg_name 6 sc_p_rate_ranges.nd)) (by decide) (fun _ _ _ _ _ => dts_nil) (fun _ _ _ _ _ => (k_ix (K := K) (de_var 6) (de_var 5))))) da_nil))))) da_nil)))
  · exact F.binds (ps := ["row", "box"]) fun _ _ _ _ _ _ us hl => match us, hl with | [_, _], _ => rfl
  · exact fun q hq => by simp at hq
def m_p_by_rates : M Fl :=
  (sSeq (sPar 2 3 (pDat (eCallB [] sem_p_middle (vDat (eVar 1) vNil)) (pNew (nLst aNil) pNil)))
    (sSeq (sFor (asZ (aCons (eCallB [] sem_p_told (vDat (eVar 0) (vDat (eVar 2) vNil))) (aCons (eCallB [] sem_p_rate_ranges (vDat (eVar 0) (vDat (eVar 1) vNil))) aNil))) (gTp 2 (gCn (gN 4) (gCn (gN 5) gNl)))
      (sSeq (sAsg (eTup (aCons (eVar 4) (aCons (eVar 4) aNil))) (gN 6))
        (sSeq (sFor (asE (aCons (eVar 5) aNil)) (gTp 2 (gCn (gN 7) (gCn (gN 8) gNl)))
          (sSeq (sAsg (eOp2 dIx (eVar 1) (eVar 7)) (gTp 2 (gCn (gN 9) (gCn (gN 10) gNl))))
            (sAsg (eCallB [] sem_p_summed (vDat (eVar 6) (vDat (eCallB [] sem_p_multiplied (vDat (eVar 8) (vDat (eTup (aCons (eOp2 dSub (eVar 9) (eOp2 dIx (eVar 2) (eVar 7))) (aCons (eOp2 dSub (eVar 10) (eOp2 dIx (eVar 2) (eVar 7))) aNil))) vNil))) vNil))) (gN 6))))
        (sApp 3 (eVar 6)))))
    (sRet (eCB dTupleOf (aCons (eGive 3) aNil)))))
def sem_p_by_rates : FS := semOf (List.length (["row", "box"] : List Str)) (List.length n_p_by_rates) m_p_by_rates
theorem fd_p_by_rates (T : Txt K mg) : FnD P w K mg base 5 "by_rates" ["row", "box"] [] sem_p_by_rates := by
  obtain ⟨f, fd, F, hm⟩ := T.f_p_by_rates
  refine ⟨f, fd, fnD_of (m := m_p_by_rates) F sc_p_by_rates (fun cdv A outer s H E hr => ?_), hm, F.kp, ?_, ?_⟩
  · show XS _ _ _
    refine xs_cons ?_ ?_
    · exact x_lf (ds_par 2 3 rfl sc_p_by_rates.nd (dp_dat (k_call (K := K) (B := []) (fd_p_middle T) (hr.mono (by omega)) (by rfl) (dv_dat (de_var 1) dv_nil)) (dp_new (dn_lst da_nil) dp_nil)))
    refine xs_cons ?_ ?_
    · refine x_for (k_zip (K := K) (by rfl) T.b_zip (da_cons (k_call (K := K) (B := []) (fd_p_told T) (hr.mono (by omega)) (by rfl) (dv_dat (de_var 0) (dv_dat (de_var 2) dv_nil))) (da_cons (k_call (K := K) (B := []) (fd_p_rate_ranges T) (hr.mono (by omega)) (by rfl) (dv_dat (de_var 0) (dv_dat (de_var 1) dv_nil))) da_nil))) (k_gtup (K := K) (dgs_cons (dg_name 4 sc_p_by_rates.nd) (dgs_cons (dg_name 5 sc_p_by_rates.nd) dgs_nil))) ?_
      · refine xs_cons ?_ ?_
        · exact x_lf (ds_asg (de_tup (da_cons (de_var 4) (da_cons (de_var 4) da_nil))) (dg_name 6 sc_p_by_rates.nd))
        refine xs_cons ?_ ?_
        · refine x_for (k_enum (K := K) (by rfl) T.b_enumerate (da_cons (de_var 5) da_nil)) (k_gtup (K := K) (dgs_cons (dg_name 7 sc_p_by_rates.nd) (dgs_cons (dg_name 8 sc_p_by_rates.nd) dgs_nil))) ?_
          · refine xs_cons ?_ ?_
            · exact x_lf (ds_asg (k_ix (K := K) (de_var 1) (de_var 7)) (k_gtup (K := K) (dgs_cons (dg_name 9 sc_p_by_rates.nd) (dgs_cons (dg_name 10 sc_p_by_rates.nd) dgs_nil))))
            refine xs_one ?_
            · exact x_lf (ds_asg (k_call (K := K) (B := []) (fd_p_summed T) (hr.mono (by omega)) (by rfl) (dv_dat (de_var 6) (dv_dat (k_call (K := K) (B := []) (fd_p_multiplied T) (hr.mono (by omega)) (by rfl) (dv_dat (de_var 8) (dv_dat (de_tup (da_cons (de_bin op_sub do_sub (de_var 9) (k_ix (K := K) (de_var 2) (de_var 7))) (da_cons (de_bin op_sub do_sub (de_var 10) (k_ix (K := K) (de_var 2) (de_var 7))) da_nil))) dv_nil))) dv_nil))) (dg_name 6 sc_p_by_rates.nd))
        refine xs_one ?_
        · exact x_lf (ds_append 3 (de_var 6))
    refine xs_one ?_
    · exact x_lf (ds_ret (de_Ty (k_tupleOf (K := K)) do_tupleOf (by rfl) T.b_tuple (by decide +kernel) (da_cons (de_give 3) da_nil)))
  · exact F.binds (ps := ["row", "box"]) fun _ _ _ _ _ _ us hl => match us, hl with | [_, _], _ => rfl
  · exact fun q hq => by simp at hq
theorem fd_p_TooGreat_init (T : Txt K mg) : ErB P w K mg base 1 "TooGreat" "limit" := by
  obtain ⟨C, fI, fd, F, hm, hn, hx, hno, hi, ht⟩ := T.i_TooGreat
  refine ⟨C, fI, fd, hm, hn, hx, hno, hi, ht, ?_, F.binds (ps := ["self", "limit"]) fun _ _ _ _ _ _ us hl => match us, hl with | [_, _], _ => rfl⟩
  refine F.ok sc_p_TooGreat_init (fun vs H Q E h => ?_) (fun cdv A outer s H vs Q E hr h => ?_)
  · obtain ⟨a, C2, y, rfl, _⟩ := h
    rfl
  · obtain ⟨a, C2, y, rfl, h1, h2, h3, q⟩ := h
    refine ⟨_, pss_one (ps_ost (pv 0) (pv 1)), ?_⟩
    exact ⟨y, rfl, .ref a, rfl, a, C2, rfl, h1, h2, .inl ⟨h3, fun dx n1 n2 => q dx n1 n2⟩⟩
def m_p_need_few : MX Fl :=
  (xIf (tV (eOp2 dGt (eCallB [] sem_p_point_count (vDat (eVar 0) vNil)) (eC (.int 2000))))
      (xRaiseF "TooGreat" "limit" (eC (.int 2000)))
      (xLf sNx))
def sem_p_need_few : FSX := semOX (List.length (["box"] : List Str)) (List.length n_p_need_few) m_p_need_few
theorem fd_p_need_few (T : Txt K mg) : FnX P w K mg base 3 "need_few" ["box"] [] sem_p_need_few := by
  obtain ⟨f, fd, F, hm⟩ := T.f_p_need_few
  obtain ⟨v_MAX_BOX, u_MAX_BOX, h_MAX_BOX⟩ := T.c_MAX_BOX
  refine ⟨f, fd, fnX_of' (m := m_p_need_few) F sc_p_need_few (fun cdv A outer s H E hr tk => ?_), hm, F.kp, ?_, ?_⟩
  · show XSX _ _ _ _
    refine xx_one ?_
    · refine xx_if (dt_cmp (k_gt (K := K) hr.units) do_gt (k_call (K := K) (B := []) (fd_p_point_count T) (hr.mono (by omega)) (by rfl) (dv_dat (de_var 0) dv_nil)) (de_glob (by rfl) h_MAX_BOX.1 h_MAX_BOX.2.1 h_MAX_BOX.2.2) (nomark _)) ?_ ?_
      · refine xx_one ?_
        · exact xx_raiseF (fd_p_TooGreat_init T) tk (hr.mono (by omega)) (de_glob (by rfl) h_MAX_BOX.1 h_MAX_BOX.2.1 h_MAX_BOX.2.2)
      · refine xx_lfs ?_
        exact xs_nil
  · exact F.binds (ps := ["box"]) fun _ _ _ _ _ _ us hl => match us, hl with | [_], _ => rfl
  · exact fun q hq => by simp at hq
def m_p_points : M Fl :=
  (sSeq (sAsg (eL (nLst (aCons (eTup aNil) aNil))) (gN 1))
    (sSeq (sFor (asQ (eVar 0)) (gTp 2 (gCn (gN 2) (gCn (gN 3) gNl)))
      (sSeq (sNew 4 (nLst aNil))
        (sSeq (sFor (asQ (eCB dListOf (aCons (eVar 1) aNil))) (gN 5)
          (sExt 4 (eL (nLc [6] (rgW (aCons (eVar 2) (aCons (eOp2 dAdd (eVar 3) (eC (.int 1))) aNil))) (gN 6) (rtn true) (eOp2 dAdd (eVar 5) (eTup (aCons (eVar 6) aNil)))))))
        (sAsg (eGive 4) (gN 1)))))
    (sRet (eVar 1))))
def sem_p_points : FS := semOf (List.length (["box"] : List Str)) (List.length n_p_points) m_p_points
theorem fd_p_points (T : Txt K mg) : FnD P w K mg base 1 "points" ["box"] [] sem_p_points := by
  obtain ⟨f, fd, F, hm⟩ := T.f_p_points
  refine ⟨f, fd, fnD_of (m := m_p_points) F sc_p_points (fun cdv A outer s H E hr => ?_), hm, F.kp, ?_, ?_⟩
  · show XS _ _ _
    refine xs_cons ?_ ?_
    · exact x_lf (ds_asg (DN.de (dn_lst (da_cons (de_tup da_nil) da_nil))) (dg_name 1 sc_p_points.nd))
    refine xs_cons ?_ ?_
    · refine x_for (k_seq (K := K) (de_var 0)) (k_gtup (K := K) (dgs_cons (dg_name 2 sc_p_points.nd) (dgs_cons (dg_name 3 sc_p_points.nd) dgs_nil))) ?_
      · refine xs_cons ?_ ?_
        · exact x_lf (ds_new 4 (dn_lst da_nil) sc_p_points.nd)
        refine xs_cons ?_ ?_
        · refine x_for (k_seq (K := K) (de_Ty (k_listOf (K := K)) do_listOf (by rfl) T.b_list (by decide +kernel) (da_cons (de_var 1) da_nil))) (dg_name 5 sc_p_points.nd) ?_
          · refine xs_one ?_
            · exact x_lf (ds_extend 4 (DN.de (dn_lc (own := [("number", 6)]) rfl sc_p_points.nd (k_rgW (by rfl) T.b_range (da_cons (de_var 2) (da_cons (de_bin (k_add (K := K)) do_add (de_var 3) de_int) da_nil))) (blkOk_by (own := [("number", 6)]) (N := n_p_points) (sc := defScope s_p_points) (by decide +kernel)) (fun _ _ _ _ _ => (dg_name 6 sc_p_points.nd)) (by decide) (fun _ _ _ _ _ => dts_nil) (fun _ _ _ _ _ => (de_bin (k_add (K := K)) do_add (de_var 5) (de_tup (da_cons (de_var 6) da_nil)))))))
        refine xs_one ?_
        · exact x_lf (ds_asg (de_give 4) (dg_name 1 sc_p_points.nd))
    refine xs_one ?_
    · exact x_lf (ds_ret (de_var 1))
  · exact F.binds (ps := ["box"]) fun _ _ _ _ _ _ us hl => match us, hl with | [_], _ => rfl
  · exact fun q hq => by simp at hq
def m_p_least : MX Fl :=
  (xSeq (xDrop (xCall sem_p_need_few (vDat (eVar 2) vNil)))
    (xLf (sRet (eCB dMinQ (aCons (eL (nLc [3] (asQ (eCallB [] sem_p_points (vDat (eVar 2) vNil))) (gN 3) (rtn true) (eTup (aCons (eOp2 dIx (eCallB [] sem_p_told (vDat (eVar 0) (vDat (eVar 3) vNil))) (eVar 1)) (aCons (eVar 3) aNil))))) aNil)))))
def sem_p_least : FSX := semOX (List.length (["row", "end", "box"] : List Str)) (List.length n_p_least) m_p_least
theorem fd_p_least (T : Txt K mg) : FnX P w K mg base 4 "least" ["row", "end", "box"] [(["box", "end", "row"], [2, 1, 0])] sem_p_least := by
  obtain ⟨f, fd, F, hm⟩ := T.f_p_least
  refine ⟨f, fd, fnX_of' (m := m_p_least) F sc_p_least (fun cdv A outer s H E hr tk => ?_), hm, F.kp, ?_, ?_⟩
  · show XSX _ _ _ _
    refine xx_cons ?_ ?_
    · exact xx_drop (de_xcall (fd_p_need_few T) tk (hr.mono (by omega)) (by rfl) (dv_dat (de_var 2) dv_nil))
    refine xx_lfs ?_
    refine xs_one ?_
    · exact x_lf (ds_ret (de_B (k_minQ (K := K) hr.u100) do_minQ (by rfl) T.b_min (by decide +kernel) (da_cons (DN.de (dn_lc (own := [("point", 3)]) rfl sc_p_least.nd (k_seq (K := K) (k_call (K := K) (B := []) (fd_p_points T) (hr.mono (by omega)) (by rfl) (dv_dat (de_var 2) dv_nil))) (blkOk_by (own := [("point", 3)]) (N := n_p_least) (sc := defScope s_p_least) (by decide +kernel)) (fun _ _ _ _ _ => (dg_name 3 sc_p_least.nd)) (by decide) (fun _ _ _ _ _ => dts_nil) (fun _ _ _ _ _ => (de_tup (da_cons (k_ix (K := K) (k_call (K := K) (B := []) (fd_p_told T) (hr.mono (by omega)) (by rfl) (dv_dat (de_var 0) (dv_dat (de_var 3) dv_nil))) (de_var 1)) (da_cons (de_var 3) da_nil)))))) da_nil)))
  · exact F.binds (ps := ["row", "end", "box"]) fun _ _ _ _ _ _ us hl => match us, hl with | [_, _, _], _ => rfl
  · exact fun q hq => by
      simp only [List.mem_cons, List.mem_nil_iff, or_false] at hq
      subst hq
      exact F.kbinds (by decide) fun _ _ _ _ _ _ ws hl => match ws, hl with | [_, _, _], _ => rfl
def m_p_greatest : MX Fl :=
  (xSeq (xDrop (xCall sem_p_need_few (vDat (eVar 2) vNil)))
    (xLf (sSeq (sAsg (eCB dMinQ (aCons (eL (nLc [4] (asQ (eCallB [] sem_p_points (vDat (eVar 2) vNil))) (gN 4) (rtn true) (eTup (aCons (eOp2 dSub (eC (.int 0)) (eOp2 dIx (eCallB [] sem_p_told (vDat (eVar 0) (vDat (eVar 4) vNil))) (eVar 1))) (aCons (eVar 4) aNil))))) aNil)) (gTp 2 (gCn (gN 3) (gCn (gN 4) gNl))))
    (sRet (eTup (aCons (eOp2 dSub (eC (.int 0)) (eVar 3)) (aCons (eVar 4) aNil)))))))
def sem_p_greatest : FSX := semOX (List.length (["row", "end", "box"] : List Str)) (List.length n_p_greatest) m_p_greatest
theorem fd_p_greatest (T : Txt K mg) : FnX P w K mg base 4 "greatest" ["row", "end", "box"] [(["end", "box", "row"], [2, 0, 1])] sem_p_greatest := by
  obtain ⟨f, fd, F, hm⟩ := T.f_p_greatest
  refine ⟨f, fd, fnX_of' (m := m_p_greatest) F sc_p_greatest (fun cdv A outer s H E hr tk => ?_), hm, F.kp, ?_, ?_⟩
  · show XSX _ _ _ _
    refine xx_cons ?_ ?_
    · exact xx_drop (de_xcall (fd_p_need_few T) tk (hr.mono (by omega)) (by rfl) (dv_dat (de_var 2) dv_nil))
    refine xx_lfs ?_
    refine xs_cons ?_ ?_
    · exact x_lf (ds_asg (de_B (k_minQ (K := K) hr.u100) do_minQ (by rfl) T.b_min (by decide +kernel) (da_cons (DN.de (dn_lc (own := [("point", 4)]) rfl sc_p_greatest.nd (k_seq (K := K) (k_call (K := K) (B := []) (fd_p_points T) (hr.mono (by omega)) (by rfl) (dv_dat (de_var 2) dv_nil))) (blkOk_by (own := [("point", 4)]) (N := n_p_greatest) (sc := defScope s_p_greatest) (by decide +kernel)) (fun _ _ _ _ _ => (dg_name 4 sc_p_greatest.nd)) (by decide) (fun _ _ _ _ _ => dts_nil) (fun _ _ _ _ _ => (de_tup (da_cons (de_bin op_sub do_sub de_int (k_ix (K := K) (k_call (K := K) (B := []) (fd_p_told T) (hr.mono (by omega)) (by rfl) (dv_dat (de_var 0) (dv_dat (de_var 4) dv_nil))) (de_var 1))) (da_cons (de_var 4) da_nil)))))) da_nil)) (k_gtup (K := K) (dgs_cons (dg_name 3 sc_p_greatest.nd) (dgs_cons (dg_name 4 sc_p_greatest.nd) dgs_nil))))
    refine xs_one ?_
    · exact x_lf (ds_ret (de_tup (da_cons (de_bin op_sub do_sub de_int (de_var 3)) (da_cons (de_var 4) da_nil))))
  · exact F.binds (ps := ["row", "end", "box"]) fun _ _ _ _ _ _ us hl => match us, hl with | [_, _, _], _ => rfl
  · exact fun q hq => by
      simp only [List.mem_cons, List.mem_nil_iff, or_false] at hq
      subst hq
      exact F.kbinds (by decide) fun _ _ _ _ _ _ ws hl => match ws, hl with | [_, _, _], _ => rfl
def m_p_signs : MX Fl :=
  (xSeq (xDrop (xCall sem_p_need_few (vDat (eVar 2) vNil)))
    (xLf (sSeq (sAsg (eL (nLc [4] (asQ (eCallB [] sem_p_points (vDat (eVar 2) vNil))) (gN 4) (rtn true) (eOp2 dIx (eCallB [] sem_p_told (vDat (eVar 0) (vDat (eVar 4) vNil))) (eVar 1)))) (gN 3))
    (sRet (eCB dTupleOf (aCons (eOp1 dSrtSet (eL (nLc [5] (asQ (eVar 3)) (gN 5) (rtn true) (eOp2 dSub (eCB dInt (aCons (eOp2 dGt (eVar 5) (eC (.int 0))) aNil)) (eCB dInt (aCons (eOp2 dLt (eVar 5) (eC (.int 0))) aNil)))))) aNil))))))
def sem_p_signs : FSX := semOX (List.length (["row", "end", "box"] : List Str)) (List.length n_p_signs) m_p_signs
theorem fd_p_signs (T : Txt K mg) : FnX P w K mg base 4 "signs" ["row", "end", "box"] [(["box", "row", "end"], [1, 2, 0])] sem_p_signs := by
  obtain ⟨f, fd, F, hm⟩ := T.f_p_signs
  refine ⟨f, fd, fnX_of' (m := m_p_signs) F sc_p_signs (fun cdv A outer s H E hr tk => ?_), hm, F.kp, ?_, ?_⟩
  · show XSX _ _ _ _
    refine xx_cons ?_ ?_
    · exact xx_drop (de_xcall (fd_p_need_few T) tk (hr.mono (by omega)) (by rfl) (dv_dat (de_var 2) dv_nil))
    refine xx_lfs ?_
    refine xs_cons ?_ ?_
    · exact x_lf (ds_lcD 3 (own := [("point", 4)]) rfl sc_p_signs.nd (k_seq (K := K) (k_call (K := K) (B := []) (fd_p_points T) (hr.mono (by omega)) (by rfl) (dv_dat (de_var 2) dv_nil))) (blkOk_by (own := [("point", 4)]) (N := n_p_signs) (sc := defScope s_p_signs) (by decide +kernel)) (fun _ _ _ _ _ => (dg_name 4 sc_p_signs.nd)) (by decide) (fun _ _ _ _ _ => dts_nil) (fun _ _ _ _ _ => (k_ix (K := K) (k_call (K := K) (B := []) (fd_p_told T) (hr.mono (by omega)) (by rfl) (dv_dat (de_var 0) (dv_dat (de_var 4) dv_nil))) (de_var 1))) (sw_true rfl rfl rfl (by decide +kernel)))
    refine xs_one ?_
    · exact x_lf (ds_ret (de_Ty (k_tupleOf (K := K)) do_tupleOf (by rfl) T.b_tuple (by decide +kernel) (da_cons (k_srtSet (K := K) T.b_sorted T.b_set (DN.de (dn_lc (own := [("value", 5)]) rfl sc_p_signs.nd (k_seq (K := K) (de_var 3)) (blkOk_by (own := [("value", 5)]) (N := n_p_signs) (sc := defScope s_p_signs) (by decide +kernel)) (fun _ _ _ _ _ => (dg_name 5 sc_p_signs.nd)) (by decide) (fun _ _ _ _ _ => dts_nil) (fun _ _ _ _ _ => (de_bin op_sub do_sub (de_Ty call_int1 do_int (by rfl) T.b_int (by decide +kernel) (da_cons (de_cmp (k_gt (K := K) hr.units) do_gt (de_var 5) de_int (nomark _)) da_nil)) (de_Ty call_int1 do_int (by rfl) T.b_int (by decide +kernel) (da_cons (de_cmp (k_lt (K := K) hr.units) do_lt (de_var 5) de_int (nomark _)) da_nil))))))) da_nil)))
  · exact F.binds (ps := ["row", "end", "box"]) fun _ _ _ _ _ _ us hl => match us, hl with | [_, _, _], _ => rfl
  · exact fun q hq => by
      simp only [List.mem_cons, List.mem_nil_iff, or_false] at hq
      subst hq
      exact F.kbinds (by decide) fun _ _ _ _ _ _ ws hl => match ws, hl with | [_, _, _], _ => rfl
def m_p_grown (rc : FS) : M Fl :=
  (sSeq (sIf (tV (eOp2 dGe (eOp2 dIx (eOp2 dIx (eCallB [] sem_p_ranges (vDat (eVar 0) (vDat (eVar 2) vNil))) (eVar 1)) (eC (.int 0))) (eVar 3)))
      (sRet (eC (.str "step")))
      sNx)
    (sSeq (sIf (tV (eOp2 dGe (eOp2 dIx (eOp2 dIx (eCallB [] sem_p_by_rates (vDat (eVar 0) (vDat (eVar 2) vNil))) (eVar 1)) (eC (.int 0))) (eVar 3)))
      (sRet (eC (.str "rates")))
      sNx)
    (sSeq (sAsg (eL (nLc [9, 10] (asQ (eVar 2)) (gTp 2 (gCn (gN 9) (gCn (gN 10) gNl))) (rtn true) (eOp2 dSub (eVar 10) (eVar 9)))) (gN 4))
    (sSeq (sAsg (eOp2 dIdxL (eVar 4) (eCB dMaxQ (aCons (eVar 4) aNil))) (gN 5))
    (sSeq (sAsg (eOp2 dIx (eCallB [] sem_p_middle (vDat (eVar 2) vNil)) (eVar 5)) (gN 6))
    (sSeq (sAsg (eCallB [] sem_p_parted (vDat (eVar 2) (vDat (eVar 5) (vDat (eVar 6) vNil)))) (gTp 2 (gCn (gN 7) (gCn (gN 8) gNl))))
    (sRet (eTup (aCons (eC (.str "parted")) (aCons (eVar 5) (aCons (eVar 6) (aCons (eCallB [] rc (vDat (eVar 0) (vDat (eVar 1) (vDat (eVar 7) (vDat (eVar 3) vNil))))) (aCons (eCallB [] rc (vDat (eVar 0) (vDat (eVar 1) (vDat (eVar 8) (vDat (eVar 3) vNil))))) aNil)))))))))))))
def sem_p_grown : Nat → FS
  | 0 => semNo
  | n + 1 => semOf (List.length (["row", "end", "box", "value"] : List Str)) (List.length n_p_grown) (m_p_grown (sem_p_grown n))
theorem fd_p_grown (T : Txt K mg) (n : Nat) : FnD P w K mg base (5 + n) "grown" ["row", "end", "box", "value"] [] (sem_p_grown n) := by
  induction n with
  | zero =>
    obtain ⟨f, fd, F, hm⟩ := T.f_p_grown
    exact ⟨f, fd, fnD_no, hm, F.kp, F.binds (ps := ["row", "end", "box", "value"]) fun _ _ _ _ _ _ us hl => match us, hl with | [_, _, _, _], _ => rfl, fun q hq => by simp at hq
⟩
  | succ n ih =>
    obtain ⟨f, fd, F, hm⟩ := T.f_p_grown
    refine ⟨f, fd, fnD_of (k := 5 + n) (m := m_p_grown (sem_p_grown n)) F sc_p_grown (fun cdv A outer s H E hr => ?_), hm, F.kp, ?_, ?_⟩
    · show XS _ _ _
      refine xs_cons ?_ ?_
      · refine x_if (dt_cmp (k_ge (K := K) hr.units) do_ge (k_ix (K := K) (k_ix (K := K) (k_call (K := K) (B := []) (fd_p_ranges T) (hr.mono (by omega)) (by rfl) (dv_dat (de_var 0) (dv_dat (de_var 2) dv_nil))) (de_var 1)) de_int) (de_var 3) (nomark _)) ?_ ?_
        · refine xs_one ?_
          · exact x_lf (ds_ret de_str)
        · exact xs_nil
      refine xs_cons ?_ ?_
      · refine x_if (dt_cmp (k_ge (K := K) hr.units) do_ge (k_ix (K := K) (k_ix (K := K) (k_call (K := K) (B := []) (fd_p_by_rates T) (hr.mono (by omega)) (by rfl) (dv_dat (de_var 0) (dv_dat (de_var 2) dv_nil))) (de_var 1)) de_int) (de_var 3) (nomark _)) ?_ ?_
        · refine xs_one ?_
          · exact x_lf (ds_ret de_str)
        · exact xs_nil
      refine xs_cons ?_ ?_
      · exact x_lf (ds_lcD 4 (own := [("low", 9), ("high", 10)]) rfl sc_p_grown.nd (k_seq (K := K) (de_var 2)) (blkOk_by (own := [("low", 9), ("high", 10)]) (N := n_p_grown) (sc := defScope s_p_grown) (by decide +kernel)) (fun _ _ _ _ _ => (k_gtup (K := K) (dgs_cons (dg_name 9 sc_p_grown.nd) (dgs_cons (dg_name 10 sc_p_grown.nd) dgs_nil)))) (by decide) (fun _ _ _ _ _ => dts_nil) (fun _ _ _ _ _ => (de_bin op_sub do_sub (de_var 10) (de_var 9))) (sw_true rfl rfl rfl (by decide +kernel)))
      refine xs_cons ?_ ?_
      · exact x_lf (ds_asg (k_idxL (K := K) hr.u100 (de_var 4) (de_B (k_maxQ (K := K) hr.u100) do_maxQ (by rfl) T.b_max (by decide +kernel) (da_cons (de_var 4) da_nil))) (dg_name 5 sc_p_grown.nd))
      refine xs_cons ?_ ?_
      · exact x_lf (ds_asg (k_ix (K := K) (k_call (K := K) (B := []) (fd_p_middle T) (hr.mono (by omega)) (by rfl) (dv_dat (de_var 2) dv_nil)) (de_var 5)) (dg_name 6 sc_p_grown.nd))
      refine xs_cons ?_ ?_
      · exact x_lf (ds_asg (k_call (K := K) (B := []) (fd_p_parted T) (hr.mono (by omega)) (by rfl) (dv_dat (de_var 2) (dv_dat (de_var 5) (dv_dat (de_var 6) dv_nil)))) (k_gtup (K := K) (dgs_cons (dg_name 7 sc_p_grown.nd) (dgs_cons (dg_name 8 sc_p_grown.nd) dgs_nil))))
      refine xs_one ?_
      · exact x_lf (ds_ret (de_tup (da_cons de_str (da_cons (de_var 5) (da_cons (de_var 6) (da_cons (k_call (K := K) (B := []) ih (hr.mono (by omega)) (by rfl) (dv_dat (de_var 0) (dv_dat (de_var 1) (dv_dat (de_var 7) (dv_dat (de_var 3) dv_nil))))) (da_cons (k_call (K := K) (B := []) ih (hr.mono (by omega)) (by rfl) (dv_dat (de_var 0) (dv_dat (de_var 1) (dv_dat (de_var 8) (dv_dat (de_var 3) dv_nil))))) da_nil)))))))
    · exact F.binds (ps := ["row", "end", "box", "value"]) fun _ _ _ _ _ _ us hl => match us, hl with | [_, _, _, _], _ => rfl
    · exact fun q hq => by simp at hq
def m_p_least_paper : MX Fl :=
  (xSeq (xAsg (xCall sem_p_least (vDat (eVar 0) (vDat (eVar 1) (vDat (eVar 2) vNil)))) (gTp 2 (gCn (gN 3) (gCn (gN 4) gNl))))
    (xLf (sRet (eTup (aCons (eVar 3) (aCons (eVar 4) (aCons (eCallB [] (sem_p_grown 70) (vDat (eVar 0) (vDat (eVar 1) (vDat (eVar 2) (vDat (eVar 3) vNil))))) aNil)))))))
def sem_p_least_paper : FSX := semOX (List.length (["row", "end", "box"] : List Str)) (List.length n_p_least_paper) m_p_least_paper
theorem fd_p_least_paper (T : Txt K mg) : FnX P w K mg base 76 "least_paper" ["row", "end", "box"] [] sem_p_least_paper := by
  obtain ⟨f, fd, F, hm⟩ := T.f_p_least_paper
  refine ⟨f, fd, fnX_of' (m := m_p_least_paper) F sc_p_least_paper (fun cdv A outer s H E hr tk => ?_), hm, F.kp, ?_, ?_⟩
  · show XSX _ _ _ _
    refine xx_cons ?_ ?_
    · exact xx_asg (de_xcall (fd_p_least T) tk (hr.mono (by omega)) (by rfl) (dv_dat (de_var 0) (dv_dat (de_var 1) (dv_dat (de_var 2) dv_nil)))) (k_gtup (K := K) (dgs_cons (dg_name 3 sc_p_least_paper.nd) (dgs_cons (dg_name 4 sc_p_least_paper.nd) dgs_nil)))
    refine xx_lfs ?_
    refine xs_one ?_
    · exact x_lf (ds_ret (de_tup (da_cons (de_var 3) (da_cons (de_var 4) (da_cons (k_call (K := K) (B := []) (fd_p_grown T 70) (hr.mono (by omega)) (by rfl) (dv_dat (de_var 0) (dv_dat (de_var 1) (dv_dat (de_var 2) (dv_dat (de_var 3) dv_nil))))) da_nil)))))
  · exact F.binds (ps := ["row", "end", "box"]) fun _ _ _ _ _ _ us hl => match us, hl with | [_, _, _], _ => rfl
  · exact fun q hq => by simp at hq
theorem fd_l_draw (T : Txt K mg) : FnD P w K mg base 1 "_law_draw" ["_law_deck_here", "_law_many"] [] drawSem := by
  obtain ⟨f, fd, F, hm⟩ := T.f_l_draw
  exact ⟨f, fd, ok_draw F T.b_int T.b_len, hm, F.kp, F.binds (ps := ["_law_deck_here", "_law_many"]) fun _ _ _ _ _ _ us hl => match us, hl with | [_, _], _ => rfl, fun q hq => by simp at hq
⟩
abbrev sem_l_draw : FS := drawSem
def m_l_one : M Fl :=
  (sRet (eOp2 dIx (eVar 1) (eCallB [] sem_l_draw (vDeck 0 (vDat (eCB dLen (aCons (eVar 1) aNil)) vNil)))))
def sem_l_one : FS := semOf (List.length (["_law_deck_here", "_law_items"] : List Str)) (List.length n_l_one) m_l_one
theorem fd_l_one (T : Txt K mg) : FnD P w K mg base 2 "_law_one" ["_law_deck_here", "_law_items"] [] sem_l_one := by
  obtain ⟨f, fd, F, hm⟩ := T.f_l_one
  refine ⟨f, fd, fnD_of (m := m_l_one) F sc_l_one (fun cdv A outer s H E hr => ?_), hm, F.kp, ?_, ?_⟩
  · show XS _ _ _
    refine xs_one ?_
    · exact x_lf (ds_ret (k_ix (K := K) (de_var 1) (k_call (K := K) (B := []) (fd_l_draw T) (hr.mono (by omega)) (by rfl) (dv_deck 0 (dv_dat (de_B (k_len (K := K)) do_len (by rfl) T.b_len (by decide +kernel) (da_cons (de_var 1) da_nil)) dv_nil)))))
  · exact F.binds (ps := ["_law_deck_here", "_law_items"]) fun _ _ _ _ _ _ us hl => match us, hl with | [_, _], _ => rfl
  · exact fun q hq => by simp at hq
def m_l_size : M Fl :=
  (sSeq (sIf (tV (eOp2 dIn (eOp2 dIx (eVar 0) (eC (.int 0))) (eTup (aCons (eC (.str "in")) (aCons (eC (.str "set")) aNil)))))
      (sRet (eC (.int 1)))
      sNx)
    (sSeq (sIf (tV (eOp2 dEq (eOp2 dIx (eVar 0) (eC (.int 0))) (eC (.str "neg"))))
      (sRet (eOp2 dIx (eVar 1) (eOp2 dIx (eVar 0) (eC (.int 1)))))
      sNx)
    (sRet (eIf (tV (eOp2 dEq (eOp2 dIx (eVar 0) (eC (.int 0))) (eC (.str "*")))) (eOp2 dAdd (eOp2 dIx (eVar 1) (eOp2 dIx (eVar 0) (eC (.int 1)))) (eOp2 dIx (eVar 1) (eOp2 dIx (eVar 0) (eC (.int 2))))) (eCB dMax2 (aCons (eCB dInt (aCons (eOp2 dIx (eVar 1) (eOp2 dIx (eVar 0) (eC (.int 1)))) aNil)) (aCons (eCB dInt (aCons (eOp2 dIx (eVar 1) (eOp2 dIx (eVar 0) (eC (.int 2)))) aNil)) aNil)))))))
def sem_l_size : FS := semOf (List.length (["_law_step", "_law_found"] : List Str)) (List.length n_l_size) m_l_size
theorem fd_l_size (T : Txt K mg) : FnD P w K mg base 1 "_law_size" ["_law_step", "_law_found"] [] sem_l_size := by
  obtain ⟨f, fd, F, hm⟩ := T.f_l_size
  refine ⟨f, fd, fnD_of (m := m_l_size) F sc_l_size (fun cdv A outer s H E hr => ?_), hm, F.kp, ?_, ?_⟩
  · show XS _ _ _
    refine xs_cons ?_ ?_
    · refine x_if (dt_cmp (k_in (K := K)) do_in (k_ix (K := K) (de_var 0) de_int) (de_tup (da_cons de_str (da_cons de_str da_nil))) (by rfl)) ?_ ?_
      · refine xs_one ?_
        · exact x_lf (ds_ret de_int)
      · exact xs_nil
    refine xs_cons ?_ ?_
    · refine x_if (dt_cmp (k_eq (K := K) hr.units) do_eq (k_ix (K := K) (de_var 0) de_int) de_str (nomark _)) ?_ ?_
      · refine xs_one ?_
        · exact x_lf (ds_ret (k_ix (K := K) (de_var 1) (k_ix (K := K) (de_var 0) de_int)))
      · exact xs_nil
    refine xs_one ?_
    · exact x_lf (ds_ret (de_if (dt_cmp (k_eq (K := K) hr.units) do_eq (k_ix (K := K) (de_var 0) de_int) de_str (nomark _)) (de_bin (k_add (K := K)) do_add (k_ix (K := K) (de_var 1) (k_ix (K := K) (de_var 0) de_int)) (k_ix (K := K) (de_var 1) (k_ix (K := K) (de_var 0) de_int))) (de_B (call_max2 rfl) do_max2 (by rfl) T.b_max (by decide +kernel) (da_cons (de_Ty call_int1 do_int (by rfl) T.b_int (by decide +kernel) (da_cons (k_ix (K := K) (de_var 1) (k_ix (K := K) (de_var 0) de_int)) da_nil)) (da_cons (de_Ty call_int1 do_int (by rfl) T.b_int (by decide +kernel) (da_cons (k_ix (K := K) (de_var 1) (k_ix (K := K) (de_var 0) de_int)) da_nil)) da_nil)))))
  · exact F.binds (ps := ["_law_step", "_law_found"]) fun _ _ _ _ _ _ us hl => match us, hl with | [_, _], _ => rfl
  · exact fun q hq => by simp at hq
def m_l_row : M Fl :=
  (sSeq (sPar 4 5 (pNew (nLst aNil) (pNew (nLst aNil) pNil)))
    (sSeq (sFor (rg1 (aCons (eOp2 dAdd (eC (.int 1)) (eCallB [] sem_l_draw (vDeck 0 (vDat (eVar 2) vNil)))) aNil)) (gN 6)
      (sSeq (sAsg (eCallB [] sem_l_one (vDeck 0 (vDat (eL (nLst (aCons (eC (.str "in")) (aCons (eC (.str "in")) (aCons (eC (.str "set")) (aCons (eC (.str "neg")) (aCons (eC (.str "+")) (aCons (eC (.str "+")) (aCons (eC (.str "-")) (aCons (eC (.str "-")) (aCons (eC (.str "*")) (aCons (eC (.str "*")) (aCons (eC (.str "*")) aNil))))))))))))) vNil))) (gN 7))
        (sSeq (sIf (tAndM (tV (eOp2 dLt (eVar 6) (eVar 1))) (tV (eOp2 dGt (eCallB [] sem_l_draw (vDeck 0 (vDat (eC (.int 4)) vNil))) (eC (.int 0)))))
          (sAsg (eC (.str "in")) (gN 7))
          sNx)
        (sSeq (sAsg (eTup (aCons (eC (.str "set")) (aCons (eOp2 dSub (eCallB [] sem_l_draw (vDeck 0 (vDat (eC (.int 9)) vNil))) (eC (.int 4))) aNil))) (gN 8))
        (sSeq (sIf (tAndM (tV (eOp2 dEq (eVar 7) (eC (.str "in")))) (tV (eOp2 dGt (eVar 1) (eC (.int 0)))))
          (sAsg (eTup (aCons (eC (.str "in")) (aCons (eIf (tV (eOp2 dLt (eVar 6) (eVar 1))) (eVar 6) (eCallB [] sem_l_draw (vDeck 0 (vDat (eVar 1) vNil)))) aNil))) (gN 8))
          sNx)
        (sSeq (sIf (tAndM (tV (eOp2 dEq (eVar 7) (eC (.str "neg")))) (tV (eOp2 dGt (eVar 6) (eC (.int 0)))))
          (sAsg (eTup (aCons (eC (.str "neg")) (aCons (eCallB [] sem_l_draw (vDeck 0 (vDat (eVar 6) vNil))) aNil))) (gN 8))
          sNx)
        (sSeq (sIf (tAndM (tV (eOp2 dIn (eVar 7) (eTup (aCons (eC (.str "+")) (aCons (eC (.str "-")) (aCons (eC (.str "*")) aNil)))))) (tV (eOp2 dGt (eVar 6) (eC (.int 0)))))
          (sAsg (eTup (aCons (eVar 7) (aCons (eCallB [] sem_l_draw (vDeck 0 (vDat (eVar 6) vNil))) (aCons (eOp2 dSub (eOp2 dSub (eVar 6) (eC (.int 1))) (eCallB [] sem_l_draw (vDeck 0 (vDat (eCB dMin2 (aCons (eVar 6) (aCons (eC (.int 3)) aNil))) vNil)))) aNil)))) (gN 8))
          sNx)
        (sSeq (sIf (tV (eOp2 dGt (eCallB [5] sem_l_size (vDat (eVar 8) (vBor 5 vNil))) (eVar 3)))
          (sAsg (eOp2 dAdd (eTup (aCons (eC (.str "+")) aNil)) (eSl (eVar 8) (oS (eC (.int 1))) oN)) (gN 8))
          sNx)
        (sSeq (sApp 4 (eVar 8))
        (sApp 5 (eCallB [5] sem_l_size (vDat (eVar 8) (vBor 5 vNil)))))))))))))
    (sSeq (sAsg (eOp2 dAdd (eL (nLst (aCons (eOp2 dSub (eBC dLen 4) (eC (.int 1))) aNil))) (eL (nLc [10] (rg1 (aCons (eCallB [] sem_l_draw (vDeck 0 (vDat (eC (.int 3)) vNil))) aNil)) (gN 10) (rtn true) (eCallB [] sem_l_draw (vDeck 0 (vDat (eBC dLen 4) vNil)))))) (gN 9))
    (sRet (eTup (aCons (eVar 1) (aCons (eCB dTupleOf (aCons (eGive 4) aNil)) (aCons (eCB dTupleOf (aCons (eVar 9) aNil)) aNil))))))))
def sem_l_row : FS := semOf (List.length (["_law_deck_here", "_law_inputs", "_law_many", "_law_most"] : List Str)) (List.length n_l_row) m_l_row
theorem fd_l_row (T : Txt K mg) : FnD P w K mg base 3 "_law_row" ["_law_deck_here", "_law_inputs", "_law_many", "_law_most"] [] sem_l_row := by
  obtain ⟨f, fd, F, hm⟩ := T.f_l_row
  refine ⟨f, fd, fnD_of (m := m_l_row) F sc_l_row (fun cdv A outer s H E hr => ?_), hm, F.kp, ?_, ?_⟩
  · show XS _ _ _
    refine xs_cons ?_ ?_
    · exact x_lf (k_parT (K := K) 4 5 sc_l_row.nd (dp_new (dn_lst da_nil) (dp_new (dn_lst da_nil) dp_nil)))
    refine xs_cons ?_ ?_
    · refine x_for (di_rg1 (by rfl) T.b_range (da_cons (de_bin (k_add (K := K)) do_add de_int (k_call (K := K) (B := []) (fd_l_draw T) (hr.mono (by omega)) (by rfl) (dv_deck 0 (dv_dat (de_var 2) dv_nil)))) da_nil)) (dg_name 6 sc_l_row.nd) ?_
      · refine xs_cons ?_ ?_
        · exact x_lf (ds_asg (k_call (K := K) (B := []) (fd_l_one T) (hr.mono (by omega)) (by rfl) (dv_deck 0 (dv_dat (DN.de (dn_lst (da_cons de_str (da_cons de_str (da_cons de_str (da_cons de_str (da_cons de_str (da_cons de_str (da_cons de_str (da_cons de_str (da_cons de_str (da_cons de_str (da_cons de_str da_nil))))))))))))) dv_nil))) (dg_name 7 sc_l_row.nd))
        refine xs_cons ?_ ?_
        · refine x_if (DW.pt (dw_and (dt_cmp (k_lt (K := K) hr.units) do_lt (de_var 6) (de_var 1) (nomark _)) (dw_and1 (dt_cmp (k_gt (K := K) hr.units) do_gt (k_call (K := K) (B := []) (fd_l_draw T) (hr.mono (by omega)) (by rfl) (dv_deck 0 (dv_dat de_int dv_nil))) de_int (nomark _))))) ?_ ?_
          · refine xs_one ?_
            · exact x_lf (ds_asg de_str (dg_name 7 sc_l_row.nd))
          · exact xs_nil
        refine xs_cons ?_ ?_
        · exact x_lf (ds_asg (de_tup (da_cons de_str (da_cons (de_bin op_sub do_sub (k_call (K := K) (B := []) (fd_l_draw T) (hr.mono (by omega)) (by rfl) (dv_deck 0 (dv_dat de_int dv_nil))) de_int) da_nil))) (dg_name 8 sc_l_row.nd))
        refine xs_cons ?_ ?_
        · refine x_if (DW.pt (dw_and (dt_cmp (k_eq (K := K) hr.units) do_eq (de_var 7) de_str (nomark _)) (dw_and1 (dt_cmp (k_gt (K := K) hr.units) do_gt (de_var 1) de_int (nomark _))))) ?_ ?_
          · refine xs_one ?_
            · exact x_lf (ds_asg (de_tup (da_cons de_str (da_cons (de_if (dt_cmp (k_lt (K := K) hr.units) do_lt (de_var 6) (de_var 1) (nomark _)) (de_var 6) (k_call (K := K) (B := []) (fd_l_draw T) (hr.mono (by omega)) (by rfl) (dv_deck 0 (dv_dat (de_var 1) dv_nil)))) da_nil))) (dg_name 8 sc_l_row.nd))
          · exact xs_nil
        refine xs_cons ?_ ?_
        · refine x_if (DW.pt (dw_and (dt_cmp (k_eq (K := K) hr.units) do_eq (de_var 7) de_str (nomark _)) (dw_and1 (dt_cmp (k_gt (K := K) hr.units) do_gt (de_var 6) de_int (nomark _))))) ?_ ?_
          · refine xs_one ?_
            · exact x_lf (ds_asg (de_tup (da_cons de_str (da_cons (k_call (K := K) (B := []) (fd_l_draw T) (hr.mono (by omega)) (by rfl) (dv_deck 0 (dv_dat (de_var 6) dv_nil))) da_nil))) (dg_name 8 sc_l_row.nd))
          · exact xs_nil
        refine xs_cons ?_ ?_
        · refine x_if (DW.pt (dw_and (dt_cmp (k_in (K := K)) do_in (de_var 7) (de_tup (da_cons de_str (da_cons de_str (da_cons de_str da_nil)))) (by rfl)) (dw_and1 (dt_cmp (k_gt (K := K) hr.units) do_gt (de_var 6) de_int (nomark _))))) ?_ ?_
          · refine xs_one ?_
            · exact x_lf (ds_asg (de_tup (da_cons (de_var 7) (da_cons (k_call (K := K) (B := []) (fd_l_draw T) (hr.mono (by omega)) (by rfl) (dv_deck 0 (dv_dat (de_var 6) dv_nil))) (da_cons (de_bin op_sub do_sub (de_bin op_sub do_sub (de_var 6) de_int) (k_call (K := K) (B := []) (fd_l_draw T) (hr.mono (by omega)) (by rfl) (dv_deck 0 (dv_dat (de_B (call_min2 rfl) do_min2 (by rfl) T.b_min (by decide +kernel) (da_cons (de_var 6) (da_cons de_int da_nil))) dv_nil)))) da_nil)))) (dg_name 8 sc_l_row.nd))
          · exact xs_nil
        refine xs_cons ?_ ?_
        · refine x_if (dt_cmp (k_gt (K := K) hr.units) do_gt (k_call (K := K) (B := [5]) (fd_l_size T) (hr.mono (by omega)) (by rfl) (dv_dat (de_var 8) (dv_bor 5 (by decide) dv_nil))) (de_var 3) (nomark _)) ?_ ?_
          · refine xs_one ?_
            · exact x_lf (ds_asg (de_bin (k_add (K := K)) do_add (de_tup (da_cons de_str da_nil)) (k_sl (K := K) (de_var 8) (do_some de_int) do_none)) (dg_name 8 sc_l_row.nd))
          · exact xs_nil
        refine xs_cons ?_ ?_
        · exact x_lf (ds_append 4 (de_var 8))
        refine xs_one ?_
        · exact x_lf (ds_append 5 (k_call (K := K) (B := [5]) (fd_l_size T) (hr.mono (by omega)) (by rfl) (dv_dat (de_var 8) (dv_bor 5 (by decide) dv_nil))))
    refine xs_cons ?_ ?_
    · exact x_lf (ds_asg (de_bin (k_add (K := K)) do_add (DN.de (dn_lst (da_cons (de_bin op_sub do_sub (de_bc 4 (k_len (K := K)) do_len (by rfl) T.b_len (by decide +kernel)) de_int) da_nil))) (DN.de (dn_lc (own := [("_law_k", 10)]) rfl sc_l_row.nd (di_rg1 (by rfl) T.b_range (da_cons (k_call (K := K) (B := []) (fd_l_draw T) (hr.mono (by omega)) (by rfl) (dv_deck 0 (dv_dat de_int dv_nil))) da_nil)) (blkOk_by (own := [("_law_k", 10)]) (N := n_l_row) (sc := defScope s_l_row) (by decide +kernel)) (fun _ _ _ _ _ => (dg_name 10 sc_l_row.nd)) (by decide) (fun _ _ _ _ _ => dts_nil) (fun _ _ _ _ _ => (k_call (K := K) (B := []) (fd_l_draw T) (hr.mono (by omega)) (by rfl) (dv_deck 0 (dv_dat (de_bc 4 (k_len (K := K)) do_len (by rfl) T.b_len (by decide +kernel)) dv_nil))))))) (dg_name 9 sc_l_row.nd))
    refine xs_one ?_
    · exact x_lf (ds_ret (de_tup (da_cons (de_var 1) (da_cons (de_Ty (k_tupleOf (K := K)) do_tupleOf (by rfl) T.b_tuple (by decide +kernel) (da_cons (de_give 4) da_nil)) (da_cons (de_Ty (k_tupleOf (K := K)) do_tupleOf (by rfl) T.b_tuple (by decide +kernel) (da_cons (de_var 9) da_nil)) da_nil)))))
  · exact F.binds (ps := ["_law_deck_here", "_law_inputs", "_law_many", "_law_most"]) fun _ _ _ _ _ _ us hl => match us, hl with | [_, _, _, _], _ => rfl
  · exact fun q hq => by simp at hq
def m_l_far : M Fl :=
  (sSeq (sAsg (eC (.int 0)) (gN 2))
    (sSeq (sFor (rg1 (aCons (eC (.int 12)) aNil)) (gN 3)
      (sAsg (eOp2 dAdd (eOp2 dMul (eVar 2) (eC (.int 1000))) (eCallB [] sem_l_draw (vDeck 0 (vDat (eC (.int 1000)) vNil)))) (gN 2)))
    (sRet (eOp2 dMod (eCB dInt (aCons (eVar 2) aNil)) (eVar 1)))))
def sem_l_far : FS := semOf (List.length (["_law_deck_here", "_law_many"] : List Str)) (List.length n_l_far) m_l_far
theorem fd_l_far (T : Txt K mg) : FnD P w K mg base 2 "_law_far" ["_law_deck_here", "_law_many"] [] sem_l_far := by
  obtain ⟨f, fd, F, hm⟩ := T.f_l_far
  refine ⟨f, fd, fnD_of (m := m_l_far) F sc_l_far (fun cdv A outer s H E hr => ?_), hm, F.kp, ?_, ?_⟩
  · show XS _ _ _
    refine xs_cons ?_ ?_
    · exact x_lf (ds_asg de_int (dg_name 2 sc_l_far.nd))
    refine xs_cons ?_ ?_
    · refine x_for (di_rg1 (by rfl) T.b_range (da_cons de_int da_nil)) (dg_name 3 sc_l_far.nd) ?_
      · refine xs_one ?_
        · exact x_lf (ds_asg (de_bin (k_add (K := K)) do_add (de_bin (k_mul (K := K)) do_mul (de_var 2) de_int) (k_call (K := K) (B := []) (fd_l_draw T) (hr.mono (by omega)) (by rfl) (dv_deck 0 (dv_dat de_int dv_nil)))) (dg_name 2 sc_l_far.nd))
    refine xs_one ?_
    · exact x_lf (ds_ret (de_bin op_modN do_mod (de_Ty call_int1 do_int (by rfl) T.b_int (by decide +kernel) (da_cons (de_var 2) da_nil)) (de_var 1)))
  · exact F.binds (ps := ["_law_deck_here", "_law_many"]) fun _ _ _ _ _ _ us hl => match us, hl with | [_, _], _ => rfl
  · exact fun q hq => by simp at hq
def m_l_number : M Fl :=
  (sSeq (sAsg (eCallB [] sem_l_one (vDeck 0 (vDat (eL (nLst (aCons (eC (.int 3)) (aCons (eC (.int 10)) (aCons (eC (.int 1000)) (aCons (eOp2 dPow (eC (.int 10)) (eC (.int 9))) (aCons (eOp2 dPow (eC (.int 10)) (eC (.int 20))) aNil))))))) vNil))) (gN 1))
    (sRet (eOp2 dMul (eCallB [] sem_l_one (vDeck 0 (vDat (eL (nLst (aCons (eC (.int 1)) (aCons (eOp1 dNeg (eC (.int 1))) aNil)))) vNil))) (eCallB [] sem_l_far (vDeck 0 (vDat (eOp2 dAdd (eVar 1) (eC (.int 1))) vNil))))))
def sem_l_number : FS := semOf (List.length (["_law_deck_here"] : List Str)) (List.length n_l_number) m_l_number
theorem fd_l_number (T : Txt K mg) : FnD P w K mg base 3 "_law_number" ["_law_deck_here"] [] sem_l_number := by
  obtain ⟨f, fd, F, hm⟩ := T.f_l_number
  refine ⟨f, fd, fnD_of (m := m_l_number) F sc_l_number (fun cdv A outer s H E hr => ?_), hm, F.kp, ?_, ?_⟩
  · show XS _ _ _
    refine xs_cons ?_ ?_
    · exact x_lf (ds_asg (k_call (K := K) (B := []) (fd_l_one T) (hr.mono (by omega)) (by rfl) (dv_deck 0 (dv_dat (DN.de (dn_lst (da_cons de_int (da_cons de_int (da_cons de_int (da_cons (de_bin op_pow do_pow de_int de_int) (da_cons (de_bin op_pow do_pow de_int de_int) da_nil))))))) dv_nil))) (dg_name 1 sc_l_number.nd))
    refine xs_one ?_
    · exact x_lf (ds_ret (de_bin (k_mul (K := K)) do_mul (k_call (K := K) (B := []) (fd_l_one T) (hr.mono (by omega)) (by rfl) (dv_deck 0 (dv_dat (DN.de (dn_lst (da_cons de_int (da_cons (de_neg de_int) da_nil)))) dv_nil))) (k_call (K := K) (B := []) (fd_l_far T) (hr.mono (by omega)) (by rfl) (dv_deck 0 (dv_dat (de_bin (k_add (K := K)) do_add (de_var 1) de_int) dv_nil)))))
  · exact F.binds (ps := ["_law_deck_here"]) fun _ _ _ _ _ _ us hl => match us, hl with | [_], _ => rfl
  · exact fun q hq => by simp at hq
def m_l_values : M Fl :=
  (sSeq (sNew 2 (nLst aNil))
    (sSeq (sFor (asQ (eOp2 dIx (eVar 0) (eC (.int 1)))) (gN 3)
      (sIf (tV (eOp2 dEq (eOp2 dIx (eVar 3) (eC (.int 0))) (eC (.str "in"))))
          (sApp 2 (eOp2 dIx (eVar 1) (eOp2 dIx (eVar 3) (eC (.int 1)))))
          (sIf (tV (eOp2 dEq (eOp2 dIx (eVar 3) (eC (.int 0))) (eC (.str "set"))))
              (sApp 2 (eOp2 dIx (eVar 3) (eC (.int 1))))
              (sIf (tV (eOp2 dEq (eOp2 dIx (eVar 3) (eC (.int 0))) (eC (.str "neg"))))
                  (sApp 2 (eOp2 dSub (eC (.int 0)) (eIxC 2 (eOp2 dIx (eVar 3) (eC (.int 1))))))
                  (sSeq (sPar 4 5 (pDat (eIxC 2 (eOp2 dIx (eVar 3) (eC (.int 1)))) (pDat (eIxC 2 (eOp2 dIx (eVar 3) (eC (.int 2)))) pNil)))
                    (sApp 2 (eIf (tV (eOp2 dEq (eOp2 dIx (eVar 3) (eC (.int 0))) (eC (.str "+")))) (eOp2 dAdd (eVar 4) (eVar 5)) (eIf (tV (eOp2 dEq (eOp2 dIx (eVar 3) (eC (.int 0))) (eC (.str "-")))) (eOp2 dSub (eVar 4) (eVar 5)) (eOp2 dMul (eVar 4) (eVar 5))))))))))
    (sRet (eGive 2))))
def sem_l_values : FS := semOf (List.length (["_law_row_here", "_law_point"] : List Str)) (List.length n_l_values) m_l_values
theorem fd_l_values (T : Txt K mg) : FnD P w K mg base 1 "_law_values" ["_law_row_here", "_law_point"] [] sem_l_values := by
  obtain ⟨f, fd, F, hm⟩ := T.f_l_values
  refine ⟨f, fd, fnD_of (m := m_l_values) F sc_l_values (fun cdv A outer s H E hr => ?_), hm, F.kp, ?_, ?_⟩
  · show XS _ _ _
    refine xs_cons ?_ ?_
    · exact x_lf (ds_new 2 (dn_lst da_nil) sc_l_values.nd)
    refine xs_cons ?_ ?_
    · refine x_for (k_seq (K := K) (k_ix (K := K) (de_var 0) de_int)) (dg_name 3 sc_l_values.nd) ?_
      · refine xs_one ?_
        · refine x_if (dt_cmp (k_eq (K := K) hr.units) do_eq (k_ix (K := K) (de_var 3) de_int) de_str (nomark _)) ?_ ?_
          · refine xs_one ?_
            · exact x_lf (ds_append 2 (k_ix (K := K) (de_var 1) (k_ix (K := K) (de_var 3) de_int)))
          · refine xs_one ?_
            · refine x_if (dt_cmp (k_eq (K := K) hr.units) do_eq (k_ix (K := K) (de_var 3) de_int) de_str (nomark _)) ?_ ?_
              · refine xs_one ?_
                · exact x_lf (ds_append 2 (k_ix (K := K) (de_var 3) de_int))
              · refine xs_one ?_
                · refine x_if (dt_cmp (k_eq (K := K) hr.units) do_eq (k_ix (K := K) (de_var 3) de_int) de_str (nomark _)) ?_ ?_
                  · refine xs_one ?_
                    · exact x_lf (ds_append 2 (de_bin op_sub do_sub de_int (k_ixC (K := K) 2 (k_ix (K := K) (de_var 3) de_int))))
                  · refine xs_cons ?_ ?_
                    · exact x_lf (ds_par 4 5 rfl sc_l_values.nd (dp_dat (k_ixC (K := K) 2 (k_ix (K := K) (de_var 3) de_int)) (dp_dat (k_ixC (K := K) 2 (k_ix (K := K) (de_var 3) de_int)) dp_nil)))
                    refine xs_one ?_
                    · exact x_lf (ds_append 2 (de_if (dt_cmp (k_eq (K := K) hr.units) do_eq (k_ix (K := K) (de_var 3) de_int) de_str (nomark _)) (de_bin (k_add (K := K)) do_add (de_var 4) (de_var 5)) (de_if (dt_cmp (k_eq (K := K) hr.units) do_eq (k_ix (K := K) (de_var 3) de_int) de_str (nomark _)) (de_bin op_sub do_sub (de_var 4) (de_var 5)) (de_bin (k_mul (K := K)) do_mul (de_var 4) (de_var 5)))))
    refine xs_one ?_
    · exact x_lf (ds_ret (de_give 2))
  · exact F.binds (ps := ["_law_row_here", "_law_point"]) fun _ _ _ _ _ _ us hl => match us, hl with | [_, _], _ => rfl
  · exact fun q hq => by simp at hq
def m_l_told : M Fl :=
  (sSeq (sAsg (eCallB [] sem_l_values (vDat (eVar 0) (vDat (eVar 1) vNil))) (gN 2))
    (sRet (eCB dTupleOf (aCons (eL (nLc [3] (asQ (eOp2 dIx (eVar 0) (eC (.int 2)))) (gN 3) (rtn true) (eOp2 dIx (eVar 2) (eVar 3)))) aNil))))
def sem_l_told : FS := semOf (List.length (["_law_row_here", "_law_point"] : List Str)) (List.length n_l_told) m_l_told
theorem fd_l_told (T : Txt K mg) : FnD P w K mg base 2 "_law_told" ["_law_row_here", "_law_point"] [] sem_l_told := by
  obtain ⟨f, fd, F, hm⟩ := T.f_l_told
  refine ⟨f, fd, fnD_of (m := m_l_told) F sc_l_told (fun cdv A outer s H E hr => ?_), hm, F.kp, ?_, ?_⟩
  · show XS _ _ _
    refine xs_cons ?_ ?_
    · exact x_lf (ds_asg (k_call (K := K) (B := []) (fd_l_values T) (hr.mono (by omega)) (by rfl) (dv_dat (de_var 0) (dv_dat (de_var 1) dv_nil))) (dg_name 2 sc_l_told.nd))
    refine xs_one ?_
    · exact x_lf (ds_ret (de_Ty (k_tupleOf (K := K)) do_tupleOf (by rfl) T.b_tuple (by decide +kernel) (da_cons (DN.de (dn_lc (own := [("_law_end", 3)]) rfl sc_l_told.nd (k_seq (K := K) (k_ix (K := K) (de_var 0) de_int)) (blkOk_by (own := [("_law_end", 3)]) (N := n_l_told) (sc := defScope s_l_told) (by decide +kernel)) (fun _ _ _ _ _ => (dg_name 3 sc_l_told.nd)) (by decide) (fun _ _ _ _ _ => dts_nil) (fun _ _ _ _ _ => (k_ix (K := K) (de_var 2) (de_var 3))))) da_nil)))
  · exact F.binds (ps := ["_law_row_here", "_law_point"]) fun _ _ _ _ _ _ us hl => match us, hl with | [_, _], _ => rfl
  · exact fun q hq => by simp at hq
def m_l_box : M Fl :=
  (sSeq (sNew 3 (nLst aNil))
    (sSeq (sFor (rg1 (aCons (eVar 1) aNil)) (gN 4)
      (sSeq (sAsg (eIf (tV (eOp2 dGt (eCallB [] sem_l_draw (vDeck 0 (vDat (eC (.int 4)) vNil))) (eC (.int 0)))) (eOp2 dSub (eCallB [] sem_l_draw (vDeck 0 (vDat (eC (.int 9)) vNil))) (eC (.int 4))) (eCallB [] sem_l_number (vDeck 0 vNil))) (gN 5))
        (sSeq (sAsg (eCB dMin2 (aCons (eVar 5) (aCons (eOp2 dSub (eOp2 dPow (eC (.int 10)) (eC (.int 20))) (eVar 2)) aNil))) (gN 5))
        (sApp 3 (eTup (aCons (eVar 5) (aCons (eOp2 dAdd (eVar 5) (eCallB [] sem_l_draw (vDeck 0 (vDat (eOp2 dAdd (eVar 2) (eC (.int 1))) vNil)))) aNil)))))))
    (sRet (eCB dTupleOf (aCons (eGive 3) aNil)))))
def sem_l_box : FS := semOf (List.length (["_law_deck_here", "_law_inputs", "_law_wide"] : List Str)) (List.length n_l_box) m_l_box
theorem fd_l_box (T : Txt K mg) : FnD P w K mg base 4 "_law_box" ["_law_deck_here", "_law_inputs", "_law_wide"] [] sem_l_box := by
  obtain ⟨f, fd, F, hm⟩ := T.f_l_box
  refine ⟨f, fd, fnD_of (m := m_l_box) F sc_l_box (fun cdv A outer s H E hr => ?_), hm, F.kp, ?_, ?_⟩
  · show XS _ _ _
    refine xs_cons ?_ ?_
    · exact x_lf (ds_new 3 (dn_lst da_nil) sc_l_box.nd)
    refine xs_cons ?_ ?_
    · refine x_for (di_rg1 (by rfl) T.b_range (da_cons (de_var 1) da_nil)) (dg_name 4 sc_l_box.nd) ?_
      · refine xs_cons ?_ ?_
        · exact x_lf (ds_asg (de_if (dt_cmp (k_gt (K := K) hr.units) do_gt (k_call (K := K) (B := []) (fd_l_draw T) (hr.mono (by omega)) (by rfl) (dv_deck 0 (dv_dat de_int dv_nil))) de_int (nomark _)) (de_bin op_sub do_sub (k_call (K := K) (B := []) (fd_l_draw T) (hr.mono (by omega)) (by rfl) (dv_deck 0 (dv_dat de_int dv_nil))) de_int) (k_call (K := K) (B := []) (fd_l_number T) (hr.mono (by omega)) (by rfl) (dv_deck 0 dv_nil))) (dg_name 5 sc_l_box.nd))
        refine xs_cons ?_ ?_
        · exact x_lf (ds_asg (de_B (call_min2 rfl) do_min2 (by rfl) T.b_min (by decide +kernel) (da_cons (de_var 5) (da_cons (de_bin op_sub do_sub (de_bin op_pow do_pow de_int de_int) (de_var 2)) da_nil))) (dg_name 5 sc_l_box.nd))
        refine xs_one ?_
        · exact x_lf (ds_append 3 (de_tup (da_cons (de_var 5) (da_cons (de_bin (k_add (K := K)) do_add (de_var 5) (k_call (K := K) (B := []) (fd_l_draw T) (hr.mono (by omega)) (by rfl) (dv_deck 0 (dv_dat (de_bin (k_add (K := K)) do_add (de_var 2) de_int) dv_nil)))) da_nil))))
    refine xs_one ?_
    · exact x_lf (ds_ret (de_Ty (k_tupleOf (K := K)) do_tupleOf (by rfl) T.b_tuple (by decide +kernel) (da_cons (de_give 3) da_nil)))
  · exact F.binds (ps := ["_law_deck_here", "_law_inputs", "_law_wide"]) fun _ _ _ _ _ _ us hl => match us, hl with | [_, _, _], _ => rfl
  · exact fun q hq => by simp at hq
def m_l_points : M Fl :=
  (sSeq (sAsg (eL (nLst (aCons (eTup aNil) aNil))) (gN 1))
    (sSeq (sFor (asQ (eVar 0)) (gTp 2 (gCn (gN 2) (gCn (gN 3) gNl)))
      (sSeq (sNew 4 (nLst aNil))
        (sSeq (sFor (asQ (eCB dListOf (aCons (eVar 1) aNil))) (gN 5)
          (sExt 4 (eL (nLc [6] (rgW (aCons (eVar 2) (aCons (eOp2 dAdd (eVar 3) (eC (.int 1))) aNil))) (gN 6) (rtn true) (eOp2 dAdd (eVar 5) (eTup (aCons (eVar 6) aNil)))))))
        (sAsg (eGive 4) (gN 1)))))
    (sRet (eVar 1))))
def sem_l_points : FS := semOf (List.length (["_law_box_here"] : List Str)) (List.length n_l_points) m_l_points
theorem fd_l_points (T : Txt K mg) : FnD P w K mg base 1 "_law_points" ["_law_box_here"] [] sem_l_points := by
  obtain ⟨f, fd, F, hm⟩ := T.f_l_points
  refine ⟨f, fd, fnD_of (m := m_l_points) F sc_l_points (fun cdv A outer s H E hr => ?_), hm, F.kp, ?_, ?_⟩
  · show XS _ _ _
    refine xs_cons ?_ ?_
    · exact x_lf (ds_asg (DN.de (dn_lst (da_cons (de_tup da_nil) da_nil))) (dg_name 1 sc_l_points.nd))
    refine xs_cons ?_ ?_
    · refine x_for (k_seq (K := K) (de_var 0)) (k_gtup (K := K) (dgs_cons (dg_name 2 sc_l_points.nd) (dgs_cons (dg_name 3 sc_l_points.nd) dgs_nil))) ?_
      · refine xs_cons ?_ ?_
        · exact x_lf (ds_new 4 (dn_lst da_nil) sc_l_points.nd)
        refine xs_cons ?_ ?_
        · refine x_for (k_seq (K := K) (de_Ty (k_listOf (K := K)) do_listOf (by rfl) T.b_list (by decide +kernel) (da_cons (de_var 1) da_nil))) (dg_name 5 sc_l_points.nd) ?_
          · refine xs_one ?_
            · exact x_lf (ds_extend 4 (DN.de (dn_lc (own := [("_law_number_here", 6)]) rfl sc_l_points.nd (k_rgW (by rfl) T.b_range (da_cons (de_var 2) (da_cons (de_bin (k_add (K := K)) do_add (de_var 3) de_int) da_nil))) (blkOk_by (own := [("_law_number_here", 6)]) (N := n_l_points) (sc := defScope s_l_points) (by decide +kernel)) (fun _ _ _ _ _ => (dg_name 6 sc_l_points.nd)) (by decide) (fun _ _ _ _ _ => dts_nil) (fun _ _ _ _ _ => (de_bin (k_add (K := K)) do_add (de_var 5) (de_tup (da_cons (de_var 6) da_nil)))))))
        refine xs_one ?_
        · exact x_lf (ds_asg (de_give 4) (dg_name 1 sc_l_points.nd))
    refine xs_one ?_
    · exact x_lf (ds_ret (de_var 1))
  · exact F.binds (ps := ["_law_box_here"]) fun _ _ _ _ _ _ us hl => match us, hl with | [_], _ => rfl
  · exact fun q hq => by simp at hq
def m_l_told_all : M Fl :=
  (sSeq (sNew 3 (nLst aNil))
    (sSeq (loopF 4 (sTryK 5 ["TooGreat"] (xApp 3 (xCallL 4 [("least", sem_p_least), ("greatest", sem_p_greatest), ("signs", sem_p_signs)] (vDat (eVar 0) (vDat (eVar 1) (vDat (eVar 2) vNil)))))
          (hD (hLst (hCons (hStr "great") (hCons (hFld "TooGreat" "limit") hNil))) (hApp 3)))
      ["least", "greatest", "signs"])
    (sRet (eGive 3))))
def sem_l_told_all : FS := semOf (List.length (["_law_row_here", "_law_end", "_law_box_here"] : List Str)) (List.length n_l_told_all) m_l_told_all
theorem fd_l_told_all (T : Txt K mg) : FnD P w K mg base 5 "_law_told_all" ["_law_row_here", "_law_end", "_law_box_here"] [] sem_l_told_all := by
  obtain ⟨f, fd, F, hm⟩ := T.f_l_told_all
  refine ⟨f, fd, fnD_of (m := m_l_told_all) F sc_l_told_all (fun cdv A outer s H E hr => ?_), hm, F.kp, ?_, ?_⟩
  · show XS _ _ _
    refine xs_cons ?_ ?_
    · exact x_lf (ds_new 3 (dn_lst da_nil) sc_l_told_all.nd)
    refine xs_cons ?_ ?_
    · refine x_forF 4 (fa_cons T.v_p_least (fa_cons T.v_p_greatest (fa_cons T.v_p_signs fa_nil))) ?_ sc_l_told_all.nd
      · refine xs_one ?_
        · refine x1_tryK (i := 5) (cs := ["TooGreat"]) (hsu := (hD (hLst (hCons (hStr "great") (hCons (hFld "TooGreat" "limit") hNil))) (hApp 3))) T.l_TooGreat (fun W pn xe tk => ?_) (su_appN 3 (hs_lst (hs_cons hs_str (hs_cons (hs_fld T.g_TooGreat) hs_nil)))) sc_l_told_all.nd
          · show XSX _ _ _ _
            refine xx_one ?_
            · exact xx_app 3 (de_xcallL 4 (tb_cons (fd_p_least T) T.v_p_least (hr.mono (by omega)) (tb_cons (fd_p_greatest T) T.v_p_greatest (hr.mono (by omega)) (tb_cons (fd_p_signs T) T.v_p_signs (hr.mono (by omega)) tb_nil))) tk (dv_dat (de_var 0) (dv_dat (de_var 1) (dv_dat (de_var 2) dv_nil))))
    refine xs_one ?_
    · exact x_lf (ds_ret (de_give 3))
  · exact F.binds (ps := ["_law_row_here", "_law_end", "_law_box_here"]) fun _ _ _ _ _ _ us hl => match us, hl with | [_, _, _], _ => rfl
  · exact fun q hq => by simp at hq
def m_l_is_refused : M Fl :=
  (sSeq (sIf (tV (eOp2 dNe (eCallB [] sem_l_told_all (vDat (eVar 0) (vDat (eC (.int 0)) (vDat (eVar 1) vNil)))) (eOp2 dMul (eL (nLst (aCons (eL (nLst (aCons (eC (.str "great")) (aCons (eC (.int 2000)) aNil)))) aNil))) (eC (.int 3)))))
      (sRet (eC (.bool false)))
      sNx)
    (sSeq (sTryK 3 ["TooGreat"] (xSeq (xDrop (xCall sem_p_least_paper (vDat (eVar 0) (vDat (eC (.int 0)) (vDat (eVar 1) vNil)))))
        (xLf (sAsg (eC (.bool false)) (gN 2))))
      (hD (hEq (hFld "TooGreat" "limit") (hInt 2000)) fun d s => some (.nx, ⟨s.g.set 2 (some (.dat d)), s.k⟩)))
    (sRet (eVar 2))))
def sem_l_is_refused : FS := semOf (List.length (["_law_row_here", "_law_box_here"] : List Str)) (List.length n_l_is_refused) m_l_is_refused
theorem fd_l_is_refused (T : Txt K mg) : FnD P w K mg base 77 "_law_is_refused" ["_law_row_here", "_law_box_here"] [] sem_l_is_refused := by
  obtain ⟨f, fd, F, hm⟩ := T.f_l_is_refused
  refine ⟨f, fd, fnD_of (m := m_l_is_refused) F sc_l_is_refused (fun cdv A outer s H E hr => ?_), hm, F.kp, ?_, ?_⟩
  · show XS _ _ _
    refine xs_cons ?_ ?_
    · refine x_if (dt_cmp (k_ne (K := K) hr.units) do_ne (k_call (K := K) (B := []) (fd_l_told_all T) (hr.mono (by omega)) (by rfl) (dv_dat (de_var 0) (dv_dat de_int (dv_dat (de_var 1) dv_nil)))) (de_bin (k_mul (K := K)) do_mul (DN.de (dn_lst (da_cons (DN.de (dn_lst (da_cons de_str (da_cons de_int da_nil)))) da_nil))) de_int) (nomark _)) ?_ ?_
      · refine xs_one ?_
        · exact x_lf (ds_ret de_bl)
      · exact xs_nil
    refine xs_cons ?_ ?_
    · refine x1_tryK (i := 3) (cs := ["TooGreat"]) (hsu := (hD (hEq (hFld "TooGreat" "limit") (hInt 2000)) fun d s => some (.nx, ⟨s.g.set 2 (some (.dat d)), s.k⟩))) T.l_TooGreat (fun W pn xe tk => ?_) (su_asg 2 (hs_eq (hs_fld T.g_TooGreat) hs_int) sc_l_is_refused.nd) sc_l_is_refused.nd
      · show XSX _ _ _ _
        refine xx_cons ?_ ?_
        · exact xx_drop (de_xcall (fd_p_least_paper T) tk (hr.mono (by omega)) (by rfl) (dv_dat (de_var 0) (dv_dat de_int (dv_dat (de_var 1) dv_nil))))
        refine xx_lfs ?_
        refine xs_one ?_
        · exact x_lf (ds_asg de_bl (dg_name 2 sc_l_is_refused.nd))
    refine xs_one ?_
    · exact x_lf (ds_ret (de_var 2))
  · exact F.binds (ps := ["_law_row_here", "_law_box_here"]) fun _ _ _ _ _ _ us hl => match us, hl with | [_, _], _ => rfl
  · exact fun q hq => by simp at hq
def law_1 : M Fl :=
  (sAsg (eCallB [] sem_l_one (vDeck 1 (vDat (eL (nLst (aCons (eC (.int 0)) (aCons (eC (.int 1)) (aCons (eC (.int 2)) (aCons (eC (.int 2)) (aCons (eC (.int 3)) (aCons (eC (.int 4)) (aCons (eC (.int 5)) (aCons (eC (.int 6)) (aCons (eC (.int 8)) aNil))))))))))) vNil))) (gN 3))
def law_2 : M Fl :=
  (sAsg (eCallB [] sem_l_row (vDeck 1 (vDat (eVar 3) (vDat (eIf (tV (eOp2 dLt (eVar 3) (eC (.int 5)))) (eC (.int 10)) (eC (.int 14))) (vDat (eC (.int 5)) vNil))))) (gN 4))
def law_3 : M Fl :=
  (sAsg (eOp2 dIx (eL (nLst (aCons (eC (.int 0)) (aCons (eC (.int 60)) (aCons (eC (.int 10)) (aCons (eC (.int 4)) (aCons (eC (.int 2)) (aCons (eC (.int 2)) (aCons (eC (.int 1)) (aCons (eC (.int 1)) (aCons (eC (.int 1)) aNil))))))))))) (eVar 3)) (gN 5))
def law_4 : M Fl :=
  (sAsg (eCallB [] sem_l_box (vDeck 1 (vDat (eVar 3) (vDat (eCallB [] sem_l_one (vDeck 1 (vDat (eL (nLst (aCons (eCB dMin2 (aCons (eC (.int 2)) (aCons (eVar 5) aNil))) (aCons (eVar 5) aNil)))) vNil))) vNil)))) (gN 6))
def law_5 : M Fl :=
  (sPar 7 8 (pDat (eCallB [] sem_l_points (vDat (eVar 6) vNil)) (pDat (eCB dRepr (aCons (eL (nLst (aCons (eVar 4) (aCons (eVar 6) aNil)))) aNil)) pNil)))
def law_6 : M Fl :=
  (sAsg (eL (nLc [18] (asQ (eVar 7)) (gN 18) (rtn true) (eTup (aCons (eOp2 dIx (eCallB [] sem_l_told (vDat (eVar 4) (vDat (eVar 18) vNil))) (eVar 9)) (aCons (eVar 18) aNil))))) (gN 10))
def law_7 : M Fl :=
  (sAsg (eCB dMaxQ (aCons (eL (nLc [19, 18] (asQ (eVar 10)) (gTp 2 (gCn (gN 19) (gCn (gN 18) gNl))) (rtn true) (eVar 19))) aNil)) (gN 11))
def law_8 : M Fl :=
  (sAsg (eOp2 dIx (eL (nLc [19, 18] (asQ (eVar 10)) (gTp 2 (gCn (gN 19) (gCn (gN 18) gNl))) (tV (eOp2 dEq (eVar 19) (eVar 11))) (eVar 18))) (eC (.int 0))) (gN 12))
def law_9 : M Fl :=
  (sAsg (eCB dTupleOf (aCons (eOp1 dSrtSet (eL (nLc [19, 18] (asQ (eVar 10)) (gTp 2 (gCn (gN 19) (gCn (gN 18) gNl))) (rtn true) (eOp2 dSub (eCB dInt (aCons (eOp2 dGt (eVar 19) (eC (.int 0))) aNil)) (eCB dInt (aCons (eOp2 dLt (eVar 19) (eC (.int 0))) aNil)))))) aNil)) (gN 13))
def law_10 : M Fl :=
  (sAsg (eL (nLst (aCons (eCB dMinQ (aCons (eVar 10) aNil)) (aCons (eTup (aCons (eVar 11) (aCons (eVar 12) aNil))) (aCons (eVar 13) aNil))))) (gN 14))
def law_11 : M Fl :=
  (sRet (eC (.bool false)))
def law_12 : M Fl :=
  (sIf (tOrM (tV (eOp2 dNe (eCB dRepr (aCons (eCallB [] sem_l_told_all (vDat (eVar 4) (vDat (eVar 9) (vDat (eVar 6) vNil)))) aNil)) (eCB dRepr (aCons (eVar 14) aNil)))) (tV (eOp2 dNe (eCB dRepr (aCons (eL (nLst (aCons (eVar 4) (aCons (eVar 6) aNil)))) aNil)) (eVar 8))))
            law_11
            sNx)
def law_13 : M Fl :=
  (sNew 15 (nLst (aCons (eCallX sem_p_least (vPerm [2, 1, 0] (vDat (eVar 6) (vDat (eVar 9) (vDat (eVar 4) vNil))))) (aCons (eCallX sem_p_greatest (vPerm [2, 0, 1] (vDat (eVar 9) (vDat (eVar 6) (vDat (eVar 4) vNil))))) aNil))))
def law_14 : M Fl :=
  (sApp 15 (eCallX sem_p_signs (vPerm [1, 2, 0] (vDat (eVar 6) (vDat (eVar 4) (vDat (eVar 9) vNil))))))
def law_15 : M Fl :=
  (sRet (eC (.bool false)))
def law_16 : M Fl :=
  (sIf (tV (eOp2 dNe (eCB dRepr (aCons (eGive 15) aNil)) (eCB dRepr (aCons (eVar 14) aNil))))
            law_15
            sNx)
def law_17 : M Fl :=
  (sFor (rg1 (aCons (eCB dLen (aCons (eOp2 dIx (eVar 4) (eC (.int 2))) aNil)) aNil)) (gN 9)
        (sSeq law_6
          (sSeq law_7
          (sSeq law_8
          (sSeq law_9
          (sSeq law_10
          (sSeq law_12
          (sSeq law_13
          (sSeq law_14
          law_16)))))))))
def law_18 : M Fl :=
  (sAsg (eIf (tV (eOp2 dLt (eOp2 dIx (eOp2 dIx (eVar 6) (eC (.int 0))) (eC (.int 0))) (eOp2 dPow (eC (.int 10)) (eC (.int 19))))) (eOp2 dAdd (eTup (aCons (eTup (aCons (eOp2 dIx (eOp2 dIx (eVar 6) (eC (.int 0))) (eC (.int 0))) (aCons (eOp2 dAdd (eOp2 dIx (eOp2 dIx (eVar 6) (eC (.int 0))) (eC (.int 0))) (eC (.int 2000))) aNil))) aNil)) (eSl (eVar 6) (oS (eC (.int 1))) oN)) (eOp2 dAdd (eTup (aCons (eTup (aCons (eC (.int 0)) (aCons (eC (.int 2000)) aNil))) aNil)) (eSl (eVar 6) (oS (eC (.int 1))) oN))) (gN 16))
def law_19 : M Fl :=
  (sRet (eC (.bool false)))
def law_20 : M Fl :=
  (sIf (tNotM (tV (eCallB [] sem_l_is_refused (vDat (eVar 4) (vDat (eVar 16) vNil)))))
            law_19
            sNx)
def law_21 : M Fl :=
  (sIf (tV (eOp2 dGt (eVar 3) (eC (.int 0))))
        (sSeq law_18
          law_20)
        sNx)
def law_22 : M Fl :=
  (sFor (rg1 (aCons (eC (.int 6)) aNil)) (gN 2)
    (sSeq law_1
      (sSeq law_2
      (sSeq law_3
      (sSeq law_4
      (sSeq law_5
      (sSeq law_17
      law_21)))))))
def law_23 : M Fl :=
  (sAsg (eTup (aCons (eC (.int 2)) (aCons (eTup (aCons (eTup (aCons (eC (.str "in")) (aCons (eC (.int 0)) aNil))) (aCons (eTup (aCons (eC (.str "in")) (aCons (eC (.int 1)) aNil))) (aCons (eTup (aCons (eC (.str "-")) (aCons (eC (.int 0)) (aCons (eC (.int 1)) aNil)))) aNil)))) (aCons (eTup (aCons (eC (.int 2)) aNil)) aNil)))) (gN 4))
def law_24 : M Fl :=
  (sAsg (eL (nLst (aCons (eCallX sem_p_least (vDat (eVar 4) (vDat (eC (.int 0)) (vDat (eTup (aCons (eTup (aCons (eC (.int 0)) (aCons (eC (.int 1999)) aNil))) (aCons (eTup (aCons (eC (.int 5)) (aCons (eC (.int 5)) aNil))) aNil))) vNil)))) (aCons (eCallX sem_p_greatest (vDat (eVar 4) (vDat (eC (.int 0)) (vDat (eTup (aCons (eTup (aCons (eC (.int 1)) (aCons (eC (.int 40)) aNil))) (aCons (eTup (aCons (eC (.int 1)) (aCons (eC (.int 50)) aNil))) aNil))) vNil)))) (aCons (eCallX sem_p_signs (vDat (eVar 4) (vDat (eC (.int 0)) (vDat (eTup (aCons (eTup (aCons (eC (.int 0)) (aCons (eC (.int 0)) aNil))) (aCons (eTup (aCons (eC (.int 0)) (aCons (eC (.int 0)) aNil))) aNil))) vNil)))) aNil))))) (gN 17))
def law_25 : M Fl :=
  (sRet (eOp2 dEq (eCB dRepr (aCons (eVar 17) aNil)) (eCB dRepr (aCons (eL (nLst (aCons (eTup (aCons (eOp1 dNeg (eC (.int 5))) (aCons (eTup (aCons (eC (.int 0)) (aCons (eC (.int 5)) aNil))) aNil))) (aCons (eTup (aCons (eC (.int 39)) (aCons (eTup (aCons (eC (.int 40)) (aCons (eC (.int 1)) aNil))) aNil))) (aCons (eTup (aCons (eC (.int 0)) aNil)) aNil))))) aNil))))
def m_law : M Fl :=
  (sSeq law_22
  (sSeq law_23
  (sSeq law_24
  law_25)))
theorem ds_law (T : Txt K mg) {f : Addr} {cdv : Value} {A : Around} {outer : List Env} {s : Shared} {H : Hp} {E : XK} (LT : LawTab K mg base cdv) (hG : (A.deeper (envOfC "law" (defScope s_p_law) s.heap.objs.size f cdv)).guards = some []) (hr : Room 77 (A.deeper (envOfC "law" (defScope s_p_law) s.heap.objs.size f cdv))) :
    ∃ t, DSs (cxOf CX0 P w K mg base n_p_law "law" (defScope s_p_law) f cdv A outer s H E).nox ((defBody s_p_law).drop 1) t m_law := by
  show XS _ _ _
  refine xs_cons ?_ ?_
  · refine x_for (di_rg1 (by rfl) T.b_range (da_cons de_int da_nil)) (dg_name 2 sc_p_law.nd) ?_
    · refine xs_cons ?_ ?_
      · exact x_lf (ds_asg (k_call (K := K) (B := []) (fd_l_one T) (hr.mono (by omega)) (by rfl) (dv_deck 1 (dv_dat (DN.de (dn_lst (da_cons de_int (da_cons de_int (da_cons de_int (da_cons de_int (da_cons de_int (da_cons de_int (da_cons de_int (da_cons de_int (da_cons de_int da_nil))))))))))) dv_nil))) (dg_name 3 sc_p_law.nd))
      refine xs_cons ?_ ?_
      · exact x_lf (ds_asg (k_call (K := K) (B := []) (fd_l_row T) (hr.mono (by omega)) (by rfl) (dv_deck 1 (dv_dat (de_var 3) (dv_dat (de_if (dt_cmp (k_lt (K := K) hr.units) do_lt (de_var 3) de_int (nomark _)) de_int de_int) (dv_dat de_int dv_nil))))) (dg_name 4 sc_p_law.nd))
      refine xs_cons ?_ ?_
      · exact x_lf (ds_asg (k_ix (K := K) (DN.de (dn_lst (da_cons de_int (da_cons de_int (da_cons de_int (da_cons de_int (da_cons de_int (da_cons de_int (da_cons de_int (da_cons de_int (da_cons de_int da_nil))))))))))) (de_var 3)) (dg_name 5 sc_p_law.nd))
      refine xs_cons ?_ ?_
      · exact x_lf (ds_asg (k_call (K := K) (B := []) (fd_l_box T) (hr.mono (by omega)) (by rfl) (dv_deck 1 (dv_dat (de_var 3) (dv_dat (k_call (K := K) (B := []) (fd_l_one T) (hr.mono (by omega)) (by rfl) (dv_deck 1 (dv_dat (DN.de (dn_lst (da_cons (de_B (call_min2 rfl) do_min2 (by rfl) T.b_min (by decide +kernel) (da_cons de_int (da_cons (de_var 5) da_nil))) (da_cons (de_var 5) da_nil)))) dv_nil))) dv_nil)))) (dg_name 6 sc_p_law.nd))
      refine xs_cons ?_ ?_
      · exact x_lf (ds_par 7 8 rfl sc_p_law.nd (dp_dat (k_call (K := K) (B := []) (fd_l_points T) (hr.mono (by omega)) (by rfl) (dv_dat (de_var 6) dv_nil)) (dp_dat (de_B (k_repr (K := K) T.zd hG hr.u100) do_repr (by rfl) T.b_repr (by decide +kernel) (da_cons (DN.de (dn_lst (da_cons (de_var 4) (da_cons (de_var 6) da_nil)))) da_nil)) dp_nil)))
      refine xs_cons ?_ ?_
      · refine x_for (di_rg1 (by rfl) T.b_range (da_cons (de_B (k_len (K := K)) do_len (by rfl) T.b_len (by decide +kernel) (da_cons (k_ix (K := K) (de_var 4) de_int) da_nil)) da_nil)) (dg_name 9 sc_p_law.nd) ?_
        · refine xs_cons ?_ ?_
          · exact x_lf (ds_lcD 10 (own := [("_law_point", 18)]) rfl sc_p_law.nd (k_seq (K := K) (de_var 7)) (blkOk_by (own := [("_law_point", 18)]) (N := n_p_law) (sc := defScope s_p_law) (by decide +kernel)) (fun _ _ _ _ _ => (dg_name 18 sc_p_law.nd)) (by decide) (fun _ _ _ _ _ => dts_nil) (fun _ _ _ _ _ => (de_tup (da_cons (k_ix (K := K) (k_call (K := K) (B := []) (fd_l_told T) (hr.mono (by omega)) (by rfl) (dv_dat (de_var 4) (dv_dat (de_var 18) dv_nil))) (de_var 9)) (da_cons (de_var 18) da_nil)))) (sw_true rfl rfl rfl (by decide +kernel)))
          refine xs_cons ?_ ?_
          · exact x_lf (ds_asg (de_B (k_maxQ (K := K) hr.u100) do_maxQ (by rfl) T.b_max (by decide +kernel) (da_cons (DN.de (dn_lc (own := [("_law_value", 19), ("_law_point", 18)]) rfl sc_p_law.nd (k_seq (K := K) (de_var 10)) (blkOk_by (own := [("_law_value", 19), ("_law_point", 18)]) (N := n_p_law) (sc := defScope s_p_law) (by decide +kernel)) (fun _ _ _ _ _ => (k_gtup (K := K) (dgs_cons (dg_name 19 sc_p_law.nd) (dgs_cons (dg_name 18 sc_p_law.nd) dgs_nil)))) (by decide) (fun _ _ _ _ _ => dts_nil) (fun _ _ _ _ _ => (de_var 19)))) da_nil)) (dg_name 11 sc_p_law.nd))
          refine xs_cons ?_ ?_
          · exact x_lf (ds_asg (k_ix (K := K) (DN.de (dn_lc (own := [("_law_value", 19), ("_law_point", 18)]) rfl sc_p_law.nd (k_seq (K := K) (de_var 10)) (blkOk_by (own := [("_law_value", 19), ("_law_point", 18)]) (N := n_p_law) (sc := defScope s_p_law) (by decide +kernel)) (fun _ _ _ _ _ => (k_gtup (K := K) (dgs_cons (dg_name 19 sc_p_law.nd) (dgs_cons (dg_name 18 sc_p_law.nd) dgs_nil)))) (by decide) (fun _ _ _ _ _ => (dts_one (dt_cmp (k_eq (K := K) hr.units) do_eq (de_var 19) (de_var 11) (nomark _)))) (fun _ _ _ _ _ => (de_var 18)))) de_int) (dg_name 12 sc_p_law.nd))
          refine xs_cons ?_ ?_
          · exact x_lf (ds_asg (de_Ty (k_tupleOf (K := K)) do_tupleOf (by rfl) T.b_tuple (by decide +kernel) (da_cons (k_srtSet (K := K) T.b_sorted T.b_set (DN.de (dn_lc (own := [("_law_value", 19), ("_law_point", 18)]) rfl sc_p_law.nd (k_seq (K := K) (de_var 10)) (blkOk_by (own := [("_law_value", 19), ("_law_point", 18)]) (N := n_p_law) (sc := defScope s_p_law) (by decide +kernel)) (fun _ _ _ _ _ => (k_gtup (K := K) (dgs_cons (dg_name 19 sc_p_law.nd) (dgs_cons (dg_name 18 sc_p_law.nd) dgs_nil)))) (by decide) (fun _ _ _ _ _ => dts_nil) (fun _ _ _ _ _ => (de_bin op_sub do_sub (de_Ty call_int1 do_int (by rfl) T.b_int (by decide +kernel) (da_cons (de_cmp (k_gt (K := K) hr.units) do_gt (de_var 19) de_int (nomark _)) da_nil)) (de_Ty call_int1 do_int (by rfl) T.b_int (by decide +kernel) (da_cons (de_cmp (k_lt (K := K) hr.units) do_lt (de_var 19) de_int (nomark _)) da_nil))))))) da_nil)) (dg_name 13 sc_p_law.nd))
          refine xs_cons ?_ ?_
          · exact x_lf (ds_asg (DN.de (dn_lst (da_cons (de_B (k_minQ (K := K) hr.u100) do_minQ (by rfl) T.b_min (by decide +kernel) (da_cons (de_var 10) da_nil)) (da_cons (de_tup (da_cons (de_var 11) (da_cons (de_var 12) da_nil))) (da_cons (de_var 13) da_nil))))) (dg_name 14 sc_p_law.nd))
          refine xs_cons ?_ ?_
          · refine x_if (DW.pt (dw_or (dt_cmp (k_ne (K := K) hr.units) do_ne (de_B (k_repr (K := K) T.zd hG hr.u100) do_repr (by rfl) T.b_repr (by decide +kernel) (da_cons (k_call (K := K) (B := []) (fd_l_told_all T) (hr.mono (by omega)) (by rfl) (dv_dat (de_var 4) (dv_dat (de_var 9) (dv_dat (de_var 6) dv_nil)))) da_nil)) (de_B (k_repr (K := K) T.zd hG hr.u100) do_repr (by rfl) T.b_repr (by decide +kernel) (da_cons (de_var 14) da_nil)) (nomark _)) (dw_or1 (dt_cmp (k_ne (K := K) hr.units) do_ne (de_B (k_repr (K := K) T.zd hG hr.u100) do_repr (by rfl) T.b_repr (by decide +kernel) (da_cons (DN.de (dn_lst (da_cons (de_var 4) (da_cons (de_var 6) da_nil)))) da_nil)) (de_var 8) (nomark _))))) ?_ ?_
            · refine xs_one ?_
              · exact x_lf (ds_ret de_bl)
            · exact xs_nil
          refine xs_cons ?_ ?_
          · exact x_lf (ds_new 15 (dn_lst (da_cons (de_callXK (K := K) ["box", "end", "row"] [2, 1, 0] (fd_p_least T) (by simp) (hr.mono (by omega)) (by rfl) (dk_dat (de_var 6) (dk_dat (de_var 9) (dk_dat (de_var 4) dk_nil)))) (da_cons (de_callXK (K := K) ["end", "box", "row"] [2, 0, 1] (fd_p_greatest T) (by simp) (hr.mono (by omega)) (by rfl) (dk_dat (de_var 9) (dk_dat (de_var 6) (dk_dat (de_var 4) dk_nil)))) da_nil))) sc_p_law.nd)
          refine xs_cons ?_ ?_
          · exact x_lf (ds_append 15 (de_callXK (K := K) ["box", "row", "end"] [1, 2, 0] (fd_p_signs T) (by simp) (hr.mono (by omega)) (by rfl) (dk_dat (de_var 6) (dk_dat (de_var 4) (dk_dat (de_var 9) dk_nil)))))
          refine xs_one ?_
          · refine x_if (dt_cmp (k_ne (K := K) hr.units) do_ne (de_B (k_repr (K := K) T.zd hG hr.u100) do_repr (by rfl) T.b_repr (by decide +kernel) (da_cons (de_give 15) da_nil)) (de_B (k_repr (K := K) T.zd hG hr.u100) do_repr (by rfl) T.b_repr (by decide +kernel) (da_cons (de_var 14) da_nil)) (nomark _)) ?_ ?_
            · refine xs_one ?_
              · exact x_lf (ds_ret de_bl)
            · exact xs_nil
      refine xs_one ?_
      · refine x_if (dt_cmp (k_gt (K := K) hr.units) do_gt (de_var 3) de_int (nomark _)) ?_ ?_
        · refine xs_cons ?_ ?_
          · exact x_lf (ds_asg (de_if (dt_cmp (k_lt (K := K) hr.units) do_lt (k_ix (K := K) (k_ix (K := K) (de_var 6) de_int) de_int) (de_bin op_pow do_pow de_int de_int) (nomark _)) (de_bin (k_add (K := K)) do_add (de_tup (da_cons (de_tup (da_cons (k_ix (K := K) (k_ix (K := K) (de_var 6) de_int) de_int) (da_cons (de_bin (k_add (K := K)) do_add (k_ix (K := K) (k_ix (K := K) (de_var 6) de_int) de_int) de_int) da_nil))) da_nil)) (k_sl (K := K) (de_var 6) (do_some de_int) do_none)) (de_bin (k_add (K := K)) do_add (de_tup (da_cons (de_tup (da_cons de_int (da_cons de_int da_nil))) da_nil)) (k_sl (K := K) (de_var 6) (do_some de_int) do_none))) (dg_name 16 sc_p_law.nd))
          refine xs_one ?_
          · refine x_if (dt_not (dt_val (k_call (K := K) (B := []) (fd_l_is_refused T) (hr.mono (by omega)) (by rfl) (dv_dat (de_var 4) (dv_dat (de_var 16) dv_nil))))) ?_ ?_
            · refine xs_one ?_
              · exact x_lf (ds_ret de_bl)
            · exact xs_nil
        · exact xs_nil
  refine xs_cons ?_ ?_
  · exact x_lf (ds_asg (de_tup (da_cons de_int (da_cons (de_tup (da_cons (de_tup (da_cons de_str (da_cons de_int da_nil))) (da_cons (de_tup (da_cons de_str (da_cons de_int da_nil))) (da_cons (de_tup (da_cons de_str (da_cons de_int (da_cons de_int da_nil)))) da_nil)))) (da_cons (de_tup (da_cons de_int da_nil)) da_nil)))) (dg_name 4 sc_p_law.nd))
  refine xs_cons ?_ ?_
  · exact x_lf (ds_asg (DN.de (dn_lst (da_cons (de_callX (K := K) (fd_p_least T) (hr.mono (by omega)) (by rfl) (dv_dat (de_var 4) (dv_dat de_int (dv_dat (de_tup (da_cons (de_tup (da_cons de_int (da_cons de_int da_nil))) (da_cons (de_tup (da_cons de_int (da_cons de_int da_nil))) da_nil))) dv_nil)))) (da_cons (de_callX (K := K) (fd_p_greatest T) (hr.mono (by omega)) (by rfl) (dv_dat (de_var 4) (dv_dat de_int (dv_dat (de_tup (da_cons (de_tup (da_cons de_int (da_cons de_int da_nil))) (da_cons (de_tup (da_cons de_int (da_cons de_int da_nil))) da_nil))) dv_nil)))) (da_cons (de_callX (K := K) (fd_p_signs T) (hr.mono (by omega)) (by rfl) (dv_dat (de_var 4) (dv_dat de_int (dv_dat (de_tup (da_cons (de_tup (da_cons de_int (da_cons de_int da_nil))) (da_cons (de_tup (da_cons de_int (da_cons de_int da_nil))) da_nil))) dv_nil)))) da_nil))))) (dg_name 17 sc_p_law.nd))
  refine xs_one ?_
  · exact x_lf (ds_ret (de_cmp (k_eq (K := K) hr.units) do_eq (de_B (k_repr (K := K) T.zd hG hr.u100) do_repr (by rfl) T.b_repr (by decide +kernel) (da_cons (de_var 17) da_nil)) (de_B (k_repr (K := K) T.zd hG hr.u100) do_repr (by rfl) T.b_repr (by decide +kernel) (da_cons (DN.de (dn_lst (da_cons (de_tup (da_cons (de_neg de_int) (da_cons (de_tup (da_cons de_int (da_cons de_int da_nil))) da_nil))) (da_cons (de_tup (da_cons de_int (da_cons (de_tup (da_cons de_int (da_cons de_int da_nil))) da_nil))) (da_cons (de_tup (da_cons de_int da_nil)) da_nil))))) da_nil)) (nomark _)))
abbrev lvLaw : Nat := 77
end
end Lw
namespace Lw
open PySem PySem.Spec PyProof.Rows L2 DL
theorem fp_one {l : List D} {k : Dk} {Q : D → Dk → Prop} (hk : DkV k) (h0 : l ≠ []) (h1 : l.length < 1000000000) (h : ∀ d k', d ∈ l → DkV k' → Q d k') : fp sem_l_one [.deck, .dat (.list l)] k Q := by
  refine fp_of rfl ?_
  unfold m_l_one
  simp
  have hp : 0 < l.length := List.length_pos_iff.mpr h0
  refine fp_draw hk (by omega) (by omega) fun r k' h2 h3 hv => ?_
  simp
  exact ⟨_, atI_int h2 h3, h _ _ (List.getElem_mem _) hv⟩
theorem fp_far {m : Int} {k : Dk} {Q : D → Dk → Prop} (hk : DkV k) (h0 : 0 < m) (h : ∀ r k', 0 ≤ r → r < m → DkV k' → Q (.int r) k') : fp sem_l_far [.deck, .dat (.int m)] k Q := by
  refine fp_of rfl ?_
  unfold m_l_far
  simp
  refine wp_loop (fun r s => ∃ (f : Int) (o : Option Val) (k : Dk), s = ⟨[some .deck, some (.dat (.int m)), some (.dat (.int f)), o], k⟩ ∧ DkV k ∧ 0 ≤ f ∧ r.length ≤ 12 ∧ f < 1000 ^ (12 - r.length)) (fun x r s hI => ?_) (fun s hI => ?_) _ _ ⟨0, none, k, rfl, hk, by omega, by simp [rngD], by decide⟩
  · obtain ⟨f, o, k1, rfl, hv, hf0, hl, hf1⟩ := hI
    rw [List.length_cons] at hl hf1
    have hp : (1000 : Int) ^ (12 - r.length) = 1000 ^ (12 - (r.length + 1)) * 1000 := by
      rw [show 12 - r.length = (12 - (r.length + 1)) + 1 by omega, Int.pow_succ]
    have hb : (1000 : Int) ^ (12 - (r.length + 1)) ≤ 1000 ^ 12 := by
      have := Nat.pow_le_pow_right (n := 1000) (by decide) (show 12 - (r.length + 1) ≤ 12 by omega)
      exact_mod_cast this
    have hb2 : (1000 : Int) ^ 12 = 1000000000000000000000000000000000000 := by decide
    have hlg : f.natAbs.log2 < 200 := lg_lt (by decide) (by
      have e : (2 : Nat) ^ 200 = 1606938044258990275541962092341162602522202993782792835301376 := by decide
      omega)
    have hl1 : Nat.log2 1000 < 100 := by decide
    simp
    refine ⟨by omega, fp_draw hv (by decide) (by decide) fun q k2 h2 h3 hv2 => ?_⟩
    simp
    exact ⟨hv2, by omega, by omega, by rw [hp]; omega⟩
  · obtain ⟨f, o, k1, rfl, hv, hf0, hl, hf1⟩ := hI
    simp
    exact ⟨by omega, h _ _ (fmod_lt h0).1 (fmod_lt h0).2 hv⟩
theorem fp_number {k : Dk} {Q : D → Dk → Prop} (hk : DkV k) (h : ∀ r k', -100000000000000000000 ≤ r → r ≤ 100000000000000000000 → DkV k' → Q (.int r) k') : fp sem_l_number [.deck] k Q := by
  refine fp_of rfl ?_
  unfold m_l_number
  simp
  refine ⟨by decide, fp_one hk (by simp) (by decide) fun d k1 hd hv1 => ?_⟩
  have hm : ∃ m : Int, d = .int m ∧ 0 < m + 1 ∧ m ≤ 100000000000000000000 := by
    simp at hd
    rcases hd with rfl | rfl | rfl | rfl | rfl <;> exact ⟨_, rfl, by decide, by decide⟩
  obtain ⟨m, rfl, hm0, hm1⟩ := hm
  simp
  refine ⟨by decide, fp_one hv1 (by simp) (by decide) fun d k2 hd hv2 => ?_⟩
  refine fp_far hv2 hm0 fun r k3 h0 h1 hv3 => ?_
  have hl : r.natAbs.log2 < 200 := lg_lt (by decide) (by
    have e : (2 : Nat) ^ 200 = 1606938044258990275541962092341162602522202993782792835301376 := by decide
    omega)
  simp at hd
  have hl1 : Nat.log2 1 < 10 := by decide
  rcases hd with rfl | rfl
  · simp
    exact ⟨by omega, h _ _ (by omega) (by omega) hv3⟩
  · simp
    exact ⟨by omega, h _ _ (by omega) (by omega) hv3⟩
theorem sem_lsize {n m : Nat} {s : Rs} {f : List Nat} {k : Dk} (h : s.ok n m) (hf : m ≤ f.length) : sem_l_size [.dat s.d, .dat (.list (intsD f))] k = some (.int (s.size f : Nat), k) := by
  refine eq_fp (fp_of rfl ?_)
  unfold m_l_size
  cases s with
  | inp j => simp [Rs.d, Rs.size, lim]
  | set c => simp [Rs.d, Rs.size, lim]
  | neg i =>
    have hi : i < m := h
    simp [Rs.d, Rs.size, lim, intsD_get (show i < f.length by omega)]
  | add i j =>
    have hi : i < m ∧ j < m := h
    simp [Rs.d, Rs.size, lim, intsD_get (show i < f.length by omega), intsD_get (show j < f.length by omega)]
    split <;> omega
  | sub i j =>
    have hi : i < m ∧ j < m := h
    simp [Rs.d, Rs.size, lim, intsD_get (show i < f.length by omega), intsD_get (show j < f.length by omega)]
    split <;> omega
  | mul i j =>
    have hi : i < m ∧ j < m := h
    simp [Rs.d, Rs.size, lim, intsD_get (show i < f.length by omega), intsD_get (show j < f.length by omega)]
def rowSt (n many most : Nat) (a : List Rs) (o6 o7 o8 o9 : Option Val) (k : Dk) : S := ⟨[some .deck, some (.dat (.int (n : Nat))), some (.dat (.int (many : Nat))), some (.dat (.int (most : Nat))), some (.lst (spsD a)), some (.lst (intsD (sizesS a))), o6, o7, o8, o9, none], k⟩
theorem fp_row {n many most : Nat} {k : Dk} {Q : D → Dk → Prop} (hk : DkV k) (hn : n ≤ 1000) (h1 : 1 ≤ many) (h2 : many ≤ 1000) (h3 : 1 ≤ most) (h : ∀ a e k', RowOk n many most a e → DkV k' → Q (rowD n a e) k') : fp sem_l_row [.deck, .dat (.int (n : Nat)), .dat (.int (many : Nat)), .dat (.int (most : Nat))] k Q := by
  refine fp_of rfl ?_
  unfold m_l_row
  refine wp_seqM (fun s => s = rowSt n many most [] none none none none k) ?_ (fun s1 e => ?_)
  · simp [lim, rowSt, spsD, intsD, sizesS, runS]
  subst e
  rw [wp_sSeq]
  simp only [wp_sFor]
  unfold rowSt
  simp only [↓wp_rg1, ↓wp_eOp2, ↓wp_eC, ↓wp_callE, ↓wp_vDeck, ↓wp_vDat, ↓wp_vNil, ↓wp_eVar]
  simp
  refine fp_draw hk (by omega) (by omega) fun q k1 q0 q1 hv1 => ?_
  obtain ⟨q, rfl⟩ := Int.eq_ofNat_of_zero_le q0
  refine ⟨_, rfl, 1 + (q : Int), rfl, by omega, ?_⟩
  have eM : (1 + (q : Int)).toNat = q + 1 := by omega
  rw [eM]
  refine wp_loop (fun r s => ∃ (a : List Rs) (o6 o7 o8 : Option Val) (k : Dk), s = rowSt n many most a o6 o7 o8 none k ∧ RowIn n most a ∧ r = (rngD 0 (q + 1)).drop a.length ∧ a.length ≤ q + 1 ∧ DkV k) (fun x r s hI => ?_) (fun s hI => ?_) _ _ ⟨[], none, none, none, k1, rfl, ⟨trivial, by simp [sizesS, runS], by simp⟩, rfl, by simp, hv1⟩
  · obtain ⟨a, o6, o7, o8, k2, rfl, hr, hx, hal, hv2⟩ := hI
    obtain ⟨hi, rfl, rfl⟩ := rng_drop hx.symm
    simp only [↓wp_gN, rowSt, List.set_cons_succ, List.set_cons_zero, Int.zero_add]
    refine wp_seqM (fun s => ∃ (w : Str) (k : Dk), s = rowSt n many most a (some (.dat (.int (a.length : Nat)))) (some (.dat (.str w))) o8 none k ∧ DkV k) ?_ (fun s1 hs => ?_)
    · simp [lim]
      refine fp_one hv2 (by simp) (by simp) fun d k3 hd hv3 => ?_
      have : ∃ w : Str, d = .str w := by
        simp at hd
        rcases hd with rfl | rfl | rfl | rfl | rfl | rfl | rfl | rfl | rfl | rfl | rfl <;> exact ⟨_, rfl⟩
      obtain ⟨w, rfl⟩ := this
      exact ⟨w, _, rfl, hv3⟩
    obtain ⟨w, k3, rfl, hv3⟩ := hs
    refine wp_seqM (fun s => ∃ (w : Str) (k : Dk), s = rowSt n many most a (some (.dat (.int (a.length : Nat)))) (some (.dat (.str w))) o8 none k ∧ DkV k) ?_ (fun s1 hs => ?_)
    · simp [rowSt]
      by_cases hc : a.length < n
      · exact .inr ⟨hc, fp_draw hv3 (by decide) (by decide) fun u k4 u0 u1 hv4 => ⟨_, rfl, by by_cases z : 0 < u <;> simp [z] <;> omega, hv4⟩⟩
      · exact .inl ⟨by omega, hv3⟩
    obtain ⟨w, k4, rfl, hv4⟩ := hs
    refine wp_seqM (fun s => ∃ (st : Rs) (k : Dk), s = rowSt n many most a (some (.dat (.int (a.length : Nat)))) (some (.dat (.str w))) (some (.dat st.d)) none k ∧ st.ok n a.length ∧ st.small ∧ DkV k) ?_ (fun s1 hs => ?_)
    · simp [rowSt, lim]
      exact fp_draw hv4 (by decide) (by decide) fun u k5 u0 u1 hv5 => ⟨_, rfl, .set (u - 4), rfl, (show _ ∧ _ by omega), (show (u - 4).natAbs ≤ 4 by omega), hv5⟩
    obtain ⟨st, k5, rfl, ok5, sm5, hv5⟩ := hs
    refine wp_seqM (fun s => ∃ (st : Rs) (k : Dk), s = rowSt n many most a (some (.dat (.int (a.length : Nat)))) (some (.dat (.str w))) (some (.dat st.d)) none k ∧ st.ok n a.length ∧ st.small ∧ DkV k) ?_ (fun s1 hs => ?_)
    · simp [rowSt, lim]
      by_cases hw : w = Str.ofString "in"
      · refine .inr ⟨hw, ?_⟩
        by_cases h0 : n = 0
        · exact .inl ⟨h0, st, rfl, ok5, sm5, hv5⟩
        · refine .inr ⟨by omega, ?_⟩
          by_cases hc : a.length < n
          · exact .inr ⟨hc, .inp a.length, rfl, hc, trivial, hv5⟩
          · refine .inl ⟨by omega, fp_draw hv5 (by omega) (by omega) fun u k6 u0 u1 hv6 => ?_⟩
            obtain ⟨u, rfl⟩ := Int.eq_ofNat_of_zero_le u0
            exact ⟨.inp u, rfl, (show u < n by omega), trivial, hv6⟩
      · exact .inl ⟨hw, st, rfl, ok5, sm5, hv5⟩
    obtain ⟨st, k6, rfl, ok6, sm6, hv6⟩ := hs
    refine wp_seqM (fun s => ∃ (st : Rs) (k : Dk), s = rowSt n many most a (some (.dat (.int (a.length : Nat)))) (some (.dat (.str w))) (some (.dat st.d)) none k ∧ st.ok n a.length ∧ st.small ∧ DkV k) ?_ (fun s1 hs => ?_)
    · simp [rowSt, lim]
      by_cases hw : w = Str.ofString "neg"
      · refine .inr ⟨hw, ?_⟩
        by_cases h0 : a = []
        · exact .inl ⟨h0, st, rfl, ok6, sm6, hv6⟩
        · have hp : 0 < a.length := List.length_pos_iff.mpr h0
          refine .inr ⟨hp, fp_draw hv6 (by omega) (by omega) fun u k7 u0 u1 hv7 => ?_⟩
          obtain ⟨u, rfl⟩ := Int.eq_ofNat_of_zero_le u0
          exact ⟨.neg u, rfl, (show u < a.length by omega), trivial, hv7⟩
      · exact .inl ⟨hw, st, rfl, ok6, sm6, hv6⟩
    obtain ⟨st, k7, rfl, ok7, sm7, hv7⟩ := hs
    refine wp_seqM (fun s => ∃ (st : Rs) (k : Dk), s = rowSt n many most a (some (.dat (.int (a.length : Nat)))) (some (.dat (.str w))) (some (.dat st.d)) none k ∧ st.ok n a.length ∧ st.small ∧ DkV k) ?_ (fun s1 hs => ?_)
    · simp [rowSt, lim]
      by_cases hw : (w = Str.ofString "+" ∨ w = Str.ofString "-") ∨ w = Str.ofString "*"
      · refine .inr ⟨hw, ?_⟩
        by_cases h0 : a = []
        · exact .inl ⟨h0, st, rfl, ok7, sm7, hv7⟩
        · have hp : 0 < a.length := List.length_pos_iff.mpr h0
          refine .inr ⟨hp, fp_draw hv7 (by omega) (by omega) fun u k8 u0 u1 hv8 => ?_⟩
          refine fp_draw hv8 (by split <;> omega) (by split <;> omega) fun v k9 v0 v1 hv9 => ⟨_, rfl, ?_⟩
          have v2 : v < a.length := by split at v1 <;> omega
          obtain ⟨u, rfl⟩ := Int.eq_ofNat_of_zero_le u0
          obtain ⟨y, hy⟩ := Int.eq_ofNat_of_zero_le (show 0 ≤ (a.length : Int) - 1 - v by omega)
          rw [hy]
          rcases hw with (rfl | rfl) | rfl
          · exact ⟨.add u y, rfl, (show u < a.length ∧ y < a.length by omega), trivial, hv9⟩
          · exact ⟨.sub u y, rfl, (show u < a.length ∧ y < a.length by omega), trivial, hv9⟩
          · exact ⟨.mul u y, rfl, (show u < a.length ∧ y < a.length by omega), trivial, hv9⟩
      · exact .inl ⟨by simpa using hw, st, rfl, ok7, sm7, hv7⟩
    obtain ⟨st, k8, rfl, ok8, sm8, hv8⟩ := hs
    refine wp_seqM (fun s => ∃ (st : Rs) (k : Dk), s = rowSt n many most a (some (.dat (.int (a.length : Nat)))) (some (.dat (.str w))) (some (.dat st.d)) none k ∧ st.ok n a.length ∧ st.small ∧ st.size (sizesS a) ≤ most ∧ DkV k) ?_ (fun s1 hs => ?_)
    · simp [rowSt, lim]
      rw [fp_eq (sem_lsize ok8 (by rw [sizesS_len]; exact Nat.le_refl _))]
      refine ⟨by simp, _, rfl, ?_⟩
      by_cases hz : st.size (sizesS a) ≤ most
      · exact .inl ⟨by simp; omega, st, rfl, ok8, sm8, hz, hv8⟩
      · refine .inr ⟨by simp; omega, ?_⟩
        cases st with
        | mul i j =>
          have ho : i < a.length ∧ j < a.length := ok8
          refine ⟨.tuple [.int (i : Nat), .int (j : Nat)], by simp [Rs.d], .tuple [.str "+", .int (i : Nat), .int (j : Nat)], by simp [lim], .add i j, rfl, ho, trivial, ?_, hv8⟩
          exact Rs.size_le hr.siz h3 fun _ _ z => nomatch z
        | _ => exact absurd (Rs.size_le hr.siz h3 (fun _ _ z => by cases z)) hz
    obtain ⟨st, k9, rfl, ok9, sm9, sz9, hv9⟩ := hs
    simp [rowSt, lim]
    rw [fp_eq (sem_lsize ok9 (by rw [sizesS_len]; exact Nat.le_refl _))]
    refine ⟨by rw [spsD_len]; omega, by simp, by rw [intsD_len, sizesS_len]; omega, a ++ [st], ⟨spsD_snoc, ?_⟩, hr.snoc ok9 sz9 sm9, by simp, by simp; omega, hv9⟩
    rw [sizesS_snoc, intsD_snoc]
  · obtain ⟨a, o6, o7, o8, k2, rfl, hr, hx, hal, hv2⟩ := hI
    have hn := rng_nil hx.symm
    simp [rowSt, lim]
    refine fp_draw hv2 (by decide) (by decide) fun j k3 j0 j1 hv3 => ⟨j, rfl, by omega, ?_⟩
    refine wp_lc (fun r acc s => ∃ (e : List Nat) (k : Dk), acc = intsD e ∧ (∀ x ∈ e, x < a.length) ∧ e.length + r.length ≤ 2 ∧ s = rowSt n many most a o6 o7 o8 none k ∧ DkV k) (fun x r acc s hI => ?_) (fun acc s hI => ?_) _ _ _ ⟨[], k3, rfl, by simp, by rw [rng_len]; simp; omega, rfl, hv3⟩
    · obtain ⟨e, k4, rfl, he, hl, rfl, hv4⟩ := hI
      simp [rowSt, spsD_len]
      rw [List.length_cons] at hl
      refine fp_draw hv4 (by omega) (by omega) fun u k5 u0 u1 hv5 => ?_
      obtain ⟨u, rfl⟩ := Int.eq_ofNat_of_zero_le u0
      refine ⟨by rw [intsD_len]; show _ ≤ 1000000; omega, e ++ [u], intsD_snoc, fun x hx => ?_, by simp; omega, hv5⟩
      rcases List.mem_append.mp hx with hx | hx
      · exact he x hx
      · simp at hx; omega
    · obtain ⟨e, k4, rfl, he, hl, rfl, hv4⟩ := hI
      simp [rowSt, spsD_len]
      rw [List.length_nil] at hl
      refine ⟨by rw [intsD_len]; omega, ?_⟩
      have e1 : ((a.length : Int) - 1) = ((a.length - 1 : Nat) : Int) := by omega
      rw [e1]
      refine h a ((a.length - 1) :: e) k4 ⟨hr.ok, by omega, hr.siz, fun x hx => ?_, by simp; omega, hr.sml⟩ hv4
      rcases List.mem_cons.mp hx with rfl | hx
      · omega
      · exact he x hx
theorem sem_stepval {n m : Nat} {s : Rs} {p f : List Int} {k : Dk} (ok : s.ok n m) (hp : p.length = n) (hf : m ≤ f.length) (hm : ∀ i, i < m → mg 100000 (f.getD i 0)) : sem_p_step_value [.dat s.d, .dat (.tuple (numsD p)), .dat (.list (numsD f))] k = some (.int (s.val p f), k) := by
  refine eq_fp (fp_of rfl ?_)
  unfold m_p_step_value
  cases s with
  | inp j =>
    have hj : j < n := ok
    simp [Rs.d, Rs.val, numsD_get (show j < p.length by omega)]
  | set c => simp [Rs.d, Rs.val]
  | neg i =>
    have hi : i < m := ok
    simp [Rs.d, Rs.val, numsD_get (show i < f.length by omega)]
  | add i j =>
    have hi : i < m ∧ j < m := ok
    simp [Rs.d, Rs.val, numsD_get (show i < f.length by omega), numsD_get (show j < f.length by omega)]
  | sub i j =>
    have hi : i < m ∧ j < m := ok
    simp [Rs.d, Rs.val, numsD_get (show i < f.length by omega), numsD_get (show j < f.length by omega)]
  | mul i j =>
    have hi : i < m ∧ j < m := ok
    have := mul_ok (hm i hi.1) (hm j hi.2) (by decide) (by decide)
    simp only [List.getD_eq_getElem?_getD] at this
    simp [Rs.d, Rs.val, numsD_get (show i < f.length by omega), numsD_get (show j < f.length by omega), this]
theorem sem_values {n : Nat} {a : List Rs} {e : List Nat} {p : List Int} {k : Dk} (v : VOk n a) (hp : POk n p) : sem_p_values [.dat (rowD n a e), .dat (.tuple (numsD p))] k = some (.tuple (numsD (valsS p a)), k) := by
  refine eq_fp (fp_of rfl ?_)
  unfold m_p_values
  simp [lim, rowD]
  refine wp_steps (op := Rs.val p) 0 (fun l s => ∃ o, s = ⟨[some (.dat (rowD n a e)), some (.dat (.tuple (numsD p))), some (.lst (numsD l)), o], k⟩) v.ok (fun m h l s hl hg ok hI => ?_) (fun s hI => ?_) ⟨none, rfl⟩
  · obtain ⟨o, rfl⟩ := hI
    have al := v.al
    have e2 : ∀ Q, fp sem_p_step_value [.dat (a[m]).d, .dat (.tuple (numsD p)), .dat (.list (numsD l))] k Q ↔ Q (.int ((a[m]).val p l)) k := fun Q => fp_eq (sem_stepval ok hp.len (by omega) fun i hi => by rw [hg i hi]; exact vals_big v hp (by omega))
    simp [e2, numsD_snoc, numsD_len, hl, lim]
    omega
  · obtain ⟨o, rfl⟩ := hI
    simp
    rfl
theorem sem_told {n : Nat} {a : List Rs} {e : List Nat} {p : List Int} {k : Dk} (v : VOk n a) (hp : POk n p) (he : ∀ x ∈ e, x < a.length) (hl : e.length ≤ 1000) : sem_p_told [.dat (rowD n a e), .dat (.tuple (numsD p))] k = some (.tuple (numsD (toldS p a e)), k) := by
  refine eq_fp (fp_of rfl ?_)
  unfold m_p_told
  simp [fp_eq (sem_values v hp), lim]
  simp [rowD]
  refine wp_lc_map (fun d => match d with
    | .int i => .int ((valsS p a).getD i.toNat 0)
    | d => d) (fun x hx => ?_) (by rw [intsD_len]; show _ ≤ 1000000; omega) ?_
  · obtain ⟨i, hi, rfl⟩ := intsD_mem hx
    simp [numsD_get (show i < (valsS p a).length by rw [valsS_len]; exact he i hi)]
  · simp
    rw [intsD_map (g := fun i => .int ((valsS p a).getD i 0)) (fun i _ => by simp)]
    simp [toldS, numsD]
theorem sem_lvalues {n : Nat} {a : List Rs} {e : List Nat} {p : List Int} {k : Dk} (v : VOk n a) (hp : POk n p) : sem_l_values [.dat (rowD n a e), .dat (.tuple (numsD p))] k = some (.list (numsD (valsS p a)), k) := by
  refine eq_fp (fp_of rfl ?_)
  unfold m_l_values
  simp [lim, rowD]
  refine wp_steps (op := Rs.val p) 0 (fun l s => ∃ o o2 o3, s = ⟨[some (.dat (rowD n a e)), some (.dat (.tuple (numsD p))), some (.lst (numsD l)), o, o2, o3], k⟩) v.ok (fun m h l s hl hg ok hI => ?_) (fun s hI => ?_) ⟨none, none, none, rfl⟩
  · obtain ⟨o, o2, o3, rfl⟩ := hI
    have al := v.al
    have hb : ∀ i, i < m → mg 100000 (l.getD i 0) := fun i hi => by rw [hg i hi]; exact vals_big v hp (by omega)
    have hpl := hp.len
    have ll : (numsD l).length ≤ lim := by rw [numsD_len, hl]; show _ ≤ 1000000; omega
    rw [← numsD_snoc]
    cases hs : a[m] with
    | inp j =>
      rw [hs] at ok
      have hj : j < n := ok
      simp [Rs.d, Rs.val, numsD_get (show j < p.length by omega), ll]
    | set c => simp [Rs.d, Rs.val, ll]
    | neg i =>
      rw [hs] at ok
      have hi : i < m := ok
      simp [Rs.d, Rs.val, numsD_get (show i < l.length by omega), ll]
    | add i j =>
      rw [hs] at ok
      have hi : i < m ∧ j < m := ok
      simp [Rs.d, Rs.val, numsD_get (show i < l.length by omega), numsD_get (show j < l.length by omega), ll]
    | sub i j =>
      rw [hs] at ok
      have hi : i < m ∧ j < m := ok
      simp [Rs.d, Rs.val, numsD_get (show i < l.length by omega), numsD_get (show j < l.length by omega), ll]
    | mul i j =>
      rw [hs] at ok
      have hi : i < m ∧ j < m := ok
      have := mul_ok (hb i hi.1) (hb j hi.2) (by decide) (by decide)
      simp only [List.getD_eq_getElem?_getD] at this
      simp [Rs.d, Rs.val, numsD_get (show i < l.length by omega), numsD_get (show j < l.length by omega), this, ll]
  · obtain ⟨o, o2, o3, rfl⟩ := hI
    simp
    rfl
theorem sem_ltold {n : Nat} {a : List Rs} {e : List Nat} {p : List Int} {k : Dk} (v : VOk n a) (hp : POk n p) (he : ∀ x ∈ e, x < a.length) (hl : e.length ≤ 1000) : sem_l_told [.dat (rowD n a e), .dat (.tuple (numsD p))] k = some (.tuple (numsD (toldS p a e)), k) := by
  refine eq_fp (fp_of rfl ?_)
  unfold m_l_told
  simp [fp_eq (sem_lvalues v hp), lim]
  simp [rowD]
  refine wp_lc_map (fun d => match d with
    | .int i => .int ((valsS p a).getD i.toNat 0)
    | d => d) (fun x hx => ?_) (by rw [intsD_len]; show _ ≤ 1000000; omega) ?_
  · obtain ⟨i, hi, rfl⟩ := intsD_mem hx
    simp [numsD_get (show i < (valsS p a).length by rw [valsS_len]; exact he i hi)]
  · simp
    rw [intsD_map (g := fun i => .int ((valsS p a).getD i 0)) (fun i _ => by simp)]
    simp [toldS, numsD]
def wdB (wd : Int) (b : List Iv) : Prop := ∀ x ∈ b, x.2 ≤ wd + x.1
theorem fp_lboxW {n : Nat} {wd : Int} {k : Dk} {Q : D → Dk → Prop} (hk : DkV k) (hn : n ≤ 100) (h0 : 0 ≤ wd) (h1 : wd ≤ 100000000) (h : ∀ b k', BxOk n b → wdB wd b → DkV k' → Q (.tuple (ivsD b)) k') : fp sem_l_box [.deck, .dat (.int (n : Nat)), .dat (.int wd)] k Q := by
  refine fp_of rfl ?_
  unfold m_l_box
  simp
  refine ⟨by omega, ?_⟩
  refine wp_loop (fun r s => ∃ (b : List Iv) (o o2 : Option Val) (k : Dk), s = ⟨[some .deck, some (.dat (.int (n : Nat))), some (.dat (.int wd)), some (.lst (ivsD b)), o, o2], k⟩ ∧ DkV k ∧ b.length + r.length = n ∧ BxOk b.length b ∧ wdB wd b) (fun x r s hI => ?_) (fun s hI => ?_) _ _ ⟨[], none, none, k, rfl, hk, by simp [rngD], ⟨rfl, by simp⟩, fun x hx => by cases hx⟩
  · obtain ⟨b, o, o2, k1, rfl, hv, hl, hb, hbw⟩ := hI
    rw [List.length_cons] at hl
    simp [ivsD_len]
    have key : ∀ (lo : Int) (k2 : Dk), DkV k2 → -100000000000000000000 ≤ lo → lo ≤ 100000000000000000000 → ∃ d_1, dMin2 [.int lo, .int (100000000000000000000 - wd)] = some d_1 ∧
        fp sem_l_draw [.deck, .dat (.int (wd + 1))] k2 fun d k' => ∃ d_2, dAdd d_1 d = some d_2 ∧ 2 ≤ lim ∧ b.length ≤ lim ∧
          ∃ b_1, ivsD b ++ [.tuple [d_1, d_2]] = ivsD b_1 ∧ DkV k' ∧ b_1.length + r.length = n ∧ BxOk b_1.length b_1 ∧ wdB wd b_1 := by
      intro lo k2 hv2 a1 a2
      refine ⟨_, dMin2_int, fp_draw hv2 (by omega) (by omega) fun q k3 b1 b2 hv3 => ⟨_, dAdd_int, by decide, by show b.length ≤ 1000000; omega, b ++ [((if 100000000000000000000 - wd < lo then 100000000000000000000 - wd else lo), (if 100000000000000000000 - wd < lo then 100000000000000000000 - wd else lo) + q)], ?_, hv3, by simp; omega, ⟨rfl, fun x hx => ?_⟩, fun x hx => ?_⟩⟩
      · rw [← ivsD_snoc]; rfl
      · rcases List.mem_append.mp hx with hx | hx
        · exact hb.at_ x hx
        · simp at hx
          subst hx
          simp only
          split <;> omega
      · rcases List.mem_append.mp hx with hx | hx
        · exact hbw x hx
        · simp at hx
          subst hx
          simp only
          omega
    refine fp_draw hv (by decide) (by decide) fun q k2 h2 h3 hv2 => ?_
    simp
    by_cases hq : q ≤ 0
    · exact .inl ⟨hq, fp_number hv2 fun r k3 a1 a2 hv3 => key r k3 hv3 a1 a2⟩
    · refine .inr ⟨by omega, fp_draw hv2 (by decide) (by decide) fun q2 k3 a1 a2 hv3 => ⟨_, dSub_int, key _ k3 hv3 (by omega) (by omega)⟩⟩
  · obtain ⟨b, o, o2, k1, rfl, hv, hl, hb, hbw⟩ := hI
    simp
    rw [List.length_nil, Nat.add_zero] at hl
    exact h _ _ (hl ▸ hb) hbw hv
end Lw
namespace Lw
open PySem PySem.Spec PyProof.Rows L2 DL
/-! all points of a box -/
def wdN (x : Iv) : Nat := (x.2 + 1 - x.1).toNat
def prN : List Iv → Nat
  | [] => 1
  | x :: r => wdN x * prN r
def rngI (x : Iv) : List Int := (List.range (wdN x)).map fun i => x.1 + (i : Nat)
def nxI (x : Iv) (p : List Int) : List (List Int) := (rngI x).map fun v => p ++ [v]
def ptF (acc : List (List Int)) : List Iv → List (List Int)
  | [] => acc
  | x :: r => ptF (acc.flatMap (nxI x)) r
def pts (b : List Iv) : List (List Int) := ptF [[]] b
def ptD (p : List Int) : D := .tuple (numsD p)
def ptsD (l : List (List Int)) : List D := l.map ptD
theorem ptsD_len {l : List (List Int)} : (ptsD l).length = l.length := by simp [ptsD]
theorem rngI_len {x : Iv} : (rngI x).length = wdN x := by simp [rngI]
theorem nxI_len {x : Iv} {p : List Int} : (nxI x p).length = wdN x := by simp [nxI, rngI_len]
theorem flat_nx {x : Iv} {acc : List (List Int)} : (acc.flatMap (nxI x)).length = acc.length * wdN x := by
  induction acc with
  | nil => simp
  | cons p acc ih => rw [List.flatMap_cons, List.length_append, ih, nxI_len, List.length_cons, Nat.succ_mul, Nat.add_comm]
theorem wd_pos {n : Nat} {b : List Iv} (hb : BxOk n b) : ∀ x ∈ b, 1 ≤ wdN x := fun x hx => by
  have := hb.at_ x hx
  unfold wdN; omega
theorem prN_pos {b : List Iv} (h : ∀ x ∈ b, 1 ≤ wdN x) : 1 ≤ prN b := by
  induction b with
  | nil => exact Nat.le_refl _
  | cons x r ih => exact Nat.mul_pos (h x (List.mem_cons_self ..)) (ih fun y hy => h y (List.mem_cons_of_mem _ hy))
theorem ptF_len : ∀ (b : List Iv) (acc : List (List Int)), (ptF acc b).length = acc.length * prN b
  | [], acc => by simp [ptF, prN]
  | x :: r, acc => by rw [ptF, ptF_len r, flat_nx, prN, Nat.mul_assoc]
theorem pts_len (b : List Iv) : (pts b).length = prN b := by unfold pts; rw [ptF_len]; simp
/-- a point of the box -/
def InB (b : List Iv) (p : List Int) : Prop := p.length = b.length ∧ ∀ i, i < b.length → (b.getD i (0, 0)).1 ≤ p.getD i 0 ∧ p.getD i 0 ≤ (b.getD i (0, 0)).2
theorem rngI_mem {x : Iv} {v : Int} (h : v ∈ rngI x) : x.1 ≤ v ∧ v ≤ x.2 := by
  obtain ⟨i, hi, rfl⟩ := List.mem_map.mp h
  have := List.mem_range.mp hi
  unfold wdN at this
  omega
theorem inB_snoc {b : List Iv} {p : List Int} {x : Iv} {v : Int} (h : InB b p) (hv : x.1 ≤ v ∧ v ≤ x.2) : InB (b ++ [x]) (p ++ [v]) := by
  refine ⟨by simp [h.1], fun i hi => ?_⟩
  rw [List.length_append, List.length_singleton] at hi
  by_cases e : i < b.length
  · have := h.2 i e
    simp only [List.getD_eq_getElem?_getD] at this ⊢
    rw [List.getElem?_append_left e, List.getElem?_append_left (by rw [h.1]; exact e)]
    exact this
  · obtain rfl : i = b.length := by omega
    simp only [List.getD_eq_getElem?_getD]
    rw [List.getElem?_append_right (Nat.le_refl _), List.getElem?_append_right (by rw [h.1]; exact Nat.le_refl _)]
    simpa [h.1] using hv
theorem ptF_in : ∀ (b c : List Iv) (acc : List (List Int)), (∀ p ∈ acc, InB c p) → ∀ p ∈ ptF acc b, InB (c ++ b) p
  | [], c, acc, h, p, hp => by rw [List.append_nil]; exact h p hp
  | x :: r, c, acc, h, p, hp => by
    have := ptF_in r (c ++ [x]) (acc.flatMap (nxI x)) (fun q hq => by
      obtain ⟨q0, h0, hq⟩ := List.mem_flatMap.mp hq
      obtain ⟨v, hv, rfl⟩ := List.mem_map.mp hq
      exact inB_snoc (h q0 h0) (rngI_mem hv)) p hp
    simpa using this
theorem pts_in {b : List Iv} : ∀ p ∈ pts b, InB b p := fun p hp => by
  have := ptF_in b [] [[]] (fun q hq => by rw [List.mem_singleton.mp hq]; exact ⟨rfl, fun i hi => by simp at hi⟩) p hp
  simpa using this
theorem inB_pok {n : Nat} {b : List Iv} {p : List Int} (hb : BxOk n b) (h : InB b p) : POk n p := by
  refine ⟨by rw [h.1, hb.len], fun k hk => ?_⟩
  have hk2 : k < b.length := by rw [hb.len]; exact hk
  have h1 := h.2 k hk2
  have h2 := hb.at_ (b.getD k (0, 0)) (by rw [List.getD_eq_getElem?_getD, List.getElem?_eq_getElem hk2]; exact List.getElem_mem hk2)
  exact mg_70 (by omega) (by omega)
/-! the walks -/
def poS (b : List Iv) (acc : List (List Int)) (c2 c3 c4 c5 : Option Val) (k : Dk) : S := ⟨[some (.dat (.tuple (ivsD b))), some (.dat (.list (ptsD acc))), c2, c3, c4, c5, none], k⟩
def poI (b : List Iv) (k : Dk) (r : List D) (s : S) : Prop := ∃ (b2 : List Iv) (acc : List (List Int)) (c2 c3 c4 c5 : Option Val), r = ivsD b2 ∧ ptF acc b2 = pts b ∧ acc.length * prN b2 = prN b ∧ (∀ x ∈ b2, 1 ≤ wdN x) ∧ (∀ p ∈ acc, p.length + b2.length = b.length) ∧ s = poS b acc c2 c3 c4 c5 k
def poJ (b : List Iv) (acc : List (List Int)) (x : Iv) (k : Dk) (r : List D) (s : S) : Prop := ∃ (a1 a2 : List (List Int)) (c5 : Option Val), acc = a1 ++ a2 ∧ r = ptsD a2 ∧ s = poS b acc (some (.dat (.int x.1))) (some (.dat (.int x.2))) (some (.lst (ptsD (a1.flatMap (nxI x))))) c5 k
theorem rng_mem {lo : Int} {n : Nat} {x : D} (h : x ∈ rngD lo n) : ∃ j, j < n ∧ x = .int (lo + (j : Nat)) := by
  obtain ⟨j, hj, rfl⟩ := List.mem_map.mp h
  exact ⟨j, List.mem_range.mp hj, rfl⟩
theorem sem_points {n : Nat} {b : List Iv} {k : Dk} (hb : BxOk n b) (hn : n ≤ 1000) (hp : prN b ≤ 2000) : sem_p_points [.dat (.tuple (ivsD b))] k = some (.list (ptsD (pts b)), k) := by
  refine eq_fp (fp_of rfl ?_)
  unfold m_p_points
  have hbl := hb.len
  rw [wp_sSeq]
  simp [lim]
  refine wp_loop (poI b k) (fun x r s hI => ?_) (fun s hI => ?_) _ _ ⟨b, [[]], none, none, none, none, rfl, rfl, by simp, wd_pos hb, by simp, by simp [poS, ptsD, ptD, numsD]⟩
  · obtain ⟨b2, acc, c2, c3, c4, c5, hr, hF, hL, hw, hpl, rfl⟩ := hI
    cases b2 with
    | nil => cases hr
    | cons y b2 =>
      have hr : x :: r = ivD y :: ivsD b2 := hr
      cases hr
      have hw1 := hw y (List.mem_cons_self ..)
      have hw2 : ∀ z ∈ b2, 1 ≤ wdN z := fun z hz => hw z (List.mem_cons_of_mem _ hz)
      have hpp := prN_pos hw2
      have hA : acc.length * wdN y ≤ 2000 := by
        rw [prN, ← Nat.mul_assoc] at hL
        have := Nat.mul_le_mul_left (acc.length * wdN y) hpp
        omega
      have hA2 : acc.length ≤ 2000 := by
        have := Nat.mul_le_mul_left acc.length hw1
        omega
      have hw3 : wdN y ≤ 2000 ∨ acc.length = 0 := by
        rcases Nat.eq_zero_or_pos acc.length with h | h
        · exact .inr h
        · have := Nat.mul_le_mul_right (wdN y) h
          exact .inl (by omega)
      have hA3 : acc.length ≤ 1000000 := by omega
      simp [poS, ivD, ptsD_len, lim, hA3]
      refine wp_loop (poJ b acc y k) (fun x r s hI => ?_) (fun s hI => ?_) _ _ ⟨[], acc, c5, rfl, rfl, by simp [poS, ptsD]⟩
      · obtain ⟨a1, a2, c5, hac, hr, rfl⟩ := hI
        cases a2 with
        | nil => cases hr
        | cons p a2 =>
          have hr : x :: r = ptD p :: ptsD a2 := hr
          cases hr
          have hpa : p ∈ acc := by rw [hac]; simp
          have hpl2 := hpl p hpa
          rw [List.length_cons] at hpl2
          have hw4 : wdN y ≤ 2000 := hw3.resolve_right fun z => by
            rw [List.length_eq_zero_iff.mp z] at hpa; cases hpa
          have ea : (y.2 + 1 - y.1).toNat = wdN y := rfl
          have l1 : (a1.flatMap (nxI y)).length + wdN y ≤ 2000 := by
            rw [flat_nx]
            have : (a1.length + 1) * wdN y ≤ acc.length * wdN y := Nat.mul_le_mul_right _ (by rw [hac]; simp)
            rw [Nat.succ_mul] at this
            omega
          generalize hL1 : a1.flatMap (nxI y) = L at l1
          simp [poS, ea]
          refine wp_lc_map (fun d => match d with
            | .int v => ptD (p ++ [v])
            | d => d) (fun x hx => ?_) (by rw [rng_len]; show _ ≤ 1000000; omega) ?_
          · obtain ⟨i, hi, rfl⟩ := rng_mem hx
            have : p.length + 1 ≤ 1000000 := by omega
            simp [ptD, dAdd, lim, numsD, this]
          · have em : (rngD y.1 (wdN y)).map (fun d => match d with
              | .int v => ptD (p ++ [v])
              | d => d) = ptsD (nxI y p) := by
              simp only [rngD, ptsD, nxI, rngI, List.map_map]
              exact List.map_congr_left fun i _ => by simp
            rw [em]
            simp [ptsD_len, nxI_len]
            refine ⟨by show _ ≤ 1000000; omega, a1 ++ [p], a2, some (.dat (ptD p)), by rw [hac]; simp, rfl, ?_⟩
            simp [poS, ptsD, ← hL1]
      · obtain ⟨a1, a2, c5, hac, hr, rfl⟩ := hI
        have : a2 = [] := by cases a2 with | nil => rfl | cons _ _ => cases hr
        subst this
        rw [List.append_nil] at hac
        subst hac
        simp [poS]
        refine ⟨b2, acc.flatMap (nxI y), some (.dat (.int y.1)), some (.dat (.int y.2)), _, c5, rfl, hF, by rw [flat_nx, Nat.mul_assoc]; exact hL, hw2, fun q hq => ?_, rfl⟩
        obtain ⟨q0, h0, hq⟩ := List.mem_flatMap.mp hq
        obtain ⟨v, hv, rfl⟩ := List.mem_map.mp hq
        have := hpl q0 h0
        rw [List.length_cons] at this
        simp; omega
  · obtain ⟨b2, acc, c2, c3, c4, c5, hr, hF, hL, hw, hpl, rfl⟩ := hI
    have : b2 = [] := by cases b2 with | nil => rfl | cons _ _ => cases hr
    subst this
    have hF : acc = pts b := hF
    simp [poS, hF]
theorem sem_lpoints {n : Nat} {b : List Iv} {k : Dk} (hb : BxOk n b) (hn : n ≤ 1000) (hp : prN b ≤ 2000) : sem_l_points [.dat (.tuple (ivsD b))] k = some (.list (ptsD (pts b)), k) := sem_points hb hn hp
end Lw
namespace DL
open PySem PySem.Spec PyProof.Rows L2
/-! PT1: lots and patterns as plain Lean. -/
theorem dNe_refl {d : D} (h : SeqAt.shaped d = true) : dNe d d = some (.bool false) := by
  cases d with
  | str x => simp [dNe]
  | _ => rw [dNe_sh h h (fun _ z => nomatch z), SeqAt.eqv_refl _ (SeqAt.canLay_of_shaped h)]; rfl
theorem rng_mem {a : Int} {n : Nat} {x : D} (h : x ∈ rngD a n) : ∃ j, j < n ∧ x = .int (a + (j : Nat)) := by
  simp only [rngD, List.mem_map] at h
  obtain ⟨j, hj, rfl⟩ := h
  exact ⟨j, List.mem_range.mp hj, rfl⟩
/-! ### patterns -/
def lotD (l : List Nat) : D := .tuple (intsD l)
/-- the numbers of a lot, ascending, below n -/
def LotOk (n : Nat) (l : List Nat) : Prop := l = (List.range n).filter fun u => decide (u ∈ l)
theorem LotOk.lt {n : Nat} {l : List Nat} (h : LotOk n l) {u : Nat} (hu : u ∈ l) : u < n := by
  rw [h] at hu
  exact List.mem_range.mp (List.mem_filter.mp hu).1
theorem LotOk.len {n : Nat} {l : List Nat} (h : LotOk n l) : l.length ≤ n := by
  rw [h]
  exact Nat.le_trans (List.length_filter_le _ _) (by simp)
structure PatOk (n : Nat) (ls : List (List Nat)) : Prop where
  n8 : n ≤ 8
  l8 : ls.length ≤ 8
  ok : ∀ l ∈ ls, LotOk n l
/-! sizes -/
theorem PatOk.small {n : Nat} {ls : List (List Nat)} (h : PatOk n ls) : ∀ l ∈ ls, l.length ≤ 8 ∧ ∀ u ∈ l, u < 1024 := fun l hl => ⟨Nat.le_trans (h.ok l hl).len h.n8, fun u hu => by have := (h.ok l hl).lt hu; have := h.n8; omega⟩
/-! ### the marks exchanged -/
/-! ### one pattern fed to another -/
end DL
namespace DL
open PySem PySem.Spec PyProof.Rows L2
/-! PT2: drawn lots, and what the operations on lots come to. -/
theorem inD_lot {u : Nat} {l : List Nat} : inD (.int (u : Nat)) (intsD l) = decide (u ∈ l) := by
  unfold inD intsD
  rw [List.any_map, Bool.eq_iff_iff, List.any_eq_true, decide_eq_true_eq]
  constructor
  · rintro ⟨x, hx, e⟩
    simp [PyData.eqv] at e
    obtain rfl : x = u := by omega
    exact hx
  · intro h
    exact ⟨u, h, by simp [PyData.eqv]⟩
theorem flat_ints {l : List Nat} : (intsD l).all flatD = true := by simp [intsD, flatD]
@[simp] theorem dIn_lot {u : Nat} {l : List Nat} : dIn (.int (u : Nat)) (lotD l) = some (.bool (decide (u ∈ l))) := by
  unfold lotD
  rw [dInI flat_ints, inD_lot]
end DL
namespace DL
open PySem PySem.Spec PyProof.Rows L2
/-! PT3: the least of some data; groupings as plain Lean. -/
def MinOf (m : D) (L : List D) : Prop := m ∈ L ∧ ∀ y ∈ L, PySem.W.dataLt y m = false
theorem dLt_ntrans {a b c : D} (h1 : PySem.W.dataLt b a = false) (h2 : PySem.W.dataLt c b = false) : PySem.W.dataLt c a = false := by
  unfold PySem.W.dataLt at *
  cases h : PyProof.Rows.lexLt itemOrd (PySem.W.keyToks c) (PySem.W.keyToks a) with
  | false => rfl
  | true =>
    cases h3 : PyProof.Rows.lexLt itemOrd (PySem.W.keyToks a) (PySem.W.keyToks b) with
    | true => rw [lex_trans _ _ _ h h3] at h2; exact h2
    | false => rw [lex_total _ _ h1 h3, h] at h2; exact h2
theorem dLt_asym {a b : D} (h : PySem.W.dataLt a b = true) : PySem.W.dataLt b a = false := by
  unfold PySem.W.dataLt at *
  cases h2 : PyProof.Rows.lexLt itemOrd (PySem.W.keyToks b) (PySem.W.keyToks a) with
  | false => rfl
  | true => have := lex_trans _ _ _ h h2; rw [lex_irrefl] at this; exact this.symm
theorem minOf_fold : ∀ (xs : List D) (x : D), MinOf (PySem.W.minD x xs) (x :: xs)
  | [], x => ⟨List.mem_cons_self .., fun y hy => by
      simp only [List.mem_cons, List.mem_nil_iff, or_false] at hy
      subst hy
      exact lex_irrefl _⟩
  | z :: xs, x => by
    have e : PySem.W.minD x (z :: xs) = PySem.W.minD (if PySem.W.dataLt z x = true then z else x) xs := rfl
    rw [e]
    obtain ⟨h1, h2⟩ := minOf_fold xs (if PySem.W.dataLt z x = true then z else x)
    by_cases hz : PySem.W.dataLt z x = true
    · rw [if_pos hz] at h1 h2 ⊢
      refine ⟨List.mem_cons_of_mem _ h1, fun y hy => ?_⟩
      rcases List.mem_cons.mp hy with rfl | hy
      · exact dLt_ntrans (h2 z (List.mem_cons_self ..)) (dLt_asym hz)
      · exact h2 y hy
    · rw [if_neg hz] at h1 h2 ⊢
      have hz : PySem.W.dataLt z x = false := by simpa using hz
      refine ⟨?_, fun y hy => ?_⟩
      · rcases List.mem_cons.mp h1 with h | h
        · rw [h]; exact List.mem_cons_self ..
        · exact List.mem_cons_of_mem _ (List.mem_cons_of_mem _ h)
      · rcases List.mem_cons.mp hy with rfl | hy
        · exact h2 _ (List.mem_cons_self ..)
        · rcases List.mem_cons.mp hy with rfl | hy
          · exact dLt_ntrans (h2 x (List.mem_cons_self ..)) hz
          · exact h2 y (List.mem_cons_of_mem _ hy)
/-! the signs of lots -/
/-! alike -/
theorem okBest_map {α : Type} {f : α → D} {L : List α} (h1 : ∀ a, SeqAt.shaped (f a) = true) (h2 : ∀ a b, PySem.W.alike (f a) (f b) = true) (h3 : ∀ a, ∃ x r, f a = .tuple (x :: r)) : okBest (L.map f) = true := by
  simp only [okBest, Bool.and_eq_true, List.all_eq_true, List.mem_map]
  refine ⟨⟨?_, ?_⟩, ?_⟩
  · rintro _ ⟨a, _, rfl⟩; exact h1 a
  · rintro _ ⟨a, _, rfl⟩ _ ⟨b, _, rfl⟩; exact h2 a b
  · rintro _ ⟨a, _, rfl⟩
    obtain ⟨x, r, e⟩ := h3 a
    rw [e]
theorem nsD_tup {α : Type} {f : α → D} {L : List α} (h3 : ∀ a, ∃ x r, f a = .tuple (x :: r)) (hne : L ≠ []) : nsD (L.map f) = none := by
  cases L with
  | nil => exact absurd rfl hne
  | cons a r =>
    obtain ⟨x, q, e⟩ := h3 a
    rw [List.map_cons, e]
    rfl
theorem dMinQ_map {α : Type} {f : α → D} {L : List α} (h1 : ∀ a, SeqAt.shaped (f a) = true) (h2 : ∀ a b, PySem.W.alike (f a) (f b) = true) (h3 : ∀ a, ∃ x r, f a = .tuple (x :: r)) (hne : L ≠ []) : ∃ a, a ∈ L ∧ dMinQ [.list (L.map f)] = some (f a) ∧ MinOf (f a) (L.map f) := by
  have ok := okBest_map (L := L) h1 h2 h3
  have hn := nsD_tup (f := f) h3 hne
  cases L with
  | nil => exact absurd rfl hne
  | cons a r =>
    have m := minOf_fold (r.map f) (f a)
    rw [List.map_cons] at ok hn
    have e : dMinQ [.list ((a :: r).map f)] = some (PySem.W.minD (f a) (r.map f)) := by
      rw [List.map_cons]
      simp only [dMinQ, dBest, hn, ok, if_true]
    obtain ⟨b, hb, eb⟩ := List.mem_map.mp (show PySem.W.minD (f a) (r.map f) ∈ (a :: r).map f from m.1)
    exact ⟨b, hb, by rw [e, eb], by rw [eb]; exact m⟩
/-! ### groupings -/
def clash (ls : List (List Nat)) (u v : Nat) : Bool := ls.any fun l => decide (u ∈ l) && decide (v ∈ l)
def goes (ls : List (List Nat)) (g : List Nat) (u : Nat) : Bool := g.all fun v => !clash ls v u
def putG (gs : List (List Nat)) (u i : Nat) : List (List Nat) := gs.take i ++ [gs.getD i [] ++ [u]] ++ gs.drop (i + 1)
end DL
namespace Lw
open PySem PySem.Spec PyProof.Rows L2 DL
/-! how many points; least, greatest, signs -/
theorem mul_lg {x y : Int} {a b : Nat} (hx : x.natAbs < 2 ^ a) (hy : y.natAbs < 2 ^ b) : (x * y).natAbs < 2 ^ (a + b) := by
  rw [Int.natAbs_mul, Nat.pow_add]
  rcases Nat.eq_zero_or_pos y.natAbs with h | h
  · rw [h, Nat.mul_zero]; exact Nat.mul_pos (by omega) (by omega)
  · exact Nat.mul_lt_mul'' hx hy
theorem wd_int {n : Nat} {b : List Iv} (hb : BxOk n b) {x : Iv} (hx : x ∈ b) : x.2 - x.1 + 1 = (wdN x : Nat) := by
  have := hb.at_ x hx
  unfold wdN; omega
theorem sem_count {n : Nat} {b : List Iv} {k : Dk} (hb : BxOk n b) (hn : n ≤ 20) : sem_p_point_count [.dat (.tuple (ivsD b))] k = some (.int (prN b : Nat), k) := by
  refine eq_fp (fp_of rfl ?_)
  unfold m_p_point_count
  simp
  refine wp_loop (fun r s => ∃ (qs : List Iv) (f : Int) (o1 o2 : Option Val), r = ivsD qs ∧ s = ⟨[some (.dat (.tuple (ivsD b))), some (.dat (.int f)), o1, o2], k⟩ ∧ f * (prN qs : Nat) = (prN b : Nat) ∧ (∀ x ∈ qs, x ∈ b) ∧ qs.length ≤ 20 ∧ f.natAbs < 2 ^ (1 + 70 * (20 - qs.length))) (fun x r s hI => ?_) (fun s hI => ?_) _ _ ⟨b, 1, none, none, rfl, rfl, by simp, fun _ h => h, by rw [hb.len]; exact hn, ?_⟩
  · obtain ⟨qs, f, o1, o2, e, rfl, e2, hq, hql, hf⟩ := hI
    match qs, e with
    | q :: qs, e =>
      have e : x :: r = ivD q :: ivsD qs := e
      cases e
      have hqb := hq q (List.mem_cons_self ..)
      have hq0 := hb.at_ q hqb
      have hd : (q.2 - q.1 + 1).natAbs < 2 ^ 70 := by
        have e : (2 : Nat) ^ 70 = 1180591620717411303424 := by decide
        omega
      have h1 := lg_lt (by decide) hd
      have h2 := lg_lt (by omega) hf
      simp [ivD]
      simp at hql
      refine ⟨by omega, qs, rfl, ?_, fun z1 z2 hz => hq (z1, z2) (List.mem_cons_of_mem _ hz), by omega, ?_⟩
      · rw [prN, Int.natCast_mul] at e2
        rw [wd_int hb hqb, Int.mul_assoc]
        exact e2
      · have := mul_lg hf hd
        refine Nat.lt_of_lt_of_le this (Nat.pow_le_pow_right (by decide) ?_)
        simp; omega
  · obtain ⟨qs, f, o1, o2, e, rfl, e2, hq, hql, hf⟩ := hI
    match qs, e with
    | [], _ =>
      clear hf
      simp [prN] at e2
      simp [e2]
  · exact Nat.lt_of_lt_of_le (show 1 < 2 ^ 1 by decide) (Nat.pow_le_pow_right (by decide) (by omega))
def grX : RX D := .xc ⟨"TooGreat", some ("limit", .int 2000)⟩
theorem fx_few {n : Nat} {b : List Iv} (hb : BxOk n b) (hn : n ≤ 20) (hp : prN b ≤ 2000) (k : Dk) (Q : RX D → Dk → Prop) : fx sem_p_need_few [.dat (.tuple (ivsD b))] k Q ↔ Q (.ok .none) k := by
  refine fx_eq ?_
  have h1 : ¬ (2000 : Int) < ((prN b : Nat) : Int) := by omega
  have hw : wp (α := RX Fl) m_p_need_few ⟨[some (.dat (.tuple (ivsD b)))], k⟩ fun r s => r = .ok .nx ∧ s.k = k := by
    unfold m_p_need_few
    simp [fp_eq (sem_count hb hn), h1]
  obtain ⟨r, s', e, rfl, hk⟩ := hw
  show semOX 1 1 m_p_need_few [.dat (.tuple (ivsD b))] k = _
  unfold semOX
  simp only [List.length_cons, List.length_nil, if_true]
  have e' : m_p_need_few ⟨List.map some [Val.dat (.tuple (ivsD b))] ++ List.replicate (1 - (0 + 1)) none, k⟩ = some (.ok .nx, s') := e
  rw [e']
  simp [hk]
theorem fx_fewG {n : Nat} {b : List Iv} (hb : BxOk n b) (hn : n ≤ 20) (hp : 2000 < prN b) (k : Dk) (Q : RX D → Dk → Prop) : fx sem_p_need_few [.dat (.tuple (ivsD b))] k Q ↔ Q grX k := by
  refine fx_eq (eq_fx (fx_of rfl ?_))
  have h1 : (2000 : Int) < ((prN b : Nat) : Int) := by omega
  unfold m_p_need_few
  simp [fp_eq (sem_count hb hn), h1, grX]
def unI : D → Int
  | .int v => v
  | _ => 0
def unP : D → List Int
  | .tuple ds => ds.map unI
  | _ => []
theorem unP_pt (p : List Int) : unP (ptD p) = p := by
  unfold ptD unP numsD
  simp only [List.map_map]
  exact List.map_id' p
theorem pts_map {l : List (List Int)} {f : D → D} {g : List Int → D} (h : ∀ p ∈ l, f (ptD p) = g p) : (ptsD l).map f = l.map g := by
  unfold ptsD
  rw [List.map_map]
  exact List.map_congr_left h
/-- the value of an end at a point -/
def vl (a : List Rs) (e : List Nat) (i : Nat) (p : List Int) : Int := (toldS p a e).getD i 0
def kn1 (a : List Rs) (e : List Nat) (i : Nat) (b : List Iv) : List D := (pts b).map fun p => .tuple [.int (vl a e i p), ptD p]
def kn2 (a : List Rs) (e : List Nat) (i : Nat) (b : List Iv) : List D := (pts b).map fun p => .tuple [.int (0 - vl a e i p), ptD p]
/-- a row, an end, a box -/
structure RB3 (n : Nat) (a : List Rs) (e : List Nat) (i : Nat) (b : List Iv) : Prop where
  v : VOk n a
  he : ∀ x ∈ e, x < a.length
  el : e.length ≤ 1000
  i : i < e.length
  b : BxOk n b
  n : n ≤ 20
theorem told_len {p : List Int} {a : List Rs} {e : List Nat} : (toldS p a e).length = e.length := by simp [toldS]
section
variable {n i : Nat} {a : List Rs} {e : List Nat} {b : List Iv}
theorem RB3.fit (h : RB3 n a e i b) {p : List Int} (hp : p ∈ pts b) : (∀ k Q, fp sem_p_told [.dat (rowD n a e), .dat (ptD p)] k Q ↔ Q (.tuple (numsD (toldS p a e))) k) ∧ atI (numsD (toldS p a e)) (i : Int) = some (.int (vl a e i p)) := by
  refine ⟨fun k Q => fp_eq (sem_told h.v (inB_pok h.b (pts_in p hp)) h.he h.el), ?_⟩
  exact numsD_get (by rw [told_len]; exact h.i)
theorem fx_least (h : RB3 n a e i b) (hp : prN b ≤ 2000) {m : D} (hm : dMinQ [.list (kn1 a e i b)] = some m) (k : Dk) (Q : RX D → Dk → Prop) : fx sem_p_least [.dat (rowD n a e), .dat (.int (i : Nat)), .dat (.tuple (ivsD b))] k Q ↔ Q (.ok m) k := by
  refine fx_eq (eq_fx (fx_of rfl ?_))
  have n1 := h.n
  unfold m_p_least
  simp [fx_few h.b h.n hp, fp_eq (sem_points (k := k) h.b (by omega) hp)]
  refine wp_lc_map (fun d => .tuple [.int (vl a e i (unP d)), d]) (fun x hx => ?_) (by rw [ptsD_len, pts_len]; show _ ≤ 1000000; omega) ?_
  · obtain ⟨p, hp2, rfl⟩ := List.mem_map.mp hx
    obtain ⟨f1, f2⟩ := h.fit hp2
    simp [f1, f2, lim, unP_pt]
  · rw [pts_map (g := fun p => .tuple [.int (vl a e i p), ptD p]) fun p _ => by rw [unP_pt]]
    have hm : dMinQ [.list ((pts b).map fun p => .tuple [.int (vl a e i p), ptD p])] = some m := hm
    simp [hm]
theorem fx_greatest (h : RB3 n a e i b) (hp : prN b ≤ 2000) {v : Int} {q : D} (hm : dMinQ [.list (kn2 a e i b)] = some (.tuple [.int v, q])) (k : Dk) (Q : RX D → Dk → Prop) : fx sem_p_greatest [.dat (rowD n a e), .dat (.int (i : Nat)), .dat (.tuple (ivsD b))] k Q ↔ Q (.ok (.tuple [.int (0 - v), q])) k := by
  refine fx_eq (eq_fx (fx_of rfl ?_))
  have n1 := h.n
  unfold m_p_greatest
  simp [fx_few h.b h.n hp, fp_eq (sem_points (k := k) h.b (by omega) hp)]
  refine wp_lc_map (fun d => .tuple [.int (0 - vl a e i (unP d)), d]) (fun x hx => ?_) (by rw [ptsD_len, pts_len]; show _ ≤ 1000000; omega) ?_
  · obtain ⟨p, hp2, rfl⟩ := List.mem_map.mp hx
    obtain ⟨f1, f2⟩ := h.fit hp2
    simp [f1, f2, lim, unP_pt]
  · rw [pts_map (g := fun p => .tuple [.int (0 - vl a e i p), ptD p]) fun p _ => by rw [unP_pt]]
    have hm : dMinQ [.list ((pts b).map fun p => .tuple [.int (0 - vl a e i p), ptD p])] = some (.tuple [.int v, q]) := hm
    simp only [Int.zero_sub] at hm
    simp [hm, lim]
def sgI (v : Int) : Int := (if 0 < v then 1 else 0) - (if v < 0 then 1 else 0)
def sgs61 (a : List Rs) (e : List Nat) (i : Nat) (b : List Iv) : List Int := ssI ((pts b).map fun p => sgI (vl a e i p))
theorem srt_nums {l : List Int} (h : l.length ≤ 4000) : dSrtSet (.list (numsD l)) = some (.list (numsD (ssI l))) := by
  have e : nsD (numsD l) = some l := nsD_map l
  have hl : (numsD l).length ≤ 4000 := by rw [numsD_len]; exact h
  unfold dSrtSet
  simp only [hl, if_true, e]
  rfl
theorem fx_signs (h : RB3 n a e i b) (hp : prN b ≤ 2000) (k : Dk) (Q : RX D → Dk → Prop) : fx sem_p_signs [.dat (rowD n a e), .dat (.int (i : Nat)), .dat (.tuple (ivsD b))] k Q ↔ Q (.ok (.tuple (numsD (sgs61 a e i b)))) k := by
  refine fx_eq (eq_fx (fx_of rfl ?_))
  have n1 := h.n
  unfold m_p_signs
  simp [fx_few h.b h.n hp, fp_eq (sem_points (k := k) h.b (by omega) hp)]
  refine wp_lc_map (fun d => .int (vl a e i (unP d))) (fun x hx => ?_) (by rw [ptsD_len, pts_len]; show _ ≤ 1000000; omega) ?_
  · obtain ⟨p, hp2, rfl⟩ := List.mem_map.mp hx
    obtain ⟨f1, f2⟩ := h.fit hp2
    simp [f1, f2, unP_pt]
  · rw [pts_map (g := fun p => .int (vl a e i p)) fun p _ => by rw [unP_pt]]
    simp
    refine wp_lc_map (fun d => .int (sgI (unI d))) (fun x hx => ?_) (by rw [List.length_map, pts_len]; show _ ≤ 1000000; omega) ?_
    · obtain ⟨p, hp2, rfl⟩ := List.mem_map.mp hx
      simp [unI, sgI, dInt]
      by_cases h1 : 0 < vl a e i p <;> by_cases h2 : vl a e i p < 0 <;> simp [h1, h2]
    · rw [List.map_map]
      have em : (pts b).map ((fun d => PyData.int (sgI (unI d))) ∘ fun p => .int (vl a e i p)) = numsD ((pts b).map fun p => sgI (vl a e i p)) := by
        unfold numsD
        rw [List.map_map]
        rfl
      rw [em]
      have es := srt_nums (l := (pts b).map fun p => sgI (vl a e i p)) (by rw [List.length_map, pts_len]; omega)
      simp [es, sgs61]
/-- boxes with more points -/
theorem fx_leastG (h : BxOk n b) (hn : n ≤ 20) (hp : 2000 < prN b) (r x : D) (k : Dk) (Q : RX D → Dk → Prop) : fx sem_p_least [.dat r, .dat x, .dat (.tuple (ivsD b))] k Q ↔ Q grX k := by
  refine fx_eq (eq_fx (fx_of rfl ?_))
  unfold m_p_least
  simp [fx_fewG h hn hp, grX]
theorem fx_greatestG (h : BxOk n b) (hn : n ≤ 20) (hp : 2000 < prN b) (r x : D) (k : Dk) (Q : RX D → Dk → Prop) : fx sem_p_greatest [.dat r, .dat x, .dat (.tuple (ivsD b))] k Q ↔ Q grX k := by
  refine fx_eq (eq_fx (fx_of rfl ?_))
  unfold m_p_greatest
  simp [fx_fewG h hn hp, grX]
theorem fx_signsG (h : BxOk n b) (hn : n ≤ 20) (hp : 2000 < prN b) (r x : D) (k : Dk) (Q : RX D → Dk → Prop) : fx sem_p_signs [.dat r, .dat x, .dat (.tuple (ivsD b))] k Q ↔ Q grX k := by
  refine fx_eq (eq_fx (fx_of rfl ?_))
  unfold m_p_signs
  simp [fx_fewG h hn hp, grX]
end
end Lw
namespace Lw
open PySem PySem.Spec PyProof.Rows L2 DL
/-! all three, or the limits -/
abbrev tb3 : List (Str × FSX) := [("least", sem_p_least), ("greatest", sem_p_greatest), ("signs", sem_p_signs)]
theorem tb_1 : semTbl tb3 "least" = sem_p_least := rfl
theorem tb_2 : semTbl tb3 "greatest" = sem_p_greatest := rfl
theorem tb_3 : semTbl tb3 "signs" = sem_p_signs := rfl
theorem fp_all {r x b : D} {r1 r2 r3 : RX D} {d1 d2 d3 : D}
    (h1 : ∀ k (Q : RX D → Dk → Prop), fx sem_p_least [.dat r, .dat x, .dat b] k Q ↔ Q r1 k) (h2 : ∀ k (Q : RX D → Dk → Prop), fx sem_p_greatest [.dat r, .dat x, .dat b] k Q ↔ Q r2 k) (h3 : ∀ k (Q : RX D → Dk → Prop), fx sem_p_signs [.dat r, .dat x, .dat b] k Q ↔ Q r3 k)
    (hh : (r1 = .ok d1 ∧ r2 = .ok d2 ∧ r3 = .ok d3) ∨ (r1 = grX ∧ r2 = grX ∧ r3 = grX ∧ d1 = .list [.str "great", .int 2000] ∧ d2 = .list [.str "great", .int 2000] ∧ d3 = .list [.str "great", .int 2000]))
    (k : Dk) (Q : D → Dk → Prop) : fp sem_l_told_all [.dat r, .dat x, .dat b] k Q ↔ Q (.list [d1, d2, d3]) k := by
  refine fp_eq (eq_fp (fp_of rfl ?_))
  unfold m_l_told_all
  rcases hh with ⟨rfl, rfl, rfl⟩ | ⟨rfl, rfl, rfl, rfl, rfl, rfl⟩
  · simp
    rw [wp_xCallL (c := "least") rfl]
    simp [tb_1, h1, lim]
    rw [wp_xCallL (c := "greatest") rfl]
    simp [tb_2, h2, lim]
    rw [wp_xCallL (c := "signs") rfl]
    simp [tb_3, h3, lim]
  · simp
    rw [wp_xCallL (c := "least") rfl]
    simp [tb_1, h1, lim, grX]
    refine ⟨.list [.str "great", .int 2000], rfl, ?_⟩
    try simp [lim]
    rw [wp_xCallL (c := "greatest") rfl]
    simp [tb_2, h2, lim, grX]
    refine ⟨.list [.str "great", .int 2000], rfl, ?_⟩
    try simp [lim]
    rw [wp_xCallL (c := "signs") rfl]
    simp [tb_3, h3, lim, grX]
    rfl
end Lw
namespace Lw
open PySem PySem.Spec PyProof.Rows L2 DL
/-! points in order; the first of the greatest -/
def ltP (p q : List Int) : Prop := PySem.W.dataLt (ptD p) (ptD q) = true
theorem lt_head {v w : Int} {xs ys : List D} (h : v < w) : PySem.W.dataLt (.tuple (.int v :: xs)) (.tuple (.int w :: ys)) = true := by
  rw [PySem.W.dataLt_tuple, PySem.W.dataLt_cons (by simp [PySem.W.alike])]
  have h1 : ¬ v = w := by omega
  simp [PyData.eqv, h1, PySem.W.dataLt_int, h]
theorem lt_same {v : Int} {xs ys : List D} : PySem.W.dataLt (.tuple (.int v :: xs)) (.tuple (.int v :: ys)) = PySem.W.dataLt (.tuple xs) (.tuple ys) := by
  rw [PySem.W.dataLt_tuple, PySem.W.dataLt_cons (by simp [PySem.W.alike]), PySem.W.dataLt_tuple]
  simp [PyData.eqv]
theorem ptD_cons {v : Int} {p : List Int} : ptD (v :: p) = .tuple (.int v :: numsD p) := rfl
theorem ltP_head {v w : Int} {p q : List Int} (h : v < w) : ltP (v :: p) (w :: q) := lt_head h
theorem ltP_same {v : Int} {p q : List Int} : ltP (v :: p) (v :: q) ↔ ltP p q := by
  unfold ltP
  rw [ptD_cons, ptD_cons, lt_same]
  exact Iff.rfl
theorem ltP_irr {p : List Int} : ¬ ltP p p := fun h => by
  have := dLt_asym h
  unfold ltP at h
  rw [this] at h; cases h
theorem ltP_asym {p q : List Int} (h : ltP p q) (h2 : ltP q p) : False := by
  have := dLt_asym h
  unfold ltP at h2
  rw [this] at h2; cases h2
theorem ltP_app : ∀ (p q r s : List Int), p.length = q.length → ltP p q → ltP (p ++ r) (q ++ s)
  | [], [], r, s, _, h => (ltP_irr h).elim
  | [], _ :: _, _, _, hl, _ => by cases hl
  | _ :: _, [], _, _, hl, _ => by cases hl
  | a :: p, c :: q, r, s, hl, h => by
    rcases Int.lt_trichotomy a c with h1 | rfl | h1
    · exact ltP_head h1
    · exact ltP_same.mpr (ltP_app p q r s (by simpa using hl) (ltP_same.mp h))
    · exact (ltP_asym h (ltP_head h1)).elim
theorem ltP_pre : ∀ (p r s : List Int), ltP r s → ltP (p ++ r) (p ++ s)
  | [], _, _, h => h
  | a :: p, r, s, h => ltP_same.mpr (ltP_pre p r s h)
theorem rngI_asc (x : Iv) : (rngI x).Pairwise (· < ·) := by
  unfold rngI
  rw [List.pairwise_map]
  exact List.pairwise_lt_range.imp fun h => by omega
theorem nx_asc {x : Iv} {p : List Int} : (nxI x p).Pairwise ltP := by
  unfold nxI
  rw [List.pairwise_map]
  exact (rngI_asc x).imp fun h => ltP_pre p _ _ (ltP_head h)
theorem flat_asc {x : Iv} {m : Nat} : ∀ {acc : List (List Int)}, acc.Pairwise ltP → (∀ p ∈ acc, p.length = m) → (acc.flatMap (nxI x)).Pairwise ltP
  | [], _, _ => .nil
  | p :: acc, h, hl => by
    rw [List.pairwise_cons] at h
    rw [List.flatMap_cons, List.pairwise_append]
    refine ⟨nx_asc, flat_asc h.2 fun q hq => hl q (List.mem_cons_of_mem _ hq), fun a ha c hc => ?_⟩
    obtain ⟨v, _, rfl⟩ := List.mem_map.mp ha
    obtain ⟨q, hq, hc⟩ := List.mem_flatMap.mp hc
    obtain ⟨w, _, rfl⟩ := List.mem_map.mp hc
    exact ltP_app p q _ _ (by rw [hl p (List.mem_cons_self ..), hl q (List.mem_cons_of_mem _ hq)]) (h.1 q hq)
theorem ptF_asc : ∀ (b : List Iv) (m : Nat) (acc : List (List Int)), acc.Pairwise ltP → (∀ p ∈ acc, p.length = m) → (ptF acc b).Pairwise ltP
  | [], _, _, h, _ => h
  | x :: r, m, acc, h, hl => ptF_asc r (m + 1) _ (flat_asc h hl) fun p hp => by
    obtain ⟨q, hq, hp⟩ := List.mem_flatMap.mp hp
    obtain ⟨v, _, rfl⟩ := List.mem_map.mp hp
    simp [hl q hq]
theorem pts_asc (b : List Iv) : (pts b).Pairwise ltP := ptF_asc b 0 [[]] (by simp) fun p hp => by rw [List.mem_singleton.mp hp]; rfl
/-! pairs of a value and a point -/
def prI (x : Int × List Int) : D := .tuple [.int x.1, ptD x.2]
theorem lay_nums : ∀ l : List Int, PyData.canLayAll0 (numsD l) = true ∧ PyData.depthAll (numsD l) = 0
  | [] => by simp [numsD, PyData.canLayAll0, PyData.depthAll]
  | x :: l => by
    obtain ⟨a, b⟩ := lay_nums l
    exact ⟨by simpa [numsD, PyData.canLayAll0, PyData.canLay0] using a, by simpa [numsD, PyData.depthAll, PyData.depth] using b⟩
theorem alike_nums : ∀ l m : List Int, PySem.W.alikeAll (numsD l) (numsD m) = true
  | [], _ => by simp [numsD, PySem.W.alikeAll]
  | _ :: _, [] => by simp [numsD, PySem.W.alikeAll]
  | x :: l, y :: m => by
    have := alike_nums l m
    simpa [numsD, PySem.W.alikeAll, PySem.W.alike] using this
theorem shp_prI (x : Int × List Int) : SeqAt.shaped (prI x) = true := by
  obtain ⟨a, b⟩ := lay_nums x.2
  simp only [SeqAt.shaped, prI, ptD, PyData.canLay0, PyData.canLayAll0, a, b, Bool.true_and, PyData.depth, PyData.depthAll, decide_eq_true_eq]; omega
theorem alike_prI (x y : Int × List Int) : PySem.W.alike (prI x) (prI y) = true := by simp [prI, ptD, PySem.W.alike, PySem.W.alikeAll, alike_nums]
theorem prI_tup (x : Int × List Int) : ∃ y r, prI x = .tuple (y :: r) := ⟨_, _, rfl⟩
theorem eqv_pt {p q : List Int} (h : ltP p q) : PyData.eqv (ptD p) (ptD q) = false := by
  have key : ∀ x y : List Int, PyData.eqvAll (numsD x) (numsD y) = true → x = y := fun x => by
    induction x with
    | nil => intro y e; cases y with
      | nil => rfl
      | cons _ _ => simp [numsD, PyData.eqvAll] at e
    | cons p x ih =>
      intro y e
      cases y with
      | nil => simp [numsD, PyData.eqvAll] at e
      | cons q y =>
        simp only [numsD, List.map_cons, PyData.eqvAll, Bool.and_eq_true] at e
        have h1 : p = q := by simpa [PyData.eqv] using e.1
        rw [h1, ih y e.2]
  rw [Bool.eq_false_iff]
  intro z
  have z : PyData.eqvAll (numsD p) (numsD q) = true := by simpa [ptD, PyData.eqv] using z
  rw [key p q z] at h
  exact ltP_irr h
theorem lt_prI1 {v w : Int} {p q : List Int} (h : v < w) : PySem.W.dataLt (prI (v, p)) (prI (w, q)) = true := lt_head h
theorem lt_prI2 {v : Int} {p q : List Int} (h : ltP p q) : PySem.W.dataLt (prI (v, p)) (prI (v, q)) = true := by
  have e1 : prI (v, p) = .tuple (.int v :: [ptD p]) := rfl
  have e2 : prI (v, q) = .tuple (.int v :: [ptD q]) := rfl
  rw [e1, e2, lt_same, PySem.W.dataLt_tuple, PySem.W.dataLt_cons (by simp [ptD, PySem.W.alike, alike_nums]), eqv_pt h]
  simp only [Bool.false_eq_true, if_false]
  exact h
/-- the least of pairs is the one ahead of all others -/
theorem min_only {L : List (Int × List Int)} {m c : Int × List Int} (hm : m ∈ L) (hmin : MinOf (prI m) (L.map prI)) (hc : c ∈ L) (h : ∀ x ∈ L, x ≠ c → PySem.W.dataLt (prI c) (prI x) = true) : m = c := by
  by_cases e : m = c
  · exact e
  · have h1 := h m hm e
    have h2 := hmin.2 (prI c) (List.mem_map.mpr ⟨c, hc, rfl⟩)
    rw [h1] at h2; cases h2
/-- of the greatest value the first point -/
theorem great_first {f : List Int → Int} {P : List (List Int)} (asc : P.Pairwise ltP) {m : Int × List Int} (hm : m ∈ P.map fun p => (0 - f p, p)) (hmin : MinOf (prI m) ((P.map fun p => (0 - f p, p)).map prI)) {hi : Int} (h1 : ∀ p ∈ P, f p ≤ hi) (h2 : ∃ p ∈ P, f p = hi) :
    m.1 = 0 - hi ∧ ∃ r, P.filter (fun p => decide (f p = hi)) = m.2 :: r := by
  obtain ⟨p0, hp0, e0⟩ := h2
  have hmf : p0 ∈ P.filter fun p => decide (f p = hi) := List.mem_filter.mpr ⟨hp0, by simpa using e0⟩
  cases hF : P.filter fun p => decide (f p = hi) with
  | nil => rw [hF] at hmf; cases hmf
  | cons q r =>
    have hq : q ∈ P.filter fun p => decide (f p = hi) := by rw [hF]; exact List.mem_cons_self ..
    obtain ⟨q1, q2⟩ := List.mem_filter.mp hq
    have q2 : f q = hi := by simpa using q2
    have asc2 := asc.filter fun p => decide (f p = hi)
    rw [hF, List.pairwise_cons] at asc2
    have hmc := min_only (c := (0 - hi, q)) hm hmin (List.mem_map.mpr ⟨q, q1, by rw [q2]⟩) fun x hx hne => by
      obtain ⟨p, hp, rfl⟩ := List.mem_map.mp hx
      have hle := h1 p hp
      by_cases e : f p = hi
      · have hpf : p ∈ q :: r := by rw [← hF]; exact List.mem_filter.mpr ⟨hp, by simpa using e⟩
        rcases List.mem_cons.mp hpf with rfl | hpr
        · exact absurd (by rw [e]) hne
        · rw [e]; exact lt_prI2 (asc2.1 p hpr)
      · exact lt_prI1 (by omega)
    rw [hmc]
    exact ⟨rfl, r, rfl⟩
end Lw
namespace Lw
open PySem PySem.Spec PyProof.Rows L2 DL
/-! the law's loops -/
def lw (c2 c3 c4 c5 c6 c7 c8 c9 c10 c11 c12 c13 c14 c15 c16 c17 : Option Val) (k : Dk) : S := ⟨[none, some .deck, c2, c3, c4, c5, c6, c7, c8, c9, c10, c11, c12, c13, c14, c15, c16, c17, none, none], k⟩
structure RD (n : Nat) (a : List Rs) (e : List Nat) : Prop where
  n8 : n ≤ 8
  r : RowOk n 14 5 a e
theorem RD.v {n : Nat} {a : List Rs} {e : List Nat} (h : RD n a e) : VOk n a := by
  have hl := h.r.len.2
  have hn := h.n8
  exact ⟨h.r.ok, fun i hi => Nat.le_trans (ex_le (n := n) (many := 14) h.r.siz hi hl) (by decide), by omega, by omega⟩
theorem prN_le {w : Nat} : ∀ {b : List Iv}, wdB (w : Nat) b → prN b ≤ (w + 1) ^ b.length
  | [], _ => Nat.le_refl _
  | x :: r, h => by
    have ih := prN_le (w := w) (b := r) fun y hy => h y (List.mem_cons_of_mem _ hy)
    have h1 : wdN x ≤ w + 1 := by
      have := h x (List.mem_cons_self ..)
      unfold wdN; omega
    rw [prN, List.length_cons, Nat.pow_succ, Nat.mul_comm]
    exact Nat.mul_le_mul ih h1
def wdT (n : Nat) : Nat := [0, 60, 10, 4, 2, 2, 1, 1, 1].getD n 0
def hR (n : Nat) (a : List Rs) (e : List Nat) : Option Val := some (.dat (rowD n a e))
def hB (b : List Iv) : Option Val := some (.dat (.tuple (ivsD b)))
def hI (i : Nat) : Option Val := some (.dat (.int (i : Nat)))
def hD (d : D) : Option Val := some (.dat d)
def nOk (n : Nat) : Prop := n ≤ 8 ∧ (wdT n + 1) ^ n ≤ 2000
section
variable {c2 c3 c4 c5 c6 c7 c8 c9 c10 c11 c12 c13 c14 c15 c16 c17 : Option Val} {k : Dk} {Z : Fl → S → Prop} {n i : Nat} {a : List Rs} {e : List Nat} {b : List Iv}
theorem w1 (hk : DkV k) (h : ∀ n k', nOk n → DkV k' → Z .nx (lw c2 (hI n) c4 c5 c6 c7 c8 c9 c10 c11 c12 c13 c14 c15 c16 c17 k')) : wp law_1 (lw c2 c3 c4 c5 c6 c7 c8 c9 c10 c11 c12 c13 c14 c15 c16 c17 k) Z := by
  unfold law_1 lw
  simp [lim]
  refine fp_one hk (by simp) (by simp) fun d k1 hd hv1 => ?_
  simp at hd
  rcases hd with rfl | rfl | rfl | rfl | rfl | rfl | rfl | rfl
  · exact h 0 k1 ⟨by decide, by decide⟩ hv1
  · exact h 1 k1 ⟨by decide, by decide⟩ hv1
  · exact h 2 k1 ⟨by decide, by decide⟩ hv1
  · exact h 3 k1 ⟨by decide, by decide⟩ hv1
  · exact h 4 k1 ⟨by decide, by decide⟩ hv1
  · exact h 5 k1 ⟨by decide, by decide⟩ hv1
  · exact h 6 k1 ⟨by decide, by decide⟩ hv1
  · exact h 8 k1 ⟨by decide, by decide⟩ hv1
theorem w2 (hk : DkV k) (hn : n ≤ 8) (h : ∀ a e k', RD n a e → DkV k' → Z .nx (lw c2 (hI n) (hR n a e) c5 c6 c7 c8 c9 c10 c11 c12 c13 c14 c15 c16 c17 k')) : wp law_2 (lw c2 (hI n) c4 c5 c6 c7 c8 c9 c10 c11 c12 c13 c14 c15 c16 c17 k) Z := by
  unfold law_2 lw hI
  simp
  by_cases hc : (n : Int) < 5
  · simp [hc]
    refine .inr ?_
    refine fp_row (n := n) (many := 10) (most := 5) hk (by omega) (by decide) (by decide) (by decide) fun a e k4 hr hv4 => ?_
    exact h a e k4 ⟨hn, ⟨hr.ok, ⟨hr.len.1, by have := hr.len.2; omega⟩, hr.siz, hr.ends, hr.elen, hr.sml⟩⟩ hv4
  · simp [hc]
    refine ⟨by omega, ?_⟩
    refine fp_row (n := n) (many := 14) (most := 5) hk (by omega) (by decide) (by decide) (by decide) fun a e k4 hr hv4 => ?_
    exact h a e k4 ⟨hn, hr⟩ hv4
theorem w3 (hn : n ≤ 8) (h : Z .nx (lw c2 (hI n) c4 (hI (wdT n)) c6 c7 c8 c9 c10 c11 c12 c13 c14 c15 c16 c17 k)) : wp law_3 (lw c2 (hI n) c4 c5 c6 c7 c8 c9 c10 c11 c12 c13 c14 c15 c16 c17 k) Z := by
  have ea : ∀ m, m ≤ 8 → atI [PyData.int 0, .int 60, .int 10, .int 4, .int 2, .int 2, .int 1, .int 1, .int 1] ((m : Nat) : Int) = some (.int ((wdT m : Nat) : Int)) := by
    intro m hm
    have : m = 0 ∨ m = 1 ∨ m = 2 ∨ m = 3 ∨ m = 4 ∨ m = 5 ∨ m = 6 ∨ m = 7 ∨ m = 8 := by omega
    rcases this with rfl | rfl | rfl | rfl | rfl | rfl | rfl | rfl | rfl <;> rfl
  unfold law_3 lw hI
  simp [lim, ea n hn]
  exact h
theorem w4 (hk : DkV k) (hn : nOk n) (h : ∀ b k', BxOk n b → prN b ≤ 2000 → DkV k' → Z .nx (lw c2 (hI n) c4 (hI (wdT n)) (hB b) c7 c8 c9 c10 c11 c12 c13 c14 c15 c16 c17 k')) : wp law_4 (lw c2 (hI n) c4 (hI (wdT n)) c6 c7 c8 c9 c10 c11 c12 c13 c14 c15 c16 c17 k) Z := by
  have n8 := hn.1
  have wb : ∀ m, m ≤ 8 → wdT m ≤ 60 := by decide
  have w60 := wb n n8
  unfold law_4 lw hI
  simp [lim]
  refine fp_one hk (by simp) (by simp) fun d k1 hd hv1 => ?_
  have hw : ∃ w : Nat, d = .int (w : Nat) ∧ w ≤ wdT n := by
    simp only [List.mem_cons, List.mem_nil_iff, or_false] at hd
    rcases hd with rfl | rfl
    · by_cases h2 : ((wdT n : Nat) : Int) < 2
      · exact ⟨wdT n, by rw [if_pos h2], Nat.le_refl _⟩
      · exact ⟨2, by rw [if_neg h2]; rfl, by omega⟩
    · exact ⟨wdT n, rfl, Nat.le_refl _⟩
  obtain ⟨w, rfl, hw⟩ := hw
  refine fp_lboxW hv1 (by omega) (by omega) (by omega) fun b k3 hb hbw hv3 => ?_
  refine h b k3 hb ?_ hv3
  refine Nat.le_trans (prN_le hbw) ?_
  rw [hb.len]
  exact Nat.le_trans (Nat.pow_le_pow_left (by omega) n) hn.2
end
end Lw
namespace Lw
open PySem PySem.Spec PyProof.Rows L2 DL
/-! what is due for an end -/
def prs (a : List Rs) (e : List Nat) (i : Nat) (b : List Iv) : List (Int × List Int) := (pts b).map fun p => (vl a e i p, p)
def vals (a : List Rs) (e : List Nat) (i : Nat) (b : List Iv) : List Int := (pts b).map (vl a e i)
theorem kn1_prs {a : List Rs} {e : List Nat} {i : Nat} {b : List Iv} : kn1 a e i b = (prs a e i b).map prI := by
  unfold kn1 prs
  rw [List.map_map]
  rfl
theorem kn2_prs {a : List Rs} {e : List Nat} {i : Nat} {b : List Iv} : kn2 a e i b = ((pts b).map fun p => (0 - vl a e i p, p)).map prI := by
  unfold kn2
  rw [List.map_map]
  rfl
theorem pts_ne {n : Nat} {b : List Iv} (hb : BxOk n b) : pts b ≠ [] := fun z => by
  have := pts_len b
  rw [z] at this
  have h := prN_pos (wd_pos hb)
  simp at this; omega
structure Due (a : List Rs) (e : List Nat) (i : Nat) (b : List Iv) (m : Int × List Int) (hi : Int) (q : List Int) : Prop where
  m1 : dMinQ [.list (kn1 a e i b)] = some (prI m)
  min : MinOf (prI m) ((prs a e i b).map prI)
  mm : m ∈ prs a e i b
  m2 : dMinQ [.list (kn2 a e i b)] = some (prI (0 - hi, q))
  mx : maxI (vals a e i b) = hi
  fs : ∃ r, (pts b).filter (fun p => decide (vl a e i p = hi)) = q :: r
  qm : q ∈ pts b
theorem due_ex {n : Nat} {a : List Rs} {e : List Nat} {i : Nat} {b : List Iv} (hb : BxOk n b) : ∃ m hi q, Due a e i b m hi q := by
  have hne := pts_ne hb
  obtain ⟨m, hm, e1, hmin⟩ := dMinQ_map (L := prs a e i b) (f := prI) shp_prI alike_prI prI_tup (by unfold prs; simpa using hne)
  obtain ⟨m2, hm2, e2, hmin2⟩ := dMinQ_map (L := (pts b).map fun p => (0 - vl a e i p, p)) (f := prI) shp_prI alike_prI prI_tup (by simpa using hne)
  obtain ⟨x1, x2⟩ := maxI_is (ns := vals a e i b) (by unfold vals; simpa using hne)
  obtain ⟨g1, r, g2⟩ := great_first (f := vl a e i) (pts_asc b) hm2 hmin2 (hi := maxI (vals a e i b)) (fun p hp => x2 _ (List.mem_map.mpr ⟨p, hp, rfl⟩)) (by
    obtain ⟨p, hp, e⟩ := List.mem_map.mp x1
    exact ⟨p, hp, e⟩)
  refine ⟨m, maxI (vals a e i b), m2.2, ⟨by rw [kn1_prs]; exact e1, hmin, hm, ?_, rfl, ⟨r, g2⟩, ?_⟩⟩
  · rw [kn2_prs, e2]
    obtain ⟨u, w⟩ := m2
    simp only at g1
    rw [g1]
  · have : m2.2 ∈ (pts b).filter fun p => decide (vl a e i p = maxI (vals a e i b)) := by rw [g2]; exact List.mem_cons_self ..
    exact (List.mem_filter.mp this).1
def dueD (a : List Rs) (e : List Nat) (i : Nat) (b : List Iv) (m : Int × List Int) (hi : Int) (q : List Int) : D := .list [prI m, .tuple [.int hi, ptD q], .tuple (numsD (sgs61 a e i b))]
section
variable {n i : Nat} {a : List Rs} {e : List Nat} {b : List Iv} {m : Int × List Int} {hi : Int} {q : List Int}
theorem f_least (h : RB3 n a e i b) (hp : prN b ≤ 2000) (d : Due a e i b m hi q) (k : Dk) (Q : RX D → Dk → Prop) : fx sem_p_least [.dat (rowD n a e), .dat (.int (i : Nat)), .dat (.tuple (ivsD b))] k Q ↔ Q (.ok (prI m)) k := fx_least h hp d.m1 k Q
theorem f_greatest (h : RB3 n a e i b) (hp : prN b ≤ 2000) (d : Due a e i b m hi q) (k : Dk) (Q : RX D → Dk → Prop) : fx sem_p_greatest [.dat (rowD n a e), .dat (.int (i : Nat)), .dat (.tuple (ivsD b))] k Q ↔ Q (.ok (.tuple [.int hi, ptD q])) k := by
  have := fx_greatest h hp (v := 0 - hi) (q := ptD q) d.m2 k Q
  rw [this]
  have e : (0 : Int) - (0 - hi) = hi := by omega
  rw [e]
theorem f_all (h : RB3 n a e i b) (hp : prN b ≤ 2000) (d : Due a e i b m hi q) (k : Dk) (Q : D → Dk → Prop) : fp sem_l_told_all [.dat (rowD n a e), .dat (.int (i : Nat)), .dat (.tuple (ivsD b))] k Q ↔ Q (dueD a e i b m hi q) k :=
  fp_all (f_least h hp d) (f_greatest h hp d) (fx_signs h hp) (.inl ⟨rfl, rfl, rfl⟩) k Q
end
/-! sizes -/
theorem vl_mg {n i : Nat} {a : List Rs} {e : List Nat} {b : List Iv} (r : RD n a e) (hb : BxOk n b) (hi : i < e.length) {p : List Int} (hp : p ∈ pts b) : mg 500 (vl a e i p) := by
  have po := inB_pok hb (pts_in p hp)
  unfold vl toldS
  have h1 : e[i] < a.length := r.r.ends _ (List.getElem_mem hi)
  have e1 : (e.map fun j => (valsS p a).getD j 0).getD i 0 = (valsS p a).getD e[i] 0 := by
    rw [List.getD_eq_getElem?_getD, List.getElem?_map, List.getElem?_eq_getElem hi]
    rfl
  rw [e1]
  refine mg_mono (vals_mg r.r.ok po.mg h1) ?_
  exact Nat.le_trans (ex_le (n := n) (many := 14) r.r.siz h1 r.r.len.2) (by decide)
theorem pt_sz {n : Nat} {b : List Iv} (hn : n ≤ 8) (hb : BxOk n b) {p : List Int} (hp : p ∈ pts b) : sz (ptD p) ≤ 600 ∧ (ptD p).depth ≤ 1 := by
  have po := inB_pok hb (pts_in p hp)
  have hl := po.len
  have := sz_nums (e := 70) (l := p) (fun x hx => by
    obtain ⟨j, hj, rfl⟩ := List.mem_iff_getElem.mp hx
    have := po.mg j (by omega)
    rwa [List.getD_eq_getElem?_getD, List.getElem?_eq_getElem hj] at this) (by decide) (by decide)
  unfold ptD
  rw [sz_tup, dp_tup]
  rw [hl] at this
  omega
theorem sgs_sz {a : List Rs} {e : List Nat} {i : Nat} {b : List Iv} : sz (.tuple (numsD (sgs61 a e i b))) ≤ 40000 ∧ (PyData.tuple (numsD (sgs61 a e i b))).depth ≤ 1 := by
  have hm : ∀ v ∈ sgs61 a e i b, v = -1 ∨ v = 0 ∨ v = 1 := fun v hv => by
    unfold sgs61 at hv
    rw [ssI_mem] at hv
    obtain ⟨p, _, rfl⟩ := List.mem_map.mp hv
    unfold sgI
    split <;> split <;> simp
  have hl : (sgs61 a e i b).length ≤ 3 := by
    have asc : (sgs61 a e i b).Pairwise (· < ·) := ssI_lt _
    generalize sgs61 a e i b = l at *
    match l, asc, hm with
    | [], _, _ => simp
    | [_], _, _ => simp
    | [_, _], _, _ => simp
    | [_, _, _], _, _ => simp
    | x :: y :: z :: w :: r, asc, hm =>
      rw [List.pairwise_cons, List.pairwise_cons, List.pairwise_cons] at asc
      have h1 := asc.1 y (by simp)
      have h2 := asc.2.1 z (by simp)
      have h3 := asc.2.2.1 w (by simp)
      have h4 := hm x (by simp)
      have h5 := hm w (by simp)
      omega
  have := sz_nums (e := 4) (l := sgs61 a e i b) (fun v hv => by unfold mg; rcases hm v hv with rfl | rfl | rfl <;> decide) (by decide) (by decide)
  rw [sz_tup, dp_tup]
  have h2 := Nat.mul_le_mul_right (4 + 4) hl
  omega
theorem okR_due {n i : Nat} {a : List Rs} {e : List Nat} {b : List Iv} {m : Int × List Int} {hi : Int} {q : List Int} (r : RD n a e) (hb : BxOk n b) (h : i < e.length) (d : Due a e i b m hi q) : okR (dueD a e i b m hi q) = true := by
  obtain ⟨p, hp, em⟩ := List.mem_map.mp d.mm
  obtain ⟨r0, hf⟩ := d.fs
  have hq : q ∈ (pts b).filter fun p => decide (vl a e i p = hi) := by rw [hf]; exact List.mem_cons_self ..
  have hqv : vl a e i q = hi := by simpa using (List.mem_filter.mp hq).2
  have s1 := sz_mg (vl_mg r hb h hp) (by decide) (by decide)
  have s2 := sz_mg (vl_mg r hb h d.qm) (by decide) (by decide)
  rw [hqv] at s2
  obtain ⟨s3, t3⟩ := pt_sz r.n8 hb hp
  obtain ⟨s4, t4⟩ := pt_sz r.n8 hb d.qm
  obtain ⟨s5, t5⟩ := sgs_sz (a := a) (e := e) (i := i) (b := b)
  unfold dueD prI
  rw [← em]
  refine okR_of ?_ ?_
  · simp only [sz_lst, szA, sz_tup] at *; omega
  · simp only [dp_lst, dp_tup, PyData.depthAll, PyData.depth] at *; omega
end Lw
namespace Lw
open PySem PySem.Spec PyProof.Rows L2 DL
def rbD (n : Nat) (a : List Rs) (e : List Nat) (b : List Iv) : D := .list [rowD n a e, .tuple (ivsD b)]
def hK (a : List Rs) (e : List Nat) (i : Nat) (b : List Iv) : Option Val := some (.dat (.list ((prs a e i b).map prI)))
def hPs (b : List Iv) : Option Val := some (.dat (.list (ptsD (pts b))))
def hS (n : Nat) (a : List Rs) (e : List Nat) (b : List Iv) : Option Val := some (.dat (.str (rbD n a e b).shown))
theorem RD.three {n i : Nat} {a : List Rs} {e : List Nat} {b : List Iv} (r : RD n a e) (hb : BxOk n b) (hi : i < e.length) : RB3 n a e i b := ⟨r.v, r.r.ends, by have := r.r.elen.2; omega, hi, hb, by have := r.n8; omega⟩
theorem ok_rb {n : Nat} {a : List Rs} {e : List Nat} {b : List Iv} (r : RD n a e) (hb : BxOk n b) : okR (rbD n a e b) = true := by
  have n8 := r.n8
  have hl := r.r.len.2
  have he := r.r.elen.2
  have s1 := rowD_gd r.r.ok (by omega) (by omega) r.r.ends
  have s2 := sz_ivs (e := 70) (l := b) (fun x hx => by
    have := hb.at_ x hx
    exact ⟨mg_70 (by omega) (by omega), mg_70 (by omega) (by omega)⟩) (by decide) (by decide)
  rw [hb.len] at s2
  unfold rbD
  refine okR_of ?_ ?_
  · simp only [sz_lst, szA, sz_tup]; omega
  · simp only [dp_lst, dp_tup, PyData.depthAll]; omega
section
variable {c2 c3 c4 c5 c6 c7 c8 c9 c10 c11 c12 c13 c14 c15 c16 c17 : Option Val} {k : Dk} {Z : Fl → S → Prop} {n i : Nat} {a : List Rs} {e : List Nat} {b : List Iv} {m : Int × List Int} {hi : Int} {q : List Int}
theorem w5 (r : RD n a e) (hb : BxOk n b) (hp : prN b ≤ 2000) (h : Z .nx (lw c2 c3 (hR n a e) c5 (hB b) (hPs b) (hS n a e b) c9 c10 c11 c12 c13 c14 c15 c16 c17 k)) : wp law_5 (lw c2 c3 (hR n a e) c5 (hB b) c7 c8 c9 c10 c11 c12 c13 c14 c15 c16 c17 k) Z := by
  have n8 := r.n8
  have ok := ok_rb r hb
  unfold rbD at ok
  unfold law_5 lw hR hB
  simp [fp_eq (sem_lpoints (k := k) hb (by omega) hp), ok, lim]
  exact h
theorem prs_map {f : D → D} {g : List Int → D} (h : ∀ p ∈ pts b, f (prI (vl a e i p, p)) = g p) : ((prs a e i b).map prI).map f = (pts b).map g := by
  unfold prs
  rw [List.map_map, List.map_map]
  exact List.map_congr_left h
theorem prs_len : ((prs a e i b).map prI).length = prN b := by rw [List.length_map]; unfold prs; rw [List.length_map, pts_len]
theorem w6 (r : RD n a e) (hb : BxOk n b) (hp : prN b ≤ 2000) (hi : i < e.length) (h : Z .nx (lw c2 c3 (hR n a e) c5 c6 (hPs b) c8 (hI i) (hK a e i b) c11 c12 c13 c14 c15 c16 c17 k)) : wp law_6 (lw c2 c3 (hR n a e) c5 c6 (hPs b) c8 (hI i) c10 c11 c12 c13 c14 c15 c16 c17 k) Z := by
  have n8 := r.n8
  have el := r.r.elen.2
  unfold law_6 lw hR hPs hI
  simp
  refine wp_lc_map (fun d => .tuple [.int (vl a e i (unP d)), d]) (fun x hx => ?_) (by rw [ptsD_len, pts_len]; show _ ≤ 1000000; omega) ?_
  · obtain ⟨p, hp2, rfl⟩ := List.mem_map.mp hx
    have f1 := fun k Q => fp_eq (sem_ltold (k := k) r.v (inB_pok hb (pts_in p hp2)) r.r.ends (by omega)) (Q := Q)
    have f2 : atI (numsD (toldS p a e)) (i : Int) = some (.int (vl a e i p)) := numsD_get (by rw [told_len]; exact hi)
    have f1 : ∀ k Q, fp sem_l_told [.dat (rowD n a e), .dat (ptD p)] k Q ↔ Q (.tuple (numsD (toldS p a e))) k := f1
    simp [f1, f2, lim, unP_pt]
  · rw [pts_map (g := fun p => .tuple [.int (vl a e i p), ptD p]) fun p _ => by rw [unP_pt]]
    have em : (pts b).map (fun p => PyData.tuple [.int (vl a e i p), ptD p]) = (prs a e i b).map prI := by
      unfold prs; rw [List.map_map]; rfl
    rw [em]
    exact h
def fst61 : D → D
  | .tuple [v, _] => v
  | d => d
def snd61 : D → D
  | .tuple [_, p] => p
  | d => d
def isV (hi : Int) : D → Bool
  | .tuple [.int v, _] => decide (v = hi)
  | _ => false
theorem w7 (hb : BxOk n b) (hp : prN b ≤ 2000) (d : Due a e i b m hi q) (h : Z .nx (lw c2 c3 c4 c5 c6 c7 c8 c9 (hK a e i b) (hD (.int hi)) c12 c13 c14 c15 c16 c17 k)) : wp law_7 (lw c2 c3 c4 c5 c6 c7 c8 c9 (hK a e i b) c11 c12 c13 c14 c15 c16 c17 k) Z := by
  unfold law_7 lw hK
  simp
  refine wp_lc_map fst61 (fun x hx => ?_) (by rw [prs_len]; show _ ≤ 1000000; omega) ?_
  · obtain ⟨y, _, rfl⟩ := List.mem_map.mp hx
    simp [prI, fst61]
  · rw [prs_map (g := fun p => .int (vl a e i p)) fun p _ => rfl]
    have em : (pts b).map (fun p => PyData.int (vl a e i p)) = (vals a e i b).map PyData.int := by unfold vals; rw [List.map_map]; rfl
    have hne : vals a e i b ≠ [] := by unfold vals; simpa using pts_ne hb
    have ex : dMaxQ [.list ((vals a e i b).map PyData.int)] = some (.int hi) := by
      have hn : nsD ((vals a e i b).map PyData.int) = some (vals a e i b) := nsD_map _
      have := dMaxL_n hne
      unfold dMaxQ dBest
      simp only [hn, this, d.mx]
    rw [em]
    simp only [ex]
    simp
    exact h
theorem w8 (hp : prN b ≤ 2000) (d : Due a e i b m hi q) (h : Z .nx (lw c2 c3 c4 c5 c6 c7 c8 c9 (hK a e i b) (hD (.int hi)) (hD (ptD q)) c13 c14 c15 c16 c17 k)) : wp law_8 (lw c2 c3 c4 c5 c6 c7 c8 c9 (hK a e i b) (hD (.int hi)) c12 c13 c14 c15 c16 c17 k) Z := by
  obtain ⟨r, hf⟩ := d.fs
  unfold law_8 lw hK hD
  simp
  refine wp_lc_fm (isV hi) snd61 (fun x hx => ?_) (by rw [prs_len]; show _ ≤ 1000000; omega) ?_
  · obtain ⟨y, _, rfl⟩ := List.mem_map.mp hx
    simp [prI, snd61, isV]
    exact (Decidable.em (y.1 = hi)).symm
  · have em : (((prs a e i b).map prI).filter (isV hi)).map snd61 = ptD q :: r.map ptD := by
      unfold prs
      rw [List.map_map, List.filter_map, List.map_map]
      have e1 : (pts b).filter (isV hi ∘ (prI ∘ fun p => (vl a e i p, p))) = (pts b).filter fun p => decide (vl a e i p = hi) := List.filter_congr fun p _ => rfl
      rw [e1, hf]
      rfl
    rw [em]
    have a0 : atI (ptD q :: r.map ptD) 0 = some (ptD q) := atI_nat (j := 0) rfl
    simp [a0]
    exact h
theorem w9 (hp : prN b ≤ 2000) (h : Z .nx (lw c2 c3 c4 c5 c6 c7 c8 c9 (hK a e i b) c11 c12 (hD (.tuple (numsD (sgs61 a e i b)))) c14 c15 c16 c17 k)) : wp law_9 (lw c2 c3 c4 c5 c6 c7 c8 c9 (hK a e i b) c11 c12 c13 c14 c15 c16 c17 k) Z := by
  unfold law_9 lw hK
  simp
  refine wp_lc_map (fun d => .int (sgI (unI (fst61 d)))) (fun x hx => ?_) (by rw [prs_len]; show _ ≤ 1000000; omega) ?_
  · obtain ⟨y, _, rfl⟩ := List.mem_map.mp hx
    simp [prI, fst61, unI, sgI, dInt]
    by_cases h1 : 0 < y.1 <;> by_cases h2 : y.1 < 0 <;> simp [h1, h2]
  · rw [prs_map (g := fun p => .int (sgI (vl a e i p))) fun p _ => rfl]
    have em : (pts b).map (fun p => PyData.int (sgI (vl a e i p))) = numsD ((pts b).map fun p => sgI (vl a e i p)) := by
      unfold numsD
      rw [List.map_map]
      rfl
    rw [em]
    have es := srt_nums (l := (pts b).map fun p => sgI (vl a e i p)) (by rw [List.length_map, pts_len]; omega)
    simp [es]
    exact h
theorem w10 (d : Due a e i b m hi q) (h : Z .nx (lw c2 c3 c4 c5 c6 c7 c8 c9 (hK a e i b) (hD (.int hi)) (hD (ptD q)) (hD (.tuple (numsD (sgs61 a e i b)))) (hD (dueD a e i b m hi q)) c15 c16 c17 k)) : wp law_10 (lw c2 c3 c4 c5 c6 c7 c8 c9 (hK a e i b) (hD (.int hi)) (hD (ptD q)) (hD (.tuple (numsD (sgs61 a e i b)))) c14 c15 c16 c17 k) Z := by
  have m1 := d.m1
  rw [kn1_prs] at m1
  unfold law_10 lw hK hD
  simp [m1, lim, -List.map_map]
  exact h
theorem w12 (r : RD n a e) (hb : BxOk n b) (hp : prN b ≤ 2000) (hi2 : i < e.length) (d : Due a e i b m hi q) (h : Z .nx (lw c2 c3 (hR n a e) c5 (hB b) c7 (hS n a e b) (hI i) c10 c11 c12 c13 (hD (dueD a e i b m hi q)) c15 c16 c17 k)) : wp law_12 (lw c2 c3 (hR n a e) c5 (hB b) c7 (hS n a e b) (hI i) c10 c11 c12 c13 (hD (dueD a e i b m hi q)) c15 c16 c17 k) Z := by
  have ok := ok_rb r hb
  have okd := okR_due r hb hi2 d
  unfold rbD at ok
  unfold law_12 law_11 lw hR hB hI hD hS rbD
  simp [f_all (r.three hb hi2) hp d, ok, okd, lim]
  exact h
theorem w13 (r : RD n a e) (hb : BxOk n b) (hp : prN b ≤ 2000) (hi2 : i < e.length) (d : Due a e i b m hi q) (h : Z .nx (lw c2 c3 (hR n a e) c5 (hB b) c7 c8 (hI i) c10 c11 c12 c13 (hD (dueD a e i b m hi q)) (some (.dat (dueD a e i b m hi q))) c16 c17 k)) : wp (sSeq law_13 (sSeq law_14 law_16)) (lw c2 c3 (hR n a e) c5 (hB b) c7 c8 (hI i) c10 c11 c12 c13 (hD (dueD a e i b m hi q)) c15 c16 c17 k) Z := by
  have okd := okR_due r hb hi2 d
  have t := r.three hb hi2
  unfold law_13 law_14 law_16 law_15 lw hR hB hI hD
  unfold dueD at okd h ⊢
  simp [permL, f_least t hp d, f_greatest t hp d, fx_signs t hp, okd, lim]
  exact h
end
end Lw
namespace Lw
open PySem PySem.Spec PyProof.Rows L2 DL
def gL : D := .list [.str "great", .int 2000]
theorem fx_paperG {n : Nat} {b : List Iv} (h : BxOk n b) (hn : n ≤ 20) (hp : 2000 < prN b) (r x : D) (k : Dk) (Q : RX D → Dk → Prop) : fx sem_p_least_paper [.dat r, .dat x, .dat (.tuple (ivsD b))] k Q ↔ Q grX k := by
  refine fx_eq (eq_fx (fx_of rfl ?_))
  unfold m_p_least_paper
  simp [fx_leastG h hn hp, grX]
theorem fp_refused {n : Nat} {b : List Iv} (h : BxOk n b) (hn : n ≤ 20) (hp : 2000 < prN b) (r : D) (k : Dk) (Q : D → Dk → Prop) : fp sem_l_is_refused [.dat r, .dat (.tuple (ivsD b))] k Q ↔ Q (.bool true) k := by
  refine fp_eq (eq_fp (fp_of rfl ?_))
  have e1 := fun k Q => fp_all (d1 := gL) (d2 := gL) (d3 := gL) (fx_leastG h hn hp r (.int 0)) (fx_greatestG h hn hp r (.int 0)) (fx_signsG h hn hp r (.int 0)) (.inr ⟨rfl, rfl, rfl, rfl, rfl, rfl⟩) k Q
  have e2 : dMul (.list [gL]) (.int 3) = some (.list [gL, gL, gL]) := rfl
  have e3 : dNe (.list [gL, gL, gL]) (.list [gL, gL, gL]) = some (.bool false) := dNe_refl (by decide +kernel)
  have e2' : dMul (.list [.list [.str "great", .int 2000]]) (.int 3) = some (.list [gL, gL, gL]) := e2
  unfold m_l_is_refused
  simp [e1, e2', e3, lim, fx_paperG h hn hp, grX]
  exact ⟨.bool true, rfl, .nx, _, rfl, by simp⟩
def loF (x : Iv) : Int := if x.1 < 10000000000000000000 then x.1 else 0
theorem far_ok {n : Nat} {x : Iv} {r : List Iv} (hb : BxOk n (x :: r)) : BxOk n ((loF x, loF x + 2000) :: r) ∧ 2000 < prN ((loF x, loF x + 2000) :: r) := by
  have hx := hb.at_ x (List.mem_cons_self ..)
  have hr : ∀ y ∈ r, y ∈ x :: r := fun y hy => List.mem_cons_of_mem _ hy
  have hp : 1 ≤ prN r := prN_pos fun y hy => wd_pos hb y (hr y hy)
  refine ⟨⟨by have := hb.len; simpa using this, fun y hy => ?_⟩, ?_⟩
  · rcases List.mem_cons.mp hy with rfl | hy
    · unfold loF; simp only; split <;> omega
    · exact hb.at_ y (hr y hy)
  · have hw : wdN (loF x, loF x + 2000) = 2001 := by unfold wdN; simp only; omega
    rw [prN, hw]; omega
section
variable {c2 c3 c4 c5 c6 c7 c8 c9 c10 c11 c12 c13 c14 c15 c16 c17 : Option Val} {k : Dk} {Z : Fl → S → Prop} {n i : Nat} {a : List Rs} {e : List Nat} {b : List Iv}
def w17I (n : Nat) (a : List Rs) (e : List Nat) (b : List Iv) (c2 c3 c5 c16 c17 : Option Val) (k : Dk) (r : List D) (s : S) : Prop := ∃ (i : Nat) (c9 c10 c11 c12 c13 c14 c15 : Option Val), r = (rngD 0 e.length).drop i ∧ i ≤ e.length ∧ s = lw c2 c3 (hR n a e) c5 (hB b) (hPs b) (hS n a e b) c9 c10 c11 c12 c13 c14 c15 c16 c17 k
theorem w17 (r : RD n a e) (hb : BxOk n b) (hp : prN b ≤ 2000) (h : ∀ c9 c10 c11 c12 c13 c14 c15, Z .nx (lw c2 c3 (hR n a e) c5 (hB b) (hPs b) (hS n a e b) c9 c10 c11 c12 c13 c14 c15 c16 c17 k)) : wp law_17 (lw c2 c3 (hR n a e) c5 (hB b) (hPs b) (hS n a e b) c9 c10 c11 c12 c13 c14 c15 c16 c17 k) Z := by
  have el := r.r.elen.2
  have r2 : dIx (rowD n a e) (.int 2) = some (.tuple (intsD e)) := by simp [rowD]
  unfold law_17
  rw [wp_sFor]
  unfold lw hR
  simp [r2, intsD_len]
  refine ⟨by omega, ?_⟩
  refine wp_loop (w17I n a e b c2 c3 c5 c16 c17 k) (fun x rr s hI => ?_) (fun s hI => ?_) _ _ ⟨0, c9, c10, c11, c12, c13, c14, c15, rfl, Nat.zero_le _, rfl⟩
  · obtain ⟨i, c9, c10, c11, c12, c13, c14, c15, hr, hi, rfl⟩ := hI
    have hi2 : i < e.length := by
      rcases Nat.lt_or_ge i e.length with h | h
      · exact h
      · rw [List.drop_of_length_le (by rw [rng_len]; exact h)] at hr; cases hr
    rw [List.drop_eq_getElem_cons (by rw [rng_len]; exact hi2)] at hr
    have ex : (rngD 0 e.length)[i]'(by rw [rng_len]; exact hi2) = .int (i : Nat) := by simp [rngD]
    rw [ex] at hr
    cases hr
    obtain ⟨m, hi, q, d⟩ := due_ex (a := a) (e := e) (i := i) hb
    simp only [lw, ↓wp_gN, List.set_cons_succ, List.set_cons_zero]
    rw [wp_sSeq]
    refine w6 r hb hp hi2 ?_
    show wp (sSeq law_7 _) _ _
    rw [wp_sSeq]
    refine w7 hb hp d ?_
    show wp (sSeq law_8 _) _ _
    rw [wp_sSeq]
    refine w8 hp d ?_
    show wp (sSeq law_9 _) _ _
    rw [wp_sSeq]
    refine w9 hp ?_
    show wp (sSeq law_10 _) _ _
    rw [wp_sSeq]
    refine w10 d ?_
    show wp (sSeq law_12 _) _ _
    rw [wp_sSeq]
    refine w12 r hb hp hi2 d ?_
    show wp (sSeq law_13 (sSeq law_14 law_16)) _ _
    refine w13 r hb hp hi2 d ?_
    exact ⟨i + 1, _, _, _, _, _, _, _, rfl, hi2, rfl⟩
  · obtain ⟨i, c9, c10, c11, c12, c13, c14, c15, hr, hi, rfl⟩ := hI
    exact h _ _ _ _ _ _ _
theorem w21 (r : RD n a e) (hb : BxOk n b) (h : ∀ c16, Z .nx (lw c2 (hI n) (hR n a e) c5 (hB b) c7 c8 c9 c10 c11 c12 c13 c14 c15 c16 c17 k)) : wp law_21 (lw c2 (hI n) (hR n a e) c5 (hB b) c7 c8 c9 c10 c11 c12 c13 c14 c15 c16 c17 k) Z := by
  have n8 := r.n8
  unfold law_21 law_18 law_20 law_19
  by_cases hn : n = 0
  · subst hn
    unfold lw hI
    simp
    exact h c16
  · cases b with
    | nil => have := hb.len; simp at this; omega
    | cons x rest =>
      obtain ⟨f1, f2⟩ := far_ok hb
      have rf := fun k Q => fp_refused f1 (by omega) f2 (rowD n a e) k Q
      have hbl := hb.len
      rw [List.length_cons] at hbl
      have hn2 : (0 : Int) < (n : Int) := by omega
      have e0 : atI (ivsD (x :: rest)) 0 = some (ivD x) := atI_nat (j := 0) rfl
      have e1 : cutG (ivsD (x :: rest)) (some 1) none = ivsD rest := by
        have : cutG (ivsD (x :: rest)) (some ((1 : Nat) : Int)) none = (ivsD (x :: rest)).drop 1 := cutG_from (by decide)
        exact this
      have el : ∀ y : D, 1 + (ivsD rest).length ≤ 1000000 := fun _ => by rw [ivsD_len]; omega
      have e3 : ∀ lo : Int, dAdd (.tuple [.tuple [.int lo, .int (lo + 2000)]]) (.tuple (ivsD rest)) = some (.tuple (ivsD ((lo, lo + 2000) :: rest))) := fun lo => by
        have := el .none
        simp [dAdd, lim, ivsD_len] at this ⊢
        exact ⟨by omega, rfl⟩
      have e4 := e3 0
      simp only [Int.zero_add] at e4
      unfold lw hI hB
      by_cases hx : x.1 < 10000000000000000000
      · have elo : loF x = x.1 := if_pos hx
        rw [elo] at rf
        simp [hn2, e0, ivD, hx, lim, e1, e3, hR, rf]
        exact .inr ⟨by omega, by rw [ivsD_len]; omega, (rf k _).mpr (.inr ⟨rfl, h _⟩)⟩
      · have elo : loF x = 0 := if_neg hx
        rw [elo] at rf
        simp only [Int.zero_add] at rf
        simp [hn2, e0, ivD, hx, lim, e1, e4, hR, rf]
        exact .inr ⟨by omega, h _⟩
def w22I (r : List D) (s : S) : Prop := ∃ c2 c3 c4 c5 c6 c7 c8 c9 c10 c11 c12 c13 c14 c15 c16 c17 k, DkV k ∧ s = lw c2 c3 c4 c5 c6 c7 c8 c9 c10 c11 c12 c13 c14 c15 c16 c17 k
theorem w22 (hk : DkV k) (h : ∀ c2 c3 c4 c5 c6 c7 c8 c9 c10 c11 c12 c13 c14 c15 c16 c17 k', Z .nx (lw c2 c3 c4 c5 c6 c7 c8 c9 c10 c11 c12 c13 c14 c15 c16 c17 k')) : wp law_22 (lw c2 c3 c4 c5 c6 c7 c8 c9 c10 c11 c12 c13 c14 c15 c16 c17 k) Z := by
  unfold law_22
  rw [wp_sFor]
  simp
  refine wp_loop w22I (fun x r s hI => ?_) (fun s hI => ?_) _ _ ⟨c2, c3, c4, c5, c6, c7, c8, c9, c10, c11, c12, c13, c14, c15, c16, c17, k, hk, rfl⟩
  · obtain ⟨c2, c3, c4, c5, c6, c7, c8, c9, c10, c11, c12, c13, c14, c15, c16, c17, k1, hv1, rfl⟩ := hI
    simp only [lw, ↓wp_gN, List.set_cons_succ, List.set_cons_zero]
    rw [wp_sSeq]
    refine w1 hv1 fun n k2 hn hv2 => ?_
    show wp (sSeq law_2 _) _ _
    rw [wp_sSeq]
    refine w2 hv2 hn.1 fun a e k3 r hv3 => ?_
    show wp (sSeq law_3 _) _ _
    rw [wp_sSeq]
    refine w3 hn.1 ?_
    show wp (sSeq law_4 _) _ _
    rw [wp_sSeq]
    refine w4 hv3 hn fun b k4 hb hp hv4 => ?_
    show wp (sSeq law_5 _) _ _
    rw [wp_sSeq]
    refine w5 r hb hp ?_
    show wp (sSeq law_17 _) _ _
    rw [wp_sSeq]
    refine w17 r hb hp fun c9 c10 c11 c12 c13 c14 c15 => ?_
    show wp law_21 _ _
    refine w21 r hb fun c16 => ?_
    exact ⟨_, _, _, _, _, _, _, _, _, _, _, _, _, _, _, _, k4, hv4, rfl⟩
  · obtain ⟨c2, c3, c4, c5, c6, c7, c8, c9, c10, c11, c12, c13, c14, c15, c16, c17, k1, hv1, rfl⟩ := hI
    exact h _ _ _ _ _ _ _ _ _ _ _ _ _ _ _ _ k1
end
end Lw
namespace Lw
open PySem PySem.Spec PyProof.Rows L2 DL
/-! the row of one difference -/
def a3 : List Rs := [.inp 0, .inp 1, .sub 0 1]
theorem r3_ok : okFrom 2 0 a3 := ⟨show 0 < 2 by decide, show 1 < 2 by decide, ⟨show 0 < 2 by decide, show 1 < 2 by decide⟩, trivial⟩
theorem v3 : VOk 2 a3 := ⟨r3_ok, fun i hi => by
  have hi : i < 3 := hi
  have : i = 0 ∨ i = 1 ∨ i = 2 := by omega
  rcases this with rfl | rfl | rfl <;> decide, by decide, by decide⟩
theorem rb3 {b : List Iv} (hb : BxOk 2 b) : RB3 2 a3 [2] 0 b := ⟨v3, by decide, by decide, by decide, hb, by decide⟩
theorem vl3 (x y : Int) : vl a3 [2] 0 [x, y] = x - y := rfl
theorem two_pts {p : List Int} {x1 x2 y1 y2 : Int} (h : InB [(x1, x2), (y1, y2)] p) : ∃ x y, p = [x, y] ∧ x1 ≤ x ∧ x ≤ x2 ∧ y1 ≤ y ∧ y ≤ y2 := by
  match p, h with
  | [x, y], h =>
    have h0 := h.2 0 (by simp)
    have h1 := h.2 1 (by simp)
    simp at h0 h1
    exact ⟨x, y, rfl, h0.1, h0.2, h1.1, h1.2⟩
  | [], h => have := h.1; simp at this
  | [_], h => have := h.1; simp at this
  | _ :: _ :: _ :: _, h => have := h.1; simp at this
def b1 : List Iv := [(0, 1999), (5, 5)]
def b2 : List Iv := [(1, 40), (1, 50)]
def b0 : List Iv := [(0, 0), (0, 0)]
theorem b1_ok : BxOk 2 b1 := ⟨rfl, by decide⟩
theorem b2_ok : BxOk 2 b2 := ⟨rfl, by decide⟩
theorem b0_ok : BxOk 2 b0 := ⟨rfl, by decide⟩
theorem b1_n : prN b1 ≤ 2000 := by decide
theorem b2_n : prN b2 ≤ 2000 := by decide
theorem b0_n : prN b0 ≤ 2000 := by decide
theorem m_1 : [0, 5] ∈ pts b1 := by decide +kernel
theorem m_2 : [40, 1] ∈ pts b2 := by decide +kernel
theorem due1 {m : Int × List Int} {hi : Int} {q : List Int} (d : Due a3 [2] 0 b1 m hi q) : m = (-5, [0, 5]) := by
  refine min_only d.mm d.min (List.mem_map.mpr ⟨[0, 5], m_1, rfl⟩) fun z hz hne => ?_
  obtain ⟨p, hp, rfl⟩ := List.mem_map.mp hz
  obtain ⟨x, y, rfl, h1, h2, h3, h4⟩ := two_pts (pts_in p hp)
  have hy : y = 5 := by omega
  subst hy
  by_cases hx : x = 0
  · subst hx; exact absurd rfl hne
  · exact lt_prI1 (by rw [vl3]; omega)
theorem due2 {m : Int × List Int} {hi : Int} {q : List Int} (d : Due a3 [2] 0 b2 m hi q) : hi = 39 ∧ q = [40, 1] := by
  have hne : vals a3 [2] 0 b2 ≠ [] := by unfold vals; simpa using pts_ne b2_ok
  obtain ⟨x1, x2⟩ := maxI_is hne
  rw [d.mx] at x1 x2
  obtain ⟨p, hp, e⟩ := List.mem_map.mp x1
  obtain ⟨x, y, rfl, h1, h2, h3, h4⟩ := two_pts (pts_in p hp)
  have h5 := x2 39 (List.mem_map.mpr ⟨[40, 1], m_2, rfl⟩)
  rw [vl3] at e
  have hh : hi = 39 := by omega
  refine ⟨hh, ?_⟩
  obtain ⟨r, hf⟩ := d.fs
  have hq : q ∈ (pts b2).filter fun p => decide (vl a3 [2] 0 p = hi) := by rw [hf]; exact List.mem_cons_self ..
  have hqv : vl a3 [2] 0 q = hi := by simpa using (List.mem_filter.mp hq).2
  obtain ⟨x', y', rfl, g1, g2, g3, g4⟩ := two_pts (pts_in q d.qm)
  rw [vl3] at hqv
  have ex : x' = 40 := by omega
  have ey : y' = 1 := by omega
  rw [ex, ey]
theorem sg0 : sgs61 a3 [2] 0 b0 = [0] := by decide +kernel
def last : D := .list [.tuple [.int (-5), .tuple [.int 0, .int 5]], .tuple [.int 39, .tuple [.int 40, .int 1]], .tuple [.int 0]]
section
variable {c2 c3 c4 c5 c6 c7 c8 c9 c10 c11 c12 c13 c14 c15 c16 c17 : Option Val} {k : Dk} {Z : Fl → S → Prop}
theorem w23 (h : Z .nx (lw c2 c3 (hR 2 a3 [2]) c5 c6 c7 c8 c9 c10 c11 c12 c13 c14 c15 c16 c17 k)) : wp law_23 (lw c2 c3 c4 c5 c6 c7 c8 c9 c10 c11 c12 c13 c14 c15 c16 c17 k) Z := by
  unfold law_23 lw
  simp [lim]
  exact h
theorem w24 (h : Z .nx (lw c2 c3 (hR 2 a3 [2]) c5 c6 c7 c8 c9 c10 c11 c12 c13 c14 c15 c16 (hD last) k)) : wp law_24 (lw c2 c3 (hR 2 a3 [2]) c5 c6 c7 c8 c9 c10 c11 c12 c13 c14 c15 c16 c17 k) Z := by
  obtain ⟨m1, h1, q1, d1⟩ := due_ex (a := a3) (e := [2]) (i := 0) b1_ok
  obtain ⟨m2, h2, q2, d2⟩ := due_ex (a := a3) (e := [2]) (i := 0) b2_ok
  have e1 := fun k Q => f_least (rb3 b1_ok) b1_n d1 k Q
  have e2 := fun k Q => f_greatest (rb3 b2_ok) b2_n d2 k Q
  have e3 := fun k Q => fx_signs (rb3 b0_ok) b0_n k Q
  rw [due1 d1] at e1
  obtain ⟨g1, g2⟩ := due2 d2
  rw [g1, g2] at e2
  rw [sg0] at e3
  have e1' : ∀ k (Q : RX D → Dk → Prop), fx sem_p_least [.dat (rowD 2 a3 [2]), .dat (.int 0), .dat (.tuple [.tuple [.int 0, .int 1999], .tuple [.int 5, .int 5]])] k Q ↔ Q (.ok (.tuple [.int (-5), .tuple [.int 0, .int 5]])) k := e1
  have e2' : ∀ k (Q : RX D → Dk → Prop), fx sem_p_greatest [.dat (rowD 2 a3 [2]), .dat (.int 0), .dat (.tuple [.tuple [.int 1, .int 40], .tuple [.int 1, .int 50]])] k Q ↔ Q (.ok (.tuple [.int 39, .tuple [.int 40, .int 1]])) k := e2
  have e3' : ∀ k (Q : RX D → Dk → Prop), fx sem_p_signs [.dat (rowD 2 a3 [2]), .dat (.int 0), .dat (.tuple [.tuple [.int 0, .int 0], .tuple [.int 0, .int 0]])] k Q ↔ Q (.ok (.tuple [.int 0])) k := e3
  unfold law_24 lw hR
  simp [e1', e2', e3', lim]
  exact h
theorem w25 (h : ∀ s, Z (.rt (.bool true)) s) : wp law_25 (lw c2 c3 c4 c5 c6 c7 c8 c9 c10 c11 c12 c13 c14 c15 c16 (hD last) k) Z := by
  have ok : okR last = true := okR_of (by decide +kernel) (by decide +kernel)
  unfold last at ok
  unfold law_25 lw hD last
  simp [lim, ok]
  exact h _
end
theorem pure_law : ∀ k0, DkV k0 → ∃ s', m_law (st0 (List.length n_p_law) k0) = some (.rt (.bool true), s') := by
  intro k0 hk
  have h : wp m_law (st0 (List.length n_p_law) k0) fun fl _ => fl = .rt (.bool true) := by
    unfold m_law
    rw [wp_sSeq]
    show wp law_22 (lw none none none none none none none none none none none none none none none none k0) _
    refine w22 hk fun c2 c3 c4 c5 c6 c7 c8 c9 c10 c11 c12 c13 c14 c15 c16 c17 k1 => ?_
    show wp (sSeq law_23 (sSeq law_24 law_25)) _ _
    rw [wp_sSeq]
    refine w23 ?_
    show wp (sSeq law_24 law_25) _ _
    rw [wp_sSeq]
    refine w24 ?_
    show wp law_25 _ _
    exact w25 fun s => rfl
  obtain ⟨fl, s', e, rfl⟩ := h
  exact ⟨s', e⟩
end Lw
set_option pp.maxSteps 300
namespace Lw
open PySem PySem.Spec PyProof.Rows L2 DL
theorem all_mk {l : PySem.W.OpenLaw} {w : World} {K : PySem.W.Frag} {h : Heap} {mg : Str → Option Value} {fa cL TL f1 f2 f3 f4 f5 f6 f7 f8 f9 f10 f11 f12 f13 f14 f15 f16 f17 f18 f19 f20 f21 f22 f23 f24 f25 f26 f27 f28 f29 f30 f31 f32 f33 f34 f35 f36 f37 f38 : Addr} {ocL : Value} {odL : Option Addr} {vsL : Array Value} {slL : Array (Option Value)} (X : K.In h) (G : h.Ns mainGlobals mg) (hfa : mg "law" = some (.ref fa))
    {od1 an1 od2 an2 od3 an3 od4 an4 od5 an5 od6 an6 od7 an7 od8 an8 od9 an9 od10 an10 od11 an11 od12 an12 od13 an13 od14 an14 od15 an15 od16 an16 od17 an17 od18 an18 od19 an19 od20 an20 od21 an21 od22 an22 od23 an23 od24 an24 od25 an25 od26 an26 od27 an27 od28 an28 od29 an29 od30 an30 od31 an31 od32 an32 od33 an33 od34 an34 od35 an35 od36 an36 od37 an37 od38 an38 : Option Addr} {sl1 sl2 sl3 sl4 sl5 sl6 sl7 sl8 sl9 sl10 sl11 sl12 sl13 sl14 sl15 sl16 sl17 sl18 sl19 sl20 sl21 sl22 sl23 sl24 sl25 sl26 sl27 sl28 sl29 sl30 sl31 sl32 sl33 sl34 sl35 sl36 sl37 sl38 : Array (Option Value)} {oc1 kV1 dc1 pm1 cd1 ct1 oc2 kV2 dc2 pm2 cd2 ct2 oc3 kV3 dc3 pm3 cd3 ct3 oc4 kV4 dc4 pm4 cd4 ct4 oc5 kV5 dc5 pm5 cd5 ct5 oc6 kV6 dc6 pm6 cd6 ct6 oc7 kV7 dc7 pm7 cd7 ct7 oc8 kV8 dc8 pm8 cd8 ct8 oc9 kV9 dc9 pm9 cd9 ct9 oc10 kV10 dc10 pm10 cd10 ct10 oc11 kV11 dc11 pm11 cd11 ct11 oc12 kV12 dc12 pm12 cd12 ct12 oc13 kV13 dc13 pm13 cd13 ct13 oc14 kV14 dc14 pm14 cd14 ct14 oc15 kV15 dc15 pm15 cd15 ct15 oc16 kV16 dc16 pm16 cd16 ct16 oc17 kV17 dc17 pm17 cd17 ct17 oc18 kV18 dc18 pm18 cd18 ct18 oc19 kV19 dc19 pm19 cd19 ct19 oc20 kV20 dc20 pm20 cd20 ct20 oc21 kV21 dc21 pm21 cd21 ct21 oc22 kV22 dc22 pm22 cd22 ct22 oc23 kV23 dc23 pm23 cd23 ct23 oc24 kV24 dc24 pm24 cd24 ct24 oc25 kV25 dc25 pm25 cd25 ct25 oc26 kV26 dc26 pm26 cd26 ct26 oc27 kV27 dc27 pm27 cd27 ct27 oc28 kV28 dc28 pm28 cd28 ct28 oc29 kV29 dc29 pm29 cd29 ct29 oc30 kV30 dc30 pm30 cd30 ct30 oc31 kV31 dc31 pm31 cd31 ct31 oc32 kV32 dc32 pm32 cd32 ct32 oc33 kV33 dc33 pm33 cd33 ct33 oc34 kV34 dc34 pm34 cd34 ct34 oc35 kV35 dc35 pm35 cd35 ct35 oc36 kV36 dc36 pm36 cd36 ct36 oc37 kV37 dc37 pm37 ct37 oc38 kV38 dc38 pm38 cd38 ct38 u_MAX_BOX : Value} {C_RowError : Addr} {C_TooGreat : Addr}
    (aC_RowError : PySem.W.nsIn K mainGlobals "RowError" = some (some (.ref C_RowError)))
    (aC_TooGreat : PySem.W.nsIn K mainGlobals "TooGreat" = some (some (.ref C_TooGreat)))
    (hn_x : PySem.W.specialIn K (.builtin "object.__class__") "__get__" = some (some (.builtin "getset_descriptor.__get__"))) (ht_x : PySem.W.takesIn K (.builtin "object.__class__") = some true)
    {nm_TooGreat q_TooGreat : Str} {N_TooGreat : Addr} {bs_TooGreat bm_TooGreat : List Value} {sn_TooGreat : List Str} {sub_TooGreat : List Value} {ab_TooGreat : Bool} {col_TooGreat : Option Bool} {dd_TooGreat : Option Addr} {m0_TooGreat m1_TooGreat m2_TooGreat m3_TooGreat m5_TooGreat : Option Value}
    (xL_TooGreat : K.lookup C_TooGreat = some (excClassObj nm_TooGreat q_TooGreat C_TooGreat N_TooGreat bs_TooGreat bm_TooGreat true sn_TooGreat sub_TooGreat ab_TooGreat col_TooGreat dd_TooGreat m0_TooGreat m1_TooGreat m2_TooGreat m3_TooGreat m5_TooGreat "ValueError.__new__")) (rv_TooGreat : PySem.HandSPX.refsVE bm_TooGreat = true) (sa_TooGreat : PySem.W.findIn K (.ref C_TooGreat) "__setattr__" = some (some (.builtin "object.__setattr__"))) (nf_TooGreat : PySem.W.findIn K (.ref C_TooGreat) "limit" = some none) (kF_TooGreat : PySem.W.keepIn K (.ref C_TooGreat) = true) (bF_TooGreat : PySem.W.subIn K (.ref C_TooGreat) (.type "BaseException") = some true) (tF_TooGreat : PySem.W.typeIn K (.ref C_TooGreat) = some (.type "type"))
    (hg_TooGreat : PySem.W.findIn K (.ref C_TooGreat) "__getattribute__" = some (some (.builtin "BaseException.__getattribute__"))) (hk_TooGreat : PySem.W.findIn K (.ref C_TooGreat) "__getattr__" = some none) (hd_TooGreat : PySem.W.hasDictIn K C_TooGreat = true) (ha_TooGreat : PySem.W.findIn K (.ref C_TooGreat) "__class__" = some (some (.builtin "object.__class__"))) (hm_TooGreat : PySem.W.mroIn K C_TooGreat (.type "object") = some true)
    (su_TooGreat_TooGreat : PySem.W.subIn K (.ref C_TooGreat) (.ref C_TooGreat) = some true)
    (a1 : PySem.W.nsIn K mainGlobals "step_value" = some (some (.ref f1))) (l1 : K.lookup f1 = some ⟨oc1, od1, .func (PySem.W.fnOf "step_value" "step_value" (defArgs s_p_step_value) (defBody s_p_step_value) (defScope s_p_step_value) .none kV1 dc1 pm1 an1 cd1 ct1), sl1⟩) (c1 : PySem.W.codeIn K cd1 "step_value" = true) (k1 : PySem.W.keepIn K (.ref f1) = true)
    (a2 : PySem.W.nsIn K mainGlobals "values" = some (some (.ref f2))) (l2 : K.lookup f2 = some ⟨oc2, od2, .func (PySem.W.fnOf "values" "values" (defArgs s_p_values) (defBody s_p_values) (defScope s_p_values) .none kV2 dc2 pm2 an2 cd2 ct2), sl2⟩) (c2 : PySem.W.codeIn K cd2 "values" = true) (k2 : PySem.W.keepIn K (.ref f2) = true)
    (a3 : PySem.W.nsIn K mainGlobals "told" = some (some (.ref f3))) (l3 : K.lookup f3 = some ⟨oc3, od3, .func (PySem.W.fnOf "told" "told" (defArgs s_p_told) (defBody s_p_told) (defScope s_p_told) .none kV3 dc3 pm3 an3 cd3 ct3), sl3⟩) (c3 : PySem.W.codeIn K cd3 "told" = true) (k3 : PySem.W.keepIn K (.ref f3) = true)
    (a4 : PySem.W.nsIn K mainGlobals "point_count" = some (some (.ref f4))) (l4 : K.lookup f4 = some ⟨oc4, od4, .func (PySem.W.fnOf "point_count" "point_count" (defArgs s_p_point_count) (defBody s_p_point_count) (defScope s_p_point_count) .none kV4 dc4 pm4 an4 cd4 ct4), sl4⟩) (c4 : PySem.W.codeIn K cd4 "point_count" = true) (k4 : PySem.W.keepIn K (.ref f4) = true)
    (a5 : PySem.W.nsIn K mainGlobals "middle" = some (some (.ref f5))) (l5 : K.lookup f5 = some ⟨oc5, od5, .func (PySem.W.fnOf "middle" "middle" (defArgs s_p_middle) (defBody s_p_middle) (defScope s_p_middle) .none kV5 dc5 pm5 an5 cd5 ct5), sl5⟩) (c5 : PySem.W.codeIn K cd5 "middle" = true) (k5 : PySem.W.keepIn K (.ref f5) = true)
    (a6 : PySem.W.nsIn K mainGlobals "parted" = some (some (.ref f6))) (l6 : K.lookup f6 = some ⟨oc6, od6, .func (PySem.W.fnOf "parted" "parted" (defArgs s_p_parted) (defBody s_p_parted) (defScope s_p_parted) .none kV6 dc6 pm6 an6 cd6 ct6), sl6⟩) (c6 : PySem.W.codeIn K cd6 "parted" = true) (k6 : PySem.W.keepIn K (.ref f6) = true)
    (a7 : PySem.W.nsIn K mainGlobals "contrary" = some (some (.ref f7))) (l7 : K.lookup f7 = some ⟨oc7, od7, .func (PySem.W.fnOf "contrary" "contrary" (defArgs s_p_contrary) (defBody s_p_contrary) (defScope s_p_contrary) .none kV7 dc7 pm7 an7 cd7 ct7), sl7⟩) (c7 : PySem.W.codeIn K cd7 "contrary" = true) (k7 : PySem.W.keepIn K (.ref f7) = true)
    (a8 : PySem.W.nsIn K mainGlobals "summed" = some (some (.ref f8))) (l8 : K.lookup f8 = some ⟨oc8, od8, .func (PySem.W.fnOf "summed" "summed" (defArgs s_p_summed) (defBody s_p_summed) (defScope s_p_summed) .none kV8 dc8 pm8 an8 cd8 ct8), sl8⟩) (c8 : PySem.W.codeIn K cd8 "summed" = true) (k8 : PySem.W.keepIn K (.ref f8) = true)
    (a9 : PySem.W.nsIn K mainGlobals "multiplied" = some (some (.ref f9))) (l9 : K.lookup f9 = some ⟨oc9, od9, .func (PySem.W.fnOf "multiplied" "multiplied" (defArgs s_p_multiplied) (defBody s_p_multiplied) (defScope s_p_multiplied) .none kV9 dc9 pm9 an9 cd9 ct9), sl9⟩) (c9 : PySem.W.codeIn K cd9 "multiplied" = true) (k9 : PySem.W.keepIn K (.ref f9) = true)
    (a10 : PySem.W.nsIn K mainGlobals "step_range" = some (some (.ref f10))) (l10 : K.lookup f10 = some ⟨oc10, od10, .func (PySem.W.fnOf "step_range" "step_range" (defArgs s_p_step_range) (defBody s_p_step_range) (defScope s_p_step_range) .none kV10 dc10 pm10 an10 cd10 ct10), sl10⟩) (c10 : PySem.W.codeIn K cd10 "step_range" = true) (k10 : PySem.W.keepIn K (.ref f10) = true)
    (a11 : PySem.W.nsIn K mainGlobals "step_ranges" = some (some (.ref f11))) (l11 : K.lookup f11 = some ⟨oc11, od11, .func (PySem.W.fnOf "step_ranges" "step_ranges" (defArgs s_p_step_ranges) (defBody s_p_step_ranges) (defScope s_p_step_ranges) .none kV11 dc11 pm11 an11 cd11 ct11), sl11⟩) (c11 : PySem.W.codeIn K cd11 "step_ranges" = true) (k11 : PySem.W.keepIn K (.ref f11) = true)
    (a12 : PySem.W.nsIn K mainGlobals "ranges" = some (some (.ref f12))) (l12 : K.lookup f12 = some ⟨oc12, od12, .func (PySem.W.fnOf "ranges" "ranges" (defArgs s_p_ranges) (defBody s_p_ranges) (defScope s_p_ranges) .none kV12 dc12 pm12 an12 cd12 ct12), sl12⟩) (c12 : PySem.W.codeIn K cd12 "ranges" = true) (k12 : PySem.W.keepIn K (.ref f12) = true)
    (a13 : PySem.W.nsIn K mainGlobals "step_rate_range" = some (some (.ref f13))) (l13 : K.lookup f13 = some ⟨oc13, od13, .func (PySem.W.fnOf "step_rate_range" "step_rate_range" (defArgs s_p_step_rate_range) (defBody s_p_step_rate_range) (defScope s_p_step_rate_range) .none kV13 dc13 pm13 an13 cd13 ct13), sl13⟩) (c13 : PySem.W.codeIn K cd13 "step_rate_range" = true) (k13 : PySem.W.keepIn K (.ref f13) = true)
    (a14 : PySem.W.nsIn K mainGlobals "rates_in" = some (some (.ref f14))) (l14 : K.lookup f14 = some ⟨oc14, od14, .func (PySem.W.fnOf "rates_in" "rates_in" (defArgs s_p_rates_in) (defBody s_p_rates_in) (defScope s_p_rates_in) .none kV14 dc14 pm14 an14 cd14 ct14), sl14⟩) (c14 : PySem.W.codeIn K cd14 "rates_in" = true) (k14 : PySem.W.keepIn K (.ref f14) = true)
    (a15 : PySem.W.nsIn K mainGlobals "rate_ranges" = some (some (.ref f15))) (l15 : K.lookup f15 = some ⟨oc15, od15, .func (PySem.W.fnOf "rate_ranges" "rate_ranges" (defArgs s_p_rate_ranges) (defBody s_p_rate_ranges) (defScope s_p_rate_ranges) .none kV15 dc15 pm15 an15 cd15 ct15), sl15⟩) (c15 : PySem.W.codeIn K cd15 "rate_ranges" = true) (k15 : PySem.W.keepIn K (.ref f15) = true)
    (a16 : PySem.W.nsIn K mainGlobals "by_rates" = some (some (.ref f16))) (l16 : K.lookup f16 = some ⟨oc16, od16, .func (PySem.W.fnOf "by_rates" "by_rates" (defArgs s_p_by_rates) (defBody s_p_by_rates) (defScope s_p_by_rates) .none kV16 dc16 pm16 an16 cd16 ct16), sl16⟩) (c16 : PySem.W.codeIn K cd16 "by_rates" = true) (k16 : PySem.W.keepIn K (.ref f16) = true)
    (a17 : PySem.W.nsIn K mainGlobals "need_few" = some (some (.ref f17))) (l17 : K.lookup f17 = some ⟨oc17, od17, .func (PySem.W.fnOf "need_few" "need_few" (defArgs s_p_need_few) (defBody s_p_need_few) (defScope s_p_need_few) .none kV17 dc17 pm17 an17 cd17 ct17), sl17⟩) (c17 : PySem.W.codeIn K cd17 "need_few" = true) (k17 : PySem.W.keepIn K (.ref f17) = true)
    (a18 : PySem.W.nsIn K mainGlobals "points" = some (some (.ref f18))) (l18 : K.lookup f18 = some ⟨oc18, od18, .func (PySem.W.fnOf "points" "points" (defArgs s_p_points) (defBody s_p_points) (defScope s_p_points) .none kV18 dc18 pm18 an18 cd18 ct18), sl18⟩) (c18 : PySem.W.codeIn K cd18 "points" = true) (k18 : PySem.W.keepIn K (.ref f18) = true)
    (a19 : PySem.W.nsIn K mainGlobals "least" = some (some (.ref f19))) (l19 : K.lookup f19 = some ⟨oc19, od19, .func (PySem.W.fnOf "least" "least" (defArgs s_p_least) (defBody s_p_least) (defScope s_p_least) .none kV19 dc19 pm19 an19 cd19 ct19), sl19⟩) (c19 : PySem.W.codeIn K cd19 "least" = true) (k19 : PySem.W.keepIn K (.ref f19) = true)
    (a20 : PySem.W.nsIn K mainGlobals "greatest" = some (some (.ref f20))) (l20 : K.lookup f20 = some ⟨oc20, od20, .func (PySem.W.fnOf "greatest" "greatest" (defArgs s_p_greatest) (defBody s_p_greatest) (defScope s_p_greatest) .none kV20 dc20 pm20 an20 cd20 ct20), sl20⟩) (c20 : PySem.W.codeIn K cd20 "greatest" = true) (k20 : PySem.W.keepIn K (.ref f20) = true)
    (a21 : PySem.W.nsIn K mainGlobals "signs" = some (some (.ref f21))) (l21 : K.lookup f21 = some ⟨oc21, od21, .func (PySem.W.fnOf "signs" "signs" (defArgs s_p_signs) (defBody s_p_signs) (defScope s_p_signs) .none kV21 dc21 pm21 an21 cd21 ct21), sl21⟩) (c21 : PySem.W.codeIn K cd21 "signs" = true) (k21 : PySem.W.keepIn K (.ref f21) = true)
    (a22 : PySem.W.nsIn K mainGlobals "grown" = some (some (.ref f22))) (l22 : K.lookup f22 = some ⟨oc22, od22, .func (PySem.W.fnOf "grown" "grown" (defArgs s_p_grown) (defBody s_p_grown) (defScope s_p_grown) .none kV22 dc22 pm22 an22 cd22 ct22), sl22⟩) (c22 : PySem.W.codeIn K cd22 "grown" = true) (k22 : PySem.W.keepIn K (.ref f22) = true)
    (a23 : PySem.W.nsIn K mainGlobals "least_paper" = some (some (.ref f23))) (l23 : K.lookup f23 = some ⟨oc23, od23, .func (PySem.W.fnOf "least_paper" "least_paper" (defArgs s_p_least_paper) (defBody s_p_least_paper) (defScope s_p_least_paper) .none kV23 dc23 pm23 an23 cd23 ct23), sl23⟩) (c23 : PySem.W.codeIn K cd23 "least_paper" = true) (k23 : PySem.W.keepIn K (.ref f23) = true)
    (a24 : PySem.W.nsIn K mainGlobals "_law_deck" = some (some (.ref f24))) (l24 : K.lookup f24 = some ⟨oc24, od24, .func (PySem.W.fnOf "_law_deck" "_law_deck" (defArgs s_l_deck) (defBody s_l_deck) (defScope s_l_deck) .none kV24 dc24 pm24 an24 cd24 ct24), sl24⟩) (c24 : PySem.W.codeIn K cd24 "_law_deck" = true) (k24 : PySem.W.keepIn K (.ref f24) = true)
    (a25 : PySem.W.nsIn K mainGlobals "_law_draw" = some (some (.ref f25))) (l25 : K.lookup f25 = some ⟨oc25, od25, .func (PySem.W.fnOf "_law_draw" "_law_draw" (defArgs s_l_draw) (defBody s_l_draw) (defScope s_l_draw) .none kV25 dc25 pm25 an25 cd25 ct25), sl25⟩) (c25 : PySem.W.codeIn K cd25 "_law_draw" = true) (k25 : PySem.W.keepIn K (.ref f25) = true)
    (a26 : PySem.W.nsIn K mainGlobals "_law_one" = some (some (.ref f26))) (l26 : K.lookup f26 = some ⟨oc26, od26, .func (PySem.W.fnOf "_law_one" "_law_one" (defArgs s_l_one) (defBody s_l_one) (defScope s_l_one) .none kV26 dc26 pm26 an26 cd26 ct26), sl26⟩) (c26 : PySem.W.codeIn K cd26 "_law_one" = true) (k26 : PySem.W.keepIn K (.ref f26) = true)
    (a27 : PySem.W.nsIn K mainGlobals "_law_size" = some (some (.ref f27))) (l27 : K.lookup f27 = some ⟨oc27, od27, .func (PySem.W.fnOf "_law_size" "_law_size" (defArgs s_l_size) (defBody s_l_size) (defScope s_l_size) .none kV27 dc27 pm27 an27 cd27 ct27), sl27⟩) (c27 : PySem.W.codeIn K cd27 "_law_size" = true) (k27 : PySem.W.keepIn K (.ref f27) = true)
    (a28 : PySem.W.nsIn K mainGlobals "_law_row" = some (some (.ref f28))) (l28 : K.lookup f28 = some ⟨oc28, od28, .func (PySem.W.fnOf "_law_row" "_law_row" (defArgs s_l_row) (defBody s_l_row) (defScope s_l_row) .none kV28 dc28 pm28 an28 cd28 ct28), sl28⟩) (c28 : PySem.W.codeIn K cd28 "_law_row" = true) (k28 : PySem.W.keepIn K (.ref f28) = true)
    (a29 : PySem.W.nsIn K mainGlobals "_law_far" = some (some (.ref f29))) (l29 : K.lookup f29 = some ⟨oc29, od29, .func (PySem.W.fnOf "_law_far" "_law_far" (defArgs s_l_far) (defBody s_l_far) (defScope s_l_far) .none kV29 dc29 pm29 an29 cd29 ct29), sl29⟩) (c29 : PySem.W.codeIn K cd29 "_law_far" = true) (k29 : PySem.W.keepIn K (.ref f29) = true)
    (a30 : PySem.W.nsIn K mainGlobals "_law_number" = some (some (.ref f30))) (l30 : K.lookup f30 = some ⟨oc30, od30, .func (PySem.W.fnOf "_law_number" "_law_number" (defArgs s_l_number) (defBody s_l_number) (defScope s_l_number) .none kV30 dc30 pm30 an30 cd30 ct30), sl30⟩) (c30 : PySem.W.codeIn K cd30 "_law_number" = true) (k30 : PySem.W.keepIn K (.ref f30) = true)
    (a31 : PySem.W.nsIn K mainGlobals "_law_values" = some (some (.ref f31))) (l31 : K.lookup f31 = some ⟨oc31, od31, .func (PySem.W.fnOf "_law_values" "_law_values" (defArgs s_l_values) (defBody s_l_values) (defScope s_l_values) .none kV31 dc31 pm31 an31 cd31 ct31), sl31⟩) (c31 : PySem.W.codeIn K cd31 "_law_values" = true) (k31 : PySem.W.keepIn K (.ref f31) = true)
    (a32 : PySem.W.nsIn K mainGlobals "_law_told" = some (some (.ref f32))) (l32 : K.lookup f32 = some ⟨oc32, od32, .func (PySem.W.fnOf "_law_told" "_law_told" (defArgs s_l_told) (defBody s_l_told) (defScope s_l_told) .none kV32 dc32 pm32 an32 cd32 ct32), sl32⟩) (c32 : PySem.W.codeIn K cd32 "_law_told" = true) (k32 : PySem.W.keepIn K (.ref f32) = true)
    (a33 : PySem.W.nsIn K mainGlobals "_law_box" = some (some (.ref f33))) (l33 : K.lookup f33 = some ⟨oc33, od33, .func (PySem.W.fnOf "_law_box" "_law_box" (defArgs s_l_box) (defBody s_l_box) (defScope s_l_box) .none kV33 dc33 pm33 an33 cd33 ct33), sl33⟩) (c33 : PySem.W.codeIn K cd33 "_law_box" = true) (k33 : PySem.W.keepIn K (.ref f33) = true)
    (a34 : PySem.W.nsIn K mainGlobals "_law_points" = some (some (.ref f34))) (l34 : K.lookup f34 = some ⟨oc34, od34, .func (PySem.W.fnOf "_law_points" "_law_points" (defArgs s_l_points) (defBody s_l_points) (defScope s_l_points) .none kV34 dc34 pm34 an34 cd34 ct34), sl34⟩) (c34 : PySem.W.codeIn K cd34 "_law_points" = true) (k34 : PySem.W.keepIn K (.ref f34) = true)
    (a35 : PySem.W.nsIn K mainGlobals "_law_told_all" = some (some (.ref f35))) (l35 : K.lookup f35 = some ⟨oc35, od35, .func (PySem.W.fnOf "_law_told_all" "_law_told_all" (defArgs s_l_told_all) (defBody s_l_told_all) (defScope s_l_told_all) .none kV35 dc35 pm35 an35 cd35 ct35), sl35⟩) (c35 : PySem.W.codeIn K cd35 "_law_told_all" = true) (k35 : PySem.W.keepIn K (.ref f35) = true)
    (a36 : PySem.W.nsIn K mainGlobals "_law_is_refused" = some (some (.ref f36))) (l36 : K.lookup f36 = some ⟨oc36, od36, .func (PySem.W.fnOf "_law_is_refused" "_law_is_refused" (defArgs s_l_is_refused) (defBody s_l_is_refused) (defScope s_l_is_refused) .none kV36 dc36 pm36 an36 cd36 ct36), sl36⟩) (c36 : PySem.W.codeIn K cd36 "_law_is_refused" = true) (k36 : PySem.W.keepIn K (.ref f36) = true)
    (a37 : PySem.W.nsIn K mainGlobals "law" = some (some (.ref f37))) (l37 : K.lookup f37 = some ⟨oc37, od37, .func (PySem.W.fnOf "law" "law" (defArgs s_p_law) (defBody s_p_law) (defScope s_p_law) .none kV37 dc37 pm37 an37 (.ref cL) ct37), sl37⟩) (c37 : PySem.W.codeIn K (.ref cL) "law" = true) (k37 : PySem.W.keepIn K (.ref f37) = true)
    (lC : K.lookup cL = some ⟨ocL, odL, .fields vsL, slL⟩) (vC : vsL[11]? = some (.ref TL)) (nC : K.lookup TL = none)
    (a38 : PySem.W.findIn K (.ref C_TooGreat) "__init__" = some (some (.ref f38))) (i38 : PySem.W.typeIn K (.ref f38) = some (.type "function")) (l38 : K.lookup f38 = some ⟨oc38, od38, .func (PySem.W.fnOf "__init__" "TooGreat.__init__" (defArgs s_p_TooGreat_init) (defBody s_p_TooGreat_init) (defScope s_p_TooGreat_init) .none kV38 dc38 pm38 an38 cd38 ct38), sl38⟩) (c38 : PySem.W.codeIn K cd38 "TooGreat.__init__" = true) (k38 : PySem.W.keepIn K (.ref f38) = true)
    (zc : NoDig K)
    (z0 : PySem.W.nsIn K mainGlobals "abs" = some none)
    (z1 : PySem.W.nsIn K mainGlobals "enumerate" = some none)
    (z2 : PySem.W.nsIn K mainGlobals "int" = some none)
    (z3 : PySem.W.nsIn K mainGlobals "len" = some none)
    (z4 : PySem.W.nsIn K mainGlobals "list" = some none)
    (z5 : PySem.W.nsIn K mainGlobals "max" = some none)
    (z6 : PySem.W.nsIn K mainGlobals "min" = some none)
    (z7 : PySem.W.nsIn K mainGlobals "range" = some none)
    (z8 : PySem.W.nsIn K mainGlobals "repr" = some none)
    (z9 : PySem.W.nsIn K mainGlobals "set" = some none)
    (z10 : PySem.W.nsIn K mainGlobals "sorted" = some none)
    (z11 : PySem.W.nsIn K mainGlobals "tuple" = some none)
    (z12 : PySem.W.nsIn K mainGlobals "zip" = some none)
    (y0 : PySem.W.nsIn K mainGlobals "MAX_BOX" = some (some u_MAX_BOX)) (r0 : RelV (.int 2000) u_MAX_BOX)
    : ∃ (fd : FuncData) (c T0 : Addr), PySem.W.tabIn K "law" = some (c, T0) ∧ K.lookup T0 = none ∧ (∀ (s : Shared) (v : Value), BindsTo s fd ⟨[v], []⟩ [("_law_script", v)]) ∧ ∀ base : Heap, K.In base → base.Ns mainGlobals mg → LamX.TabB base mg c T0 → FnG l.prog w K mg base (lvLaw + 1) fa fd ["_law_script"] (spLaw K) := by
  have e := hfa.symm.trans (PySem.W.mg_of X G a37)
  cases e
  have F1 := fun_mk (st := s_p_step_value) l1 c1 k1
  have F2 := fun_mk (st := s_p_values) l2 c2 k2
  have F3 := fun_mk (st := s_p_told) l3 c3 k3
  have F4 := fun_mk (st := s_p_point_count) l4 c4 k4
  have F5 := fun_mk (st := s_p_middle) l5 c5 k5
  have F6 := fun_mk (st := s_p_parted) l6 c6 k6
  have F7 := fun_mk (st := s_p_contrary) l7 c7 k7
  have F8 := fun_mk (st := s_p_summed) l8 c8 k8
  have F9 := fun_mk (st := s_p_multiplied) l9 c9 k9
  have F10 := fun_mk (st := s_p_step_range) l10 c10 k10
  have F11 := fun_mk (st := s_p_step_ranges) l11 c11 k11
  have F12 := fun_mk (st := s_p_ranges) l12 c12 k12
  have F13 := fun_mk (st := s_p_step_rate_range) l13 c13 k13
  have F14 := fun_mk (st := s_p_rates_in) l14 c14 k14
  have F15 := fun_mk (st := s_p_rate_ranges) l15 c15 k15
  have F16 := fun_mk (st := s_p_by_rates) l16 c16 k16
  have F17 := fun_mk (st := s_p_need_few) l17 c17 k17
  have F18 := fun_mk (st := s_p_points) l18 c18 k18
  have F19 := fun_mk (st := s_p_least) l19 c19 k19
  have F20 := fun_mk (st := s_p_greatest) l20 c20 k20
  have F21 := fun_mk (st := s_p_signs) l21 c21 k21
  have F22 := fun_mk (st := s_p_grown) l22 c22 k22
  have F23 := fun_mk (st := s_p_least_paper) l23 c23 k23
  have F24 := fun_mk (st := s_l_deck) l24 c24 k24
  have F25 := fun_mk (st := s_l_draw) l25 c25 k25
  have F26 := fun_mk (st := s_l_one) l26 c26 k26
  have F27 := fun_mk (st := s_l_size) l27 c27 k27
  have F28 := fun_mk (st := s_l_row) l28 c28 k28
  have F29 := fun_mk (st := s_l_far) l29 c29 k29
  have F30 := fun_mk (st := s_l_number) l30 c30 k30
  have F31 := fun_mk (st := s_l_values) l31 c31 k31
  have F32 := fun_mk (st := s_l_told) l32 c32 k32
  have F33 := fun_mk (st := s_l_box) l33 c33 k33
  have F34 := fun_mk (st := s_l_points) l34 c34 k34
  have F35 := fun_mk (st := s_l_told_all) l35 c35 k35
  have F36 := fun_mk (st := s_l_is_refused) l36 c36 k36
  have F37 := fun_mk (st := s_p_law) l37 c37 k37
  have F38 := fun_mk (st := s_p_TooGreat_init) l38 c38 k38
  have exm_TooGreat_TooGreat : PySem.W.exmOne K (.ref C_TooGreat) (.ref C_TooGreat) = some true := PySem.W.exm_ref bF_TooGreat hd_TooGreat tF_TooGreat su_TooGreat_TooGreat
  have T : Txt K mg := ⟨⟨_, _, F1, PySem.W.mg_of X G a1⟩, ⟨_, _, F2, PySem.W.mg_of X G a2⟩, ⟨_, _, F3, PySem.W.mg_of X G a3⟩, ⟨_, _, F4, PySem.W.mg_of X G a4⟩, ⟨_, _, F5, PySem.W.mg_of X G a5⟩, ⟨_, _, F6, PySem.W.mg_of X G a6⟩, ⟨_, _, F7, PySem.W.mg_of X G a7⟩, ⟨_, _, F8, PySem.W.mg_of X G a8⟩, ⟨_, _, F9, PySem.W.mg_of X G a9⟩, ⟨_, _, F10, PySem.W.mg_of X G a10⟩, ⟨_, _, F11, PySem.W.mg_of X G a11⟩, ⟨_, _, F12, PySem.W.mg_of X G a12⟩, ⟨_, _, F13, PySem.W.mg_of X G a13⟩, ⟨_, _, F14, PySem.W.mg_of X G a14⟩, ⟨_, _, F15, PySem.W.mg_of X G a15⟩, ⟨_, _, F16, PySem.W.mg_of X G a16⟩, ⟨_, _, F17, PySem.W.mg_of X G a17⟩, ⟨_, _, F18, PySem.W.mg_of X G a18⟩, ⟨_, _, F19, PySem.W.mg_of X G a19⟩, ⟨_, _, F20, PySem.W.mg_of X G a20⟩, ⟨_, _, F21, PySem.W.mg_of X G a21⟩, ⟨_, _, F22, PySem.W.mg_of X G a22⟩, ⟨_, _, F23, PySem.W.mg_of X G a23⟩, ⟨_, _, F24, PySem.W.mg_of X G a24⟩, ⟨_, _, F25, PySem.W.mg_of X G a25⟩, ⟨_, _, F26, PySem.W.mg_of X G a26⟩, ⟨_, _, F27, PySem.W.mg_of X G a27⟩, ⟨_, _, F28, PySem.W.mg_of X G a28⟩, ⟨_, _, F29, PySem.W.mg_of X G a29⟩, ⟨_, _, F30, PySem.W.mg_of X G a30⟩, ⟨_, _, F31, PySem.W.mg_of X G a31⟩, ⟨_, _, F32, PySem.W.mg_of X G a32⟩, ⟨_, _, F33, PySem.W.mg_of X G a33⟩, ⟨_, _, F34, PySem.W.mg_of X G a34⟩, ⟨_, _, F35, PySem.W.mg_of X G a35⟩, ⟨_, _, F36, PySem.W.mg_of X G a36⟩, ⟨_, _, F37, PySem.W.mg_of X G a37⟩, ⟨C_TooGreat, _, _, F38, PySem.W.mg_of X G aC_TooGreat, aC_TooGreat, ⟨⟨_, _, _, _, _, _, _, _, _, _, _, _, _, _, _, xL_TooGreat, rv_TooGreat⟩, sa_TooGreat, bF_TooGreat, tF_TooGreat, kF_TooGreat⟩, nf_TooGreat, a38, i38⟩, ⟨⟨C_TooGreat, aC_TooGreat, ⟨hg_TooGreat, hk_TooGreat, bF_TooGreat, hd_TooGreat⟩, nf_TooGreat⟩⟩, ⟨⟨C_TooGreat, PySem.W.mg_of X G aC_TooGreat, fun c hc => by simp only [List.mem_cons, List.mem_nil_iff, or_false] at hc; subst hc; exact ⟨C_TooGreat, aC_TooGreat, exm_TooGreat_TooGreat⟩⟩⟩, ⟨⟨_, PySem.W.mg_of X G a19, a19⟩⟩, ⟨⟨_, PySem.W.mg_of X G a20, a20⟩⟩, ⟨⟨_, PySem.W.mg_of X G a21, a21⟩⟩, zc, PySem.W.mg_none_of X G z0, PySem.W.mg_none_of X G z1, PySem.W.mg_none_of X G z2, PySem.W.mg_none_of X G z3, PySem.W.mg_none_of X G z4, PySem.W.mg_none_of X G z5, PySem.W.mg_none_of X G z6, PySem.W.mg_none_of X G z7, PySem.W.mg_none_of X G z8, PySem.W.mg_none_of X G z9, PySem.W.mg_none_of X G z10, PySem.W.mg_none_of X G z11, PySem.W.mg_none_of X G z12, ⟨_, _, PySem.W.mg_of X G y0, r0, fun _ => .int _⟩⟩
  have bD := F24.binds (ps := ["_law_script"]) fun _ _ _ _ _ _ us hl => match us, hl with | [_], _ => rfl
  have tL : PySem.W.tabIn K "law" = some (cL, TL) := by
    unfold PySem.W.tabIn
    rw [a37]
    simp only [l37, lC, vC]
  refine ⟨_, cL, TL, tL, nC, fun s v => .of_eq rfl, fun base _ _ tbl => law_of (N := ["_law_deck_here", "_law_turn", "_law_inputs", "_law_row_here", "_law_wide", "_law_box_here", "_law_points_here", "_law_shown", "_law_end", "_law_known", "_law_high", "_law_first", "_law_kinds", "_law_due", "_law_named", "_law_far_here", "_law_told_here", "_law_point", "_law_value"]) (m := m_law) F37 sc_p_law (by decide) rfl (lawTab_of a37 tL tbl) (fun cdv A outer s H E hr => ?_) (fun cdv A outer s H E LT hG hr => ds_law T LT hG hr) pure_law⟩
  exact ps_set (i := 1) sc_p_law.nd rfl (by first | exact Or.inl rfl | exact Or.inr rfl) (pe_call (k := 1) (ok_deck (k := 0) F24 T.b_abs T.b_len) (hr.mono (by decide)) (by rfl) (PySem.W.mg_of X G a24) F24.kp bD .nil pass0 (pa_cons (pv 0) pa_nil))
end Lw
open PySem PySem.W PyProof.Rows
set_option maxHeartbeats 0 in
theorem PySem.Challenge.cw_rowsback_k61_leasts_holds : PySem.Challenge.rw_rowsback_k61_leasts.Holds := by
  w_on; o_law; k_head; (case hw => w_witness2)
  k_fill
  refine DL.walk_GT (l := PySem.Challenge.rw_rowsback_k61_leasts) (n := 63) (k := Lw.lvLaw + 1) (x := "_law_script") (sp := DL.spLaw) rfl (by decide) rfl ⟨rfl, by decide, by decide⟩ rfl (fun w h Y => PySem.W.kIn_of Y) ?F (fun _ _ a ns hl hT hS => ⟨a, ns, rfl, hS, hl, hT, fun _ => rfl⟩)
  case F =>
    intro w mg fa h KX G hmg
    refine' Lw.all_mk KX G hmg ?aC_RowError ?aC_TooGreat ?hn_x ?ht_x ?xL_TooGreat ?rv_TooGreat ?sa_TooGreat ?nf_TooGreat ?kF_TooGreat ?bF_TooGreat ?tF_TooGreat ?hg_TooGreat ?hk_TooGreat ?hd_TooGreat ?ha_TooGreat ?hm_TooGreat ?su_TooGreat_TooGreat ?a1 ?l1 ?c1 ?k1 ?a2 ?l2 ?c2 ?k2 ?a3 ?l3 ?c3 ?k3 ?a4 ?l4 ?c4 ?k4 ?a5 ?l5 ?c5 ?k5 ?a6 ?l6 ?c6 ?k6 ?a7 ?l7 ?c7 ?k7 ?a8 ?l8 ?c8 ?k8 ?a9 ?l9 ?c9 ?k9 ?a10 ?l10 ?c10 ?k10 ?a11 ?l11 ?c11 ?k11 ?a12 ?l12 ?c12 ?k12 ?a13 ?l13 ?c13 ?k13 ?a14 ?l14 ?c14 ?k14 ?a15 ?l15 ?c15 ?k15 ?a16 ?l16 ?c16 ?k16 ?a17 ?l17 ?c17 ?k17 ?a18 ?l18 ?c18 ?k18 ?a19 ?l19 ?c19 ?k19 ?a20 ?l20 ?c20 ?k20 ?a21 ?l21 ?c21 ?k21 ?a22 ?l22 ?c22 ?k22 ?a23 ?l23 ?c23 ?k23 ?a24 ?l24 ?c24 ?k24 ?a25 ?l25 ?c25 ?k25 ?a26 ?l26 ?c26 ?k26 ?a27 ?l27 ?c27 ?k27 ?a28 ?l28 ?c28 ?k28 ?a29 ?l29 ?c29 ?k29 ?a30 ?l30 ?c30 ?k30 ?a31 ?l31 ?c31 ?k31 ?a32 ?l32 ?c32 ?k32 ?a33 ?l33 ?c33 ?k33 ?a34 ?l34 ?c34 ?k34 ?a35 ?l35 ?c35 ?k35 ?a36 ?l36 ?c36 ?k36 ?a37 ?l37 ?c37 ?k37 ?lC ?vC ?nC ?a38 ?i38 ?l38 ?c38 ?k38 ?zc ?z0 ?z1 ?z2 ?z3 ?z4 ?z5 ?z6 ?z7 ?z8 ?z9 ?z10 ?z11 ?z12 ?y0 ?r0
    (case aC_RowError => k_is); (case aC_TooGreat => k_is); (case hn_x => k_is); (case ht_x => k_is); (case xL_TooGreat => k_is); (case rv_TooGreat => first | rfl | decide +kernel); (case sa_TooGreat => k_is); (case nf_TooGreat => k_is); (case kF_TooGreat => k_is); (case bF_TooGreat => k_is); (case tF_TooGreat => k_is); (case hg_TooGreat => k_is); (case hk_TooGreat => k_is); (case hd_TooGreat => k_is); (case ha_TooGreat => k_is); (case hm_TooGreat => k_is); (case su_TooGreat_TooGreat => first | rfl | k_is); (case a1 => k_is); (case l1 => k_is); (case c1 => k_is); (case k1 => k_is); (case a2 => k_is); (case l2 => k_is); (case c2 => k_is); (case k2 => k_is); (case a3 => k_is); (case l3 => k_is); (case c3 => k_is); (case k3 => k_is); (case a4 => k_is); (case l4 => k_is); (case c4 => k_is); (case k4 => k_is); (case a5 => k_is); (case l5 => k_is); (case c5 => k_is); (case k5 => k_is); (case a6 => k_is); (case l6 => k_is); (case c6 => k_is); (case k6 => k_is); (case a7 => k_is); (case l7 => k_is); (case c7 => k_is); (case k7 => k_is); (case a8 => k_is); (case l8 => k_is); (case c8 => k_is); (case k8 => k_is); (case a9 => k_is); (case l9 => k_is); (case c9 => k_is); (case k9 => k_is); (case a10 => k_is); (case l10 => k_is); (case c10 => k_is); (case k10 => k_is); (case a11 => k_is); (case l11 => k_is); (case c11 => k_is); (case k11 => k_is); (case a12 => k_is); (case l12 => k_is); (case c12 => k_is); (case k12 => k_is); (case a13 => k_is); (case l13 => k_is); (case c13 => k_is); (case k13 => k_is); (case a14 => k_is); (case l14 => k_is); (case c14 => k_is); (case k14 => k_is); (case a15 => k_is); (case l15 => k_is); (case c15 => k_is); (case k15 => k_is); (case a16 => k_is); (case l16 => k_is); (case c16 => k_is); (case k16 => k_is); (case a17 => k_is); (case l17 => k_is); (case c17 => k_is); (case k17 => k_is); (case a18 => k_is); (case l18 => k_is); (case c18 => k_is); (case k18 => k_is); (case a19 => k_is); (case l19 => k_is); (case c19 => k_is); (case k19 => k_is); (case a20 => k_is); (case l20 => k_is); (case c20 => k_is); (case k20 => k_is); (case a21 => k_is); (case l21 => k_is); (case c21 => k_is); (case k21 => k_is); (case a22 => k_is); (case l22 => k_is); (case c22 => k_is); (case k22 => k_is); (case a23 => k_is); (case l23 => k_is); (case c23 => k_is); (case k23 => k_is); (case a24 => k_is); (case l24 => k_is); (case c24 => k_is); (case k24 => k_is); (case a25 => k_is); (case l25 => k_is); (case c25 => k_is); (case k25 => k_is); (case a26 => k_is); (case l26 => k_is); (case c26 => k_is); (case k26 => k_is); (case a27 => k_is); (case l27 => k_is); (case c27 => k_is); (case k27 => k_is); (case a28 => k_is); (case l28 => k_is); (case c28 => k_is); (case k28 => k_is); (case a29 => k_is); (case l29 => k_is); (case c29 => k_is); (case k29 => k_is); (case a30 => k_is); (case l30 => k_is); (case c30 => k_is); (case k30 => k_is); (case a31 => k_is); (case l31 => k_is); (case c31 => k_is); (case k31 => k_is); (case a32 => k_is); (case l32 => k_is); (case c32 => k_is); (case k32 => k_is); (case a33 => k_is); (case l33 => k_is); (case c33 => k_is); (case k33 => k_is); (case a34 => k_is); (case l34 => k_is); (case c34 => k_is); (case k34 => k_is); (case a35 => k_is); (case l35 => k_is); (case c35 => k_is); (case k35 => k_is); (case a36 => k_is); (case l36 => k_is); (case c36 => k_is); (case k36 => k_is); (case a37 => k_is); (case l37 => k_is); (case c37 => k_is); (case k37 => k_is); (case lC => k_is); (case vC => rfl); (case nC => rfl); (case a38 => k_is); (case i38 => k_is); (case l38 => k_is); (case c38 => k_is); (case k38 => k_is); (case zc => (show PySem.W.nsIn _ _ _ = some none; k_is)); (case z0 => k_is); (case z1 => k_is); (case z2 => k_is); (case z3 => k_is); (case z4 => k_is); (case z5 => k_is); (case z6 => k_is); (case z7 => k_is); (case z8 => k_is); (case z9 => k_is); (case z10 => k_is); (case z11 => k_is); (case z12 => k_is); (case y0 => k_is); (case r0 => exact ⟨_, rfl⟩)
