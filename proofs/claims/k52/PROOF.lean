import PyProof.Rows.All
import Wide.All
import OpenK.AllK
import Wide.FinOn
import HandS.ForMost
import HandS.Walk
import HandS.IsInst
import HandS.TupAny
import HandS.TupMul
import HandS.Style
import HandS.Wide
import KE.GoesEnum
import HandS.Zip
import PyProof.StrLawsRepr
import HandS.SortInts
import PyProof.LongRange
import KE.KDictZip
import HandS.ListItems
import HandS.Conv
import HandS.ExcIs
import HandS.ExcOwn
import HandS.TryOnly
import HandS.WordsExc
import HandS.Small
import HandS.SetFor
import PyProof.P3Eq
import PySem.Challenge.RW_rowsback_k52_patterns_judged
set_option Elab.async false
set_option linter.all false
set_option maxRecDepth 100000
set_option maxHeartbeats 4000000
namespace DL
open PySem PySem.Spec PyProof.Rows L2
/-! DL1: data over the abstract heap; the pure state; the judgements. -/
abbrev D := PyData
abbrev St := L2.St
def keyD : Key → D
  | .inl i => .int i
  | .inr x => .str x
mutual
inductive Rp (K : PySem.W.Frag) (H : Hp) : V → D → Prop
  | non : Rp K H .non .none
  | bl (b : Bool) : Rp K H (.bl b) (.bool b)
  | int (i : Int) : Rp K H (.int i) (.int i)
  | str (x : Str) : Rp K H (.str x) (.str x)
  | lst {a : Addr} {vs : List V} {ds : List D} : H a = some (.lst vs) → RpA K H vs ds → Rp K H (.ref a) (.list ds)
  | tup {a : Addr} {vs : List V} {ds : List D} : H a = some (.tup vs) → RpA K H vs ds → Rp K H (.ref a) (.tuple ds)
  | dK {a : Addr} {kvs : List (Key × V)} {ds : List (D × D)} : Rd H a (.dK kvs) → RpK K H kvs ds → Rp K H (.ref a) (.dict ds)
  | dT {a : Addr} {kvs : List (List Key × V)} {ds : List (D × D)} : Rd H a (.dT kvs) → RpT K H kvs ds → Rp K H (.ref a) (.dict ds)
inductive RpA (K : PySem.W.Frag) (H : Hp) : List V → List D → Prop
  | nil : RpA K H [] []
  | cons {v : V} {vs : List V} {d : D} {ds : List D} : Rp K H v d → RpA K H vs ds → RpA K H (v :: vs) (d :: ds)
inductive RpK (K : PySem.W.Frag) (H : Hp) : List (Key × V) → List (D × D) → Prop
  | nil : RpK K H [] []
  | cons {k : Key} {v : V} {r : List (Key × V)} {d : D} {ds : List (D × D)} : Rp K H v d → RpK K H r ds → RpK K H ((k, v) :: r) ((keyD k, d) :: ds)
inductive RpT (K : PySem.W.Frag) (H : Hp) : List (List Key × V) → List (D × D) → Prop
  | nil : RpT K H [] []
  | cons {k : List Key} {v : V} {r : List (List Key × V)} {d : D} {ds : List (D × D)} : Rp K H v d → RpT K H r ds → RpT K H ((k, v) :: r) ((.tuple (k.map keyD), d) :: ds)
end
/-- all that was tracked stays -/
abbrev Grw (H H' : Hp) : Prop := ∀ (a : Addr) (o : HO), H a = some o → H' a = some o
theorem rd_grw {H H' : Hp} {a : Addr} {u : HO} (g : Grw H H') (h : Rd H a u) : Rd H' a u := h.imp (g _ _) fun ⟨o, e⟩ => ⟨o, g _ _ e⟩
theorem Grw.refl (H : Hp) : Grw H H := fun _ _ h => h
theorem Grw.trans {H H1 H2 : Hp} (a : Grw H H1) (b : Grw H1 H2) : Grw H H2 := fun x o h => b x o (a x o h)
theorem Grw.new {H : Hp} {p : Addr} {o : HO} (h : H p = none) : Grw H (upd H p o) := fun a u e => by
  rw [upd_ne (ne_of_none e h)]; exact e
theorem SqT.grw {K : PySem.W.Frag} {H H' : Hp} {a : Addr} {xs : List V} (g : Grw H H') (h : SqT K H a xs) : SqT K H' a xs := by
  rcases h with (h | ⟨o, h⟩) | h
  · exact .inl (.inl (g _ _ h))
  · exact .inl (.inr ⟨o, g _ _ h⟩)
  · exact .inr h
mutual
theorem Rp.mono {K : PySem.W.Frag} {H H' : Hp} (g : Grw H H') : ∀ {v : V} {d : D}, Rp K H v d → Rp K H' v d
  | _, _, .non => .non
  | _, _, .bl b => .bl b
  | _, _, .int i => .int i
  | _, _, .str x => .str x
  | _, _, .lst h r => .lst (g _ _ h) (RpA.mono g r)
  | _, _, .tup h r => .tup (g _ _ h) (RpA.mono g r)
  | _, _, .dK h r => .dK (rd_grw g h) (RpK.mono g r)
  | _, _, .dT h r => .dT (rd_grw g h) (RpT.mono g r)
theorem RpA.mono {K : PySem.W.Frag} {H H' : Hp} (g : Grw H H') : ∀ {v : List V} {d : List D}, RpA K H v d → RpA K H' v d
  | _, _, .nil => .nil
  | _, _, .cons a b => .cons (Rp.mono g a) (RpA.mono g b)
theorem RpK.mono {K : PySem.W.Frag} {H H' : Hp} (g : Grw H H') : ∀ {v : List (Key × V)} {d : List (D × D)}, RpK K H v d → RpK K H' v d
  | _, _, .nil => .nil
  | _, _, .cons a b => .cons (Rp.mono g a) (RpK.mono g b)
theorem RpT.mono {K : PySem.W.Frag} {H H' : Hp} (g : Grw H H') : ∀ {v : List (List Key × V)} {d : List (D × D)}, RpT K H v d → RpT K H' v d
  | _, _, .nil => .nil
  | _, _, .cons a b => .cons (Rp.mono g a) (RpT.mono g b)
end
theorem RpA.length {K : PySem.W.Frag} {H : Hp} : ∀ {vs : List V} {ds : List D}, RpA K H vs ds → vs.length = ds.length
  | _, _, .nil => rfl
  | _, _, .cons _ r => by simp [RpA.length r]
theorem RpA.get {K : PySem.W.Frag} {H : Hp} : ∀ {vs : List V} {ds : List D} {i : Nat} {d : D}, RpA K H vs ds → ds[i]? = some d → ∃ v, vs[i]? = some v ∧ Rp K H v d
  | _, _, _, _, .nil, e => by simp at e
  | _, _, 0, _, .cons h _, e => by simp at e; subst e; exact ⟨_, rfl, h⟩
  | _, _, i + 1, d, .cons _ r, e => by
    obtain ⟨v, h1, h2⟩ := RpA.get (i := i) r (by simpa using e)
    exact ⟨v, by simpa using h1, h2⟩
theorem RpA.getv {K : PySem.W.Frag} {H : Hp} : ∀ {vs : List V} {ds : List D} {i : Nat} {v : V}, RpA K H vs ds → vs[i]? = some v → ∃ d, ds[i]? = some d ∧ Rp K H v d
  | _, _, _, _, .nil, e => by simp at e
  | _, _, 0, _, .cons h _, e => by simp at e; subst e; exact ⟨_, rfl, h⟩
  | _, _, i + 1, d, .cons _ r, e => by
    obtain ⟨v, h1, h2⟩ := RpA.getv (i := i) r (by simpa using e)
    exact ⟨v, by simpa using h1, h2⟩
theorem RpA.append {K : PySem.W.Frag} {H : Hp} : ∀ {vs us : List V} {ds es : List D}, RpA K H vs ds → RpA K H us es → RpA K H (vs ++ us) (ds ++ es)
  | _, _, _, _, .nil, r => r
  | _, _, _, _, .cons h t, r => .cons h (RpA.append t r)
theorem RpA.take {K : PySem.W.Frag} {H : Hp} : ∀ {vs : List V} {ds : List D} (n : Nat), RpA K H vs ds → RpA K H (vs.take n) (ds.take n)
  | _, _, 0, _ => .nil
  | _, _, _ + 1, .nil => .nil
  | _, _, n + 1, .cons h t => .cons h (RpA.take n t)
theorem RpA.drop {K : PySem.W.Frag} {H : Hp} : ∀ {vs : List V} {ds : List D} (n : Nat), RpA K H vs ds → RpA K H (vs.drop n) (ds.drop n)
  | _, _, 0, h => h
  | _, _, _ + 1, .nil => .nil
  | _, _, n + 1, .cons _ t => RpA.drop n t
theorem RpA.reverse {K : PySem.W.Frag} {H : Hp} : ∀ {vs : List V} {ds : List D}, RpA K H vs ds → RpA K H vs.reverse ds.reverse
  | _, _, .nil => .nil
  | _, _, .cons h t => by
    rw [List.reverse_cons, List.reverse_cons]
    exact RpA.append (RpA.reverse t) (.cons h .nil)
theorem RpA.set {K : PySem.W.Frag} {H : Hp} {v : V} {d : D} (h : Rp K H v d) : ∀ {vs : List V} {ds : List D} (n : Nat), RpA K H vs ds → RpA K H (vs.set n v) (ds.set n d)
  | _, _, _, .nil => .nil
  | _, _, 0, .cons _ t => .cons h t
  | _, _, n + 1, .cons q t => .cons q (RpA.set h n t)
theorem RpA.rep {K : PySem.W.Frag} {H : Hp} {vs : List V} {ds : List D} (h : RpA K H vs ds) : ∀ n : Nat, RpA K H (List.replicate n vs).flatten (List.replicate n ds).flatten
  | 0 => .nil
  | n + 1 => by
    rw [List.replicate_succ, List.replicate_succ, List.flatten_cons, List.flatten_cons]
    exact h.append (RpA.rep h n)
theorem RpA.ints {K : PySem.W.Frag} {H : Hp} : ∀ ns : List Int, RpA K H (ns.map V.int) (ns.map PyData.int)
  | [] => .nil
  | n :: r => .cons (.int n) (RpA.ints r)

/-! ### what is reserved is hidden -/
open Classical in
noncomputable def mask (P : Addr → Prop) (H : Hp) : Hp := fun a => if P a then none else H a
theorem mask_some {P : Addr → Prop} {H : Hp} {a : Addr} {o : HO} : mask P H a = some o ↔ ¬ P a ∧ H a = some o := by
  unfold mask
  by_cases h : P a
  · simp [h]
  · simp [h]
theorem mask_grw {P P' : Addr → Prop} {H H' : Hp} (h : ∀ a o, H a = some o → ¬ P a → ¬ P' a ∧ H' a = some o) : Grw (mask P H) (mask P' H') := fun a o e => by
  obtain ⟨h1, h2⟩ := mask_some.mp e
  exact mask_some.mpr (h a o h2 h1)
theorem mask_le {P : Addr → Prop} {H : Hp} : Grw (mask P H) H := fun _ _ e => (mask_some.mp e).2

/-! ### the pure state -/
structure Dk where
  great : List Int
  cells : List Int
  n : Int
/-- a field of an object: data, or a list of its own -/
inductive OV where
  | dat (d : D)
  | lst (ds : List D)
structure Ob where
  cls : Str
  fs : List (Str × OV)
inductive Val where
  | dat (d : D)
  | lst (ds : List D)
  | dct (t : Bool) (kvs : List (D × D))
  | deck
  | obj (o : Ob)
structure S where
  g : List (Option Val)
  k : Dk
abbrev M (α : Type) := S → Option (α × S)
/-- where an object stands: itself, its dict, its class, the lists of its own -/
structure OA where
  p : Addr
  q : Addr
  C : Addr
  ls : List Addr
structure DA where
  o : Addr
  g : Addr
  c : Addr
  x : Option OA
def OA.is (y : OA) (a : Addr) : Prop := a = y.p ∨ a = y.q ∨ a ∈ y.ls
def DA.is (A : DA) (a : Addr) : Prop := a = A.o ∨ a = A.g ∨ a = A.c ∨ ∃ y, A.x = some y ∧ y.is a
/-- without the object -/
def DA.no (A : DA) : DA := ⟨A.o, A.g, A.c, none⟩
theorem DA.no_is {A : DA} {a : Addr} (h : A.no.is a) : A.is a := by
  rcases h with h | h | h | ⟨y, h, _⟩
  · exact .inl h
  · exact .inr (.inl h)
  · exact .inr (.inr (.inl h))
  · cases h
inductive FldsOk (K : PySem.W.Frag) (P : Addr → Prop) (H : Hp) : List (Str × V) → List (Str × OV) → List Addr → Prop
  | nil : FldsOk K P H [] [] []
  | dat {f : Str} {v : V} {d : D} {fs : List (Str × V)} {o : List (Str × OV)} {ls : List Addr} : Rp K (mask P H) v d → FldsOk K P H fs o ls → FldsOk K P H ((f, v) :: fs) ((f, .dat d) :: o) ls
  | lst {f : Str} {l : Addr} {vs : List V} {ds : List D} {fs : List (Str × V)} {o : List (Str × OV)} {ls : List Addr} : H l = some (.lst vs) → RpA K (mask P H) vs ds → FldsOk K P H fs o ls → FldsOk K P H ((f, .ref l) :: fs) ((f, .lst ds) :: o) (l :: ls)
theorem FldsOk.move {K : PySem.W.Frag} {P P' : Addr → Prop} {H H' : Hp} {fs : List (Str × V)} {o : List (Str × OV)} {ls : List Addr} (g : Grw (mask P H) (mask P' H')) (h : FldsOk K P H fs o ls) (k : ∀ l ∈ ls, ∀ u, H l = some u → H' l = some u) : FldsOk K P' H' fs o ls := by
  induction h with
  | nil => exact .nil
  | dat r _ ih => exact .dat (r.mono g) (ih k)
  | lst e r _ ih => exact .lst (k _ (List.mem_cons_self ..) _ e) (r.mono g) (ih fun l hl => k l (List.mem_cons_of_mem _ hl))
/-- the object of y holds o -/
def ObOk (K : PySem.W.Frag) (y : OA) (A : DA) (P : Addr → Prop) (H : Hp) (o : Ob) : Prop := ∃ fs, H y.p = some (.ins y.C y.q fs) ∧ H y.q = some (.own y.p) ∧ FldsOk K P H fs o.fs y.ls ∧ fs.length ≤ 900 ∧ y.ls.Nodup ∧ (∀ l ∈ y.ls, l ≠ A.o ∧ l ≠ A.g ∧ l ≠ A.c) ∧ PySem.W.nsIn K mainGlobals o.cls = some (some (.ref y.C))
theorem ObOk.move {K : PySem.W.Frag} {y : OA} {A : DA} {P P' : Addr → Prop} {H H' : Hp} {o : Ob} (h : ObOk K y A P H o) (g : Grw (mask P H) (mask P' H')) (k : ∀ a, y.is a → ∀ u, H a = some u → H' a = some u) : ObOk K y A P' H' o := by
  obtain ⟨fs, h1, h2, h3, h4, h5, h6, h7⟩ := h
  exact ⟨fs, k _ (.inl rfl) _ h1, k _ (.inr (.inl rfl)) _ h2, h3.move g fun l hl => k l (.inr (.inr hl)), h4, h5, h6, h7⟩
structure DkOk (A : DA) (P : Addr → Prop) (H : Hp) (k : Dk) : Prop where
  ho : H A.o = some (.lst [.ref A.g, .ref A.c, .int k.n])
  hg : H A.g = some (.lst (k.great.map V.int))
  hc : H A.c = some (.lst (k.cells.map V.int))
  rs : ∀ a, A.is a → P a
  og : A.o ≠ A.g
  oc : A.o ≠ A.c
  gc : A.g ≠ A.c
/-- one slot -/
def SlotOk (K : PySem.W.Frag) (A : DA) (hid P : Addr → Prop) (H : Hp) (x : Option (Option V)) : Val → Prop
  | .dat d => ∃ v, x = some (some v) ∧ Rp K (mask P H) v d
  | .lst ds => ∃ a vs, x = some (some (.ref a)) ∧ H a = some (.lst vs) ∧ P a ∧ ¬ hid a ∧ ¬ A.is a ∧ RpA K (mask P H) vs ds
  | .dct t kvs => ∃ a, x = some (some (.ref a)) ∧ P a ∧ ¬ hid a ∧ ¬ A.is a ∧ ((t = false ∧ ∃ ks, H a = some (.dK ks) ∧ RpK K (mask P H) ks kvs) ∨ t = true ∧ ∃ ks, H a = some (.dT ks) ∧ RpT K (mask P H) ks kvs)
  | .deck => x = some (some (.ref A.o))
  | .obj o => ∃ y, A.x = some y ∧ x = some (some (.ref y.p)) ∧ ObOk K y A P H o
def isCell : Val → Bool
  | .lst _ | .dct _ _ => true
  | _ => false
/-- no tuple -/
def NoT : HO → Prop
  | .tup _ => False
  | _ => True
structure SOk (K : PySem.W.Frag) (A : DA) (hid P : Addr → Prop) (s : S) (σ : St) (H : Hp) : Prop where
  trk : ∀ a, P a → ∃ o, H a = some o ∧ NoT o
  hp : ∀ a, hid a → P a
  hd : ∀ a, hid a → ¬ A.is a
  len : s.g.length = σ.length
  slot : ∀ (i : Nat) (v : Val), s.g[i]? = some (some v) → SlotOk K A hid P H σ[i]? v
  apart : ∀ (i j : Nat) (v w : Val) (a : Addr), s.g[i]? = some (some v) → s.g[j]? = some (some w) → isCell v = true → isCell w = true → σ[i]? = some (some (.ref a)) → σ[j]? = some (some (.ref a)) → i = j
  deck : DkOk A P H s.k
/-- what stays on the way -/
structure Stp (hid P P' : Addr → Prop) (H H' : Hp) : Prop where
  keep : ∀ a o, H a = some o → (hid a ∨ ¬ P a) → H' a = some o
  vis : ∀ a o, H a = some o → ¬ P a → ¬ P' a
theorem Stp.refl {hid P : Addr → Prop} {H : Hp} : Stp hid P P H H := ⟨fun _ _ h _ => h, fun _ _ _ h => h⟩
theorem Stp.trans {hid P P1 P2 : Addr → Prop} {H H1 H2 : Hp} (a : Stp hid P P1 H H1) (b : Stp hid P1 P2 H1 H2) : Stp hid P P2 H H2 :=
  ⟨fun x o h c => b.keep x o (a.keep x o h c) (c.imp (fun z => z) fun z => a.vis x o h z), fun x o h c => b.vis x o (a.keep x o h (.inr c)) (a.vis x o h c)⟩
theorem Stp.grw {hid P : Addr → Prop} {H H' : Hp} (g : Grw H H') : Stp hid P P H H' := ⟨fun a o h _ => g a o h, fun _ _ _ h => h⟩
theorem Stp.mg {hid P P' : Addr → Prop} {H H' : Hp} (a : Stp hid P P' H H') : Grw (mask P H) (mask P' H') := mask_grw fun x o h c => ⟨a.vis x o h c, a.keep x o h (.inr c)⟩
theorem Stp.rp {K : PySem.W.Frag} {hid P P' : Addr → Prop} {H H' : Hp} {v : V} {d : D} (a : Stp hid P P' H H') (h : Rp K (mask P H) v d) : Rp K (mask P' H') v d := h.mono a.mg
theorem Stp.rpA {K : PySem.W.Frag} {hid P P' : Addr → Prop} {H H' : Hp} {v : List V} {d : List D} (a : Stp hid P P' H H') (h : RpA K (mask P H) v d) : RpA K (mask P' H') v d := h.mono a.mg
theorem grw_mask {P : Addr → Prop} {H H' : Hp} (g : Grw H H') : Grw (mask P H) (mask P H') := mask_grw fun x o h c => ⟨c, g x o h⟩
theorem DkOk.grw {A : DA} {P : Addr → Prop} {H H' : Hp} {k : Dk} (h : DkOk A P H k) (g : Grw H H') : DkOk A P H' k := ⟨g _ _ h.ho, g _ _ h.hg, g _ _ h.hc, h.rs, h.og, h.oc, h.gc⟩
theorem SlotOk.grw {K : PySem.W.Frag} {A : DA} {hid P : Addr → Prop} {H H' : Hp} {x : Option (Option V)} {v : Val} (g : Grw H H') (h : SlotOk K A hid P H x v) : SlotOk K A hid P H' x v := by
  cases v with
  | dat d => obtain ⟨u, e, r⟩ := h; exact ⟨u, e, r.mono (grw_mask g)⟩
  | lst ds => obtain ⟨a, vs, e, h1, h2, h3, h4, r⟩ := h; exact ⟨a, vs, e, g _ _ h1, h2, h3, h4, r.mono (grw_mask g)⟩
  | dct t kvs =>
    obtain ⟨a, e, h2, h3, h4, r⟩ := h
    refine ⟨a, e, h2, h3, h4, ?_⟩
    rcases r with ⟨ht, ks, h1, r⟩ | ⟨ht, ks, h1, r⟩
    · exact .inl ⟨ht, ks, g _ _ h1, r.mono (grw_mask g)⟩
    · exact .inr ⟨ht, ks, g _ _ h1, r.mono (grw_mask g)⟩
  | deck => exact h
  | obj o => obtain ⟨y, h1, h2, h3⟩ := h; exact ⟨y, h1, h2, h3.move (grw_mask g) fun a _ u e => g _ _ e⟩
theorem SOk.grw {K : PySem.W.Frag} {A : DA} {hid P : Addr → Prop} {s : S} {σ : St} {H H' : Hp} (h : SOk K A hid P s σ H) (g : Grw H H') : SOk K A hid P s σ H' :=
  ⟨fun a p => let ⟨o, e, n⟩ := h.trk a p; ⟨o, g _ _ e, n⟩, h.hp, h.hd, h.len, fun i v e => (h.slot i v e).grw g, h.apart, h.deck.grw g⟩
theorem SOk.free {K : PySem.W.Frag} {A : DA} {hid P : Addr → Prop} {s : S} {σ : St} {H : Hp} (h : SOk K A hid P s σ H) {p : Addr} (e : H p = none) : ¬ P p := fun z => by
  obtain ⟨o, q, _⟩ := h.trk p z
  rw [e] at q; cases q
theorem mask_new {P : Addr → Prop} {H : Hp} {p : Addr} {o : HO} (h : ¬ P p) : mask P (upd H p o) p = some o := mask_some.mpr ⟨h, upd_same⟩

/-! ### the judgements -/
def EvE (K : PySem.W.Frag) (t : TE) (f : M D) : Prop := ∀ (A : DA) (hid P : Addr → Prop) (s : S) (σ : St) (H : Hp) (d : D) (s' : S), SOk K A hid P s σ H → f s = some (d, s') →
  ∀ Q : VK, (∀ v P' H', SOk K A hid P' s' σ H' → Stp hid P P' H H' → Rp K (mask P' H') v d → Q v H') → t σ H Q
def EvT (K : PySem.W.Frag) (t : TT) (f : M Bool) : Prop := ∀ (A : DA) (hid P : Addr → Prop) (s : S) (σ : St) (H : Hp) (b : Bool) (s' : S), SOk K A hid P s σ H → f s = some (b, s') →
  ∀ Q : Bool → Hp → Prop, (∀ P' H', SOk K A hid P' s' σ H' → Stp hid P P' H H' → Q b H') → t σ H Q
def EvA (K : PySem.W.Frag) (t : TA) (f : M (List D)) : Prop := ∀ (A : DA) (hid P : Addr → Prop) (s : S) (σ : St) (H : Hp) (ds : List D) (s' : S), SOk K A hid P s σ H → f s = some (ds, s') →
  ∀ Q : List V → Hp → Prop, (∀ vs P' H', SOk K A hid P' s' σ H' → Stp hid P P' H H' → RpA K (mask P' H') vs ds → Q vs H') → t σ H Q
inductive Fl where
  | nx | rt (d : D) | bk | ct
def FlOk (K : PySem.W.Frag) (A : DA) (hid P : Addr → Prop) (H : Hp) (s' : S) (D : Ends) : Fl → Prop
  | .nx => ∀ σ' P' H', SOk K A hid P' s' σ' H' → Stp hid P P' H H' → D.nx σ' H'
  | .rt d => ∀ v σ' P' H', SOk K A hid P' s' σ' H' → Stp hid P P' H H' → Rp K (mask P' H') v d → D.rt v H'
  | .bk => ∀ σ' P' H', SOk K A hid P' s' σ' H' → Stp hid P P' H H' → D.bk σ' H'
  | .ct => ∀ σ' P' H', SOk K A hid P' s' σ' H' → Stp hid P P' H H' → D.ct σ' H'
def EvS (K : PySem.W.Frag) (t : TS) (f : M Fl) : Prop := ∀ (A : DA) (hid P : Addr → Prop) (s : S) (σ : St) (H : Hp) (fl : Fl) (s' : S), SOk K A hid P s σ H → f s = some (fl, s') →
  ∀ D : Ends, FlOk K A hid P H s' D fl → t D σ H
theorem FlOk.back {K : PySem.W.Frag} {A : DA} {hid P P1 : Addr → Prop} {H H1 : Hp} {s' : S} {D : Ends} {fl : Fl} (h : FlOk K A hid P H s' D fl) (z : Stp hid P P1 H H1) : FlOk K A hid P1 H1 s' D fl := by
  cases fl with
  | nx => exact fun σ' P' H' o e => h σ' P' H' o (z.trans e)
  | rt d => exact fun v σ' P' H' o e r => h v σ' P' H' o (z.trans e) r
  | bk => exact fun σ' P' H' o e => h σ' P' H' o (z.trans e)
  | ct => exact fun σ' P' H' o e => h σ' P' H' o (z.trans e)
structure DE (X : Cx) (e : Expr) (t : TE) (f : M D) : Prop where
  p : PE X e t
  v : EvE X.K t f
structure DT (X : Cx) (e : Expr) (t : TT) (f : M Bool) : Prop where
  p : PT X e t
  v : EvT X.K t f
structure DW (X : Cx) (e : Expr) (t : TT) (f : M Bool) : Prop where
  p : PW X e t
  v : EvT X.K t f
structure DAr (X : Cx) (es : List Expr) (t : TA) (f : M (List D)) : Prop where
  p : PA X es t
  v : EvA X.K t f
structure DS (X : Cx) (st : Stmt) (t : TS) (f : M Fl) : Prop where
  p : PS X st t
  v : EvS X.K t f
structure DSs (X : Cx) (st : List Stmt) (t : TS) (f : M Fl) : Prop where
  p : PSs X st t
  v : EvS X.K t f
end DL


namespace DL
open PySem PySem.Spec PyProof.Rows L2
/-! DL2: operators over data. -/
def lim : Nat := 1000000
theorem lim_le {n : Nat} (h : n ≤ lim) : n ≤ sizeLine := by rw [sizeLine_eq]; unfold lim at h; omega
theorem lim_lt {n : Nat} (h : n ≤ lim) : n < sizeLine := by rw [sizeLine_eq]; unfold lim at h; omega
abbrev Trk (P : Addr → Prop) (H : Hp) : Prop := ∀ a, P a → ∃ o, H a = some o ∧ NoT o
theorem Trk.free {P : Addr → Prop} {H : Hp} (h : Trk P H) {p : Addr} (e : H p = none) : ¬ P p := fun z => by
  obtain ⟨o, q, _⟩ := h p z
  rw [e] at q; cases q
/-- a two-place reading does what the partial function tells -/
def DO2 (K : PySem.W.Frag) (r : R2) (op : D → D → Option D) : Prop := ∀ (P : Addr → Prop) (H : Hp) (x y : V) (dx dy d : D), Trk P H → Rp K (mask P H) x dx → Rp K (mask P H) y dy → op dx dy = some d →
  ∀ Q : VK, (∀ z H', Grw H H' → Rp K (mask P H') z d → Q z H') → r x y H Q
def DO1 (K : PySem.W.Frag) (r : V → Hp → VK → Prop) (op : D → Option D) : Prop := ∀ (P : Addr → Prop) (H : Hp) (x : V) (dx d : D), Trk P H → Rp K (mask P H) x dx → op dx = some d →
  ∀ Q : VK, (∀ z H', Grw H H' → Rp K (mask P H') z d → Q z H') → r x H Q
def DOC (K : PySem.W.Frag) (r : List V → Hp → VK → Prop) (op : List D → Option D) : Prop := ∀ (P : Addr → Prop) (H : Hp) (xs : List V) (ds : List D) (d : D), Trk P H → RpA K (mask P H) xs ds → op ds = some d →
  ∀ Q : VK, (∀ z H', Grw H H' → Rp K (mask P H') z d → Q z H') → r xs H Q
def rOr (r r' : R2) : R2 := fun x y H Q => r x y H Q ∨ r' x y H Q
theorem op_or {X : Cx} {f : Value → Value → Sem Value} {r r' : R2} (h : OpR X f r) (h' : OpR X f r') : OpR X f (rOr r r') := by
  intro pins s σ H x y v u Q I rx ry q
  rcases q with q | q
  · exact h pins s σ H x y v u Q I rx ry q
  · exact h' pins s σ H x y v u Q I rx ry q
theorem rp_newT {K : PySem.W.Frag} {P : Addr → Prop} {H : Hp} {p : Addr} {vs : List V} {ds : List D} (t : Trk P H) (h : H p = none) (r : RpA K (mask P H) vs ds) : Rp K (mask P (upd H p (.tup vs))) (.ref p) (.tuple ds) :=
  .tup (mask_new (t.free h)) (r.mono (grw_mask (Grw.new h)))
theorem rp_newL {K : PySem.W.Frag} {P : Addr → Prop} {H : Hp} {p : Addr} {vs : List V} {ds : List D} (t : Trk P H) (h : H p = none) (r : RpA K (mask P H) vs ds) : Rp K (mask P (upd H p (.lst vs))) (.ref p) (.list ds) :=
  .lst (mask_new (t.free h)) (r.mono (grw_mask (Grw.new h)))
/-- what data at a value tells -/
theorem Rp.int_inv {K : PySem.W.Frag} {H : Hp} {v : V} {i : Int} (h : Rp K H v (.int i)) : v = .int i := by cases h; rfl
theorem Rp.bl_inv {K : PySem.W.Frag} {H : Hp} {v : V} {b : Bool} (h : Rp K H v (.bool b)) : v = .bl b := by cases h; rfl
theorem Rp.str_inv {K : PySem.W.Frag} {H : Hp} {v : V} {x : Str} (h : Rp K H v (.str x)) : v = .str x := by cases h; rfl
theorem Rp.non_inv {K : PySem.W.Frag} {H : Hp} {v : V} (h : Rp K H v .none) : v = .non := by cases h; rfl
theorem Rp.tup_inv {K : PySem.W.Frag} {H : Hp} {v : V} {ds : List D} (h : Rp K H v (.tuple ds)) : ∃ a vs, v = .ref a ∧ SqT K H a vs ∧ RpA K H vs ds := by
  cases h with
  | tup h r => exact ⟨_, _, rfl, SqT.of h, r⟩
theorem Rp.lst_inv {K : PySem.W.Frag} {H : Hp} {v : V} {ds : List D} (h : Rp K H v (.list ds)) : ∃ a vs, v = .ref a ∧ H a = some (.lst vs) ∧ RpA K H vs ds := by
  cases h with
  | lst h r => exact ⟨_, _, rfl, h, r⟩
theorem sqT_le {K : PySem.W.Frag} {P : Addr → Prop} {H : Hp} {a : Addr} {vs : List V} (h : SqT K (mask P H) a vs) : SqT K H a vs := SqT.grw mask_le h
/-! ### + - * // % ** -/
def dAdd : D → D → Option D
  | .int i, .int j => some (.int (i + j))
  | .tuple a, .tuple b => if a.length + b.length ≤ lim then some (.tuple (a ++ b)) else none
  | .list a, .list b => if a.length + b.length ≤ lim then some (.list (a ++ b)) else none
  | .str a, .str b => if a.length + b.length ≤ lim then some (.str (a ++ b)) else none
  | _, _ => none
def rAddS : R2 := fun x y H Q => ∃ i j, x = .str i ∧ y = .str j ∧ i.length + j.length ≤ sizeLine ∧ Q (.str (i ++ j)) H
def rAddD (K : PySem.W.Frag) : R2 := rOr (rI0 fun i j => .int (i + j)) (rOr (rCatA K) (rOr rCat rAddS))
theorem op_addD {X : Cx} : OpR X (binaryOp .Add) (rAddD X.K) := op_or op_add (op_or op_catA (op_or op_cat op_add_str))
theorem do_add {K : PySem.W.Frag} : DO2 K (rAddD K) dAdd := by
  intro P H x y dx dy d t hx hy e Q q
  unfold dAdd at e
  split at e
  · rename_i i j
    cases e; cases hx; cases hy
    exact .inl ⟨_, _, rfl, rfl, q _ H (Grw.refl H) (.int _)⟩
  · rename_i a b
    split at e
    · rename_i hl
      cases e
      obtain ⟨a1, vs, rfl, h1, r1⟩ := hx.tup_inv
      obtain ⟨b1, us, rfl, h2, r2⟩ := hy.tup_inv
      refine .inr (.inl ⟨a1, b1, vs, us, rfl, rfl, sqT_le h1, sqT_le h2, ?_, fun z => ?_, fun _ z => ?_, fun _ _ p hp => ?_⟩)
      · rw [r1.length, r2.length]; exact lim_le hl
      · subst z; cases r1
        exact q _ H (Grw.refl H) hy
      · subst z; cases r2
        rw [List.append_nil] at q
        exact q _ H (Grw.refl H) hx
      · exact q _ _ (Grw.new hp) (rp_newT t hp (r1.append r2))
    · cases e
  · rename_i a b
    split at e
    · rename_i hl
      cases e
      obtain ⟨a1, vs, rfl, h1, r1⟩ := hx.lst_inv
      obtain ⟨b1, us, rfl, h2, r2⟩ := hy.lst_inv
      refine .inr (.inr (.inl ⟨a1, b1, vs, us, rfl, rfl, mask_le _ _ h1, mask_le _ _ h2, ?_, fun p hp => ?_⟩))
      · rw [r1.length, r2.length]; exact lim_le hl
      · exact q _ _ (Grw.new hp) (rp_newL t hp (r1.append r2))
    · cases e
  · rename_i a b
    split at e
    · rename_i hl
      cases e; cases hx; cases hy
      exact .inr (.inr (.inr ⟨a, b, rfl, rfl, lim_le hl, q _ H (Grw.refl H) (.str _)⟩))
    · cases e
  · cases e
def dI2 (g : Int → Int → Option D) : D → D → Option D
  | .int i, .int j => g i j
  | _, _ => none
theorem dI2_some {g : Int → Int → Option D} {x y d : D} (h : dI2 g x y = some d) : ∃ i j, x = .int i ∧ y = .int j ∧ g i j = some d := by
  unfold dI2 at h
  split at h
  · exact ⟨_, _, rfl, rfl, h⟩
  · cases h
theorem do_I0 {K : PySem.W.Frag} {g : Int → Int → V} {g' : Int → Int → Option D} (h : ∀ i j d, g' i j = some d → ∀ H, Rp K H (g i j) d) : DO2 K (rI0 g) (dI2 g') := by
  intro P H x y dx dy d t hx hy e Q q
  obtain ⟨i, j, rfl, rfl, e⟩ := dI2_some e
  exact ⟨i, j, hx.int_inv, hy.int_inv, q _ H (Grw.refl H) (h i j d e _)⟩
theorem do_I {K : PySem.W.Frag} {C : Int → Int → Prop} {g : Int → Int → V} {g' : Int → Int → Option D} (h : ∀ i j d, g' i j = some d → C i j ∧ ∀ H, Rp K H (g i j) d) : DO2 K (rI C g) (dI2 g') := by
  intro P H x y dx dy d t hx hy e Q q
  obtain ⟨i, j, rfl, rfl, e⟩ := dI2_some e
  exact ⟨i, j, hx.int_inv, hy.int_inv, (h i j d e).1, q _ H (Grw.refl H) ((h i j d e).2 _)⟩
def dSub : D → D → Option D := dI2 fun i j => some (.int (i - j))
theorem do_sub {K : PySem.W.Frag} : DO2 K (rI0 fun i j => .int (i - j)) dSub := do_I0 fun i j d e H => by cases e; exact .int _
def dMod : D → D → Option D := dI2 fun i j => if j = 0 then none else some (.int (i.fmod j))
theorem do_mod {K : PySem.W.Frag} : DO2 K (rI (fun _ j => j ≠ 0) fun i j => .int (i.fmod j)) dMod := do_I fun i j d e => by
  split at e
  · cases e
  · rename_i h; cases e; exact ⟨h, fun _ => .int _⟩
def dDiv : D → D → Option D := dI2 fun i j => if 0 < j ∧ j.natAbs.log2 < 9000 then some (.int (i / j)) else none
theorem do_div {K : PySem.W.Frag} : DO2 K (rI CDivW fun i j => .int (i / j)) dDiv := do_I fun i j d e => by
  split at e
  · rename_i h; cases e; exact ⟨h, fun _ => .int _⟩
  · cases e
def dPow : D → D → Option D := dI2 fun i j => if 0 ≤ j ∧ j ≤ 1000 ∧ i.natAbs < 1000000 then some (.int (i ^ j.toNat)) else none
theorem do_pow {K : PySem.W.Frag} : DO2 K (rI CPow fun i j => .int (i ^ j.toNat)) dPow := do_I fun i j d e => by
  split at e
  · rename_i h; cases e; exact ⟨⟨h.1, by omega, by omega⟩, fun _ => .int _⟩
  · cases e
/-! ### comparisons -/
def dLt : D → D → Option D := dI2 fun i j => some (.bool (decide (i < j)))
def dLe : D → D → Option D := dI2 fun i j => some (.bool (decide (i ≤ j)))
def dGt : D → D → Option D := dI2 fun i j => some (.bool (decide (j < i)))
def dGe : D → D → Option D := dI2 fun i j => some (.bool (decide (j ≤ i)))
theorem do_lt {K : PySem.W.Frag} : DO2 K (rI0 fun i j => .bl (decide (i < j))) dLt := do_I0 fun i j d e H => by cases e; exact .bl _
theorem do_le {K : PySem.W.Frag} : DO2 K (rI0 fun i j => .bl (decide (i ≤ j))) dLe := do_I0 fun i j d e H => by cases e; exact .bl _
theorem do_gt {K : PySem.W.Frag} : DO2 K (rI0 fun i j => .bl (decide (j < i))) dGt := do_I0 fun i j d e H => by cases e; exact .bl _
theorem do_ge {K : PySem.W.Frag} : DO2 K (rI0 fun i j => .bl (decide (j ≤ i))) dGe := do_I0 fun i j d e H => by cases e; exact .bl _
mutual
theorem Rp.dp {K : PySem.W.Frag} {H : Hp} : ∀ {v : V} {d : D}, Rp K H v d → d.canLay0 = true → Dp K H v d
  | _, _, .non, _ => .non
  | _, _, .bl b, _ => .bl b
  | _, _, .int i, _ => .int i
  | _, _, .str x, _ => .str x
  | _, _, .lst h r, c => .lst (SqL.of h) (RpA.dp r (by simpa [PyData.canLay0] using c))
  | _, _, .tup h r, c => .tup (SqT.of h) (RpA.dp r (by simpa [PyData.canLay0] using c))
  | _, _, .dK _ _, c => by simp [PyData.canLay0] at c
  | _, _, .dT _ _, c => by simp [PyData.canLay0] at c
theorem RpA.dp {K : PySem.W.Frag} {H : Hp} : ∀ {v : List V} {d : List D}, RpA K H v d → PyData.canLayAll0 d = true → DpAll K H v d
  | _, _, .nil, _ => .nil
  | _, _, .cons a b, c => by
    rw [PyData.canLayAll0, Bool.and_eq_true] at c
    exact .cons (Rp.dp a c.1) (RpA.dp b c.2)
end
def dEq (x y : D) : Option D := match x, y with
  | .str a, .str b => some (.bool (a == b))
  | x, y => if SeqAt.shaped x = true ∧ SeqAt.shaped y = true then some (.bool (PyData.eqv x y)) else none
def dNe (x y : D) : Option D := match x, y with
  | .str a, .str b => some (.bool (!(a == b)))
  | x, y => if SeqAt.shaped x = true ∧ SeqAt.shaped y = true then some (.bool (!PyData.eqv x y)) else none
def rEqS (K : PySem.W.Frag) : R2 := rOr rEq (rEqD K)
def rNeS (K : PySem.W.Frag) : R2 := rOr rNe (rNeD K)
theorem do_eq {K : PySem.W.Frag} : DO2 K (rEqS K) dEq := by
  intro P H x y dx dy d t hx hy e Q q
  unfold dEq at e
  split at e
  · cases e
    cases hx; cases hy
    exact .inl ⟨rfl, by rw [dec_str]; exact q _ H (Grw.refl H) (.bl _)⟩
  · split at e
    · rename_i h; cases e
      exact .inr ⟨dx, dy, (hx.mono mask_le).dp (SeqAt.canLay_of_shaped h.1), (hy.mono mask_le).dp (SeqAt.canLay_of_shaped h.2), h.1, h.2, q _ H (Grw.refl H) (.bl _)⟩
    · cases e
theorem do_ne {K : PySem.W.Frag} : DO2 K (rNeS K) dNe := by
  intro P H x y dx dy d t hx hy e Q q
  unfold dNe at e
  split at e
  · cases e
    cases hx; cases hy
    exact .inl ⟨rfl, by rw [dec_str]; exact q _ H (Grw.refl H) (.bl _)⟩
  · split at e
    · rename_i h; cases e
      exact .inr ⟨dx, dy, (hx.mono mask_le).dp (SeqAt.canLay_of_shaped h.1), (hy.mono mask_le).dp (SeqAt.canLay_of_shaped h.2), h.1, h.2, q _ H (Grw.refl H) (.bl _)⟩
    · cases e
def isNone : D → Bool
  | .none => true
  | _ => false
theorem Rp.isNon {K : PySem.W.Frag} {H : Hp} {v : V} {d : D} (h : Rp K H v d) : decide (v = .non) = isNone d := by
  cases h <;> rfl
def dIs (x y : D) : Option D := if isNone y = true then some (.bool (isNone x)) else none
def dIsNot (x y : D) : Option D := if isNone y = true then some (.bool (!isNone x)) else none
abbrev rIsN : R2 := fun x y H Q => y = .non ∧ Q (.bl (decide (x = .non))) H
abbrev rNotN : R2 := fun x y H Q => y = .non ∧ Q (.bl (!decide (x = .non))) H
theorem do_is {K : PySem.W.Frag} : DO2 K rIsN dIs := by
  intro P H x y dx dy d t hx hy e Q q
  unfold dIs at e
  split at e
  · rename_i h; cases e
    have e1 := hy.isNon
    rw [h] at e1
    refine ⟨of_decide_eq_true e1, ?_⟩
    rw [hx.isNon]
    exact q _ H (Grw.refl H) (.bl _)
  · cases e
theorem do_isNot {K : PySem.W.Frag} : DO2 K rNotN dIsNot := by
  intro P H x y dx dy d t hx hy e Q q
  unfold dIsNot at e
  split at e
  · rename_i h; cases e
    have e1 := hy.isNon
    rw [h] at e1
    refine ⟨of_decide_eq_true e1, ?_⟩
    rw [hx.isNon]
    exact q _ H (Grw.refl H) (.bl _)
  · cases e
/-! ### in, not in, of flat things -/
def flatD : D → Bool
  | .none | .bool _ | .int _ | .str _ => true
  | _ => false
theorem Rp.flat {K : PySem.W.Frag} {H : Hp} {v : V} {d : D} (h : Rp K H v d) : flatV v = flatD d := by cases h <;> rfl
theorem RpA.flat {K : PySem.W.Frag} {H : Hp} : ∀ {v : List V} {d : List D}, RpA K H v d → v.all flatV = d.all flatD
  | _, _, .nil => rfl
  | _, _, .cons a b => by rw [List.all_cons, List.all_cons, a.flat, RpA.flat b]
theorem Rp.eqF {K : PySem.W.Frag} {H : Hp} {v u : V} {d e : D} (h : Rp K H v d) (h' : Rp K H u e) (fd : flatD d = true) (fe : flatD e = true) : eqV v u = PyData.eqv d e := by
  cases h <;> first | (cases fd; done) | skip
  all_goals (cases h' <;> first | (cases fe; done) | (simp only [eqV, PyData.eqv]))
def inD (x : D) (ys : List D) : Bool := ys.any fun y => PyData.eqv y x
theorem RpA.inF {K : PySem.W.Frag} {H : Hp} {v : V} {d : D} (h : Rp K H v d) (fd : flatD d = true) : ∀ {us : List V} {es : List D}, RpA K H us es → es.all flatD = true → inV v us = inD d es
  | _, _, .nil, _ => rfl
  | _, _, .cons a b, f => by
    rw [List.all_cons, Bool.and_eq_true] at f
    have ih := RpA.inF h fd b f.2
    unfold inV inD at ih ⊢
    rw [List.any_cons, List.any_cons, ih, a.eqF h f.1 fd]
def dInB (x y : D) : Option Bool := match y with
  | .list ys => if flatD x && ys.all flatD then some (inD x ys) else none
  | .tuple ys => if flatD x && ys.all flatD then some (inD x ys) else none
  | _ => none
def dIn (x y : D) : Option D := (dInB x y).map fun b => .bool b
def dNotIn (x y : D) : Option D := (dInB x y).map fun b => .bool (!b)
theorem dInB_ok {K : PySem.W.Frag} {P : Addr → Prop} {H : Hp} {x y : V} {dx dy : D} {b : Bool} (hx : Rp K (mask P H) x dx) (hy : Rp K (mask P H) y dy) (e : dInB dx dy = some b) :
    ∃ p xs, y = .ref p ∧ (SqL K H p xs ∨ SqT K H p xs) ∧ flatV x = true ∧ xs.all flatV = true ∧ inV x xs = b := by
  unfold dInB at e
  split at e
  · split at e
    · rename_i h; cases e
      rw [Bool.and_eq_true] at h
      obtain ⟨a, vs, rfl, h1, r⟩ := hy.lst_inv
      exact ⟨a, vs, rfl, .inl (SqL.of (mask_le _ _ h1)), by rw [hx.flat]; exact h.1, by rw [r.flat]; exact h.2, r.inF hx h.1 h.2⟩
    · cases e
  · split at e
    · rename_i h; cases e
      rw [Bool.and_eq_true] at h
      obtain ⟨a, vs, rfl, h1, r⟩ := hy.tup_inv
      exact ⟨a, vs, rfl, .inr (sqT_le h1), by rw [hx.flat]; exact h.1, by rw [r.flat]; exact h.2, r.inF hx h.1 h.2⟩
    · cases e
  · cases e
theorem do_in {K : PySem.W.Frag} : DO2 K (rIn K false) dIn := by
  intro P H x y dx dy d t hx hy e Q q
  unfold dIn at e
  cases hb : dInB dx dy with
  | none => rw [hb] at e; cases e
  | some b =>
    rw [hb] at e; cases e
    obtain ⟨p, xs, e1, e2, e3, e4, e5⟩ := dInB_ok hx hy hb
    refine ⟨p, xs, e1, e2, e3, e4, ?_⟩
    rw [e5]
    exact q _ H (Grw.refl H) (.bl _)
theorem do_notIn {K : PySem.W.Frag} : DO2 K (rIn K true) dNotIn := by
  intro P H x y dx dy d t hx hy e Q q
  unfold dNotIn at e
  cases hb : dInB dx dy with
  | none => rw [hb] at e; cases e
  | some b =>
    rw [hb] at e; cases e
    obtain ⟨p, xs, e1, e2, e3, e4, e5⟩ := dInB_ok hx hy hb
    refine ⟨p, xs, e1, e2, e3, e4, ?_⟩
    rw [e5]
    exact q _ H (Grw.refl H) (.bl _)
/-! ### x[i] -/
def dIx : D → D → Option D
  | .list a, .int i => atI a i
  | .tuple a, .int i => atI a i
  | _, _ => none
theorem RpA.atI {K : PySem.W.Frag} {H : Hp} {vs : List V} {ds : List D} {i : Int} {d : D} (r : RpA K H vs ds) (h : L2.atI ds i = some d) : ∃ v, L2.atI vs i = some v ∧ Rp K H v d := by
  unfold L2.atI at h ⊢
  rw [r.length]
  cases e : ixN ds.length i with
  | none => rw [e] at h; cases h
  | some j =>
    rw [e] at h
    obtain ⟨v, h1, h2⟩ := r.get (i := j) h
    exact ⟨v, h1, h2⟩
theorem do_ix {K : PySem.W.Frag} : DO2 K (rIx K) dIx := by
  intro P H x y dx dy d t hx hy e Q q
  unfold dIx at e
  split at e
  · obtain ⟨a, vs, rfl, h1, r⟩ := hx.lst_inv
    obtain ⟨v, h2, h3⟩ := r.atI e
    exact .inl ⟨a, vs, _, v, rfl, hy.int_inv, SqL.of (mask_le _ _ h1), h2, q _ H (Grw.refl H) h3⟩
  · obtain ⟨a, vs, rfl, h1, r⟩ := hx.tup_inv
    obtain ⟨v, h2, h3⟩ := r.atI e
    exact .inr (.inl ⟨a, vs, _, v, rfl, hy.int_inv, sqT_le h1, h2, q _ H (Grw.refl H) h3⟩)
  · cases e
/-! ### calls of built-ins -/
def rOrC (r r' : List V → Hp → VK → Prop) : List V → Hp → VK → Prop := fun xs H Q => r xs H Q ∨ r' xs H Q
theorem call_or {X : Cx} {f : Value} {r r' : List V → Hp → VK → Prop} (h : CallR X f r) (h' : CallR X f r') : CallR X f (rOrC r r') := by
  intro pins s σ H xs us Q I rx q
  rcases q with q | q
  · exact h pins s σ H xs us Q I rx q
  · exact h' pins s σ H xs us Q I rx q
theorem RpA.one {K : PySem.W.Frag} {H : Hp} {vs : List V} {d : D} (r : RpA K H vs [d]) : ∃ v, vs = [v] ∧ Rp K H v d := by
  cases r with
  | cons h t => cases t; exact ⟨_, rfl, h⟩
theorem RpA.two {K : PySem.W.Frag} {H : Hp} {vs : List V} {d e : D} (r : RpA K H vs [d, e]) : ∃ v u, vs = [v, u] ∧ Rp K H v d ∧ Rp K H u e := by
  cases r with
  | cons h t => obtain ⟨u, rfl, h'⟩ := t.one; exact ⟨_, _, rfl, h, h'⟩
def dLen : List D → Option D
  | [.list a] => some (.int a.length)
  | [.tuple a] => some (.int a.length)
  | [.str x] => if x.length ≤ lim then some (.int x.length) else none
  | _ => none
abbrev rLenQ (K : PySem.W.Frag) : List V → Hp → VK → Prop := fun xs H Q => ∃ p ys, xs = [.ref p] ∧ (SqL K H p ys ∨ SqT K H p ys) ∧ Q (.int ys.length) H
abbrev rLenZ : List V → Hp → VK → Prop := fun xs H Q => ∃ z, xs = [.str z] ∧ z.length ≤ sizeLine ∧ Q (.int z.length) H
theorem call_lenD {X : Cx} : CallR X (.builtin "len") (rOrC (rLenQ X.K) rLenZ) := call_or call_len_seq call_len_str
theorem do_len {K : PySem.W.Frag} : DOC K (rOrC (rLenQ K) rLenZ) dLen := by
  intro P H xs ds d t r e Q q
  unfold dLen at e
  split at e
  · cases e
    obtain ⟨v, rfl, h⟩ := r.one
    obtain ⟨a, vs, rfl, h1, r1⟩ := h.lst_inv
    refine .inl ⟨a, vs, rfl, .inl (SqL.of (mask_le _ _ h1)), ?_⟩
    rw [r1.length]
    exact q _ H (Grw.refl H) (.int _)
  · cases e
    obtain ⟨v, rfl, h⟩ := r.one
    obtain ⟨a, vs, rfl, h1, r1⟩ := h.tup_inv
    refine .inl ⟨a, vs, rfl, .inr (sqT_le h1), ?_⟩
    rw [r1.length]
    exact q _ H (Grw.refl H) (.int _)
  · split at e
    · rename_i hl; cases e
      obtain ⟨v, rfl, h⟩ := r.one
      cases h
      exact .inr ⟨_, rfl, lim_le hl, q _ H (Grw.refl H) (.int _)⟩
    · cases e
  · cases e
def dInt : List D → Option D
  | [.int i] => some (.int i)
  | [.bool b] => some (.int (if b then 1 else 0))
  | _ => none
abbrev rInt1 : List V → Hp → VK → Prop := fun xs H Q => (∃ i, xs = [.int i] ∧ Q (.int i) H) ∨ ∃ k, xs = [.bl k] ∧ Q (.int (if k then 1 else 0)) H
theorem do_int {K : PySem.W.Frag} : DOC K rInt1 dInt := by
  intro P H xs ds d t r e Q q
  unfold dInt at e
  split at e
  · cases e
    obtain ⟨v, rfl, h⟩ := r.one
    cases h
    exact .inl ⟨_, rfl, q _ H (Grw.refl H) (.int _)⟩
  · cases e
    obtain ⟨v, rfl, h⟩ := r.one
    cases h
    exact .inr ⟨_, rfl, q _ H (Grw.refl H) (.int _)⟩
  · cases e
def dBool : List D → Option D
  | [.int i] => some (.bool (i != 0))
  | [.bool b] => some (.bool b)
  | _ => none
abbrev rBool1 : List V → Hp → VK → Prop := fun xs H Q => (∃ i, xs = [.int i] ∧ Q (.bl (i != 0)) H) ∨ ∃ k, xs = [.bl k] ∧ Q (.bl k) H
theorem do_bool {K : PySem.W.Frag} : DOC K rBool1 dBool := by
  intro P H xs ds d t r e Q q
  unfold dBool at e
  split at e
  · cases e
    obtain ⟨v, rfl, h⟩ := r.one
    cases h
    exact .inl ⟨_, rfl, q _ H (Grw.refl H) (.bl _)⟩
  · cases e
    obtain ⟨v, rfl, h⟩ := r.one
    cases h
    exact .inr ⟨_, rfl, q _ H (Grw.refl H) (.bl _)⟩
  · cases e
def dStr : List D → Option D
  | [.int i] => if i.natAbs.log2 < 1920 then some (.str (toString i : Str)) else none
  | _ => none
abbrev rStr1 : List V → Hp → VK → Prop := fun xs H Q => ∃ i, xs = [.int i] ∧ i.natAbs.log2 < 1920 ∧ Q (.str (toString i)) H
theorem do_str {K : PySem.W.Frag} : DOC K rStr1 dStr := by
  intro P H xs ds d t r e Q q
  unfold dStr at e
  split at e
  · split at e
    · rename_i hl; cases e
      obtain ⟨v, rfl, h⟩ := r.one
      cases h
      exact ⟨_, rfl, hl, q _ H (Grw.refl H) (.str _)⟩
    · cases e
  · cases e
def dAbs : List D → Option D
  | [.int i] => some (.int (if i < 0 then -i else i))
  | _ => none
abbrev rAbs1 : List V → Hp → VK → Prop := fun xs H Q => ∃ i, xs = [.int i] ∧ Q (.int (if i < 0 then -i else i)) H
theorem do_abs {K : PySem.W.Frag} : DOC K rAbs1 dAbs := by
  intro P H xs ds d t r e Q q
  unfold dAbs at e
  split at e
  · cases e
    obtain ⟨v, rfl, h⟩ := r.one
    cases h
    exact ⟨_, rfl, q _ H (Grw.refl H) (.int _)⟩
  · cases e
def dMin2 : List D → Option D
  | [.int i, .int j] => some (.int (if j < i then j else i))
  | _ => none
def dMax2 : List D → Option D
  | [.int i, .int j] => some (.int (if j > i then j else i))
  | _ => none
abbrev rMin2 : List V → Hp → VK → Prop := fun xs H Q => ∃ i j, xs = [.int i, .int j] ∧ Q (.int (if j < i then j else i)) H
abbrev rMax2 : List V → Hp → VK → Prop := fun xs H Q => ∃ i j, xs = [.int i, .int j] ∧ Q (.int (if j > i then j else i)) H
theorem do_min2 {K : PySem.W.Frag} : DOC K rMin2 dMin2 := by
  intro P H xs ds d t r e Q q
  unfold dMin2 at e
  split at e
  · cases e
    obtain ⟨v, u, rfl, h, h'⟩ := r.two
    cases h; cases h'
    exact ⟨_, _, rfl, q _ H (Grw.refl H) (.int _)⟩
  · cases e
theorem do_max2 {K : PySem.W.Frag} : DOC K rMax2 dMax2 := by
  intro P H xs ds d t r e Q q
  unfold dMax2 at e
  split at e
  · cases e
    obtain ⟨v, u, rfl, h, h'⟩ := r.two
    cases h; cases h'
    exact ⟨_, _, rfl, q _ H (Grw.refl H) (.int _)⟩
  · cases e
def dListOf : List D → Option D
  | [.list a] => some (.list a)
  | [.tuple a] => some (.list a)
  | _ => none
abbrev rListOf (K : PySem.W.Frag) : List V → Hp → VK → Prop := fun xs H Q => ∃ p ys, xs = [.ref p] ∧ (SqL K H p ys ∨ SqT K H p ys) ∧ ∀ l, H l = none → Q (.ref l) (upd H l (.lst ys))
theorem do_listOf {K : PySem.W.Frag} : DOC K (rListOf K) dListOf := by
  intro P H xs ds d t r e Q q
  unfold dListOf at e
  split at e
  · cases e
    obtain ⟨v, rfl, h⟩ := r.one
    obtain ⟨a, vs, rfl, h1, r1⟩ := h.lst_inv
    exact ⟨a, vs, rfl, .inl (SqL.of (mask_le _ _ h1)), fun l hl => q _ _ (Grw.new hl) (rp_newL t hl r1)⟩
  · cases e
    obtain ⟨v, rfl, h⟩ := r.one
    obtain ⟨a, vs, rfl, h1, r1⟩ := h.tup_inv
    exact ⟨a, vs, rfl, .inr (sqT_le h1), fun l hl => q _ _ (Grw.new hl) (rp_newL t hl r1)⟩
  · cases e
def dTupleOf : List D → Option D
  | [.list a] => some (.tuple a)
  | [.tuple a] => some (.tuple a)
  | _ => none
abbrev rTupleOf (K : PySem.W.Frag) : List V → Hp → VK → Prop := fun xs H Q => ∃ p ys, xs = [.ref p] ∧ ((SqL K H p ys ∧ ∀ l, H l = none → Q (.ref l) (upd H l (.tup ys))) ∨ (SqT K H p ys ∧ Q (.ref p) H))
theorem do_tupleOf {K : PySem.W.Frag} : DOC K (rTupleOf K) dTupleOf := by
  intro P H xs ds d t r e Q q
  unfold dTupleOf at e
  split at e
  · cases e
    obtain ⟨v, rfl, h⟩ := r.one
    obtain ⟨a, vs, rfl, h1, r1⟩ := h.lst_inv
    exact ⟨a, vs, rfl, .inl ⟨SqL.of (mask_le _ _ h1), fun l hl => q _ _ (Grw.new hl) (rp_newT t hl r1)⟩⟩
  · cases e
    obtain ⟨v, rfl, h⟩ := r.one
    obtain ⟨a, vs, rfl, h1, r1⟩ := h.tup_inv
    exact ⟨a, vs, rfl, .inr ⟨sqT_le h1, q _ H (Grw.refl H) h⟩⟩
  · cases e
/-! ### isinstance -/
def tyD : D → String
  | .none => "NoneType"
  | .bool _ => "bool"
  | .int _ => "int"
  | .str _ => "str"
  | .list _ => "list"
  | .tuple _ => "tuple"
  | .dict _ => "dict"
/-- the type of a value; a dict that is held still, too -/
inductive TyY (K : PySem.W.Frag) (H : Hp) : V → Value → Prop where
  | of {x : V} {t : Value} (h : TyX K H x t) : TyY K H x t
  | fT {a : Addr} {o : Obj} {kvs : List (List Key × V)} (e : H a = some (.frz o (.dT kvs))) : TyY K H (.ref a) (.type "dict")
theorem kit_ofY {X : Cx} {pins : List (Addr × Obj)} {σ : L2.St} {H : Hp} {s : Shared} {x : V} {u t : Value} (I : Inv X pins σ H s) (rx : RelV x u) (ty : TyY X.K H x t) : ∃ P : Heap → Prop, PySem.W.KitX X.K u t P ∧ P s.heap ∧ u ≠ .builtin "__main__.__loader__#opaque" := by
  cases ty with
  | of h => exact kit_of I rx h
  | @fT a ob kvs ea =>
    cases (show u = Value.ref a from rx)
    obtain ⟨_, _, _, xs, _, o, es, ep, h1, h2, _⟩ := (show ObjOk X.prog X.w H s.heap a (.frz ob (.dT kvs)) from I.hok a _ ea)
    exact ⟨_, PySem.W.kitx_dict, ⟨o, h1, h2.1⟩, fun z => nomatch z⟩
def rIsiY (K : PySem.W.Frag) : List V → Hp → VK → Prop := fun xs H Q => ∃ (x c : V) (t u : Value) (b : Bool), xs = [x, c] ∧ ClsV c u ∧ TyY K H x t ∧ PySem.W.kitOne K t u = some b ∧ Q (.bl b) H
theorem call_isiY {X : Cx} : CallR X (.builtin "isinstance") (rIsiY X.K) := by
  intro pins s σ H xs us Q I r h
  obtain ⟨x, c, t, u, b, rfl, k, ty, e, q⟩ := h
  obtain ⟨u1, u2, rfl, r1, r2⟩ := vals2 r
  have e2 := k.eq r2
  subst e2
  obtain ⟨P, Z, p, hx⟩ := kit_ofY I r1 ty
  exact PySem.W.kia_one Z I.kIn p e hx fun tk => ⟨.bl b, H, I.tok tk, rfl, q⟩
theorem Rp.ty {K : PySem.W.Frag} {P : Addr → Prop} {H : Hp} {v : V} {d : D} (h : Rp K (mask P H) v d) : TyY K H v (.type (tyD d)) := by
  cases h with
  | non => exact .of (.base .non)
  | bl b => exact .of (.base (.bl b))
  | int i => exact .of (.base (.int i))
  | str x => exact .of (.base (.str x))
  | lst h r => exact .of (.base (.lst (mask_le _ _ h)))
  | tup h r => exact .of (.base (.tup (mask_le _ _ h)))
  | dK h r =>
    rcases rd_grw mask_le h with z | ⟨o, z⟩
    · exact .of (.base (.dK z))
    · exact .of (.fDict z)
  | dT h r =>
    rcases rd_grw mask_le h with z | ⟨o, z⟩
    · exact .of (.base (.dT z))
    · exact .fT z
/-- isinstance(x, T) for a built-in T that is told: int, bool, str, list, tuple, dict -/
def isiT (T s : String) : Bool := s == T || (s == "bool" && T == "int")
def isiD (T : String) (d : D) : Bool := isiT T (tyD d)
theorem isi_ok {K : PySem.W.Frag} {T : String} (hT : T ∈ ["int", "bool", "str", "list", "tuple", "dict"]) (d : D) : PySem.W.kitOne K (.type (tyD d)) (.type T) = some (isiD T d) := by
  have h : ∀ a ∈ ["NoneType", "int", "bool", "str", "list", "tuple", "dict"], ∀ b ∈ ["int", "bool", "str", "list", "tuple", "dict"], kitB a b = some (isiT b a) := by decide +kernel
  refine kit_ty (h _ ?_ _ hT)
  cases d <;> simp [tyD]
end DL


namespace DL
open PySem PySem.Spec PyProof.Rows L2
/-! DL3: expressions and tests. -/
def bd {α β : Type} (m : M α) (f : α → M β) : M β := fun s => match m s with
  | some (a, s1) => f a s1
  | none => none
def rtn {α : Type} (a : α) : M α := fun s => some (a, s)
def lf {α : Type} (o : Option α) : M α := fun s => match o with
  | some a => some (a, s)
  | none => none
theorem bd_some {α β : Type} {m : M α} {f : α → M β} {s : S} {r : β × S} (h : bd m f s = some r) : ∃ a s1, m s = some (a, s1) ∧ f a s1 = some r := by
  unfold bd at h
  split at h
  · exact ⟨_, _, by assumption, h⟩
  · cases h
theorem lf_some {α : Type} {o : Option α} {s s' : S} {a : α} (h : lf o s = some (a, s')) : o = some a ∧ s' = s := by
  unfold lf at h
  split at h
  · cases h; exact ⟨rfl, rfl⟩
  · cases h
theorem rtn_some {α : Type} {a b : α} {s s' : S} (h : rtn a s = some (b, s')) : b = a ∧ s' = s := by
  unfold rtn at h; cases h; exact ⟨rfl, rfl⟩
section
variable {X : Cx} {K : PySem.W.Frag} {e a b c : Expr} {ta tb tc te : TE} {fa fb fc f : M D} {pos : Pos}
/-! ### names, constants -/
def eVar (i : Nat) : M D := fun s => match s.g[i]? with
  | some (some (.dat d)) => some (d, s)
  | _ => none
theorem eVar_some {i : Nat} {s s' : S} {d : D} (h : eVar i s = some (d, s')) : s.g[i]? = some (some (.dat d)) ∧ s' = s := by
  unfold eVar at h
  split at h
  · cases h; exact ⟨by assumption, rfl⟩
  · cases h
theorem ev_var {i : Nat} : EvE K (tVar i) (eVar i) := by
  intro A hid P s σ H d s' ok h Q q
  obtain ⟨h1, rfl⟩ := eVar_some h
  obtain ⟨v, e, r⟩ := ok.slot i _ h1
  exact ⟨v, e, q v P H ok Stp.refl r⟩
theorem de_var (i : Nat) {x : Str} {pos : Pos} (hN : X.N[i]? = some x := by rfl) (hv : Vis X.env.scope x := by first | exact Or.inl rfl | exact Or.inr (Or.inl rfl) | exact Or.inr (Or.inr rfl)) (hd : (x == ("__debug__" : Str)) = false := by decide)
    (hcd : (x == ("__classdict__" : Str)) = false := by decide) : DE X (.Name x pos) (tVar i) (eVar i) := ⟨pe_var hN hv hd hcd, ev_var⟩
def eC (d : D) : M D := rtn d
theorem ev_c {v : V} {d : D} (h : ∀ H, Rp K H v d) : EvE K (tC v) (eC d) := by
  intro A hid P s σ H d' s' ok e Q q
  obtain ⟨rfl, rfl⟩ := rtn_some e
  exact q v P H ok Stp.refl (h _)
theorem de_int {i : Int} {j pos} : DE X (.Constant (.int i) j pos) (tC (.int i)) (eC (.int i)) := ⟨pe_int, ev_c fun _ => .int i⟩
theorem de_bl {b : Bool} {j pos} : DE X (.Constant (.bool b) j pos) (tC (.bl b)) (eC (.bool b)) := ⟨pe_bl, ev_c fun _ => .bl b⟩
theorem de_non {j pos} : DE X (.Constant .none j pos) (tC .non) (eC .none) := ⟨pe_non, ev_c fun _ => .non⟩
theorem de_str {x : Str} {j pos} : DE X (.Constant (.str x) j pos) (tC (.str x)) (eC (.str x)) := ⟨pe_str, ev_c fun _ => .str x⟩
theorem de_glob {x : Str} {v : V} {u : Value} {d : D} (hg : Gl X x) (hm : X.mg x = some u) (r : RelV v u) (h : ∀ H, Rp X.K H v d) (hd : (x == ("__debug__" : Str)) = false := by decide) : DE X (.Name x pos) (tC v) (eC d) := ⟨pe_glob hg hm r hd, ev_c h⟩
/-! ### operators -/
def eOp2 (op : D → D → Option D) (fa fb : M D) : M D := bd fa fun x => bd fb fun y => lf (op x y)
theorem ev_op2 {r : R2} {op : D → D → Option D} (hr : DO2 K r op) (ha : EvE K ta fa) (hb : EvE K tb fb) : EvE K (tOp r ta tb) (eOp2 op fa fb) := by
  intro A hid P s σ H d s' ok h Q q
  obtain ⟨x, s1, h1, h⟩ := bd_some h
  obtain ⟨y, s2, h2, h⟩ := bd_some h
  obtain ⟨h3, rfl⟩ := lf_some h
  refine ha A hid P s σ H x s1 ok h1 _ fun v P1 H1 ok1 st1 r1 => ?_
  refine hb A hid P1 s1 σ H1 y _ ok1 h2 _ fun u P2 H2 ok2 st2 r2 => ?_
  refine hr P2 H2 v u x y d ok2.trk (st2.rp r1) r2 h3 _ fun z H3 g r3 => ?_
  exact q z P2 H3 (ok2.grw g) ((st1.trans st2).trans (Stp.grw g)) r3
theorem de_bin {op : Operator} {r : R2} {dop : D → D → Option D} (ho : OpR X (binaryOp op) r) (hr : DO2 X.K r dop) (ha : DE X a ta fa) (hb : DE X b tb fb) : DE X (.BinOp a op b pos) (tOp r ta tb) (eOp2 dop fa fb) :=
  ⟨pe_op ho ha.p hb.p, ev_op2 hr ha.v hb.v⟩
theorem de_cmp {op : CmpOp} {r : R2} {dop : D → D → Option D} (ho : OpR X (compareOp op) r) (hr : DO2 X.K r dop) (ha : DE X a ta fa) (hb : DE X b tb fb) (hm : behindInMarks op b = false) : DE X (.Compare a [op] [b] pos) (tOp r ta tb) (eOp2 dop fa fb) :=
  ⟨pe_cmpR ho ha.p hb.p hm, ev_op2 hr ha.v hb.v⟩
def eOp1 (op : D → Option D) (fa : M D) : M D := bd fa fun x => lf (op x)
def dNeg : D → Option D
  | .int i => some (.int (-i))
  | _ => none
theorem ev_op1 {r : V → Hp → VK → Prop} {op : D → Option D} (hr : DO1 K r op) (ha : EvE K ta fa) : EvE K (tUn r ta) (eOp1 op fa) := by
  intro A hid P s σ H d s' ok h Q q
  obtain ⟨x, s1, h1, h⟩ := bd_some h
  obtain ⟨h3, rfl⟩ := lf_some h
  refine ha A hid P s σ H x _ ok h1 _ fun v P1 H1 ok1 st1 r1 => ?_
  refine hr P1 H1 v x d ok1.trk r1 h3 _ fun z H3 g r3 => ?_
  exact q z P1 H3 (ok1.grw g) (st1.trans (Stp.grw g)) r3
theorem do_neg : DO1 K (rU fun i => .int (-i)) dNeg := by
  intro P H x dx d t hx e Q q
  unfold dNeg at e
  split at e
  · cases e; cases hx
    exact ⟨_, rfl, q _ H (Grw.refl H) (.int _)⟩
  · cases e
theorem de_neg (ha : DE X a ta fa) : DE X (.UnaryOp .USub a pos) (tUn (rU fun i => .int (-i)) ta) (eOp1 dNeg fa) := ⟨pe_un un_neg ha.p, ev_op1 do_neg ha.v⟩
/-! ### and, or, not, if: values -/
def eAnd (fa fb : M D) : M D := bd fa fun x => match x with
  | .bool true => fb
  | .bool false => rtn (.bool false)
  | _ => fun _ => none
def eOr (fa fb : M D) : M D := bd fa fun x => match x with
  | .bool true => rtn (.bool true)
  | .bool false => fb
  | _ => fun _ => none
def eNot (fa : M D) : M D := bd fa fun x => match x with
  | .bool b => rtn (.bool (!b))
  | _ => fun _ => none
theorem ev_and (ha : EvE K ta fa) (hb : EvE K tb fb) : EvE K (tAndV ta tb) (eAnd fa fb) := by
  intro A hid P s σ H d s' ok h Q q
  obtain ⟨x, s1, h1, h⟩ := bd_some h
  refine ha A hid P s σ H x _ ok h1 _ fun v P1 H1 ok1 st1 r1 => ?_
  split at h
  · cases r1
    refine ⟨true, rfl, iteT ?_⟩
    exact hb A hid P1 s1 σ H1 d s' ok1 h _ fun u P2 H2 ok2 st2 r2 => q u P2 H2 ok2 (st1.trans st2) r2
  · cases r1
    obtain ⟨rfl, rfl⟩ := rtn_some h
    exact ⟨false, rfl, iteF (q _ P1 H1 ok1 st1 (.bl false))⟩
  · cases h
theorem ev_or (ha : EvE K ta fa) (hb : EvE K tb fb) : EvE K (tOrV ta tb) (eOr fa fb) := by
  intro A hid P s σ H d s' ok h Q q
  obtain ⟨x, s1, h1, h⟩ := bd_some h
  refine ha A hid P s σ H x _ ok h1 _ fun v P1 H1 ok1 st1 r1 => ?_
  split at h
  · cases r1
    obtain ⟨rfl, rfl⟩ := rtn_some h
    exact ⟨true, rfl, iteT (q _ P1 H1 ok1 st1 (.bl true))⟩
  · cases r1
    refine ⟨false, rfl, iteF ?_⟩
    exact hb A hid P1 s1 σ H1 d s' ok1 h _ fun u P2 H2 ok2 st2 r2 => q u P2 H2 ok2 (st1.trans st2) r2
  · cases h
theorem ev_not (ha : EvE K ta fa) : EvE K (tNotV ta) (eNot fa) := by
  intro A hid P s σ H d s' ok h Q q
  obtain ⟨x, s1, h1, h⟩ := bd_some h
  refine ha A hid P s σ H x _ ok h1 _ fun v P1 H1 ok1 st1 r1 => ?_
  split at h
  · cases r1
    obtain ⟨rfl, rfl⟩ := rtn_some h
    exact ⟨_, rfl, q _ P1 H1 ok1 st1 (.bl _)⟩
  · cases h
theorem de_one {op} (h : DE X a ta fa) : DE X (.BoolOp op [a] pos) ta fa := ⟨pe_one h.p, h.v⟩
variable {rest : List Expr}
theorem de_and (ha : DE X a ta fa) (hb : DE X (.BoolOp .And (b :: rest) pos) tb fb) : DE X (.BoolOp .And (a :: b :: rest) pos) (tAndV ta tb) (eAnd fa fb) := ⟨pe_and ha.p hb.p, ev_and ha.v hb.v⟩
theorem de_or (ha : DE X a ta fa) (hb : DE X (.BoolOp .Or (b :: rest) pos) tb fb) : DE X (.BoolOp .Or (a :: b :: rest) pos) (tOrV ta tb) (eOr fa fb) := ⟨pe_or ha.p hb.p, ev_or ha.v hb.v⟩
theorem de_not (ha : DE X a ta fa) : DE X (.UnaryOp .Not a pos) (tNotV ta) (eNot fa) := ⟨pe_not ha.p, ev_not ha.v⟩
/-! ### tests -/
variable {tA tB' : TT} {gA gB : M Bool}
def tV (fa : M D) : M Bool := bd fa fun x => match x with
  | .bool b => rtn b
  | _ => fun _ => none
theorem ev_tV (ha : EvE K ta fa) : EvT K (tB ta) (tV fa) := by
  intro A hid P s σ H b s' ok h Q q
  obtain ⟨x, s1, h1, h⟩ := bd_some h
  refine ha A hid P s σ H x _ ok h1 _ fun v P1 H1 ok1 st1 r1 => ?_
  split at h
  · cases r1
    obtain ⟨rfl, rfl⟩ := rtn_some h
    exact ⟨_, rfl, q P1 H1 ok1 st1⟩
  · cases h
theorem ev_tT (ha : EvE K ta fa) : EvT K (tTest ta) (tV fa) := ev_tV ha
theorem dt_val (h : DE X e te f) (he : ∀ whole, isTrue e X.env whole = (do let v ← whole; standAt e.pos; holding [v] (truthy v)) := by intro _; rfl) : DT X e (tB te) (tV f) := ⟨pt_val h.p he, ev_tV h.v⟩
theorem dt_cmp {op : CmpOp} {r : R2} {dop : D → D → Option D} (ho : OpR X (compareOp op) r) (hr : DO2 X.K r dop) (ha : DE X a ta fa) (hb : DE X b tb fb) (hm : behindInMarks op b = false) : DT X (.Compare a [op] [b] pos) (tTest (tOp r ta tb)) (tV (eOp2 dop fa fb)) :=
  ⟨pt_cmpR ho ha.p hb.p hm, ev_tT (ev_op2 hr ha.v hb.v)⟩
def tAndM (fa fb : M Bool) : M Bool := bd fa fun x => if x = true then fb else rtn false
def tOrM (fa fb : M Bool) : M Bool := bd fa fun x => if x = true then rtn true else fb
def tNotM (fa : M Bool) : M Bool := bd fa fun x => rtn (!x)
theorem ev_tAnd (ha : EvT K tA gA) (hb : EvT K tB' gB) : EvT K (tAnd tA tB') (tAndM gA gB) := by
  intro A hid P s σ H b s' ok h Q q
  obtain ⟨x, s1, h1, h⟩ := bd_some h
  refine ha A hid P s σ H x _ ok h1 _ fun P1 H1 ok1 st1 => ?_
  cases x with
  | true =>
    rw [if_pos rfl] at h ⊢
    exact hb A hid P1 s1 σ H1 b s' ok1 h _ fun P2 H2 ok2 st2 => q P2 H2 ok2 (st1.trans st2)
  | false =>
    rw [if_neg Bool.false_ne_true] at h ⊢
    obtain ⟨rfl, rfl⟩ := rtn_some h
    exact q P1 H1 ok1 st1
theorem ev_tOr (ha : EvT K tA gA) (hb : EvT K tB' gB) : EvT K (tOr tA tB') (tOrM gA gB) := by
  intro A hid P s σ H b s' ok h Q q
  obtain ⟨x, s1, h1, h⟩ := bd_some h
  refine ha A hid P s σ H x _ ok h1 _ fun P1 H1 ok1 st1 => ?_
  cases x with
  | true =>
    rw [if_pos rfl] at h ⊢
    obtain ⟨rfl, rfl⟩ := rtn_some h
    exact q P1 H1 ok1 st1
  | false =>
    rw [if_neg Bool.false_ne_true] at h ⊢
    exact hb A hid P1 s1 σ H1 b s' ok1 h _ fun P2 H2 ok2 st2 => q P2 H2 ok2 (st1.trans st2)
theorem ev_tNot (ha : EvT K tA gA) : EvT K (tNot tA) (tNotM gA) := by
  intro A hid P s σ H b s' ok h Q q
  obtain ⟨x, s1, h1, h⟩ := bd_some h
  obtain ⟨rfl, rfl⟩ := rtn_some h
  exact ha A hid P s σ H x _ ok h1 _ fun P1 H1 ok1 st1 => q P1 H1 ok1 st1
theorem DW.pt (h : DW X e tA gA) : DT X e tA gA := ⟨h.p.pt, h.v⟩
theorem dw_and1 (ha : DT X a tA gA) : DW X (.BoolOp .And [a] pos) tA gA := ⟨pw_and1 ha.p, ha.v⟩
theorem dw_or1 (ha : DT X a tA gA) : DW X (.BoolOp .Or [a] pos) tA gA := ⟨pw_or1 ha.p, ha.v⟩
theorem dw_and (ha : DT X a tA gA) (hb : DW X (.BoolOp .And (b :: rest) pos) tB' gB) : DW X (.BoolOp .And (a :: b :: rest) pos) (tAnd tA tB') (tAndM gA gB) := ⟨pw_and ha.p hb.p, ev_tAnd ha.v hb.v⟩
theorem dw_or (ha : DT X a tA gA) (hb : DW X (.BoolOp .Or (b :: rest) pos) tB' gB) : DW X (.BoolOp .Or (a :: b :: rest) pos) (tOr tA tB') (tOrM gA gB) := ⟨pw_or ha.p hb.p, ev_tOr ha.v hb.v⟩
theorem dt_not (ha : DT X a tA gA) : DT X (.UnaryOp .Not a pos) (tNot tA) (tNotM gA) := ⟨pt_not ha.p, ev_tNot ha.v⟩
/-- a if t else b -/
def eIf (g : M Bool) (fa fb : M D) : M D := bd g fun x => if x = true then fa else fb
theorem ev_if (hg : EvT K tA gA) (ha : EvE K ta fa) (hb : EvE K tb fb) : EvE K (tIf tA ta tb) (eIf gA fa fb) := by
  intro A hid P s σ H d s' ok h Q q
  obtain ⟨x, s1, h1, h⟩ := bd_some h
  refine hg A hid P s σ H x _ ok h1 _ fun P1 H1 ok1 st1 => ?_
  cases x with
  | true =>
    rw [if_pos rfl] at h ⊢
    exact ha A hid P1 s1 σ H1 d s' ok1 h _ fun v P2 H2 ok2 st2 r => q v P2 H2 ok2 (st1.trans st2) r
  | false =>
    rw [if_neg Bool.false_ne_true] at h ⊢
    exact hb A hid P1 s1 σ H1 d s' ok1 h _ fun v P2 H2 ok2 st2 r => q v P2 H2 ok2 (st1.trans st2) r
theorem de_if (hc : DT X c tA gA) (ha : DE X a ta fa) (hb : DE X b tb fb) : DE X (.IfExp c a b pos) (tIf tA ta tb) (eIf gA fa fb) := ⟨pe_ifExp hc.p ha.p hb.p, ev_if hc.v ha.v hb.v⟩
/-- a <= b <= c -/
def eChain (op op' : D → D → Option D) (fa fb fc : M D) : M D := bd fa fun x => bd fb fun y => bd (lf (op x y)) fun z => match z with
  | .bool true => bd fc fun w => lf (op' y w)
  | .bool false => rtn (.bool false)
  | _ => fun _ => none
theorem ev_chain {r r' : R2} {op op' : D → D → Option D} (hr : DO2 K r op) (hr' : DO2 K r' op') (ha : EvE K ta fa) (hb : EvE K tb fb) (hc : EvE K tc fc) : EvE K (tChain r r' ta tb tc) (eChain op op' fa fb fc) := by
  intro A hid P s σ H d s' ok h Q q
  obtain ⟨x, s1, h1, h⟩ := bd_some h
  obtain ⟨y, s2, h2, h⟩ := bd_some h
  obtain ⟨z, s3, hz, hy⟩ := bd_some h
  obtain ⟨h3, e3⟩ := lf_some hz
  subst e3
  refine ha A hid P s σ H x s1 ok h1 _ fun v P1 H1 ok1 st1 r1 => ?_
  refine hb A hid P1 s1 σ H1 y _ ok1 h2 _ fun u P2 H2 ok2 st2 r2 => ?_
  refine hr P2 H2 v u x y z ok2.trk (st2.rp r1) r2 h3 _ fun k H3 g r3 => ?_
  have st3 : Stp hid P P2 H H3 := (st1.trans st2).trans (Stp.grw g)
  split at hy
  · cases r3
    refine ⟨true, rfl, iteT ?_⟩
    obtain ⟨w, s4, h4, hw⟩ := bd_some hy
    obtain ⟨h5, rfl⟩ := lf_some hw
    refine hc A hid P2 _ σ H3 w _ (ok2.grw g) h4 _ fun k P4 H4 ok4 st4 r4 => ?_
    refine hr' P4 H4 u k y w d ok4.trk (st4.rp ((Stp.grw (hid := hid) g).rp r2)) r4 h5 _ fun m H5 g5 r5 => ?_
    exact q m P4 H5 (ok4.grw g5) ((st3.trans st4).trans (Stp.grw g5)) r5
  · cases r3
    obtain ⟨rfl, rfl⟩ := rtn_some hy
    exact ⟨false, rfl, iteF (q _ P2 H3 (ok2.grw g) st3 (.bl false))⟩
  · cases hy
theorem de_chain {op op' : CmpOp} {r r' : R2} {dop dop' : D → D → Option D} (ho : OpR X (compareOp op) r) (ho' : OpR X (compareOp op') r') (hr : DO2 X.K r dop) (hr' : DO2 X.K r' dop') (ha : DE X a ta fa) (hb : DE X b tb fb) (hc : DE X c tc fc)
    (hm : lastMarks [op, op'] [b, c] = false := by with_unfolding_all rfl) : DE X (.Compare a [op, op'] [b, c] pos) (tChain r r' ta tb tc) (eChain dop dop' fa fb fc) := ⟨pe_chain ho ho' ha.p hb.p hc.p hm, ev_chain hr hr' ha.v hb.v hc.v⟩
theorem dt_chain {op op' : CmpOp} {r r' : R2} {dop dop' : D → D → Option D} (ho : OpR X (compareOp op) r) (ho' : OpR X (compareOp op') r') (hr : DO2 X.K r dop) (hr' : DO2 X.K r' dop') (ha : DE X a ta fa) (hb : DE X b tb fb) (hc : DE X c tc fc)
    (hm : lastMarks [op, op'] [b, c] = false := by with_unfolding_all rfl) : DT X (.Compare a [op, op'] [b, c] pos) (tTest (tChain r r' ta tb tc)) (tV (eChain dop dop' fa fb fc)) := ⟨pt_chain ho ho' ha.p hb.p hc.p hm, ev_tT (ev_chain hr hr' ha.v hb.v hc.v)⟩
/-! ### argument lists, displays -/
variable {es : List Expr} {tr : TA} {fr : M (List D)}
def aNil : M (List D) := rtn []
def aCons (f : M D) (fr : M (List D)) : M (List D) := bd f fun x => bd fr fun xs => rtn (x :: xs)
theorem ea_nil : EvA K tNil aNil := by
  intro A hid P s σ H ds s' ok h Q q
  obtain ⟨rfl, rfl⟩ := rtn_some h
  exact q [] P H ok Stp.refl .nil
theorem ea_cons (ha : EvE K ta fa) (hr : EvA K tr fr) : EvA K (tCons ta tr) (aCons fa fr) := by
  intro A hid P s σ H ds s' ok h Q q
  obtain ⟨x, s1, h1, h⟩ := bd_some h
  obtain ⟨xs, s2, h2, h⟩ := bd_some h
  obtain ⟨rfl, rfl⟩ := rtn_some h
  refine ha A hid P s σ H x s1 ok h1 _ fun v P1 H1 ok1 st1 r1 => ?_
  refine hr A hid P1 s1 σ H1 xs _ ok1 h2 _ fun vs P2 H2 ok2 st2 r2 => ?_
  exact q (v :: vs) P2 H2 ok2 (st1.trans st2) (.cons (st2.rp r1) r2)
theorem da_nil : DAr X [] tNil aNil := ⟨pa_nil, ea_nil⟩
theorem da_cons (ha : DE X e te f) (hr : DAr X es tr fr) (hs : starEach (e :: es) X.env = (false, eval e X.env) :: starEach es X.env := by rfl) : DAr X (e :: es) (tCons te tr) (aCons f fr) := ⟨pa_cons ha.p hr.p hs, ea_cons ha.v hr.v⟩
def eTup (fr : M (List D)) : M D := bd fr fun ds => if ds.length ≤ lim then rtn (.tuple ds) else fun _ => none
theorem ev_tup (hr : EvA K tr fr) : EvE K (tTup tr) (eTup fr) := by
  intro A hid P s σ H d s' ok h Q q
  obtain ⟨ds, s1, h1, h⟩ := bd_some h
  split at h
  · rename_i hl
    obtain ⟨rfl, rfl⟩ := rtn_some h
    refine hr A hid P s σ H ds _ ok h1 _ fun vs P1 H1 ok1 st1 r1 => ⟨by rw [r1.length]; exact lim_le hl, fun p hp => ?_⟩
    exact q _ P1 _ (ok1.grw (Grw.new hp)) (st1.trans (Stp.grw (Grw.new hp))) (rp_newT ok1.trk hp r1)
  · cases h
theorem de_tup {x1} (h : DAr X es tr fr) : DE X (.Tuple es x1 pos) (tTup tr) (eTup fr) := ⟨pe_tup h.p, ev_tup h.v⟩
/-! ### new lists -/
def EvN (K : PySem.W.Frag) (t : TE) (f : M (List D)) : Prop := ∀ (A : DA) (hid P : Addr → Prop) (s : S) (σ : St) (H : Hp) (ds : List D) (s' : S), SOk K A hid P s σ H → f s = some (ds, s') →
  ∀ Q : VK, (∀ vs P' H1 p, SOk K A hid P' s' σ H1 → Stp hid P P' H H1 → H1 p = none → RpA K (mask P' H1) vs ds → Q (.ref p) (upd H1 p (.lst vs))) → t σ H Q
structure DN (X : Cx) (e : Expr) (t : TE) (f : M (List D)) : Prop where
  p : PE X e t
  v : EvN X.K t f
def eL (f : M (List D)) : M D := bd f fun ds => rtn (.list ds)
theorem ev_N {g : M (List D)} (h : EvN K te g) : EvE K te (eL g) := by
  intro A hid P s σ H d s' ok e Q q
  obtain ⟨ds, s1, h1, e⟩ := bd_some e
  obtain ⟨rfl, rfl⟩ := rtn_some e
  refine h A hid P s σ H ds _ ok h1 _ fun vs P1 H1 p ok1 st1 hp r1 => ?_
  exact q _ P1 _ (ok1.grw (Grw.new hp)) (st1.trans (Stp.grw (Grw.new hp))) (rp_newL ok1.trk hp r1)
theorem DN.de {g : M (List D)} (h : DN X e te g) : DE X e te (eL g) := ⟨h.p, ev_N h.v⟩
def nLst (fr : M (List D)) : M (List D) := bd fr fun ds => if ds.length ≤ lim then rtn ds else fun _ => none
theorem en_lst (hr : EvA K tr fr) : EvN K (tLst tr) (nLst fr) := by
  intro A hid P s σ H d s' ok h Q q
  obtain ⟨ds, s1, h1, h⟩ := bd_some h
  split at h
  · rename_i hl
    obtain ⟨rfl, rfl⟩ := rtn_some h
    refine hr A hid P s σ H _ _ ok h1 _ fun vs P1 H1 ok1 st1 r1 => ⟨by rw [r1.length]; exact lim_le hl, fun p hp => ?_⟩
    exact q vs P1 H1 p ok1 st1 hp r1
  · cases h
theorem dn_lst (h : DAr X es tr fr) : DN X (.List es pos) (tLst tr) (nLst fr) := ⟨pe_lst h.p, en_lst h.v⟩
/-! ### built-ins by their names -/
def eCB (op : List D → Option D) (fr : M (List D)) : M D := bd fr fun ds => lf (op ds)
theorem ev_CB {r : List V → Hp → VK → Prop} {op : List D → Option D} (hr : DOC K r op) (ha : EvA K tr fr) : EvE K (tCB r tr) (eCB op fr) := by
  intro A hid P s σ H d s' ok h Q q
  obtain ⟨ds, s1, h1, h⟩ := bd_some h
  obtain ⟨h3, rfl⟩ := lf_some h
  refine ha A hid P s σ H ds _ ok h1 _ fun vs P1 H1 ok1 st1 r1 => ?_
  refine hr P1 H1 vs ds d ok1.trk r1 h3 _ fun z H3 g r3 => ?_
  exact q z P1 H3 (ok1.grw g) (st1.trans (Stp.grw g)) r3
theorem de_B {x : Str} {p : Pos} {id : String} {r : List V → Hp → VK → Prop} {op : List D → Option D} (hc : CallR X (.builtin id) r) (hr : DOC X.K r op) (hg : Gl X x) (hm : X.mg x = none) (hv : bootBuiltins x = some (.builtin id)) (ha : DAr X (e :: es) tr fr)
    (hn : x ≠ "__name__" := by decide) (hdb : (x == ("__debug__" : Str)) = false := by decide)
    (he : starEach (e :: es) X.env = (false, eval e X.env) :: starEach es X.env := by rfl) (hpl : (backTo pos (starEach es X.env)).any (·.1) = false := by rfl) : DE X (.Call (.Name x p) (e :: es) [] pos) (tCB r tr) (eCB op fr) :=
  ⟨pe_callB hc hg hm hv ha.p hn hdb he hpl, ev_CB hr ha.v⟩
theorem de_Ty {x : Str} {p : Pos} {T : String} {r : List V → Hp → VK → Prop} {op : List D → Option D} (hc : CallR X (.type T) r) (hr : DOC X.K r op) (hg : Gl X x) (hm : X.mg x = none) (hv : bootBuiltins x = some (.type T)) (ha : DAr X (e :: es) tr fr)
    (hn : x ≠ "__name__" := by decide) (hdb : (x == ("__debug__" : Str)) = false := by decide)
    (he : starEach (e :: es) X.env = (false, eval e X.env) :: starEach es X.env := by rfl) (hpl : (backTo pos (starEach es X.env)).any (·.1) = false := by rfl) : DE X (.Call (.Name x p) (e :: es) [] pos) (tCB r tr) (eCB op fr) :=
  ⟨pe_callTy hc hg hm hv ha.p hn hdb he hpl, ev_CB hr ha.v⟩
/-- isinstance(e, T), T a built-in type -/
def eIsi (T : String) (f : M D) : M D := bd f fun d => rtn (.bool (isiD T d))
theorem ev_isi {T : String} (hT : T ∈ ["int", "bool", "str", "list", "tuple", "dict"]) (h : EvE K te f) : EvE K (tCB (rIsiY K) (tCons te (tCons (tC (.ty T)) tNil))) (eIsi T f) := by
  intro A hid P s σ H d s' ok e Q q
  obtain ⟨x, s1, h1, e⟩ := bd_some e
  obtain ⟨rfl, rfl⟩ := rtn_some e
  refine h A hid P s σ H x _ ok h1 _ fun v P1 H1 ok1 st1 r1 => ?_
  exact ⟨v, .ty T, .type (tyD x), .type T, isiD T x, rfl, .ty T, r1.ty, isi_ok hT x, q _ P1 H1 ok1 st1 (.bl _)⟩
theorem de_isi (T : String) {x y : Str} {p p2 : Pos} (hT : T ∈ ["int", "bool", "str", "list", "tuple", "dict"]) (hg : Gl X x) (hm : X.mg x = none) (hv : bootBuiltins x = some (.builtin "isinstance")) (h : DE X e te f) (hg2 : Gl X y) (hm2 : X.mg y = none) (hv2 : bootBuiltins y = some (.type T))
    (hn : x ≠ "__name__" := by decide) (hdb : (x == ("__debug__" : Str)) = false := by decide) (hn2 : y ≠ "__name__" := by decide) (hdb2 : (y == ("__debug__" : Str)) = false := by decide)
    (hs : starEach [.Name y p2] X.env = [(false, eval (.Name y p2) X.env)] := by rfl)
    (he : starEach [e, .Name y p2] X.env = (false, eval e X.env) :: starEach [.Name y p2] X.env := by rfl) (hpl : (backTo pos (starEach [.Name y p2] X.env)).any (·.1) = false := by rfl) :
    DE X (.Call (.Name x p) [e, .Name y p2] [] pos) (tCB (rIsiY X.K) (tCons te (tCons (tC (.ty T)) tNil))) (eIsi T f) :=
  ⟨pe_callB call_isiY hg hm hv (pa_cons h.p (pa_cons (pe_bltn hg2 hm2 hv2 rfl hn2 hdb2) pa_nil hs) he) hn hdb he hpl, ev_isi hT h.v⟩
/-! ### x[i], x[a:b] -/
theorem de_ix (ha : DE X a ta fa) (hb : DE X b tb fb) (hs : PlainIx b) : DE X (.Subscript a b pos) (tOp (rIx X.K) ta tb) (eOp2 dIx fa fb) := ⟨pe_ix ix_seq ha.p hb.p hs, ev_op2 do_ix ha.v hb.v⟩
def EvO (K : PySem.W.Frag) (t : TO) (f : M (Option Int)) : Prop := ∀ (A : DA) (hid P : Addr → Prop) (s : S) (σ : St) (H : Hp) (o : Option Int) (s' : S), SOk K A hid P s σ H → f s = some (o, s') →
  ∀ Q : Option Int → Hp → Prop, (∀ P' H', SOk K A hid P' s' σ H' → Stp hid P P' H H' → Q o H') → t σ H Q
structure DO (X : Cx) (e : Option Expr) (t : TO) (f : M (Option Int)) : Prop where
  p : PO X e t
  v : EvO X.K t f
def oN : M (Option Int) := rtn none
def oS (f : M D) : M (Option Int) := bd f fun x => match x with
  | .int i => rtn (some i)
  | _ => fun _ => none
theorem eo_none : EvO K tNoPart oN := by
  intro A hid P s σ H o s' ok h Q q
  obtain ⟨rfl, rfl⟩ := rtn_some h
  exact q P H ok Stp.refl
theorem eo_some (h : EvE K te f) : EvO K (tPart te) (oS f) := by
  intro A hid P s σ H o s' ok e Q q
  obtain ⟨x, s1, h1, e⟩ := bd_some e
  refine h A hid P s σ H x _ ok h1 _ fun v P1 H1 ok1 st1 r1 => ?_
  split at e
  · cases r1
    obtain ⟨rfl, rfl⟩ := rtn_some e
    exact ⟨_, rfl, q P1 H1 ok1 st1⟩
  · cases e
theorem do_none : DO X none tNoPart oN := ⟨po_none, eo_none⟩
theorem do_some (h : DE X e te f) : DO X (some e) (tPart te) (oS f) := ⟨po_some h.p, eo_some h.v⟩
def cutG {α : Type} (xs : List α) (lo hi : Option Int) : List α := (xs.drop (HT.sIx xs.length 0 lo)).take (HT.sIx xs.length xs.length hi - HT.sIx xs.length 0 lo)
theorem RpA.cut {H : Hp} {vs : List V} {ds : List D} (r : RpA K H vs ds) (lo hi : Option Int) : RpA K H (cutV vs lo hi) (cutG ds lo hi) := by
  unfold cutV cutG
  rw [r.length]
  exact (r.drop _).take _
def dSl : D → Option Int → Option Int → Option D
  | .tuple a, lo, hi => some (.tuple (cutG a lo hi))
  | .list a, lo, hi => some (.list (cutG a lo hi))
  | _, _, _ => none
def eSl (f : M D) (l h : M (Option Int)) : M D := bd f fun x => bd l fun lo => bd h fun hi => lf (dSl x lo hi)
abbrev rSlD (K : PySem.W.Frag) : V → Option Int → Option Int → Hp → VK → Prop := fun x lo hi H Q => rSlA K x lo hi H Q ∨ rSlL K x lo hi H Q
variable {tl th : TO} {gl gh : M (Option Int)} {lo hi : Option Expr} {p2 : Pos}
theorem cutG_whole {α : Type} (xs : List α) (lo hi : Option Int) (h : HT.sIx xs.length 0 lo = 0 ∧ HT.sIx xs.length xs.length hi = xs.length) : cutG xs lo hi = xs := by
  unfold cutG
  rw [h.1, h.2]
  simp
theorem ev_sl (ha : EvE K te f) (hl : EvO K tl gl) (hh : EvO K th gh) : EvE K (tSl (rSlD K) te tl th) (eSl f gl gh) := by
  intro A hid P s σ H d s' ok e Q q
  obtain ⟨x, s1, h1, e⟩ := bd_some e
  obtain ⟨l, s2, h2, e⟩ := bd_some e
  obtain ⟨h, s3, h3, e⟩ := bd_some e
  obtain ⟨h4, rfl⟩ := lf_some e
  refine ha A hid P s σ H x _ ok h1 _ fun v P1 H1 ok1 st1 r1 => ?_
  refine hl A hid P1 _ σ H1 l _ ok1 h2 _ fun P2 H2 ok2 st2 => ?_
  refine hh A hid P2 _ σ H2 h _ ok2 h3 _ fun P3 H3 ok3 st3 => ?_
  have r3 := (st2.trans st3).rp r1
  have st := (st1.trans st2).trans st3
  unfold dSl at h4
  split at h4
  · cases h4
    obtain ⟨a, vs, rfl, hx, rr⟩ := r3.tup_inv
    refine .inl ⟨a, vs, rfl, sqT_le hx, fun hw => ?_, fun _ p hp => ?_⟩
    · refine q _ P3 H3 ok3 st ?_
      rw [rr.length] at hw
      rw [cutG_whole _ _ _ hw]
      exact r3
    · exact q _ P3 _ (ok3.grw (Grw.new hp)) (st.trans (Stp.grw (Grw.new hp))) (rp_newT ok3.trk hp (rr.cut l h))
  · cases h4
    obtain ⟨a, vs, rfl, hx, rr⟩ := r3.lst_inv
    refine .inr ⟨a, vs, rfl, SqL.of (mask_le _ _ hx), fun p hp => ?_⟩
    exact q _ P3 _ (ok3.grw (Grw.new hp)) (st.trans (Stp.grw (Grw.new hp))) (rp_newL ok3.trk hp (rr.cut l h))
  · cases h4
theorem de_sl (ha : DE X e te f) (hl : DO X lo tl gl) (hh : DO X hi th gh) : DE X (.Subscript e (.Slice lo hi none p2) pos) (tSl (rSlD X.K) te tl th) (eSl f gl gh) :=
  ⟨pe_slice (SlR.or sl_tupA sl_list) ha.p hl.p hh.p, ev_sl ha.v hl.v hh.v⟩
end
end DL


namespace DL
open PySem PySem.Spec PyProof.Rows L2
/-! DL4: targets, statements, loops, comprehensions. -/
section
variable {K : PySem.W.Frag} {A : DA} {hid P : Addr → Prop} {s : S} {σ : St} {H : Hp}
theorem get_set {α : Type} (l : List α) (i j : Nat) (x : α) : (l.set i x)[j]? = if i = j ∧ j < l.length then some x else l[j]? := by
  by_cases h : i = j
  · subst h
    by_cases hl : i < l.length
    · rw [List.getElem?_set_self hl, if_pos ⟨rfl, hl⟩]
    · rw [if_neg (fun z => hl z.2), List.set_eq_of_length_le (by omega)]
  · rw [List.getElem?_set_ne h, if_neg (fun z => h z.1)]
/-- a slot gets data -/
theorem SOk.set_dat {i : Nat} {v : V} {d : D} (ok : SOk K A hid P s σ H) (r : Rp K (mask P H) v d) : SOk K A hid P { s with g := s.g.set i (some (.dat d)) } (σ.set i (some v)) H := by
  have hl := ok.len
  refine ⟨ok.trk, ok.hp, ok.hd, by simpa using ok.len, fun j w e => ?_, fun j l w u a e1 e2 c1 c2 e3 e4 => ?_, ok.deck⟩
  · show SlotOk K A hid P H (σ.set i (some v))[j]? w
    have e : (s.g.set i (some (.dat d)))[j]? = some (some w) := e
    rw [get_set] at e ⊢
    rw [← hl]
    split at e
    · cases e
      rw [if_pos (by assumption)]
      exact ⟨v, rfl, r⟩
    · rw [if_neg (by assumption)]
      exact ok.slot j w e
  · have e1 : (s.g.set i (some (.dat d)))[j]? = some (some w) := e1
    have e2 : (s.g.set i (some (.dat d)))[l]? = some (some u) := e2
    rw [get_set] at e1 e2 e3 e4
    rw [← hl] at e3 e4
    split at e1
    · cases e1; cases c1
    · split at e2
      · cases e2; cases c2
      · rw [if_neg (by assumption)] at e3
        rw [if_neg (by assumption)] at e4
        exact ok.apart j l w u a e1 e2 c1 c2 e3 e4
/-- a slot is forgotten (its value may be anything) -/
theorem SOk.set_none {i : Nat} {v : Option V} (ok : SOk K A hid P s σ H) : SOk K A hid P { s with g := s.g.set i none } (σ.set i v) H := by
  have hl := ok.len
  refine ⟨ok.trk, ok.hp, ok.hd, by simpa using ok.len, fun j w e => ?_, fun j l w u a e1 e2 c1 c2 e3 e4 => ?_, ok.deck⟩
  · show SlotOk K A hid P H (σ.set i v)[j]? w
    have e : (s.g.set i none)[j]? = some (some w) := e
    rw [get_set] at e ⊢
    rw [← hl]
    split at e
    · cases e
    · rw [if_neg (by assumption)]
      exact ok.slot j w e
  · have e1 : (s.g.set i none)[j]? = some (some w) := e1
    have e2 : (s.g.set i none)[l]? = some (some u) := e2
    rw [get_set] at e1 e2 e3 e4
    rw [← hl] at e3 e4
    split at e1
    · cases e1
    · split at e2
      · cases e2
      · rw [if_neg (by assumption)] at e3
        rw [if_neg (by assumption)] at e4
        exact ok.apart j l w u a e1 e2 c1 c2 e3 e4
/-- something new is laid and reserved -/
theorem SOk.reserve {p : Addr} {o : HO} (ok : SOk K A hid P s σ H) (hp : H p = none) (no : NoT o := by exact trivial) : SOk K A hid (fun a => P a ∨ a = p) s σ (upd H p o) := by
  have g : Grw (mask P H) (mask (fun a => P a ∨ a = p) (upd H p o)) := mask_grw fun a u e c => ⟨fun z => z.elim c fun z => ne_of_none e hp z, by rw [upd_ne (ne_of_none e hp)]; exact e⟩
  have gH : Grw H (upd H p o) := Grw.new hp
  refine ⟨fun a z => ?_, fun a z => .inl (ok.hp a z), ok.hd, ok.len, fun i v e => ?_, ok.apart, ?_⟩
  · rcases z with z | z
    · obtain ⟨u, e, n⟩ := ok.trk a z
      exact ⟨u, gH _ _ e, n⟩
    · subst z; exact ⟨o, upd_same, no⟩
  · have q := ok.slot i v e
    cases v with
    | dat d => obtain ⟨u, e, r⟩ := q; exact ⟨u, e, r.mono g⟩
    | lst ds => obtain ⟨a, vs, e, h1, h2, h3, h4, r⟩ := q; exact ⟨a, vs, e, gH _ _ h1, .inl h2, h3, h4, r.mono g⟩
    | dct tt kvs =>
      obtain ⟨a, e, h2, h3, h4, r⟩ := q
      refine ⟨a, e, .inl h2, h3, h4, ?_⟩
      rcases r with ⟨ht, ks, h1, r⟩ | ⟨ht, ks, h1, r⟩
      · exact .inl ⟨ht, ks, gH _ _ h1, r.mono g⟩
      · exact .inr ⟨ht, ks, gH _ _ h1, r.mono g⟩
    | deck => exact q
    | obj o => obtain ⟨y, h1, h2, h3⟩ := q; exact ⟨y, h1, h2, h3.move g fun a _ u e => gH _ _ e⟩
  · have d := ok.deck
    exact ⟨gH _ _ d.ho, gH _ _ d.hg, gH _ _ d.hc, fun a z => .inl (d.rs a z), d.og, d.oc, d.gc⟩
theorem Stp.reserve {p : Addr} {o : HO} (hp : H p = none) : Stp hid P (fun a => P a ∨ a = p) H (upd H p o) :=
  ⟨fun a u e _ => by rw [upd_ne (ne_of_none e hp)]; exact e, fun a u e c z => z.elim c fun z => ne_of_none e hp z⟩
/-- a slot becomes a cell: the list that was just laid at p -/
theorem SOk.set_cell {i : Nat} {p : Addr} {vs : List V} {ds : List D} (ok : SOk K A hid P s σ H) (hp : H p = none) (r : RpA K (mask P H) vs ds) :
    SOk K A hid (fun a => P a ∨ a = p) { s with g := s.g.set i (some (.lst ds)) } (σ.set i (some (.ref p))) (upd H p (.lst vs)) := by
  have ok1 : SOk K A hid (fun a => P a ∨ a = p) s σ (upd H p (.lst vs)) := ok.reserve hp
  have hl := ok.len
  have g : Grw (mask P H) (mask (fun a => P a ∨ a = p) (upd H p (.lst vs))) := mask_grw fun a u e c => ⟨fun z => z.elim c fun z => ne_of_none e hp z, by rw [upd_ne (ne_of_none e hp)]; exact e⟩
  have cellNe : ∀ (j : Nat) (w : Val) (a : Addr), s.g[j]? = some (some w) → isCell w = true → σ[j]? = some (some (.ref a)) → a ≠ p := fun j w a e c e3 z => by
    subst z
    have q := ok.slot j w e
    cases w with
    | dat d => cases c
    | deck => cases c
    | obj o => cases c
    | lst es =>
      obtain ⟨b, us, e5, h1, _⟩ := q
      rw [e3] at e5; cases e5
      rw [hp] at h1; cases h1
    | dct tt es =>
      obtain ⟨b, e5, _, _, _, h1⟩ := q
      rw [e3] at e5; cases e5
      rcases h1 with ⟨_, _, h1, _⟩ | ⟨_, _, h1, _⟩ <;> (rw [hp] at h1; cases h1)
  refine ⟨ok1.trk, ok1.hp, ok1.hd, by simpa using ok.len, fun j w e => ?_, fun j l w u a e1 e2 c1 c2 e3 e4 => ?_, ok1.deck⟩
  · show SlotOk K A hid _ _ (σ.set i (some (.ref p)))[j]? w
    have e : (s.g.set i (some (.lst ds)))[j]? = some (some w) := e
    rw [get_set] at e ⊢
    rw [← hl]
    split at e
    · cases e
      rw [if_pos (by assumption)]
      refine ⟨p, vs, rfl, upd_same, .inr rfl, fun z => ok.free hp (ok.hp _ z), fun z => ok.free hp (ok.deck.rs _ z), r.mono g⟩
    · rw [if_neg (by assumption)]
      exact ok1.slot j w e
  · have e1 : (s.g.set i (some (.lst ds)))[j]? = some (some w) := e1
    have e2 : (s.g.set i (some (.lst ds)))[l]? = some (some u) := e2
    rw [get_set] at e1 e2 e3 e4
    rw [← hl] at e3 e4
    by_cases k1 : i = j ∧ j < s.g.length
    · rw [if_pos k1] at e1 e3
      cases e3
      by_cases k2 : i = l ∧ l < s.g.length
      · exact k1.1.symm.trans k2.1
      · rw [if_neg k2] at e2 e4
        exact absurd rfl (cellNe l u _ e2 c2 e4)
    · rw [if_neg k1] at e1 e3
      by_cases k2 : i = l ∧ l < s.g.length
      · rw [if_pos k2] at e2 e4
        cases e4
        exact absurd rfl (cellNe j w _ e1 c1 e3)
      · rw [if_neg k2] at e2 e4
        exact ok.apart j l w u a e1 e2 c1 c2 e3 e4
/-- a cell's list is changed -/
theorem SOk.put_cell {i : Nat} {a : Addr} {ds ds' : List D} {vs' : List V} (ok : SOk K A hid P s σ H) (hi : s.g[i]? = some (some (.lst ds))) (ha : σ[i]? = some (some (.ref a))) (r : RpA K (mask P H) vs' ds') :
    SOk K A hid P { s with g := s.g.set i (some (.lst ds')) } σ (upd H a (.lst vs')) ∧ Stp hid P P H (upd H a (.lst vs')) := by
  obtain ⟨b, vs, e, h1, h2, h3, h4, _⟩ := ok.slot i _ hi
  rw [ha] at e; cases e
  have hil : i < s.g.length := (List.getElem?_eq_some_iff.mp hi).1
  have g : Grw (mask P H) (mask P (upd H a (.lst vs'))) := mask_grw fun b u e c => ⟨c, by rw [upd_ne (show b ≠ a from fun z => c (by rw [z]; exact h2))]; exact e⟩
  have nA : ∀ b, A.is b → b ≠ a := fun b z w => h4 (w ▸ z)
  have oth : ∀ (j : Nat) (w : Val) (b : Addr), j ≠ i → s.g[j]? = some (some w) → isCell w = true → σ[j]? = some (some (.ref b)) → b ≠ a := fun j w b hj e c e3 z => by
    subst z
    exact hj (ok.apart j i w _ _ e hi c rfl e3 ha)
  refine ⟨⟨fun b z => ?_, ok.hp, ok.hd, by simpa using ok.len, fun j w e => ?_, fun j l w u b e1 e2 c1 c2 e3 e4 => ?_, ?_⟩, ⟨fun b o e c => ?_, fun _ _ _ c => c⟩⟩
  · by_cases hb : b = a
    · subst hb; exact ⟨_, upd_same, trivial⟩
    · obtain ⟨o, e, n⟩ := ok.trk b z
      exact ⟨o, by rw [upd_ne hb]; exact e, n⟩
  · show SlotOk K A hid P (upd H a (.lst vs')) σ[j]? w
    have e : (s.g.set i (some (.lst ds')))[j]? = some (some w) := e
    rw [get_set] at e
    by_cases k1 : i = j ∧ j < s.g.length
    · rw [if_pos k1] at e
      cases e
      refine ⟨a, vs', by rw [← k1.1]; exact ha, upd_same, h2, h3, h4, r.mono g⟩
    · rw [if_neg k1] at e
      have hj : j ≠ i := fun z => k1 ⟨z.symm, by rw [z]; exact hil⟩
      have q := ok.slot j w e
      cases w with
      | dat d => obtain ⟨u, e5, r⟩ := q; exact ⟨u, e5, r.mono g⟩
      | lst es => obtain ⟨b, us, e5, k1, k2, k3, k4, r⟩ := q; exact ⟨b, us, e5, by rw [upd_ne (oth j _ b hj e rfl e5)]; exact k1, k2, k3, k4, r.mono g⟩
      | dct tt es =>
        obtain ⟨b, e5, k2, k3, k4, r⟩ := q
        refine ⟨b, e5, k2, k3, k4, ?_⟩
        rcases r with ⟨ht, ks, k1, r⟩ | ⟨ht, ks, k1, r⟩
        · exact .inl ⟨ht, ks, by rw [upd_ne (oth j _ b hj e rfl e5)]; exact k1, r.mono g⟩
        · exact .inr ⟨ht, ks, by rw [upd_ne (oth j _ b hj e rfl e5)]; exact k1, r.mono g⟩
      | deck => exact q
      | obj o =>
        obtain ⟨y, h1, h2, h3⟩ := q
        exact ⟨y, h1, h2, h3.move g fun b hb u e => by rw [upd_ne (nA b (.inr (.inr (.inr ⟨y, h1, hb⟩))))]; exact e⟩
  · have e1 : (s.g.set i (some (.lst ds')))[j]? = some (some w) := e1
    have e2 : (s.g.set i (some (.lst ds')))[l]? = some (some u) := e2
    rw [get_set] at e1 e2
    have back : ∀ (j : Nat) (w : Val), (if i = j ∧ j < s.g.length then some (some (Val.lst ds')) else s.g[j]?) = some (some w) → isCell w = true → ∃ w', s.g[j]? = some (some w') ∧ isCell w' = true := fun j w e c => by
      by_cases k : i = j ∧ j < s.g.length
      · exact ⟨_, by rw [← k.1]; exact hi, rfl⟩
      · rw [if_neg k] at e; exact ⟨w, e, c⟩
    obtain ⟨w', f1, g1⟩ := back j w e1 c1
    obtain ⟨u', f2, g2⟩ := back l u e2 c2
    exact ok.apart j l w' u' b f1 f2 g1 g2 e3 e4
  · have d := ok.deck
    exact ⟨by rw [upd_ne (nA _ (.inl rfl))]; exact d.ho, by rw [upd_ne (nA _ (.inr (.inl rfl)))]; exact d.hg, by rw [upd_ne (nA _ (.inr (.inr (.inl rfl))))]; exact d.hc, d.rs, d.og, d.oc, d.gc⟩
  · rw [upd_ne]
    · exact e
    · intro z
      subst z
      rcases c with c | c
      · exact h3 c
      · exact c h2
end
/-! ### targets -/
/-- slots js may change -/
def OutSame (js : List Nat) (σ σ' : St) : Prop := σ'.length = σ.length ∧ ∀ i : Nat, i ∉ js → σ'[i]? = σ[i]?
theorem OutSame.refl {js : List Nat} {σ : St} : OutSame js σ σ := ⟨rfl, fun _ _ => rfl⟩
theorem OutSame.trans {js : List Nat} {σ σ1 σ2 : St} (a : OutSame js σ σ1) (b : OutSame js σ1 σ2) : OutSame js σ σ2 := ⟨b.1.trans a.1, fun i h => (b.2 i h).trans (a.2 i h)⟩
theorem OutSame.mono {js ks : List Nat} {σ σ1 : St} (a : OutSame js σ σ1) (h : ∀ i ∈ js, i ∈ ks) : OutSame ks σ σ1 := ⟨a.1, fun i z => a.2 i fun w => z (h i w)⟩
def EvG (K : PySem.W.Frag) (js : List Nat) (g : TG) (f : D → M Unit) : Prop := ∀ (A : DA) (hid P : Addr → Prop) (s : S) (σ : St) (H : Hp) (v : V) (d : D) (s' : S), SOk K A hid P s σ H → Rp K (mask P H) v d → f d s = some ((), s') →
  ∀ Q : St → Hp → Prop, (∀ σ' P' H', SOk K A hid P' s' σ' H' → Stp hid P P' H H' → OutSame js σ σ' → Q σ' H') → g v σ H Q
def EvGs (K : PySem.W.Frag) (js : List Nat) (g : TGs) (f : List D → M Unit) : Prop := ∀ (A : DA) (hid P : Addr → Prop) (s : S) (σ : St) (H : Hp) (v : List V) (d : List D) (s' : S), SOk K A hid P s σ H → RpA K (mask P H) v d → f d s = some ((), s') →
  ∀ Q : St → Hp → Prop, (∀ σ' P' H', SOk K A hid P' s' σ' H' → Stp hid P P' H H' → OutSame js σ σ' → Q σ' H') → g v σ H Q
structure DG (X : Cx) (e : Expr) (js : List Nat) (g : TG) (f : D → M Unit) : Prop where
  p : PG X e g
  v : EvG X.K js g f
structure DGs (X : Cx) (e : List Expr) (js : List Nat) (g : TGs) (f : List D → M Unit) : Prop where
  p : PGs X e g
  v : EvGs X.K js g f
def gN (i : Nat) : D → M Unit := fun d s => some ((), { s with g := s.g.set i (some (.dat d)) })
section
variable {X : Cx} {K : PySem.W.Frag} {pos : Pos}
theorem eg_name {i : Nat} : EvG K [i] (gName i) (gN i) := by
  intro A hid P s σ H v d s' ok r e Q q
  unfold gN at e
  cases e
  exact q _ P H (ok.set_dat r) Stp.refl ⟨by simp, fun j h => by rw [List.getElem?_set_ne (fun z => h (by simp [z]))]⟩
theorem dg_name (i : Nat) {x : Str} (hN : X.N.Nodup) (hi : X.N[i]? = some x := by rfl) (hx : Loc X.env.scope x := by first | exact Or.inl rfl | exact Or.inr rfl) (hf : X.fn x = true ∨ X.env.scope.names.lookup x = some .local := by first | exact .inl rfl | exact .inr rfl | assumption) :
    DG X (.Name x pos) [i] (gName i) (gN i) := ⟨pg_name hN hi hx hf, eg_name⟩
def gNl : List D → M Unit := fun ds s => match ds with
  | [] => some ((), s)
  | _ => none
def gCn (f : D → M Unit) (g : List D → M Unit) : List D → M Unit := fun ds => match ds with
  | d :: r => bd (f d) fun _ => g r
  | [] => fun _ => none
theorem eg_nil : EvGs K [] gNil gNl := by
  intro A hid P s σ H v d s' ok r e Q q
  cases r with
  | nil => unfold gNl at e; cases e; exact ⟨rfl, q σ P H ok Stp.refl OutSame.refl⟩
  | cons _ _ => unfold gNl at e; cases e
theorem eg_cons {js ks : List Nat} {t : TG} {u : TGs} {f : D → M Unit} {g : List D → M Unit} (h1 : EvG K js t f) (h2 : EvGs K ks u g) : EvGs K (js ++ ks) (gCons t u) (gCn f g) := by
  intro A hid P s σ H v d s' ok r e Q q
  cases r with
  | nil => unfold gCn at e; cases e
  | cons r rr =>
    unfold gCn at e
    obtain ⟨_, s1, e1, e⟩ := bd_some e
    refine ⟨_, _, rfl, h1 A hid P s σ H _ _ s1 ok r e1 _ fun σ1 P1 H1 ok1 st1 o1 => ?_⟩
    refine h2 A hid P1 s1 σ1 H1 _ _ s' ok1 (st1.rpA rr) e _ fun σ2 P2 H2 ok2 st2 o2 => ?_
    exact q σ2 P2 H2 ok2 (st1.trans st2) ((o1.mono fun i h => List.mem_append_left _ h).trans (o2.mono fun i h => List.mem_append_right _ h))
theorem dgs_nil : DGs X [] [] gNil gNl := ⟨pgs_nil, eg_nil⟩
theorem dgs_cons {e : Expr} {es : List Expr} {js ks : List Nat} {t : TG} {u : TGs} {f : D → M Unit} {g : List D → M Unit} (h1 : DG X e js t f) (h2 : DGs X es ks u g)
    (hs : (assignEach (e :: es) X.env).map (·.2) = assign e X.env :: (assignEach es X.env).map (·.2) := by rfl) : DGs X (e :: es) (js ++ ks) (gCons t u) (gCn f g) := ⟨pgs_cons h1.p h2.p hs, eg_cons h1.v h2.v⟩
def gTp (n : Nat) (g : List D → M Unit) : D → M Unit := fun d => match d with
  | .tuple ds => if ds.length = n then g ds else fun _ => none
  | _ => fun _ => none
theorem eg_tup {js : List Nat} {n : Nat} {t : TGs} {g : List D → M Unit} (h : EvGs K js t g) : EvG K js (gTup K n t) (gTp n g) := by
  intro A hid P s σ H v d s' ok r e Q q
  unfold gTp at e
  split at e
  · split at e
    · rename_i hn
      obtain ⟨a, vs, rfl, hx, rr⟩ := r.tup_inv
      exact ⟨a, vs, rfl, sqT_le hx, by rw [rr.length]; exact hn, h A hid P s σ H vs _ s' ok rr e Q q⟩
    · cases e
  · cases e
theorem dg_tup {es : List Expr} {k : Nat} {js : List Nat} {t : TGs} {g : List D → M Unit} {n : Nat} (hc : X.calm = true) (h : DGs X es js t g)
    (hn : (assignEach es X.env).length = n := by rfl) (hst : (assignEach es X.env).findIdx? (·.1) = none := by rfl) : DG X (.Tuple es k pos) js (gTup X.K n t) (gTp n g) := ⟨pg_tup hc h.p hn hst, eg_tup h.v⟩
end
/-! ### statements -/
section
variable {X : Cx} {K : PySem.W.Frag} {e a b c : Expr} {te ta tb : TE} {f fa fb : M D} {pos : Pos} {t u : TS} {m n : M Fl} {st : Stmt} {rest : List Stmt}
def sNx : M Fl := rtn .nx
def sSeq (m n : M Fl) : M Fl := bd m fun fl => match fl with
  | .nx => n
  | fl => rtn fl
theorem es_seq (h1 : EvS K t m) (h2 : EvS K u n) : EvS K (tSeq t u) (sSeq m n) := by
  intro A hid P s σ H fl s' ok e D q
  obtain ⟨f1, s1, e1, e⟩ := bd_some e
  refine h1 A hid P s σ H f1 s1 ok e1 _ ?_
  cases f1 with
  | nx => exact fun σ1 P1 H1 ok1 st1 => h2 A hid P1 s1 σ1 H1 fl s' ok1 e D (q.back st1)
  | rt d => obtain ⟨rfl, rfl⟩ := rtn_some e; exact q
  | bk => obtain ⟨rfl, rfl⟩ := rtn_some e; exact q
  | ct => obtain ⟨rfl, rfl⟩ := rtn_some e; exact q
theorem dss_nil : DSs X [] tNext sNx := ⟨pss_nil, by
  intro A hid P s σ H fl s' ok e D q
  obtain ⟨rfl, rfl⟩ := rtn_some e
  exact q σ P H ok Stp.refl⟩
theorem dss_cons (h1 : DS X st t m) (h2 : DSs X rest u n) : DSs X (st :: rest) (tSeq t u) (sSeq m n) := ⟨pss_cons h1.p h2.p, es_seq h1.v h2.v⟩
theorem dss_one (h1 : DS X st t m) : DSs X [st] t m := ⟨pss_one h1.p, h1.v⟩
theorem ds_pass : DS X (.Pass pos) tNext sNx := ⟨ps_pass, dss_nil.v (X := X)⟩
def sRet (f : M D) : M Fl := bd f fun d => rtn (.rt d)
theorem ds_ret (h : DE X e te f) : DS X (.Return (some e) pos) (tRet te) (sRet f) := ⟨ps_ret h.p, by
  intro A hid P s σ H fl s' ok e D q
  obtain ⟨d, s1, h1, e⟩ := bd_some e
  obtain ⟨rfl, rfl⟩ := rtn_some e
  exact h.v A hid P s σ H d _ ok h1 _ fun v P1 H1 ok1 st1 r => q v σ P1 H1 ok1 st1 r⟩
def sIf (c : M Bool) (m n : M Fl) : M Fl := bd c fun b => if b = true then m else n
theorem ds_if {tc : TT} {g : M Bool} {p q : List Stmt} (hc : DT X c tc g) (ha : DSs X p t m) (hb : DSs X q u n) : DS X (.If c p q pos) (tIfS tc t u) (sIf g m n) := ⟨ps_if hc.p ha.p hb.p, by
  intro A hid P s σ H fl s' ok e D q
  obtain ⟨d, s1, h1, e⟩ := bd_some e
  refine hc.v A hid P s σ H d _ ok h1 _ fun P1 H1 ok1 st1 => ?_
  cases d with
  | true => rw [if_pos rfl] at e ⊢; exact ha.v A hid P1 s1 σ H1 fl s' ok1 e D (q.back st1)
  | false => rw [if_neg Bool.false_ne_true] at e ⊢; exact hb.v A hid P1 s1 σ H1 fl s' ok1 e D (q.back st1)⟩
def sDrop (f : M D) : M Fl := bd f fun _ => rtn .nx
theorem ds_expr (h : DE X e te f) (hs : swapsWith e none pos.line X.env = pure false := by rfl) : DS X (.Expr e pos) (tDrop te) (sDrop f) := ⟨ps_expr h.p hs, by
  intro A hid P s σ H fl s' ok e D q
  obtain ⟨d, s1, h1, e⟩ := bd_some e
  obtain ⟨rfl, rfl⟩ := rtn_some e
  exact h.v A hid P s σ H d _ ok h1 _ fun v P1 H1 ok1 st1 r => q σ P1 H1 ok1 st1⟩
def sAsg (f : M D) (g : D → M Unit) : M Fl := bd f fun d => bd (g d) fun _ => rtn .nx
theorem es_asg {js : List Nat} {g : TG} {fg : D → M Unit} (h : EvE K te f) (hg : EvG K js g fg) : EvS K (tAsg te g) (sAsg f fg) := by
  intro A hid P s σ H fl s' ok e D q
  obtain ⟨d, s1, h1, e⟩ := bd_some e
  obtain ⟨_, s2, h2, e⟩ := bd_some e
  obtain ⟨rfl, rfl⟩ := rtn_some e
  refine h A hid P s σ H d _ ok h1 _ fun v P1 H1 ok1 st1 r => ?_
  exact hg A hid P1 s1 σ H1 v d _ ok1 r h2 _ fun σ2 P2 H2 ok2 st2 _ => q σ2 P2 H2 ok2 (st1.trans st2)
theorem ds_asg {tg : Expr} {js : List Nat} {g : TG} {fg : D → M Unit} (h : DE X e te f) (hg : DG X tg js g fg) (hs : swapsWithSole [tg] e pos.line X.env = pure false := by rfl) (hw : swappedStores [tg] e X.env = pure none := by rfl)
    (h1 : (assignEach [tg] X.env).map (·.2) = [assign tg X.env] := by rfl) : DS X (.Assign [tg] e pos) (tAsg te g) (sAsg f fg) := ⟨ps_asg h.p hg.p hs hw h1, es_asg h.v hg.v⟩
/-- x = a new list, x a cell -/
def sNew (i : Nat) (f : M (List D)) : M Fl := bd f fun ds => fun s => some (.nx, { s with g := s.g.set i (some (.lst ds)) })
theorem es_new {i : Nat} {g : M (List D)} (h : EvN K te g) : EvS K (tAsg te (gName i)) (sNew i g) := by
  intro A hid P s σ H fl s' ok e D q
  obtain ⟨ds, s1, h1, e⟩ := bd_some e
  cases e
  refine h A hid P s σ H ds _ ok h1 _ fun vs P1 H1 p ok1 st1 hp r => ?_
  exact q _ _ _ (ok1.set_cell hp r) (st1.trans (Stp.reserve hp))
theorem ds_new (i : Nat) {x : Str} {px : Pos} {g : M (List D)} (h : DN X e te g) (hN : X.N.Nodup) (hi : X.N[i]? = some x := by rfl) (hx : Loc X.env.scope x := by first | exact Or.inl rfl | exact Or.inr rfl) (hf : X.fn x = true ∨ X.env.scope.names.lookup x = some .local := by first | exact .inl rfl | exact .inr rfl | assumption)
    (hs : swapsWithSole [.Name x px] e pos.line X.env = pure false := by rfl) (hw : swappedStores [.Name x px] e X.env = pure none := by rfl)
    (h1 : (assignEach [.Name x px] X.env).map (·.2) = [assign (.Name x px) X.env] := by rfl) : DS X (.Assign [.Name x px] e pos) (tAsg te (gName i)) (sNew i g) := ⟨ps_asg h.p (pg_name hN hi hx hf) hs hw h1, es_new h.v⟩
/-- x.append(e), x a cell -/
def sApp (i : Nat) (f : M D) : M Fl := fun s => match s.g[i]? with
  | some (some (.lst _)) => (bd f fun d => fun s1 => match s1.g[i]? with
    | some (some (.lst ds)) => if ds.length ≤ lim then some (.nx, { s1 with g := s1.g.set i (some (.lst (ds ++ [d]))) }) else none
    | _ => none) s
  | _ => none
theorem es_app {i : Nat} (h : EvE K te f) : EvS K (tDrop (tBM K "list" rAppend (tVar i) (tCons te tNil))) (sApp i f) := by
  intro A hid P s σ H fl s' ok e D q
  unfold sApp at e
  split at e
  · rename_i ds0 hg0
    obtain ⟨d, s1, h1, e⟩ := bd_some e
    obtain ⟨a, vs0, ea, k1, _⟩ := ok.slot i _ hg0
    refine ⟨.ref a, ea, .inl ⟨rfl, vs0, SqL.of k1⟩, ?_⟩
    refine h A hid P s σ H d s1 ok h1 _ fun v P1 H1 ok1 st1 r => ?_
    split at e
    · rename_i ds hg
      split at e
      · rename_i hl
        cases e
        obtain ⟨b, vs, eb, m1, m2, m3, m4, mr⟩ := ok1.slot i _ hg
        rw [ea] at eb; cases eb
        obtain ⟨ok2, st2⟩ := ok1.put_cell hg ea (mr.append (.cons r .nil))
        refine ⟨a, vs, v, rfl, rfl, m1, by rw [mr.length]; exact lim_lt hl, ?_⟩
        exact q σ P1 _ ok2 (st1.trans st2)
      · cases e
    · cases e
  · cases e
theorem ds_app (i : Nat) {x : Str} {px pa pe : Pos} (h : DE X e te f) (hN : X.N[i]? = some x := by rfl) (hv : Vis X.env.scope x := by first | exact Or.inl rfl | exact Or.inr (Or.inl rfl) | exact Or.inr (Or.inr rfl))
    (hd : (x == ("__debug__" : Str)) = false := by decide) (hcd : (x == ("__classdict__" : Str)) = false := by decide)
    (hp : PE X (.Call (.Attribute (.Name x px) "append" pa) [e] [] pe) (tBM X.K "list" rAppend (tVar i) (tCons te tNil)))
    (hs : swapsWith (.Call (.Attribute (.Name x px) "append" pa) [e] [] pe) none pos.line X.env = pure false := by rfl) : DS X (.Expr (.Call (.Attribute (.Name x px) "append" pa) [e] [] pe) pos) (tDrop (tBM X.K "list" rAppend (tVar i) (tCons te tNil))) (sApp i f) := ⟨ps_expr hp hs, es_app h.v⟩
end
end DL


namespace DL
open PySem PySem.Spec PyProof.Rows L2
/-! DL5: what is walked; for; comprehensions. -/
/-- J walks the data ds while G stands; G stays on the way -/
structure WalkD (K : PySem.W.Frag) (J : It) (G : (Addr → Prop) → Hp → Prop) (ds : List D) : Prop where
  goes : ∀ P i H, i < ds.length → G P H → J.go i H
  stops : ∀ P H, G P H → J.stop ds.length H
  yields : ∀ P i H x H', i < ds.length → Trk P H → G P H → J.yld i H x H' → Grw H H' ∧ ∃ d, ds[i]? = some d ∧ Rp K (mask P H') x d
  stay : ∀ P P' H H', Grw (mask P H) (mask P' H') → G P H → G P' H'
def EvI (K : PySem.W.Frag) (wi : TI) (f : M (List D)) : Prop := ∀ (A : DA) (hid P : Addr → Prop) (s : S) (σ : St) (H : Hp) (ds : List D) (s' : S), SOk K A hid P s σ H → f s = some (ds, s') →
  ∀ R : It → Hp → Prop, (∀ J G P' H', SOk K A hid P' s' σ H' → Stp hid P P' H H' → WalkD K J G ds → G P' H' → R J H') → wi σ H R
structure DI (X : Cx) (tg iter : Expr) (wi : TI) (f : M (List D)) : Prop where
  p : PI X tg iter wi
  v : EvI X.K wi f
section
variable {X : Cx} {K : PySem.W.Frag} {tg e : Expr} {te : TE} {f : M D} {pos p : Pos} {tr : TA} {fr : M (List D)}
def asL (f : M D) : M (List D) := bd f fun x => match x with
  | .list ds => rtn ds
  | _ => fun _ => none
def asT (f : M D) : M (List D) := bd f fun x => match x with
  | .tuple ds => rtn ds
  | _ => fun _ => none
theorem walkL {a : Addr} {vs : List V} {ds : List D} (n : vs.length = ds.length) : WalkD K (Itl K a) (fun P H => mask P H a = some (.lst vs) ∧ RpA K (mask P H) vs ds) ds := by
  refine ⟨fun P i H hi g => ⟨vs, vs[i]'(by omega), SqL.of (mask_le _ _ g.1), by simp⟩, fun P H g => ⟨vs, SqL.of (mask_le _ _ g.1), by omega⟩, fun P i H x H' hi t g y => ?_, fun P P' H H' q g => ⟨q _ _ g.1, g.2.mono q⟩⟩
  obtain ⟨rfl, y⟩ := y
  have h := y vs (SqL.of (mask_le _ _ g.1))
  obtain ⟨d, h1, h2⟩ := g.2.getv h
  exact ⟨Grw.refl _, d, h1, h2⟩
theorem walkT {a : Addr} {vs : List V} {ds : List D} (n : vs.length = ds.length) : WalkD K (Itt K a) (fun P H => SqT K (mask P H) a vs ∧ RpA K (mask P H) vs ds) ds := by
  refine ⟨fun P i H hi g => ⟨vs, vs[i]'(by omega), sqT_le g.1, by simp⟩, fun P H g => ⟨vs, sqT_le g.1, by omega⟩, fun P i H x H' hi t g y => ?_, fun P P' H H' q g => ⟨SqT.grw q g.1, g.2.mono q⟩⟩
  obtain ⟨rfl, y⟩ := y
  have h := y vs (sqT_le g.1)
  obtain ⟨d, h1, h2⟩ := g.2.getv h
  exact ⟨Grw.refl _, d, h1, h2⟩
theorem ei_list (h : EvE K te f) : EvI K (iList K te) (asL f) := by
  intro A hid P s σ H ds s' ok e R q
  obtain ⟨x, s1, h1, e⟩ := bd_some e
  refine h A hid P s σ H x s1 ok h1 _ fun v P1 H1 ok1 st1 r => ?_
  split at e
  · obtain ⟨rfl, rfl⟩ := rtn_some e
    obtain ⟨a, vs, rfl, hx, rr⟩ := r.lst_inv
    exact ⟨a, rfl, ⟨vs, SqL.of (mask_le _ _ hx)⟩, q _ _ P1 H1 ok1 st1 (walkL rr.length) ⟨hx, rr⟩⟩
  · cases e
theorem ei_tup (h : EvE K te f) : EvI K (iTup K te) (asT f) := by
  intro A hid P s σ H ds s' ok e R q
  obtain ⟨x, s1, h1, e⟩ := bd_some e
  refine h A hid P s σ H x s1 ok h1 _ fun v P1 H1 ok1 st1 r => ?_
  split at e
  · obtain ⟨rfl, rfl⟩ := rtn_some e
    obtain ⟨a, vs, rfl, hx, rr⟩ := r.tup_inv
    exact ⟨a, rfl, ⟨vs, sqT_le hx⟩, q _ _ P1 H1 ok1 st1 (walkT rr.length) ⟨hx, rr⟩⟩
  · cases e
theorem di_list (h : DE X e te f) : DI X tg e (iList X.K te) (asL f) := ⟨pi_list h.p, ei_list h.v⟩
theorem di_tup (h : DE X e te f) : DI X tg e (iTup X.K te) (asT f) := ⟨pi_tup h.p, ei_tup h.v⟩
/-- range(n), range(a, b) -/
def rngD (lo : Int) (n : Nat) : List D := (List.range n).map fun i => .int (lo + (i : Nat))
theorem walkR {lo : Int} {n : Nat} : WalkD K (Itr lo n) (fun _ _ => True) (rngD lo n) := by
  have hl : (rngD lo n).length = n := by simp [rngD]
  refine ⟨fun P i H hi g => by rw [hl] at hi; exact hi, fun P H g => by rw [hl]; exact Nat.le_refl _, fun P i H x H' hi t g y => ?_, fun _ _ _ _ _ g => g⟩
  obtain ⟨rfl, rfl⟩ := y
  rw [hl] at hi
  exact ⟨Grw.refl _, .int (lo + (i : Nat)), by simp [rngD, hi], .int _⟩
def rg1 (fr : M (List D)) : M (List D) := bd fr fun ds => match ds with
  | [.int j] => if -(2 ^ 62) ≤ j ∧ j < 2 ^ 62 then rtn (rngD 0 j.toNat) else fun _ => none
  | _ => fun _ => none
def rg2 (fr : M (List D)) : M (List D) := bd fr fun ds => match ds with
  | [.int i, .int j] => if -(2 ^ 62) ≤ i ∧ i < 2 ^ 62 ∧ -(2 ^ 62) ≤ j ∧ j < 2 ^ 62 then rtn (rngD i (j - i).toNat) else fun _ => none
  | _ => fun _ => none
theorem ei_rg1 (h : EvA K tr fr) : EvI K (iRng1 tr) (rg1 fr) := by
  intro A hid P s σ H ds s' ok e R q
  obtain ⟨xs, s1, h1, e⟩ := bd_some e
  refine h A hid P s σ H xs s1 ok h1 _ fun vs P1 H1 ok1 st1 r => ?_
  split at e
  · split at e
    · rename_i hb
      obtain ⟨rfl, rfl⟩ := rtn_some e
      obtain ⟨v, rfl, r1⟩ := r.one
      cases r1
      exact ⟨_, rfl, hb.1, hb.2, q _ _ P1 H1 ok1 st1 walkR True.intro⟩
    · cases e
  · cases e
theorem ei_rg2 (h : EvA K tr fr) : EvI K (iRng2 tr) (rg2 fr) := by
  intro A hid P s σ H ds s' ok e R q
  obtain ⟨xs, s1, h1, e⟩ := bd_some e
  refine h A hid P s σ H xs s1 ok h1 _ fun vs P1 H1 ok1 st1 r => ?_
  split at e
  · split at e
    · rename_i hb
      obtain ⟨rfl, rfl⟩ := rtn_some e
      obtain ⟨v, u, rfl, r1, r2⟩ := r.two
      cases r1; cases r2
      exact ⟨_, _, rfl, hb, q _ _ P1 H1 ok1 st1 walkR True.intro⟩
    · cases e
  · cases e
theorem di_rg1 {a : Expr} (hg : Gl X "range") (hm : X.mg "range" = none) (ha : DAr X [a] tr fr) (hs : starEach [a] X.env = [(false, eval a X.env)] := by rfl) : DI X tg (.Call (.Name "range" p) [a] [] pos) (iRng1 tr) (rg1 fr) := ⟨pi_range1 hg hm ha.p hs, ei_rg1 ha.v⟩
theorem di_rg2 {a b : Expr} (hg : Gl X "range") (hm : X.mg "range" = none) (ha : DAr X [a, b] tr fr) (hs : starEach [a, b] X.env = [(false, eval a X.env), (false, eval b X.env)] := by rfl) (hs2 : starEach [b] X.env = [(false, eval b X.env)] := by rfl) :
    DI X tg (.Call (.Name "range" p) [a, b] [] pos) (iRng2 tr) (rg2 fr) := ⟨pi_range2 hg hm ha.p hs hs2, ei_rg2 ha.v⟩
end
/-! ### for -/
def loop (asg : D → M Unit) (body : M Fl) : List D → M Fl
  | [] => rtn .nx
  | x :: r => bd (asg x) fun _ => bd body fun fl => match fl with
    | .nx => loop asg body r
    | .ct => loop asg body r
    | .bk => rtn .nx
    | .rt d => rtn (.rt d)
def sFor (it : M (List D)) (asg : D → M Unit) (body : M Fl) : M Fl := bd it fun ds => loop asg body ds
section
variable {X : Cx} {K : PySem.W.Frag} {tg iter : Expr} {wi : TI} {it : M (List D)} {js : List Nat} {g : TG} {fg : D → M Unit} {body : List Stmt} {tb : TS} {m : M Fl} {pos : Pos}
theorem es_for (hi : EvI K wi it) (hg : EvG K js g fg) (hb : EvS K tb m) : EvS K (tFor wi g tb) (sFor it fg m) := by
  intro A hid P s σ H fl s' ok e D q
  obtain ⟨ds, s1, h1, e⟩ := bd_some e
  refine hi A hid P s σ H ds s1 ok h1 _ fun J G P1 H1 ok1 st1 w g1 => ?_
  -- the word: either the rest of the loop is still to come, or it has been left
  refine ⟨fun i n σ' H' => n = ds.length - i ∧ i ≤ ds.length ∧ ∃ P' s2, SOk K A hid P' s2 σ' H' ∧ Stp hid P P' H H' ∧ G P' H' ∧ loop fg m (ds.drop i) s2 = some (fl, s'),
    ⟨ds.length, by omega, Nat.zero_le _, P1, s1, ok1, st1, g1, e⟩, ?_⟩
  rintro i n σ' H' ⟨rfl, hle, P', s2, ok2, st2, g2, e2⟩
  by_cases hlt : i < ds.length
  · refine .inr ⟨w.goes P' i H' hlt g2, fun σ3 H3 => ∃ P3 s3, SOk K A hid P3 s3 σ3 H3 ∧ Stp hid P P3 H H3 ∧ G P3 H3 ∧ loop fg m (ds.drop (i + 1)) s3 = some (fl, s'), fun σ3 H3 ⟨P3, s3, a1, a2, a3, a4⟩ => ⟨ds.length - (i + 1), by omega, rfl, hlt, P3, s3, a1, a2, a3, a4⟩, fun x H3 y => ?_⟩
    obtain ⟨gr, d, hd, rx⟩ := w.yields P' i H' x H3 hlt ok2.trk g2 y
    have ok3 := ok2.grw gr
    have st3 : Stp hid P P' H H3 := st2.trans (Stp.grw gr)
    have g3 : G P' H3 := w.stay P' P' H' H3 (grw_mask gr) g2
    rw [List.drop_eq_getElem_cons hlt] at e2
    have hd' : ds[i] = d := by rw [List.getElem?_eq_getElem hlt] at hd; exact Option.some.inj hd
    rw [hd'] at e2
    obtain ⟨_, s4, e4, e5⟩ := bd_some e2
    refine hg A hid P' s2 σ' H3 x d s4 ok3 rx e4 _ fun σ4 P4 H4 ok4 st4 _ => ?_
    obtain ⟨fl5, s5, e6, e7⟩ := bd_some e5
    refine hb A hid P4 s4 σ4 H4 fl5 s5 ok4 e6 _ ?_
    have fwd : ∀ (σ6 : St) (P6 : Addr → Prop) (H6 : Hp), SOk K A hid P6 s5 σ6 H6 → Stp hid P4 P6 H4 H6 → loop fg m (ds.drop (i + 1)) s5 = some (fl, s') →
        ∃ P3 s3, SOk K A hid P3 s3 σ6 H6 ∧ Stp hid P P3 H H6 ∧ G P3 H6 ∧ loop fg m (ds.drop (i + 1)) s3 = some (fl, s') :=
      fun σ6 P6 H6 ok6 st6 e8 => ⟨P6, s5, ok6, (st3.trans st4).trans st6, w.stay P' P6 H3 H6 (st4.trans st6).mg g3, e8⟩
    cases fl5 with
    | nx => exact fun σ6 P6 H6 ok6 st6 => fwd σ6 P6 H6 ok6 st6 e7
    | ct => exact fun σ6 P6 H6 ok6 st6 => fwd σ6 P6 H6 ok6 st6 e7
    | bk =>
      obtain ⟨rfl, rfl⟩ := rtn_some e7
      exact fun σ6 P6 H6 ok6 st6 => q σ6 P6 H6 ok6 ((st3.trans st4).trans st6)
    | rt r =>
      obtain ⟨rfl, rfl⟩ := rtn_some e7
      exact fun v σ6 P6 H6 ok6 st6 rr => q v σ6 P6 H6 ok6 ((st3.trans st4).trans st6) rr
  · have hi : i = ds.length := by omega
    subst hi
    rw [List.drop_length] at e2
    obtain ⟨rfl, rfl⟩ := rtn_some e2
    exact .inl ⟨w.stops P' H' g2, q σ' P' H' ok2 st2⟩
theorem ds_for (hp : PassesOwn (model X.prog X.w) X.A X.env X.xe) (hc : X.calm = true) (hi : DI X tg iter wi it) (hg : DG X tg js g fg) (hb : DSs X body tb m) (hs : ∀ x, foldedSetIterable iter X.env x = pure x := by intro _; rfl) :
    DS X (.For tg iter body [] pos) (tFor wi g tb) (sFor it fg m) := ⟨ps_for hp hc hi.p hg.p hb.p hs, es_for hi.v hg.v hb.v⟩
end
/-! ### comprehensions -/
def wipeL (g : List (Option Val)) : List Nat → List (Option Val)
  | [] => g
  | v :: vs => (wipeL g vs).set v none
def wipeS (s : S) (vs : List Nat) : S := { s with g := wipeL s.g vs }
theorem SOk.wiped {K : PySem.W.Frag} {A : DA} {hid P : Addr → Prop} {s : S} {σ : St} {H : Hp} (ok : SOk K A hid P s σ H) : ∀ vs : List Nat, SOk K A hid P (wipeS s vs) (wipe σ vs) H
  | [] => ok
  | v :: vs => (SOk.wiped ok vs).set_none (i := v) (v := none)
theorem wipe_get (σ : St) : ∀ (vs : List Nat) (i : Nat), (wipe σ vs)[i]? = if i ∈ vs ∧ i < σ.length then some none else σ[i]?
  | [], i => by simp [wipe]
  | v :: vs, i => by
    show ((wipe σ vs).set v none)[i]? = _
    rw [get_set, wipe_get σ vs i, wipe_length]
    by_cases h1 : v = i
    · subst h1
      by_cases h2 : v < σ.length
      · simp [h2]
      · simp [h2]
    · simp [h1, Ne.symm h1]
theorem wipe_same {σ σ' : St} {vs : List Nat} (h : OutSame vs σ σ') : wipe σ' vs = wipe σ vs := by
  apply List.ext_getElem?
  intro i
  rw [wipe_get, wipe_get, h.1]
  by_cases k : i ∈ vs ∧ i < σ.length
  · rw [if_pos k, if_pos k]
  · rw [if_neg k, if_neg k]
    by_cases m : i ∈ vs
    · have hl : ¬ i < σ.length := fun z => k ⟨m, z⟩
      have h1 := h.1
      rw [List.getElem?_eq_none (show σ'.length ≤ i by omega), List.getElem?_eq_none (show σ.length ≤ i by omega)]
    · exact h.2 i m
theorem wipe_wipe (σ : St) (vs : List Nat) : wipe (wipe σ vs) vs = wipe σ vs := by
  apply List.ext_getElem?
  intro i
  rw [wipe_get, wipe_length]
  by_cases k : i ∈ vs ∧ i < σ.length
  · rw [if_pos k, wipe_get, if_pos k]
  · rw [if_neg k]
/-- the block's own slots hold nothing known outside -/
theorem SOk.unwipe {K : PySem.W.Frag} {A : DA} {hid P : Addr → Prop} {s : S} {σ σ' : St} {H : Hp} {vs : List Nat} (ok : SOk K A hid P s σ' H) (h : OutSame vs σ σ') : SOk K A hid P (wipeS s vs) σ H := by
  have okw := ok.wiped vs
  have hs : ∀ (i : Nat) (v : Val), (wipeS s vs).g[i]? = some (some v) → i ∉ vs ∧ s.g[i]? = some (some v) := by
    have key : ∀ (ws : List Nat) (i : Nat) (v : Val), (wipeL s.g ws)[i]? = some (some v) → i ∉ ws ∧ s.g[i]? = some (some v) := by
      intro ws
      induction ws with
      | nil => intro i v e; exact ⟨by simp, e⟩
      | cons w ws ih =>
        intro i v e
        have e : ((wipeL s.g ws).set w none)[i]? = some (some v) := e
        rw [get_set] at e
        split at e
        · cases e
        · rename_i hn
          obtain ⟨h1, h2⟩ := ih i v e
          refine ⟨fun z => ?_, h2⟩
          rcases List.mem_cons.mp z with z | z
          · refine hn ⟨z.symm, ?_⟩
            exact (List.getElem?_eq_some_iff.mp e).1
          · exact h1 z
    exact key vs
  refine ⟨okw.trk, okw.hp, okw.hd, ?_, fun i v e => ?_, fun i j v w a e1 e2 c1 c2 e3 e4 => ?_, okw.deck⟩
  · rw [okw.len, wipe_length, h.1]
  · obtain ⟨h1, h2⟩ := hs i v e
    have q := ok.slot i v h2
    rw [h.2 i h1] at q
    exact q
  · obtain ⟨h1, h2⟩ := hs i v e1
    obtain ⟨h3, h4⟩ := hs j w e2
    exact ok.apart i j v w a h2 h4 c1 c2 (by rw [h.2 i h1]; exact e3) (by rw [h.2 j h3]; exact e4)
def lcLoop (own : List Nat) (asg : D → M Unit) (test : M Bool) (elt : M D) : List D → List D → M (List D)
  | [], acc => rtn acc
  | x :: r, acc => fun s => (bd (asg x) fun _ => bd test fun b => if b = true then bd elt fun d => if acc.length ≤ lim then fun s1 => lcLoop own asg test elt r (acc ++ [d]) (wipeS s1 own) else fun _ => none
      else fun s1 => lcLoop own asg test elt r acc (wipeS s1 own)) s
def nLc (own : List Nat) (it : M (List D)) (asg : D → M Unit) (test : M Bool) (elt : M D) : M (List D) := bd it fun ds => fun s => lcLoop own asg test elt ds [] (wipeS s own)
/-- the heap without one object -/
def rmv (p : Addr) (H : Hp) : Hp := fun a => if a = p then none else H a
theorem rmv_ne {p a : Addr} {H : Hp} (h : a ≠ p) : rmv p H a = H a := by unfold rmv; rw [if_neg h]
theorem rmv_same {p : Addr} {H : Hp} : rmv p H p = none := by unfold rmv; rw [if_pos rfl]
theorem upd_rmv {p : Addr} {H : Hp} {o : HO} : upd (rmv p H) p o = upd H p o := by
  funext a
  unfold upd rmv
  by_cases ha : a = p
  · rw [if_pos ha, if_pos ha]
  · rw [if_neg ha, if_neg ha, if_neg ha]
section
variable {K : PySem.W.Frag} {A : DA} {hid P : Addr → Prop} {s : S} {σ : St} {H : Hp} {p : Addr} {o : HO}
theorem SOk.hide (ok : SOk K A hid P s σ H) (hp : H p = none) (no : NoT o := by exact trivial) : SOk K A (fun a => hid a ∨ a = p) (fun a => P a ∨ a = p) s σ (upd H p o) := by
  have r : SOk K A hid (fun a => P a ∨ a = p) s σ (upd H p o) := ok.reserve hp no
  have np : ¬ P p := ok.free hp
  refine ⟨r.trk, fun a z => z.imp (ok.hp a) fun z => z, fun a z => ?_, r.len, fun i v e => ?_, r.apart, r.deck⟩
  · rcases z with z | z
    · exact ok.hd a z
    · subst z; exact fun y => np (ok.deck.rs _ y)
  · have q := r.slot i v e
    have q0 := ok.slot i v e
    cases v with
    | dat d => exact q
    | deck => exact q
    | obj o => exact q
    | lst ds =>
      obtain ⟨a, vs, e5, h1, h2, h3, h4, rr⟩ := q
      obtain ⟨b, us, e6, k1, k2, _⟩ := q0
      rw [e5] at e6; cases e6
      exact ⟨a, vs, e5, h1, h2, fun z => z.elim h3 fun z => np (z ▸ k2), h4, rr⟩
    | dct tt ds =>
      obtain ⟨a, e5, h2, h3, h4, rr⟩ := q
      obtain ⟨b, e6, k2, _⟩ := q0
      rw [e5] at e6; cases e6
      exact ⟨a, e5, h2, fun z => z.elim h3 fun z => np (z ▸ k2), h4, rr⟩
theorem Stp.hide (hp : H p = none) : Stp hid P (fun a => P a ∨ a = p) H (upd H p o) := Stp.reserve hp
theorem unhide_grw (hp : P p) : Grw (mask P H) (mask (fun a => P a ∧ a ≠ p) (rmv p H)) := mask_grw fun a u e c => ⟨fun z => c z.1, by rw [rmv_ne (show a ≠ p from fun z => c (by rw [z]; exact hp))]; exact e⟩
theorem SOk.unhide (ok : SOk K A (fun a => hid a ∨ a = p) P s σ H) (nh : ¬ hid p) : SOk K A hid (fun a => P a ∧ a ≠ p) s σ (rmv p H) := by
  have hp : P p := ok.hp p (.inr rfl)
  have g := unhide_grw (H := H) hp
  have nA : ∀ a, A.is a → a ≠ p := fun a z w => ok.hd p (.inr rfl) (w ▸ z)
  refine ⟨fun a z => ?_, fun a z => ⟨ok.hp a (.inl z), fun w => nh (w ▸ z)⟩, fun a z => ok.hd a (.inl z), ok.len, fun i v e => ?_, ok.apart, ?_⟩
  · obtain ⟨u, e, n⟩ := ok.trk a z.1
    exact ⟨u, by rw [rmv_ne z.2]; exact e, n⟩
  · have q := ok.slot i v e
    cases v with
    | dat d => obtain ⟨u, e5, r⟩ := q; exact ⟨u, e5, r.mono g⟩
    | deck => exact q
    | obj o =>
      obtain ⟨y, h1, h2, h3⟩ := q
      exact ⟨y, h1, h2, h3.move g fun b hb u e => by rw [rmv_ne (nA b (.inr (.inr (.inr ⟨y, h1, hb⟩))))]; exact e⟩
    | lst ds =>
      obtain ⟨a, vs, e5, h1, h2, h3, h4, rr⟩ := q
      have ha : a ≠ p := fun z => h3 (.inr z)
      exact ⟨a, vs, e5, by rw [rmv_ne ha]; exact h1, ⟨h2, ha⟩, fun z => h3 (.inl z), h4, rr.mono g⟩
    | dct tt ds =>
      obtain ⟨a, e5, h2, h3, h4, rr⟩ := q
      have ha : a ≠ p := fun z => h3 (.inr z)
      refine ⟨a, e5, ⟨h2, ha⟩, fun z => h3 (.inl z), h4, ?_⟩
      rcases rr with ⟨ht, ks, h1, rr⟩ | ⟨ht, ks, h1, rr⟩
      · exact .inl ⟨ht, ks, by rw [rmv_ne ha]; exact h1, rr.mono g⟩
      · exact .inr ⟨ht, ks, by rw [rmv_ne ha]; exact h1, rr.mono g⟩
  · have d := ok.deck
    exact ⟨by rw [rmv_ne (nA _ (.inl rfl))]; exact d.ho, by rw [rmv_ne (nA _ (.inr (.inl rfl)))]; exact d.hg, by rw [rmv_ne (nA _ (.inr (.inr (.inl rfl))))]; exact d.hc, fun a z => ⟨d.rs a z, nA a z⟩, d.og, d.oc, d.gc⟩
theorem Stp.unhide {P' : Addr → Prop} {H' : Hp} (hp : H p = none) (st : Stp (fun a => hid a ∨ a = p) (fun a => P a ∨ a = p) P' (upd H p o) H') : Stp hid P (fun a => P' a ∧ a ≠ p) H (rmv p H') ∧ H' p = some o := by
  refine ⟨⟨fun a u e c => ?_, fun a u e c z => ?_⟩, st.keep p o upd_same (.inl (.inr rfl))⟩
  · have ha : a ≠ p := ne_of_none e hp
    rw [rmv_ne ha]
    exact st.keep a u (by rw [upd_ne ha]; exact e) (c.imp (fun z => .inl z) fun z w => w.elim z ha)
  · have ha : a ≠ p := ne_of_none e hp
    exact st.vis a u (by rw [upd_ne ha]; exact e) (fun w => w.elim c ha) z.1
end
theorem en_lc {K : PySem.W.Frag} {wi : TI} {it : M (List D)} {js : List Nat} {g : TG} {fg : D → M Unit} {tt : TT} {gt : M Bool} {te : TE} {fe : M D} {own : List Nat} (hi : EvI K wi it) (hg : EvG K js g fg) (hj : ∀ i ∈ js, i ∈ own) (ht : EvT K tt gt) (he : EvE K te fe) :
    EvN K (tLc wi g tt te own) (nLc own it fg gt fe) := by
  intro A hid P s σ H dsF s' ok e Q q
  obtain ⟨ds, s1, h1, e⟩ := bd_some e
  refine hi A hid P s σ H ds s1 ok h1 _ fun J G P1 H1 ok1 st1 w g1 Dl hD => ?_
  let Wd : Nat → Hp → Prop := fun i H' => ∃ (P' : Addr → Prop) (s2 : S) (H2 : Hp) (acc : List D) (vs : List V), SOk K A hid P' s2 (wipe σ own) H2 ∧ SOk K A hid P' s2 σ H2 ∧ Stp hid P P' H H2 ∧ G P' H2 ∧ H2 Dl = none ∧ H' = upd H2 Dl (.lst vs) ∧ RpA K (mask P' H2) vs acc ∧ lcLoop own fg gt fe (ds.drop i) acc s2 = some (dsF, s')
  refine ⟨fun i n H' => n = ds.length - i ∧ i ≤ ds.length ∧ Wd i H', ⟨ds.length, by omega, Nat.zero_le _, P1, wipeS s1 own, H1, [], [], ok1.wiped own, (ok1.unwipe OutSame.refl), st1, g1, hD, rfl, .nil, e⟩, ?_⟩
  rintro i n H' ⟨rfl, hle, P', s2, H2, acc, vs, okw, ok2, st2, g2, hn, rfl, ra, e2⟩
  have nhd : ¬ hid Dl := fun z => okw.free hn (okw.hp _ z)
  by_cases hlt : i < ds.length
  · have okR : SOk K A (fun a => hid a ∨ a = Dl) (fun a => P' a ∨ a = Dl) s2 (wipe σ own) (upd H2 Dl (.lst vs)) := okw.hide hn
    have gR : G (fun a => P' a ∨ a = Dl) (upd H2 Dl (.lst vs)) := w.stay _ _ _ _ (Stp.hide (hid := hid) (o := .lst vs) hn).mg g2
    refine .inr ⟨w.goes _ i _ hlt gR, Wd (i + 1), fun H' h => ⟨ds.length - (i + 1), by omega, rfl, hlt, h⟩, fun x H3 y => ?_⟩
    obtain ⟨gr, d, hd, rx⟩ := w.yields _ i _ x H3 hlt okR.trk gR y
    rw [List.drop_eq_getElem_cons hlt] at e2
    have hd' : ds[i] = d := by rw [List.getElem?_eq_getElem hlt] at hd; exact Option.some.inj hd
    rw [hd'] at e2
    unfold lcLoop at e2
    obtain ⟨_, s4, e4, e5⟩ := bd_some e2
    have g3 : G (fun a => P' a ∨ a = Dl) H3 := w.stay _ _ _ _ (grw_mask gr) gR
    refine hg A _ _ s2 (wipe σ own) H3 x d s4 (okR.grw gr) rx e4 _ fun σ4 P4 H4 ok4 st4 o4 => ?_
    have o4' : OutSame own (wipe σ own) σ4 := o4.mono hj
    refine ⟨by rw [wipe_same o4', wipe_wipe], ?_⟩
    obtain ⟨bb, s5, e6, e7⟩ := bd_some e5
    refine ht A _ P4 s4 σ4 H4 bb s5 ok4 e6 _ fun P5 H5 ok5 st5 => ?_
    have o5 : OutSame own σ σ4 := by
      have k1 : OutSame own σ (wipe σ own) := ⟨wipe_length _ _, fun j hj => by rw [wipe_get, if_neg (fun z => hj z.1)]⟩
      exact k1.trans o4'
    have st45 : Stp (fun a => hid a ∨ a = Dl) (fun a => P' a ∨ a = Dl) P5 (upd H2 Dl (.lst vs)) H5 := ((Stp.grw gr).trans st4).trans st5
    -- back to the state without the list
    have fin : ∀ (Pn : Addr → Prop) (Hn : Hp) (sn : S) (acc' : List D) (us : List V), SOk K A (fun a => hid a ∨ a = Dl) Pn sn σ4 Hn → Stp (fun a => hid a ∨ a = Dl) (fun a => P' a ∨ a = Dl) Pn (upd H2 Dl (.lst vs)) Hn → G Pn Hn →
        RpA K (mask Pn Hn) us acc' → lcLoop own fg gt fe (ds.drop (i + 1)) acc' (wipeS sn own) = some (dsF, s') → Wd (i + 1) (upd Hn Dl (.lst us)) := by
      intro Pn Hn sn acc' us okn stn gn rus en
      have hPn : Pn Dl := okn.hp Dl (.inr rfl)
      have oku := okn.unhide nhd
      have gu := unhide_grw (H := Hn) hPn
      refine ⟨_, wipeS sn own, rmv Dl Hn, acc', us, ?_, oku.unwipe o5, st2.trans (stn.unhide hn).1, w.stay _ _ _ _ gu gn, rmv_same, upd_rmv.symm, rus.mono gu, en⟩
      have e9 : wipe σ4 own = wipe σ own := wipe_same o5
      have := oku.wiped own
      rw [e9] at this
      exact this
    have g5 : G P5 H5 := w.stay _ _ _ _ (st4.trans st5).mg g3
    cases bb with
    | true =>
      rw [if_pos rfl] at e7 ⊢
      obtain ⟨d6, s6, e8, e9⟩ := bd_some e7
      refine he A _ P5 s5 σ4 H5 d6 s6 ok5 e8 _ fun v P6 H6 ok6 st6 r6 => ?_
      have st46 := st45.trans st6
      split at e9
      · rename_i hl
        refine ⟨vs, (st46.unhide hn).2, by rw [ra.length]; exact lim_lt hl, ?_⟩
        refine fin P6 H6 s6 (acc ++ [d6]) (vs ++ [v]) ok6 st46 (w.stay _ _ _ _ st6.mg g5) ?_ e9
        have r1 : RpA K (mask (fun a => P' a ∨ a = Dl) (upd H2 Dl (.lst vs))) vs acc := ra.mono (Stp.hide (hid := hid) (o := .lst vs) hn).mg
        exact (r1.mono st46.mg).append (.cons r6 .nil)
      · cases e9
    | false =>
      rw [if_neg Bool.false_ne_true] at e7 ⊢
      have r1 : RpA K (mask (fun a => P' a ∨ a = Dl) (upd H2 Dl (.lst vs))) vs acc := ra.mono (Stp.hide (hid := hid) (o := .lst vs) hn).mg
      have hf := fin P5 H5 s5 acc vs ok5 st45 g5 (r1.mono st45.mg) e7
      have hD5 : H5 Dl = some (.lst vs) := (st45.unhide hn).2
      have e10 : upd H5 Dl (.lst vs) = H5 := by
        funext a
        by_cases ha : a = Dl
        · rw [ha, upd_same, hD5]
        · rw [upd_ne ha]
      rw [e10] at hf
      exact hf
  · have hi : i = ds.length := by omega
    subst hi
    rw [List.drop_length] at e2
    obtain ⟨rfl, rfl⟩ := rtn_some e2
    refine .inl ⟨?_, ?_⟩
    · exact w.stops _ _ (w.stay P' (fun a => P' a ∨ a = Dl) H2 _ (Stp.hide (hid := hid) (o := .lst vs) hn).mg g2)
    · exact q vs P' H2 Dl ok2 st2 hn ra
structure DTs (X : Cx) (ifs : List Expr) (t : TT) (f : M Bool) : Prop where
  p : PTs X ifs t
  v : EvT X.K t f
theorem dts_nil {X : Cx} : DTs X [] tYes (rtn true) := ⟨pts_nil, by
  intro A hid P s σ H b s' ok h Q q
  obtain ⟨rfl, rfl⟩ := rtn_some h
  exact q P H ok Stp.refl⟩
theorem dts_one {X : Cx} {c : Expr} {t : TT} {f : M Bool} (h : DT X c t f) : DTs X [c] t f := ⟨pts_one h.p, h.v⟩
section
variable {X : Cx}
theorem dn_lc {elt tg iter : Expr} {ifs : List Expr} {scope : Scope} {own : List (Str × Nat)} {pos : Pos} {wi : TI} {g : TG} {tt : TT} {te : TE} {it : M (List D)} {js : List Nat} {fg : D → M Unit} {gt : M Bool} {fe : M D} (hc : X.calm = true) (hN : X.N.Nodup) (hi : DI X tg iter wi it) (ok : BlkOk X.N X.env.scope scope own)
    (hg : ∀ (s : Shared) (H : Hp) (C : Addr) (cl : List (Str × Addr)) (fp : List Addr), DG (X.blk s H scope (compEnvC scope cl C X.env) fp) tg js g fg) (hj : ∀ i ∈ js, i ∈ own.map (·.2)) (ht : ∀ (s : Shared) (H : Hp) (C : Addr) (cl : List (Str × Addr)) (fp : List Addr), DTs (X.blk s H scope (compEnvC scope cl C X.env) fp) ifs tt gt)
    (he : ∀ (s : Shared) (H : Hp) (C : Addr) (cl : List (Str × Addr)) (fp : List Addr), DE (X.blk s H scope (compEnvC scope cl C X.env) fp) elt te fe) (hs : ∀ x, foldedSetIterable iter X.env x = pure x := by intro _; rfl) :
    DN X (.ListComp elt [⟨tg, iter, ifs, 0⟩] scope pos) (tLc wi g tt te (own.map (·.2))) (nLc (own.map (·.2)) it fg gt fe) := by
  refine ⟨pe_lc hc hN hi.p ok (fun s H C cl fp => (hg s H C cl fp).p) (fun s H C cl fp => (ht s H C cl fp).p) (fun s H C cl fp => (he s H C cl fp).p) hs, ?_⟩
  exact en_lc hi.v (hg X.s_0 X.H_0 0 [] []).v hj (ht X.s_0 X.H_0 0 [] []).v (he X.s_0 X.H_0 0 [] []).v
end
end DL


namespace DL
open PySem PySem.Spec PyProof.Rows L2
/-! DL6: calls of the text's own defs; a def by its body. -/
abbrev FS := List Val → Dk → Option (D × Dk)
def ArgOk (K : PySem.W.Frag) (A : DA) (P : Addr → Prop) (H : Hp) (v : V) : Val → Prop
  | .dat d => Rp K (mask P H) v d
  | .deck => v = .ref A.o
  | .obj o => ∃ y, A.x = some y ∧ v = .ref y.p ∧ ObOk K y A P H o
  | _ => False
def ArgsOk (K : PySem.W.Frag) (A : DA) (P : Addr → Prop) (H : Hp) : List V → List Val → Prop
  | [], [] => True
  | v :: vs, x :: xs => ArgOk K A P H v x ∧ ArgsOk K A P H vs xs
  | _, _ => False
theorem ArgsOk.length {K : PySem.W.Frag} {A : DA} {P : Addr → Prop} {H : Hp} : ∀ {vs : List V} {xs : List Val}, ArgsOk K A P H vs xs → vs.length = xs.length
  | [], [], _ => rfl
  | _ :: _, _ :: _, h => by simp [ArgsOk.length h.2]
  | [], _ :: _, h => h.elim
  | _ :: _, [], h => h.elim
theorem ArgsOk.get {K : PySem.W.Frag} {A : DA} {P : Addr → Prop} {H : Hp} : ∀ {vs : List V} {xs : List Val} {i : Nat} {x : Val}, ArgsOk K A P H vs xs → xs[i]? = some x → ∃ v, vs[i]? = some v ∧ ArgOk K A P H v x
  | [], [], _, _, _, e => by simp at e
  | v :: _, _ :: _, 0, _, h, e => by simp at e; subst e; exact ⟨v, rfl, h.1⟩
  | _ :: vs, _ :: xs, i + 1, x, h, e => by
    obtain ⟨v, h1, h2⟩ := ArgsOk.get (i := i) h.2 (by simpa using e)
    exact ⟨v, by simpa using h1, h2⟩
  | [], _ :: _, _, _, h, _ => h.elim
  | _ :: _, [], _, _, h, _ => h.elim
/-- a def's promise by a pure function -/
def spD (K : PySem.W.Frag) (sem : FS) : Sp := fun vs H Q _ => ∃ (A : DA) (P : Addr → Prop) (xs : List Val) (k : Dk) (d : D) (k' : Dk), A.x = none ∧ Trk P H ∧ DkOk A P H k ∧ ArgsOk K A P H vs xs ∧ sem xs k = some (d, k') ∧
  ∀ v H', (∀ a o, H a = some o → ¬ A.is a → H' a = some o) → DkOk A P H' k' → Rp K (mask P H') v d → Q v H'
def semOf (np n : Nat) (m : M Fl) : FS := fun xs k => if xs.length = np then (match m ⟨xs.map some ++ List.replicate (n - xs.length) none, k⟩ with
  | some (.rt d, s') => some (d, s'.k)
  | some (.nx, s') => some (.none, s'.k)
  | _ => none) else none
section
variable {P : Program} {w : World} {K : PySem.W.Frag} {mg : Str → Option Value} {base : Heap}
theorem sok_start {A : DA} {R : Addr → Prop} {H : Hp} {vs : List V} {xs : List Val} {k : Dk} {N : List Str} (t : Trk R H) (dk : DkOk A R H k) (ar : ArgsOk K A R H vs xs) :
    SOk K A (fun a => R a ∧ ¬ A.is a) R ⟨xs.map some ++ List.replicate (N.length - xs.length) none, k⟩ (L2.start N vs) H := by
  have hl := ar.length
  have hs : ∀ (i : Nat) (v : Val), (xs.map some ++ List.replicate (N.length - xs.length) none)[i]? = some (some v) → xs[i]? = some v := fun i v e => by
    by_cases h : i < xs.length
    · rw [List.getElem?_append_left (by simpa using h), List.getElem?_map] at e
      cases q : xs[i]? with
      | none => rw [q] at e; cases e
      | some x => rw [q] at e; cases e; rfl
    · rw [List.getElem?_append_right (by simpa using h), List.getElem?_replicate] at e
      split at e <;> cases e
  have hv : ∀ (i : Nat) (v : V), vs[i]? = some v → (L2.start N vs)[i]? = some (some v) := fun i v e => by
    have h : i < vs.length := (List.getElem?_eq_some_iff.mp e).1
    unfold L2.start
    rw [List.getElem?_append_left (by simpa using h), List.getElem?_map, e]; rfl
  refine ⟨t, fun a z => z.1, fun a z => z.2, ?_, fun i v e => ?_, fun i j v u a e1 e2 c1 c2 _ _ => ?_, dk⟩
  · unfold L2.start
    simp only [List.length_append, List.length_map, List.length_replicate]
    omega
  · obtain ⟨x, h1, h2⟩ := ar.get (hs i v e)
    have h3 := hv i x h1
    cases v with
    | dat d => exact ⟨x, h3, h2⟩
    | deck => show (L2.start N vs)[i]? = _; rw [h3]; cases h2; rfl
    | obj o =>
      obtain ⟨y, z1, z2, z3⟩ := h2
      subst z2
      exact ⟨y, z1, h3, z3⟩
    | lst _ => exact h2.elim
    | dct _ _ => exact h2.elim
  · obtain ⟨x, h1, h2⟩ := ar.get (hs i v e1)
    cases v with
    | dat d => cases c1
    | deck => cases c1
    | obj o => cases c1
    | lst _ => exact h2.elim
    | dct _ _ => exact h2.elim
theorem fnD_of {x qual : Str} {st : Stmt} {f : Addr} {fd : FuncData} {N ps : List Str} {k : Nat} {m : M Fl} (F : Fun K x qual st f fd) (Sc : FnScope N ps (defScope st))
    (body : ∀ (cdv : Value) (A : Around) (outer : List Env) (s : Shared) (H : Hp) (E : XK), Room k (A.deeper (envOfC qual (defScope st) s.heap.objs.size f cdv)) →
      ∃ t, DSs (cxOf CX0 P w K mg base N qual (defScope st) f cdv A outer s H E).nox (defBody st) t m) : FnOk P w K mg base CX0 (k + 1) f fd ps (spD K (semOf ps.length N.length m)) := by
  refine F.ok Sc (fun vs H Q E h => ?_) (fun cdv A outer s H vs Q E hr h => ?_)
  · obtain ⟨A, R, xs, k, d, k', _, t, dk, ar, e, _⟩ := h
    unfold semOf at e
    split at e
    · rename_i hl; rw [ar.length]; exact hl
    · cases e
  · obtain ⟨A0, R, xs, k0, d, k', _, t, dk, ar, e, q⟩ := h
    obtain ⟨tt, hD⟩ := body cdv A outer s H E hr
    refine ⟨tt, hD.p, ?_⟩
    unfold semOf at e
    split at e
    · have ok := sok_start (N := N) t dk ar
      have done : ∀ (P' : Addr → Prop) (H' : Hp) (s' : S) (σ' : St), SOk K A0 (fun a => R a ∧ ¬ A0.is a) P' s' σ' H' → Stp (fun a => R a ∧ ¬ A0.is a) R P' H H' →
          (∀ a o, H a = some o → ¬ A0.is a → H' a = some o) ∧ DkOk A0 R H' s'.k ∧ Grw (mask P' H') (mask R H') := fun P' H' s' σ' ok' st' => by
        refine ⟨fun a o ha na => st'.keep a o ha ?_, ⟨ok'.deck.ho, ok'.deck.hg, ok'.deck.hc, dk.rs, dk.og, dk.oc, dk.gc⟩, mask_grw fun a o ha na => ⟨fun z => na ?_, ha⟩⟩
        · by_cases hR : R a
          · exact .inl ⟨hR, na⟩
          · exact .inr hR
        · by_cases hA : A0.is a
          · exact ok'.deck.rs a hA
          · exact ok'.hp a ⟨z, hA⟩
      cases hm : m ⟨xs.map some ++ List.replicate (N.length - xs.length) none, k0⟩ with
      | none => rw [hm] at e; cases e
      | some r =>
        obtain ⟨fl, s'⟩ := r
        rw [hm] at e
        refine hD.v A0 _ R _ _ H fl s' ok hm _ ?_
        cases fl with
        | nx =>
          cases e
          intro σ' P' H' ok' st'
          obtain ⟨h1, h2, _⟩ := done P' H' s' σ' ok' st'
          exact q .non H' h1 h2 .non
        | rt d2 =>
          cases e
          intro v σ' P' H' ok' st' r
          obtain ⟨h1, h2, h3⟩ := done P' H' s' σ' ok' st'
          exact q v H' h1 h2 (r.mono h3)
        | bk => cases e
        | ct => cases e
    · cases e
end
/-! ### argument lists of such calls -/
inductive AV where
  | dat (d : D) | deck | bor (i : Nat)
/-- a borrowed slot's addresses are seen -/
def Pb (P : Addr → Prop) (σ : St) (B : List Nat) : Addr → Prop := fun a => P a ∧ ∀ i ∈ B, σ[i]? ≠ some (some (.ref a))
def AVOk (K : PySem.W.Frag) (A : DA) (P : Addr → Prop) (σ : St) (B : List Nat) (H : Hp) (v : V) : AV → Prop
  | .dat d => Rp K (mask P H) v d
  | .deck => v = .ref A.o
  | .bor i => σ[i]? = some (some v) ∧ i ∈ B
def AVsOk (K : PySem.W.Frag) (A : DA) (P : Addr → Prop) (σ : St) (B : List Nat) (H : Hp) : List V → List AV → Prop
  | [], [] => True
  | v :: vs, x :: xs => AVOk K A P σ B H v x ∧ AVsOk K A P σ B H vs xs
  | _, _ => False
def EvV (K : PySem.W.Frag) (B : List Nat) (t : TA) (f : M (List AV)) : Prop := ∀ (A : DA) (hid P : Addr → Prop) (s : S) (σ : St) (H : Hp) (xs : List AV) (s' : S), SOk K A hid P s σ H → f s = some (xs, s') →
  ∀ Q : List V → Hp → Prop, (∀ vs P' H', SOk K A hid P' s' σ H' → Stp hid P P' H H' → AVsOk K A P' σ B H' vs xs → Q vs H') → t σ H Q
structure DV (X : Cx) (es : List Expr) (B : List Nat) (t : TA) (f : M (List AV)) : Prop where
  p : PA X es t
  v : EvV X.K B t f
theorem AVsOk.stp {K : PySem.W.Frag} {A : DA} {hid P P' : Addr → Prop} {σ : St} {B : List Nat} {H H' : Hp} (st : Stp hid P P' H H') : ∀ {vs : List V} {xs : List AV}, AVsOk K A P σ B H vs xs → AVsOk K A P' σ B H' vs xs
  | [], [], _ => True.intro
  | v :: vs, x :: xs, h => ⟨by
      have h1 := h.1
      cases x with
      | dat d => exact st.rp h1
      | deck => exact h1
      | bor i => exact h1, AVsOk.stp st h.2⟩
  | [], _ :: _, h => h.elim
  | _ :: _, [], h => h.elim
section
variable {X : Cx} {K : PySem.W.Frag} {B : List Nat} {e : Expr} {es : List Expr} {te : TE} {f : M D} {tr : TA} {fr : M (List AV)} {pos : Pos}
def vNil : M (List AV) := rtn []
def vDat (f : M D) (fr : M (List AV)) : M (List AV) := bd f fun x => bd fr fun xs => rtn (.dat x :: xs)
def vDeck (i : Nat) (fr : M (List AV)) : M (List AV) := fun s => match s.g[i]? with
  | some (some .deck) => (bd fr fun xs => rtn (.deck :: xs)) s
  | _ => none
def vBor (i : Nat) (fr : M (List AV)) : M (List AV) := fun s => match s.g[i]? with
  | some (some (.lst _)) => (bd fr fun xs => rtn (.bor i :: xs)) s
  | some (some (.dct _ _)) => (bd fr fun xs => rtn (.bor i :: xs)) s
  | _ => none
theorem ev_vnil : EvV K B tNil vNil := by
  intro A hid P s σ H ds s' ok h Q q
  obtain ⟨rfl, rfl⟩ := rtn_some h
  exact q [] P H ok Stp.refl True.intro
theorem ev_vdat (ha : EvE K te f) (hr : EvV K B tr fr) : EvV K B (tCons te tr) (vDat f fr) := by
  intro A hid P s σ H ds s' ok h Q q
  obtain ⟨x, s1, h1, h⟩ := bd_some h
  obtain ⟨xs, s2, h2, h⟩ := bd_some h
  obtain ⟨rfl, rfl⟩ := rtn_some h
  refine ha A hid P s σ H x s1 ok h1 _ fun v P1 H1 ok1 st1 r1 => ?_
  refine hr A hid P1 s1 σ H1 xs _ ok1 h2 _ fun vs P2 H2 ok2 st2 r2 => ?_
  exact q (v :: vs) P2 H2 ok2 (st1.trans st2) ⟨st2.rp r1, r2⟩
theorem ev_vdeck {i : Nat} (hr : EvV K B tr fr) : EvV K B (tCons (tVar i) tr) (vDeck i fr) := by
  intro A hid P s σ H ds s' ok h Q q
  unfold vDeck at h
  split at h
  · rename_i hi
    obtain ⟨xs, s2, h2, h⟩ := bd_some h
    obtain ⟨rfl, rfl⟩ := rtn_some h
    have e : σ[i]? = some (some (.ref A.o)) := ok.slot i _ hi
    refine ⟨_, e, hr A hid P s σ H xs _ ok h2 _ fun vs P2 H2 ok2 st2 r2 => ?_⟩
    exact q (_ :: vs) P2 H2 ok2 st2 ⟨rfl, r2⟩
  · cases h
theorem ev_vbor {i : Nat} (hB : i ∈ B) (hr : EvV K B tr fr) : EvV K B (tCons (tVar i) tr) (vBor i fr) := by
  intro A hid P s σ H ds s' ok h Q q
  unfold vBor at h
  split at h
  · rename_i hi
    obtain ⟨xs, s2, h2, h⟩ := bd_some h
    obtain ⟨rfl, rfl⟩ := rtn_some h
    obtain ⟨a, vs, e, _⟩ := ok.slot i _ hi
    refine ⟨_, e, hr A hid P s σ H xs _ ok h2 _ fun vs P2 H2 ok2 st2 r2 => ?_⟩
    exact q (_ :: vs) P2 H2 ok2 st2 ⟨⟨e, hB⟩, r2⟩
  · rename_i hi
    obtain ⟨xs, s2, h2, h⟩ := bd_some h
    obtain ⟨rfl, rfl⟩ := rtn_some h
    obtain ⟨a, e, _⟩ := ok.slot i _ hi
    refine ⟨_, e, hr A hid P s σ H xs _ ok h2 _ fun vs P2 H2 ok2 st2 r2 => ?_⟩
    exact q (_ :: vs) P2 H2 ok2 st2 ⟨⟨e, hB⟩, r2⟩
  · cases h
theorem dv_nil : DV X [] B tNil vNil := ⟨pa_nil, ev_vnil⟩
theorem dv_dat (ha : DE X e te f) (hr : DV X es B tr fr) (hs : starEach (e :: es) X.env = (false, eval e X.env) :: starEach es X.env := by rfl) : DV X (e :: es) B (tCons te tr) (vDat f fr) := ⟨pa_cons ha.p hr.p hs, ev_vdat ha.v hr.v⟩
theorem dv_deck (i : Nat) {x : Str} {p : Pos} (hr : DV X es B tr fr) (hN : X.N[i]? = some x := by rfl) (hv : Vis X.env.scope x := by first | exact Or.inl rfl | exact Or.inr (Or.inl rfl) | exact Or.inr (Or.inr rfl)) (hd : (x == ("__debug__" : Str)) = false := by decide)
    (hcd : (x == ("__classdict__" : Str)) = false := by decide) (hs : starEach (.Name x p :: es) X.env = (false, eval (.Name x p) X.env) :: starEach es X.env := by rfl) : DV X (.Name x p :: es) B (tCons (tVar i) tr) (vDeck i fr) := ⟨pa_cons (pe_var hN hv hd hcd) hr.p hs, ev_vdeck hr.v⟩
theorem dv_bor (i : Nat) {x : Str} {p : Pos} (hB : i ∈ B) (hr : DV X es B tr fr) (hN : X.N[i]? = some x := by rfl) (hv : Vis X.env.scope x := by first | exact Or.inl rfl | exact Or.inr (Or.inl rfl) | exact Or.inr (Or.inr rfl)) (hd : (x == ("__debug__" : Str)) = false := by decide)
    (hcd : (x == ("__classdict__" : Str)) = false := by decide) (hs : starEach (.Name x p :: es) X.env = (false, eval (.Name x p) X.env) :: starEach es X.env := by rfl) : DV X (.Name x p :: es) B (tCons (tVar i) tr) (vBor i fr) := ⟨pa_cons (pe_var hN hv hd hcd) hr.p hs, ev_vbor hB hr.v⟩
end
def resB (x : Option (Option Val)) : Option Val := match x with
  | some (some (.lst ds)) => some (.dat (.list ds))
  | some (some (.dct _ ds)) => some (.dat (.dict ds))
  | _ => none
def res (s : S) : AV → Option Val
  | .dat d => some (.dat d)
  | .deck => some .deck
  | .bor i => resB s.g[i]?
mutual
def noMut : D → Bool
  | .list _ | .dict _ => false
  | .tuple xs => noMutA xs
  | _ => true
def noMutA : List D → Bool
  | [] => true
  | x :: r => noMut x && noMutA r
end
mutual
theorem Rp.tupsOnly {K : PySem.W.Frag} {H H' : Hp} (h : ∀ a xs, H a = some (.tup xs) → H' a = some (.tup xs)) : ∀ {v : V} {d : D}, Rp K H v d → noMut d = true → Rp K H' v d
  | _, _, .non, _ => .non
  | _, _, .bl b, _ => .bl b
  | _, _, .int i, _ => .int i
  | _, _, .str x, _ => .str x
  | _, _, .lst _ _, e => by simp [noMut] at e
  | _, _, .tup q r, e => .tup (h _ _ q) (RpA.tupsOnly h r (by simpa [noMut] using e))
  | _, _, .dK _ _, e => by simp [noMut] at e
  | _, _, .dT _ _, e => by simp [noMut] at e
theorem RpA.tupsOnly {K : PySem.W.Frag} {H H' : Hp} (h : ∀ a xs, H a = some (.tup xs) → H' a = some (.tup xs)) : ∀ {v : List V} {d : List D}, RpA K H v d → noMutA d = true → RpA K H' v d
  | _, _, .nil, _ => .nil
  | _, _, .cons a b, e => by
    rw [noMutA, Bool.and_eq_true] at e
    exact .cons (Rp.tupsOnly h a e.1) (RpA.tupsOnly h b e.2)
end
section
variable {X : Cx} {K : PySem.W.Frag} {B : List Nat}
theorem avs_args {A : DA} {hid P : Addr → Prop} {s : S} {σ : St} {H : Hp} (ok : SOk K A hid P s σ H) : ∀ {vs : List V} {avs : List AV} {xs : List Val}, AVsOk K A P σ B H vs avs → avs.mapM (res s) = some xs → ArgsOk K A.no (Pb P σ B) H vs xs
  | [], [], xs, _, e => by cases e; exact True.intro
  | v :: vs, x :: avs, xs, h, e => by
    rw [List.mapM_cons] at e
    cases e1 : res s x with
    | none => rw [e1] at e; cases e
    | some y =>
      rw [e1] at e
      cases e2 : avs.mapM (res s) with
      | none => rw [e2] at e; cases e
      | some ys =>
        rw [e2] at e; cases e
        refine ⟨?_, avs_args ok h.2 e2⟩
        have g : Grw (mask P H) (mask (Pb P σ B) H) := mask_grw fun a o ha na => ⟨fun z => na z.1, ha⟩
        have h1 := h.1
        cases x with
        | dat d => cases e1; exact Rp.mono g h1
        | deck => cases e1; exact h1
        | bor i =>
          obtain ⟨ei, iB⟩ := h1
          have e1 : resB s.g[i]? = some y := e1
          unfold resB at e1
          split at e1
          · cases e1
            rename_i hi
            obtain ⟨a, us, e5, k1, k2, k3, k4, rr⟩ := ok.slot i _ hi
            rw [ei] at e5; cases e5
            exact .lst (mask_some.mpr ⟨fun z => z.2 i iB ei, k1⟩) (rr.mono g)
          · cases e1
            rename_i hi
            obtain ⟨a, e5, k2, k3, k4, rr⟩ := ok.slot i _ hi
            rw [ei] at e5; cases e5
            rcases rr with ⟨ht, ks, k1, rr⟩ | ⟨ht, ks, k1, rr⟩
            · exact .dK (.inl (mask_some.mpr ⟨fun z => z.2 i iB ei, k1⟩)) (rr.mono g)
            · exact .dT (.inl (mask_some.mpr ⟨fun z => z.2 i iB ei, k1⟩)) (rr.mono g)
          · cases e1
  | [], _ :: _, _, h, _ => h.elim
  | _ :: _, [], _, h, _ => h.elim
/-- behind a call -/
theorem sok_after {A : DA} {hid P : Addr → Prop} {s : S} {σ : St} {H H' : Hp} {k' : Dk} {R : Addr → Prop} (ok : SOk K A hid P s σ H) (hk : ∀ a o, H a = some o → ¬ A.no.is a → H' a = some o) (dk : DkOk A.no R H' k') :
    SOk K A hid P { s with k := k' } σ H' ∧ Stp hid P P H H' := by
  have nA : ∀ a, ¬ P a → ¬ A.no.is a := fun a n z => n (ok.deck.rs a (DA.no_is z))
  have g : Grw (mask P H) (mask P H') := mask_grw fun a o e c => ⟨c, hk a o e (nA a c)⟩
  refine ⟨⟨fun a z => ?_, ok.hp, ok.hd, ok.len, fun i v e => ?_, ok.apart, ⟨dk.ho, dk.hg, dk.hc, ok.deck.rs, dk.og, dk.oc, dk.gc⟩⟩, ⟨fun a o e c => hk a o e ?_, fun _ _ _ c => c⟩⟩
  · by_cases hA : A.no.is a
    · rcases hA with rfl | rfl | rfl | ⟨_, z, _⟩
      · exact ⟨_, dk.ho, trivial⟩
      · exact ⟨_, dk.hg, trivial⟩
      · exact ⟨_, dk.hc, trivial⟩
      · cases z
    · obtain ⟨o, e, n⟩ := ok.trk a z
      exact ⟨o, hk a o e hA, n⟩
  · have q := ok.slot i v e
    cases v with
    | dat d => obtain ⟨u, e5, r⟩ := q; exact ⟨u, e5, r.mono g⟩
    | deck => exact q
    | obj o =>
      obtain ⟨y, h1, h2, fs, h3, h4, h5, h6, h7, h8, h9⟩ := q
      refine ⟨y, h1, h2, ObOk.move ⟨fs, h3, h4, h5, h6, h7, h8, h9⟩ g fun b hb u e => hk b u e fun z => ?_⟩
      rcases z with z | z | z | ⟨_, z, _⟩
      · rcases hb with hb | hb | hb
        · exact ne_of h3 ok.deck.ho (fun w => nomatch w) (hb.symm.trans z)
        · exact ne_of h4 ok.deck.ho (fun w => nomatch w) (hb.symm.trans z)
        · exact (h8 b hb).1 z
      · rcases hb with hb | hb | hb
        · exact ne_of h3 ok.deck.hg (fun w => nomatch w) (hb.symm.trans z)
        · exact ne_of h4 ok.deck.hg (fun w => nomatch w) (hb.symm.trans z)
        · exact (h8 b hb).2.1 z
      · rcases hb with hb | hb | hb
        · exact ne_of h3 ok.deck.hc (fun w => nomatch w) (hb.symm.trans z)
        · exact ne_of h4 ok.deck.hc (fun w => nomatch w) (hb.symm.trans z)
        · exact (h8 b hb).2.2 z
      · cases z
    | lst ds => obtain ⟨a, vs, e5, h1, h2, h3, h4, rr⟩ := q; exact ⟨a, vs, e5, hk _ _ h1 (fun z => h4 (DA.no_is z)), h2, h3, h4, rr.mono g⟩
    | dct tt ds =>
      obtain ⟨a, e5, h2, h3, h4, rr⟩ := q
      refine ⟨a, e5, h2, h3, h4, ?_⟩
      rcases rr with ⟨ht, ks, h1, rr⟩ | ⟨ht, ks, h1, rr⟩
      · exact .inl ⟨ht, ks, hk _ _ h1 (fun z => h4 (DA.no_is z)), rr.mono g⟩
      · exact .inr ⟨ht, ks, hk _ _ h1 (fun z => h4 (DA.no_is z)), rr.mono g⟩
  · rcases c with c | c
    · exact fun z => ok.hd a c (DA.no_is z)
    · exact nA a c
theorem sq_cell {A : DA} {hid P : Addr → Prop} {s : S} {σ : St} {H : Hp} (ok : SOk K A hid P s σ H) (hB : ∀ i ∈ B, ∃ v, s.g[i]? = some (some v) ∧ isCell v = true) {a : Addr} {xs : List V} (h : mask (Pb P σ B) H a = some (.tup xs)) : mask P H a = some (.tup xs) := by
  have key : ∀ o, mask (Pb P σ B) H a = some o → (∀ vs, o ≠ .lst vs) → (∀ ks, o ≠ .dK ks) → (∀ ks, o ≠ .dT ks) → mask P H a = some o := by
    intro o e n1 n2 n3
    obtain ⟨h1, h2⟩ := mask_some.mp e
    refine mask_some.mpr ⟨fun z => h1 ⟨z, fun i iB ei => ?_⟩, h2⟩
    obtain ⟨v, hv, c⟩ := hB i iB
    have q := ok.slot i v hv
    cases v with
    | dat d => cases c
    | deck => cases c
    | lst ds =>
      obtain ⟨b, us, e5, k1, _⟩ := q
      rw [ei] at e5; cases e5
      rw [h2] at k1; cases k1
      exact n1 _ rfl
    | obj o => cases c
    | dct tt ds =>
      obtain ⟨b, e5, _, _, _, rr⟩ := q
      rw [ei] at e5; cases e5
      rcases rr with ⟨_, ks, k1, _⟩ | ⟨_, ks, k1, _⟩
      · rw [h2] at k1; cases k1; exact n2 _ rfl
      · rw [h2] at k1; cases k1; exact n3 _ rfl
  exact key _ h (fun _ z => nomatch z) (fun _ z => nomatch z) (fun _ z => nomatch z)
/-- the borrowed slots are cells -/
def BorOk (B : List Nat) (s : S) : Prop := ∀ i ∈ B, ∃ v, s.g[i]? = some (some v) ∧ isCell v = true
def cellsB (B : List Nat) (s : S) : Bool := B.all fun i => match s.g[i]? with
  | some (some v) => isCell v
  | _ => false
theorem cellsB_ok {s : S} (h : cellsB B s = true) : BorOk B s := fun i hi => by
  unfold cellsB at h
  have := List.all_eq_true.mp h i hi
  split at this
  · rename_i v e; exact ⟨v, e, this⟩
  · cases this
def eCallB (B : List Nat) (sem : FS) (fr : M (List AV)) : M D := bd fr fun avs => fun s => if cellsB B s = true then (match avs.mapM (res s) with
  | some xs => match sem xs s.k with
    | some (d, k') => if (B.isEmpty || noMut d) = true then some (d, { s with k := k' }) else none
    | none => none
  | none => none) else none
theorem ev_call {tr : TA} {fr : M (List AV)} {sem : FS} (h : EvV K B tr fr) : EvE K (tCall (spD K sem) [] E0 tr) (eCallB B sem fr) := by
  intro A hid P s σ H d s' ok e Q q
  obtain ⟨avs, s1, h1, e⟩ := bd_some e
  split at e
  · rename_i hc
    split at e
    · rename_i xs hx
      split at e
      · rename_i d' k' hs
        split at e
        · rename_i hm
          cases e
          refine h A hid P s σ H avs s1 ok h1 _ fun vs P1 H1 ok1 st1 r1 => ?_
          have ar := avs_args ok1 r1 hx
          show spD K sem (vs ++ []) H1 Q E0
          rw [List.append_nil]
          have hB := cellsB_ok hc
          have nB0 : ∀ a, A.is a → Pb P1 σ B a := fun a z => ⟨ok1.deck.rs a z, fun i iB ei => by
            obtain ⟨v, hv, c⟩ := hB i iB
            have qq := ok1.slot i v hv
            cases v with
            | dat d => cases c
            | deck => cases c
            | obj o => cases c
            | lst ds => obtain ⟨b, us, e5, _, _, _, k4, _⟩ := qq; rw [ei] at e5; cases e5; exact k4 z
            | dct tt ds => obtain ⟨b, e5, _, _, k4, _⟩ := qq; rw [ei] at e5; cases e5; exact k4 z⟩
          have nB : ∀ a, A.no.is a → Pb P1 σ B a := fun a z => nB0 a (DA.no_is z)
          refine ⟨A.no, Pb P1 σ B, xs, s1.k, d, k', rfl, fun a z => ok1.trk a z.1, ⟨ok1.deck.ho, ok1.deck.hg, ok1.deck.hc, nB, ok1.deck.og, ok1.deck.oc, ok1.deck.gc⟩, ar, hs, fun v H' hk dk r => ?_⟩
          obtain ⟨ok2, st2⟩ := sok_after ok1 hk dk
          refine q v P1 H' ok2 (st1.trans st2) ?_
          rw [Bool.or_eq_true] at hm
          rcases hm with hm | hm
          · have hB0 : B = [] := by simpa using hm
            subst hB0
            exact r.mono (mask_grw fun a o ha na => ⟨fun z => na ⟨z, fun i iB => by simp at iB⟩, ha⟩)
          · exact r.tupsOnly (fun a xs hq => sq_cell ok2 hB hq) hm
        · cases e
      · cases e
    · cases e
  · cases e
end
/-! ### the defs of the text, as one fact -/
def permL {α : Type} (pm : List Nat) (l : List α) : List α := pm.filterMap fun i => l[i]?
/-- keywords alone, as many as there are parameters, put in their order -/
def gK {α : Type} (pm : List Nat) (us ws : List α) : List α := if us.length = 0 ∧ ws.length = pm.length then permL pm ws else []
theorem vals_get {vs : List V} {us : List Value} (h : Vals vs us) (i : Nat) : (vs[i]? = none ∧ us[i]? = none) ∨ ∃ v u, vs[i]? = some v ∧ us[i]? = some u ∧ RelV v u := by
  induction h generalizing i with
  | nil => exact .inl ⟨by simp, by simp⟩
  | cons r _ ih =>
    cases i with
    | zero => exact .inr ⟨_, _, rfl, rfl, r⟩
    | succ n => simpa using ih n
theorem vals_perm {vs : List V} {us : List Value} (h : Vals vs us) : ∀ pm : List Nat, Vals (permL pm vs) (permL pm us)
  | [] => .nil
  | i :: pm => by
    have ih := vals_perm h pm
    unfold permL at ih ⊢
    rw [List.filterMap_cons, List.filterMap_cons]
    rcases vals_get h i with ⟨h1, h2⟩ | ⟨v, u, h1, h2, r⟩
    · rw [h1, h2]; exact ih
    · rw [h1, h2]; exact .cons r ih
theorem kbinds_of {K : PySem.W.Frag} {fd : FuncData} {ps ks : List Str} {pm : List Nat} (hp : ps ≠ []) (h : ∀ ws : List Value, ws.length = pm.length → bindArgs fd ⟨[], ks.zip ws⟩ = pure (ps.zip (permL pm ws))) : KBinds K fd ps ks (gK pm) (gK pm) := by
  refine ⟨fun s us ws _ hl => ?_, fun {vs us zs ws} r r2 => ?_⟩
  · unfold gK at hl ⊢
    split at hl
    · rename_i hc
      rw [if_pos hc]
      have : us = [] := List.length_eq_zero_iff.mp hc.1
      subst this
      exact .of_eq (h ws hc.2)
    · exact absurd (List.length_eq_zero_iff.mp hl.symm) hp
  · unfold gK
    rw [r.length, r2.length]
    split
    · exact vals_perm r2 pm
    · exact .nil
structure FnD (P : Program) (w : World) (K : PySem.W.Frag) (mg : Str → Option Value) (base : Heap) (k : Nat) (x : Str) (ps : List Str) (kws : List (List Str × List Nat)) (sem : FS) : Prop where
  ex : ∃ (f : Addr) (fd : FuncData), FnOk P w K mg base CX0 k f fd ps (spD K sem) ∧ mg x = some (.ref f) ∧ PySem.W.keepIn K (.ref f) = true ∧ Binds K fd ps [] ∧
    ∀ q ∈ kws, KBinds K fd ps q.1 (gK q.2) (gK q.2)
section
variable {X : Cx} {B : List Nat} {x : Str} {p pos : Pos} {e : Expr} {es : List Expr} {tr : TA} {fr : M (List AV)} {k : Nat} {ps : List Str} {kws : List (List Str × List Nat)} {sem : FS}
theorem de_call (F : FnD X.prog X.w X.K X.mg X.base k x ps kws sem) (hr : Room k X.A) (hg : Gl X x) (ha : DV X (e :: es) B tr fr) (hdb : (x == ("__debug__" : Str)) = false := by decide) (he : starEach (e :: es) X.env = (false, eval e X.env) :: starEach es X.env := by rfl)
    (hpl : (backTo pos (starEach es X.env)).any (·.1) = false := by rfl) : DE X (.Call (.Name x p) (e :: es) [] pos) (tCall (spD X.K sem) [] E0 tr) (eCallB B sem fr) := by
  obtain ⟨f, fd, F1, hm, hk, hb, _⟩ := F.ex
  exact ⟨pe_call F1 hr hg hm hk hb .nil pass0 ha.p hdb he hpl, ev_call ha.v⟩
theorem de_call0 (F : FnD X.prog X.w X.K X.mg X.base k x ps kws sem) (hr : Room k X.A) (hg : Gl X x) (hdb : (x == ("__debug__" : Str)) = false := by decide) : DE X (.Call (.Name x p) [] [] pos) (tCall (spD X.K sem) [] E0 tNil) (eCallB [] sem vNil) := by
  obtain ⟨f, fd, F1, hm, hk, hb, _⟩ := F.ex
  exact ⟨pe_call0 F1 hr hg hm hk hb .nil pass0 hdb, ev_call ev_vnil⟩
/-! keywords alone -/
structure DVK (X : Cx) (kw : List Keyword) (B : List Nat) (t : TA) (f : M (List AV)) : Prop where
  p : PK X kw t
  v : EvV X.K B t f
theorem dk_nil : DVK X [] B tNil vNil := ⟨pk_nil, ev_vnil⟩
theorem dk_dat {nm : Option Str} {kpos : Pos} {kw : List Keyword} {te : TE} {f : M D} (ha : DE X e te f) (hr : DVK X kw B tr fr) : DVK X (⟨nm, e, kpos⟩ :: kw) B (tCons te tr) (vDat f fr) := ⟨pk_cons ha.p hr.p, ev_vdat ha.v hr.v⟩
theorem dk_deck (i : Nat) {y : Str} {py : Pos} {nm : Option Str} {kpos : Pos} {kw : List Keyword} (hr : DVK X kw B tr fr) (hN : X.N[i]? = some y := by rfl) (hv : Vis X.env.scope y := by first | exact Or.inl rfl | exact Or.inr (Or.inl rfl) | exact Or.inr (Or.inr rfl)) (hd : (y == ("__debug__" : Str)) = false := by decide)
    (hcd : (y == ("__classdict__" : Str)) = false := by decide) : DVK X (⟨nm, .Name y py, kpos⟩ :: kw) B (tCons (tVar i) tr) (vDeck i fr) := ⟨pk_cons (pe_var hN hv hd hcd) hr.p, ev_vdeck hr.v⟩
theorem pe_callK0 {CX : CXT} {f : Addr} {fd : FuncData} {sp : Sp} {E : XK} {kw : List Keyword} {ks : List Str} {tk : TA} {g : List Value → List Value → List Value} {gV : List V → List V → List V} (F : FnOk X.prog X.w X.K X.mg X.base CX k f fd ps sp) (hr : Room k X.A) (hg : Gl X x) (hm : X.mg x = some (.ref f)) (hk : PySem.W.keepIn X.K (.ref f) = true) (hb : KBinds X.K fd ps ks g gV) (hx : Passes CX X E)
    (hkw : PK X kw tk) (hall : (backToKw pos (keywordEach kw X.env)).all (·.1.isSome) = true := by rfl) (hks : (backToKw pos (keywordEach kw X.env)).filterMap (·.1) = ks := by rfl)
    (hdb : (x == ("__debug__" : Str)) = false := by decide) (hpl : ((backTo pos (starEach [] X.env)).any (·.1) || (backToKw pos (keywordEach kw X.env)).any (·.1.isNone)) = false := by rfl) :
    PE X (.Call (.Name x p) [] kw pos) (tCallK sp gV E tNil tk) := by
  refine ⟨fun pins s σ H Q I h => ?_⟩
  refine wpAny_Call_Name_kw (ld_glob I hg hm ?_ hdb)
  refine PySem.W.callWith_KW0 (h₀ := X.base) I.ok.mod.kin hk hall (thn (hkw.run pos pins s σ H _ I h) fun ws s2 ⟨zs, H2, I2, rz, q2⟩ => ⟨I2.kIn, ?_⟩) hpl
  rw [hks]
  exact run_fnk (us := []) (vs := []) F hr hb hx I2 .nil rz q2
def vPerm (pm : List Nat) (fr : M (List AV)) : M (List AV) := bd fr fun xs => if xs.length = pm.length ∧ (pm.all fun i => decide (i < xs.length)) = true then rtn (permL pm xs) else fun _ => none
theorem AVsOk.get {K : PySem.W.Frag} {A : DA} {P : Addr → Prop} {σ : St} {H : Hp} : ∀ {vs : List V} {xs : List AV} (i : Nat), AVsOk K A P σ B H vs xs → i < xs.length → ∃ v a, vs[i]? = some v ∧ xs[i]? = some a ∧ AVOk K A P σ B H v a
  | [], [], _, _, e => by simp at e
  | v :: _, x :: _, 0, h, e => ⟨v, x, rfl, rfl, h.1⟩
  | _ :: vs, _ :: xs, i + 1, h, e => by
    obtain ⟨v, a, h1, h2, h3⟩ := AVsOk.get i h.2 (by simpa using e)
    exact ⟨v, a, by simpa using h1, by simpa using h2, h3⟩
  | [], _ :: _, _, h, _ => h.elim
  | _ :: _, [], _, h, _ => h.elim
theorem AVsOk.length {K : PySem.W.Frag} {A : DA} {P : Addr → Prop} {σ : St} {H : Hp} : ∀ {vs : List V} {xs : List AV}, AVsOk K A P σ B H vs xs → vs.length = xs.length
  | [], [], _ => rfl
  | _ :: _, _ :: _, h => by simp [AVsOk.length h.2]
  | [], _ :: _, h => h.elim
  | _ :: _, [], h => h.elim
theorem AVsOk.perm {K : PySem.W.Frag} {A : DA} {P : Addr → Prop} {σ : St} {H : Hp} {vs : List V} {xs : List AV} (h : AVsOk K A P σ B H vs xs) : ∀ pm : List Nat, (pm.all fun i => decide (i < xs.length)) = true → AVsOk K A P σ B H (permL pm vs) (permL pm xs)
  | [], _ => True.intro
  | i :: pm, e => by
    rw [List.all_cons, Bool.and_eq_true, decide_eq_true_eq] at e
    obtain ⟨v, a, h1, h2, h3⟩ := h.get i e.1
    have ih := AVsOk.perm h pm e.2
    unfold permL at ih ⊢
    rw [List.filterMap_cons, List.filterMap_cons, h1, h2]
    exact ⟨h3, ih⟩
theorem ev_callK {K : PySem.W.Frag} {pm : List Nat} (h : EvV K B tr fr) : EvE K (tCallK (spD K sem) (gK pm) E0 tNil tr) (eCallB B sem (vPerm pm fr)) := by
  have h' : EvV K B (fun σ H Q => tr σ H fun zs H2 => Q (gK pm [] zs) H2) (vPerm pm fr) := by
    intro A hid P s σ H xs s' ok e Q q
    obtain ⟨ys, s1, h1, e⟩ := bd_some e
    split at e
    · rename_i hp
      obtain ⟨rfl, rfl⟩ := rtn_some e
      refine h A hid P s σ H ys _ ok h1 _ fun vs P1 H1 ok1 st1 r1 => q _ P1 H1 ok1 st1 ?_
      unfold gK
      rw [if_pos ⟨rfl, by rw [r1.length]; exact hp.1⟩]
      exact r1.perm pm hp.2
    · cases e
  have h2 := ev_call (sem := sem) h'
  intro A hid P s σ H d s' ok e Q q
  have h3 := h2 A hid P s σ H d s' ok e Q q
  show tr σ H fun zs H2 => spD K sem (gK pm [] zs) H2 Q E0
  have h4 : tr σ H fun zs H2 => spD K sem (gK pm [] zs ++ []) H2 Q E0 := h3
  simp only [List.append_nil] at h4
  exact h4
theorem de_callK {kw : List Keyword} (ks : List Str) (pm : List Nat) (F : FnD X.prog X.w X.K X.mg X.base k x ps kws sem) (hq : (ks, pm) ∈ kws) (hr : Room k X.A) (hg : Gl X x) (ha : DVK X kw B tr fr)
    (hall : (backToKw pos (keywordEach kw X.env)).all (·.1.isSome) = true := by rfl) (hks : (backToKw pos (keywordEach kw X.env)).filterMap (·.1) = ks := by rfl)
    (hdb : (x == ("__debug__" : Str)) = false := by decide) (hpl : ((backTo pos (starEach [] X.env)).any (·.1) || (backToKw pos (keywordEach kw X.env)).any (·.1.isNone)) = false := by rfl) :
    DE X (.Call (.Name x p) [] kw pos) (tCallK (spD X.K sem) (gK pm) E0 tNil tr) (eCallB B sem (vPerm pm fr)) := by
  obtain ⟨f, fd, F1, hm, hk, hb, hkb⟩ := F.ex
  exact ⟨pe_callK0 F1 hr hg hm hk (hkb _ hq) pass0 ha.p hall hks hdb hpl, ev_callK ha.v⟩
end
end DL


namespace DL
open PySem PySem.Spec PyProof.Rows L2
/-! DL7: repr. -/
mutual
/-- every dict within is empty -/
def dict0 : D → Bool
  | .list xs | .tuple xs => dict0A xs
  | .dict [] => true
  | .dict _ => false
  | _ => true
def dict0A : List D → Bool
  | [] => true
  | x :: r => dict0 x && dict0A r
end
mutual
/-- an int within has less than 4300 digits -/
def shw : D → Bool
  | .int i => decide (i.natAbs.log2 < 14190)
  | .list xs | .tuple xs => shwA xs
  | _ => true
def shwA : List D → Bool
  | [] => true
  | x :: r => shw x && shwA r
end
/-- the statics hold no limit of digits -/
def NoDig (K : PySem.W.Frag) : Prop := PySem.W.nsIn K cStatics "sys.int_max_str_digits" = some none
theorem unheld {K : PySem.W.Frag} {h : Heap} {at_ : Addr} {mc : Str → Option Value} {n : Str} (hK : K.In h) (G : h.Ns at_ mc) : PySem.W.nsIn K at_ n = some none → mc n = none := by
  obtain ⟨ob, en, k, hob, hda, _, all⟩ := G
  intro e
  rw [PySem.W.nsIn.eq_def] at e
  cases hl : K.lookup at_ with
  | none => rw [hl] at e; cases e
  | some o2 =>
    have q := hK _ _ hl
    rw [hob, Option.some.injEq] at q
    subst q
    obtain ⟨c1, c2, c3, c4⟩ := ob
    cases (show c3 = _ from hda)
    rw [hl] at e
    dsimp only at e
    cases hf : en.toList.find? (·.key.isStr n) with
    | some y => rw [hf] at e; cases e
    | none =>
      rw [← all, nsFind, findBy, ← Array.find?_toList, hf]
      rfl
theorem noDig_in {K : PySem.W.Frag} {h : Heap} (z : NoDig K) (hK : K.In h) (l : h.NoLimit) : h.NoDigits := by
  obtain ⟨mc, a, _⟩ := l
  exact ⟨mc, a, unheld hK a z⟩
theorem pow_hi : 2 ^ 14190 ≤ 10 ^ 4300 := by
  have h : (2 ^ 33) ^ 430 ≤ (10 ^ 10) ^ 430 := Nat.pow_le_pow_left (by decide) 430
  rw [← Nat.pow_mul, ← Nat.pow_mul] at h
  exact h
theorem big_lt {i : Int} (h : i.natAbs.log2 < 14190) : i.natAbs < 10 ^ 4300 := Nat.lt_of_lt_of_le (lt_of_log2 h) pow_hi
theorem gives_big {i : Int} {t : Tok} (h : i.natAbs < 10 ^ 4300) : GivesAt (fun s => s.heap.NoDigits) (Builtin.«int.__repr__» ⟨[.int i t], []⟩) (.str (toString i)) := by
  intro pr w A R s hn q
  unfold Builtin.«int.__repr__»
  refine wpAny_bind (m := Builtin.overDigitLimit? i) (overDigitLimit_any hn (fun _ => wpAny_bind (wpAny_mkStr (wpAny_pure q.2) q.1)) fun hge => ?_)
  exact absurd h (Nat.not_lt.mpr hge)
theorem reprK_big {pr : Program} {w : World} {as : List Addr} {h : Heap} {d : Nat} {i : Int} (t : Tok) (hn : h.NoDigits) (hi : i.natAbs.log2 < 14190) : ReprK pr w as h d (.int i t) (toString i) := by
  intro bs hb A g E s Q _ _ hu hk q
  rw [pyReprUnder_leaf (by omega) (by intro _ e; cases e)]
  refine wpAny_bind (wpAny_pyReprObj_slot (by omega) (typeIs_int s i t) F.slot_int_repr.toG ?_)
  refine call_givesAt F.slot_int_repr (typeIs_int s i t) F.entry_int_repr (F.args_int_repr_1 _) (gives_big (big_lt hi)) (hn.keeps hk) ⟨int_text_fits10 (big_lt hi), ?_⟩
  exact ⟨_, _, rfl, wpAny_pure (q s.heap _ fun _ _ e => e)⟩
section
variable {X : Cx} {pins : List (Addr × Obj)} {σ : St} {H : Hp} {s : Shared}
theorem dict_empty_at {a : Addr} {d : List (D × D)} (I : Inv X pins σ H s) (h : (∃ ks, Rd H a (.dK ks) ∧ RpK X.K H ks d) ∨ ∃ ks, Rd H a (.dT ks) ∧ RpT X.K H ks d) (e : d = []) :
    ∃ o n, s.heap.get? a = some o ∧ o.cls = .type "dict" ∧ o.data = .dict #[] n ∧ (a == sysModules) = false := by
  subst e
  rcases h with ⟨ks, h, r⟩ | ⟨ks, h, r⟩
  · cases r
    obtain ⟨_, hs, vs, kv, o, es, ep, g1, g2, g3, _, g5, _⟩ := h.ok I.hok
    cases kv
    refine ⟨o, ep, g1, g2.1, ?_, hs⟩
    have : es.toList = [] := by cases g5' : es.toList with
      | nil => rfl
      | cons x y => rw [g5'] at g5; cases g5
    rw [g3]; congr 1
    exact Array.toList_inj.mp this
  · cases r
    obtain ⟨_, hs, xs, kv, o, es, ep, g1, g2, g3, g4, _⟩ := h.ok I.hok
    cases kv
    refine ⟨o, ep, g1, g2.1, ?_, hs⟩
    rw [g3]; congr 1
    exact Array.toList_inj.mp g4
mutual
theorem Rp.sh (I : Inv X pins σ H s) (zd : s.heap.NoDigits) : ∀ {v : V} {d : D} {u : Value}, Rp X.K H v d → RelV v u → shw d = true → dict0 d = true → d.shown.length ≤ sizeLine →
    ∃ as bs, Reads s.heap u d as ∧ ReadAtMost s.heap d.depth bs ∧ ReprK X.prog X.w bs s.heap d.depth u d.shown
  | _, _, u, .non, r, _, _, _ => by
    cases (show u = Value.none from r)
    exact ⟨[], [], .none, (fun _ h => nomatch h), by simp only [PyData.shown]; exact .of_is ReprIs.none _ _ _⟩
  | _, _, u, .bl b, r, _, _, _ => by
    cases (show u = Value.bool b from r)
    exact ⟨[], [], .bool b, (fun _ h => nomatch h), by simp only [PyData.shown]; exact .of_is (ReprIs.bool b) _ _ _⟩
  | _, _, u, .int i, r, hs, _, _ => by
    obtain ⟨t, q⟩ := (show ∃ t, u = Value.int i t from r); cases q
    exact ⟨[], [], .int i t, (fun _ h => nomatch h), by simp only [PyData.shown]; exact reprK_big t zd (by simpa [shw] using hs)⟩
  | _, _, u, .str x, r, _, _, hz => by
    obtain ⟨t, q⟩ := (show ∃ t, u = Value.str x t from r); cases q
    exact ⟨[], [], .str x t, (fun _ h => nomatch h), by simp only [PyData.shown]; exact .of_is (ReprIs.str x t (by simpa only [PyData.shown] using hz)) _ _ _⟩
  | _, _, u, @Rp.lst _ _ a vs ds h rr, r, hs, h0, hz => by
    cases (show u = Value.ref a from r)
    have zz : (listText (PyData.shownAll ds)).length ≤ sizeLine := by simpa only [PyData.shown] using hz
    obtain ⟨its, rv, ⟨o, n, g1, g2, _, g4⟩, _⟩ := I.list (SqL.of h)
    obtain ⟨as, bs, q, hb, hk⟩ := RpA.sh I zd rr rv (by simpa [shw] using hs) (by simpa [dict0] using h0) (fun t ht => Nat.le_trans (listText_mem_le ht) zz)
    have rd : Reads s.heap (.ref a) (.list ds) (a :: as) := .list g1 g2 g4 (by simpa using q)
    have nm : a ∉ bs := not_mem_of_deeper rd (by simp only [PyData.depth]; omega) hb
    refine ⟨_, a :: bs, rd, ReadAtMost.cons rd (by simp only [PyData.depth]; omega) hb, ?_⟩
    simp only [PyData.depth, PyData.shown]
    cases its with
    | nil => cases q; simp only [PyData.shownAll, listText_nil]; exact ReprK.listEmpty g1 g2 g4
    | cons x l => exact ReprK.list g1 g2 g4 nm (by simpa using hk.length_eq) (fun i y e => hk.item i y (by simpa using e))
  | _, _, u, @Rp.tup _ _ a vs ds h rr, r, hs, h0, hz => by
    cases (show u = Value.ref a from r)
    have zz : (tupleText (PyData.shownAll ds)).length ≤ sizeLine := by simpa only [PyData.shown] using hz
    obtain ⟨its, rv, ⟨o, g1, g2, n, g4⟩, _⟩ := I.tuple (SqT.of h)
    obtain ⟨as, bs, q, hb, hk⟩ := RpA.sh I zd rr rv (by simpa [shw] using hs) (by simpa [dict0] using h0) (fun t ht => Nat.le_trans (tupleText_mem_le ht) zz)
    have rd : Reads s.heap (.ref a) (.tuple ds) as := .tuple g1 g2 g4 (by simpa using q)
    have nm : a ∉ bs := not_mem_of_deeper rd (by simp only [PyData.depth]; omega) hb
    refine ⟨_, a :: bs, rd, ReadAtMost.cons rd (by simp only [PyData.depth]; omega) hb, ?_⟩
    simp only [PyData.depth, PyData.shown]
    exact ReprK.tuple g1 g2 g4 nm (by simpa using hk)
  | _, _, u, @Rp.dK _ _ a ks ds h rr, r, _, h0, hz => by
    cases (show u = Value.ref a from r)
    cases ds with
    | cons x y => cases h0
    | nil =>
      obtain ⟨o, n, g1, g2, g3, g4⟩ := dict_empty_at I (.inl ⟨ks, h, rr⟩) rfl
      have rd : Reads s.heap (.ref a) (.dict []) (a :: [] ++ []) := .dict g1 g2 g3 .nil .nil
      refine ⟨_, [a], rd, ReadAtMost.cons rd (n := 0) (by omega) (fun _ h => nomatch h), ?_⟩
      simp only [PyData.depth, PyData.shown, PyData.shownKv]
      exact (ReprK.dict (d := 0) g1 g2 g3 g4 (by simp) .nil).level_le (by simp only [PyData.depthKv]; omega)
  | _, _, u, @Rp.dT _ _ a ks ds h rr, r, _, h0, hz => by
    cases (show u = Value.ref a from r)
    cases ds with
    | cons x y => cases h0
    | nil =>
      obtain ⟨o, n, g1, g2, g3, g4⟩ := dict_empty_at I (.inr ⟨ks, h, rr⟩) rfl
      have rd : Reads s.heap (.ref a) (.dict []) (a :: [] ++ []) := .dict g1 g2 g3 .nil .nil
      refine ⟨_, [a], rd, ReadAtMost.cons rd (n := 0) (by omega) (fun _ h => nomatch h), ?_⟩
      simp only [PyData.depth, PyData.shown, PyData.shownKv]
      exact (ReprK.dict (d := 0) g1 g2 g3 g4 (by simp) .nil).level_le (by simp only [PyData.depthKv]; omega)
theorem RpA.sh (I : Inv X pins σ H s) (zd : s.heap.NoDigits) : ∀ {vs : List V} {ds : List D} {us : List Value}, RpA X.K H vs ds → Vals vs us → shwA ds = true → dict0A ds = true → (∀ t ∈ PyData.shownAll ds, t.length ≤ sizeLine) →
    ∃ as bs, ReadsAll s.heap us ds as ∧ ReadAtMost s.heap (PyData.depthAll ds) bs ∧ ReprAllK X.prog X.w bs s.heap (PyData.depthAll ds) us (PyData.shownAll ds)
  | _, _, _, .nil, .nil, _, _, _ => ⟨[], [], .nil, (fun _ h => nomatch h), by simp only [PyData.shownAll]; exact .nil⟩
  | _, _, _, @RpA.cons _ _ v vs d ds a b, .cons ra rb, hs, h0, hz => by
    rw [shwA, Bool.and_eq_true] at hs
    rw [dict0A, Bool.and_eq_true] at h0
    obtain ⟨a1, b1, q1, m1, k1⟩ := Rp.sh I zd a ra hs.1 h0.1 (hz _ (by simp only [PyData.shownAll]; exact List.mem_cons_self ..))
    obtain ⟨a2, b2, q2, m2, k2⟩ := RpA.sh I zd b rb hs.2 h0.2 (fun t ht => hz t (by simp only [PyData.shownAll]; exact List.mem_cons_of_mem _ ht))
    refine ⟨_, b1 ++ b2, .cons q1 q2, fun x hx => ?_, ?_⟩
    · simp only [PyData.depthAll]
      rcases List.mem_append.mp hx with hx | hx
      · obtain ⟨d', as', r', hd'⟩ := m1 x hx
        exact ⟨d', as', r', Nat.le_trans hd' (Nat.le_max_left _ _)⟩
      · obtain ⟨d', as', r', hd'⟩ := m2 x hx
        exact ⟨d', as', r', Nat.le_trans hd' (Nat.le_max_right _ _)⟩
    · simp only [PyData.depthAll, PyData.shownAll]
      exact .cons ((k1.more fun x hx => List.mem_append_left _ hx).level_le (Nat.le_max_left _ _)) (k2.more_le (fun x hx => List.mem_append_right _ hx) (Nat.le_max_right _ _))
end
/-- repr(x) of data -/
def rRepr (K : PySem.W.Frag) : List V → Hp → VK → Prop := fun xs H Q => ∃ x d, xs = [x] ∧ Rp K H x d ∧ shw d = true ∧ dict0 d = true ∧ d.shown.length ≤ sizeLine ∧ d.depth ≤ 60 ∧ Q (.str d.shown) H
theorem call_reprD (hz : NoDig X.K) (hg : X.A.guards = some []) (hu : X.A.units + 100 < cLine) : CallR X (.builtin "repr") (rRepr X.K) := by
  intro pins s σ H xs us Q I r h
  have zd := noDig_in hz I.kIn I.nolimit
  obtain ⟨x, d, rfl, rx, hs, h0, hz, hd, q⟩ := h
  obtain ⟨u, rfl, ru⟩ := Vals.one r
  have fin : ∀ (h' : Heap) (u : Tok) (tk : Nat), (∀ b o, s.heap.get? b = some o → h'.get? b = some o) → EP X pins σ Q (.str d.shown u) { s with heap := h', toks := tk } :=
    fun h' u tk hk => ⟨.str d.shown, H, I.kept (t' := tk) hk, ⟨u, rfl⟩, q⟩
  have fin0 : ∀ (u : Tok) (tk : Nat), EP X pins σ Q (.str d.shown u) { s with toks := tk } := fun u tk => ⟨.str d.shown, H, I.tok tk, ⟨u, rfl⟩, q⟩
  cases rx with
  | non => cases (show u = Value.none from ru); simp only [PyData.shown] at fin0; exact PySem.P.repr_of_none (fin0 _ _)
  | bl b => cases (show u = Value.bool b from ru); simp only [PyData.shown] at fin0; exact PySem.P.repr_of_bool (fin0 _ _)
  | int i => obtain ⟨t, e⟩ := (show ∃ t, u = Value.int i t from ru); cases e; simp only [PyData.shown] at fin0; have lt := big_lt (by simpa [shw] using hs); exact call_repr_slot (by omega) (typeIs_int s i t) F.slot_int_repr.toG (call_givesAt F.slot_int_repr (typeIs_int s i t) F.entry_int_repr (F.args_int_repr_1 _) (gives_big lt) zd ⟨int_text_fits10 lt, _, _, rfl, fin0 _ _⟩)
  | str y => obtain ⟨t, e⟩ := (show ∃ t, u = Value.str y t from ru); cases e; simp only [PyData.shown] at fin0 hz; exact PySem.P.repr_of_str (fin0 _ _) hz
  | @lst a vs ds h rr =>
    cases (show u = Value.ref a from ru)
    have zz : (listText (PyData.shownAll ds)).length ≤ sizeLine := by simpa only [PyData.shown] using hz
    obtain ⟨its, rv, ⟨o, n, g1, g2, _, g4⟩, _⟩ := I.list (SqL.of h)
    obtain ⟨as, bs, qq, hb, hk⟩ := RpA.sh I zd rr rv (by simpa [shw] using hs) (by simpa [dict0] using h0) (fun t ht => Nat.le_trans (listText_mem_le ht) zz)
    have rd : Reads s.heap (.ref a) (.list ds) (a :: as) := .list g1 g2 g4 (by simpa using qq)
    have nm : a ∉ bs := not_mem_of_deeper rd (by simp only [PyData.depth]; omega) hb
    simp only [PyData.depth] at hd
    simp only [PyData.shown] at fin fin0
    refine call_repr_slot (by omega) ⟨o, g1, g2⟩ F.slot_list_repr.toG ?_
    cases its with
    | nil =>
      cases qq
      simp only [PyData.shownAll, listText_nil] at fin0
      exact call_list_repr_empty ⟨o, g1, g2⟩ g1 g4 ⟨_, _, rfl, fin0 _ _⟩
    | cons x l => exact call_list_reprK g1 g2 g4 nm (by simpa using hk.length_eq) (fun i y e => hk.item i y (by simpa using e)) (g := []) hg (fun b _ => Clear.nil b) (by show X.A.units + 1 + _ < _; omega) (fun _ _ e => e) (fun h' u tk k => ⟨_, _, rfl, fin h' u tk k⟩) zz
  | @tup a vs ds h rr =>
    cases (show u = Value.ref a from ru)
    have zz : (tupleText (PyData.shownAll ds)).length ≤ sizeLine := by simpa only [PyData.shown] using hz
    obtain ⟨its, rv, ⟨o, g1, g2, n, g4⟩, _⟩ := I.tuple (SqT.of h)
    obtain ⟨as, bs, qq, hb, hk⟩ := RpA.sh I zd rr rv (by simpa [shw] using hs) (by simpa [dict0] using h0) (fun t ht => Nat.le_trans (tupleText_mem_le ht) zz)
    have rd : Reads s.heap (.ref a) (.tuple ds) as := .tuple g1 g2 g4 (by simpa using qq)
    have nm : a ∉ bs := not_mem_of_deeper rd (by simp only [PyData.depth]; omega) hb
    simp only [PyData.depth] at hd
    simp only [PyData.shown] at fin
    refine call_repr_slot (by omega) ⟨o, g1, g2⟩ F.slot_tuple_repr ?_
    exact call_tuple_reprK g1 g2 g4 nm (by simpa using hk) (g := []) hg (fun b _ => Clear.nil b) (by show X.A.units + 1 + _ < _; omega) (fun _ _ e => e) (fun h' u tk k => ⟨_, _, rfl, fin h' u tk k⟩) zz
  | @dK a ks ds h rr =>
    cases (show u = Value.ref a from ru)
    cases ds with
    | cons x y => cases h0
    | nil =>
      obtain ⟨o, n, g1, g2, g3, g4⟩ := dict_empty_at I (.inl ⟨ks, h, rr⟩) rfl
      simp only [PyData.shown, PyData.shownKv] at fin hz
      refine call_repr_slot (by omega) ⟨o, g1, g2⟩ F.slot_dict_repr ?_
      exact call_dict_reprK (d := 0) (as := []) g1 g2 g3 g4 (by simp) .nil (g := []) hg (fun b _ => Clear.nil b) (by show X.A.units + 1 + _ < _; omega) (fun _ _ e => e) (fun h' u tk k => ⟨_, _, rfl, fin h' u tk k⟩) hz
  | @dT a ks ds h rr =>
    cases (show u = Value.ref a from ru)
    cases ds with
    | cons x y => cases h0
    | nil =>
      obtain ⟨o, n, g1, g2, g3, g4⟩ := dict_empty_at I (.inr ⟨ks, h, rr⟩) rfl
      simp only [PyData.shown, PyData.shownKv] at fin hz
      refine call_repr_slot (by omega) ⟨o, g1, g2⟩ F.slot_dict_repr ?_
      exact call_dict_reprK (d := 0) (as := []) g1 g2 g3 g4 (by simp) .nil (g := []) hg (fun b _ => Clear.nil b) (by show X.A.units + 1 + _ < _; omega) (fun _ _ e => e) (fun h' u tk k => ⟨_, _, rfl, fin h' u tk k⟩) hz
end
def okR (d : D) : Bool := shw d && dict0 d && decide (d.shown.length ≤ lim) && decide (d.depth ≤ 60)
def dRepr : List D → Option D
  | [d] => if okR d = true then some (.str d.shown) else none
  | _ => none
theorem do_repr {K : PySem.W.Frag} : DOC K (rRepr K) dRepr := by
  intro P H xs ds d t r e Q q
  unfold dRepr at e
  split at e
  · split at e
    · rename_i h; cases e
      simp only [okR, Bool.and_eq_true, decide_eq_true_eq] at h
      obtain ⟨v, rfl, hx⟩ := r.one
      exact ⟨v, _, rfl, hx.mono mask_le, h.1.1.1, h.1.1.2, lim_le h.1.2, h.2, q _ H (Grw.refl H) (.str _)⟩
    · cases e
  · cases e
end DL


namespace DL
open PySem PySem.Spec PyProof.Rows L2
/-! DL8: products, turned sequences. -/
theorem tuple_mul1 (l : Addr) (items : Array Value) (n : Nat) (sl : Array (Option Value)) (dd : Option Addr) (x : Int) (u : Tok) (c0 : (decide (x < -(2 ^ 63)) || decide (x ≥ 2 ^ 63)) = false) (c1 : (items.isEmpty || x == 1) = true) :
    Meets (Builtin.«tuple.__mul__» ⟨[.ref l, .int x u], []⟩) (fun _ R s => s.heap.get? l = some { cls := .type "tuple", dict := dd, data := .seq items n, slots := sl } ∧ R (.ok (.ret (Value.ref l))) s) :=
  .of_wp fun prog w A R s h => by
    obtain ⟨hp, g, d, tk, os⟩ := s
    obtain ⟨hl, h⟩ := h
    have f1 := AutoSeq1.idx_int
    wp_walk using wpAny_loadPart' hl
    repeat (first
      | (refine wpAny_ite_false (decide_eq_false (by rw [c0]; exact Bool.false_ne_true)) ?_; wp_walk using wpAny_loadPart' hl)
      | (refine wpAny_ite_true (decide_eq_true c1) ?_; wp_walk using wpAny_loadPart' hl))
    exact ⟨_, rfl, h⟩
theorem tuple_mul0 (l : Addr) (items : Array Value) (n : Nat) (sl : Array (Option Value)) (dd : Option Addr) (x : Int) (u : Tok) (c0 : (decide (x < -(2 ^ 63)) || decide (x ≥ 2 ^ 63)) = false) (c1 : (items.isEmpty || x == 1) = false) (c2 : (decide (x ≤ 0) || items.isEmpty) = true) :
    Meets (Builtin.«tuple.__mul__» ⟨[.ref l, .int x u], []⟩) (fun _ R s => s.heap.get? l = some { cls := .type "tuple", dict := dd, data := .seq items n, slots := sl } ∧
      R (.ok (.ret (Value.ref s.heap.objs.size))) { s with heap := s.heap.push { cls := Value.type "tuple", data := Data.seq #[] }, toks := s.toks }) :=
  .of_wp fun prog w A R s h => by
    obtain ⟨hp, g, d, tk, os⟩ := s
    obtain ⟨hl, h⟩ := h
    have f1 := AutoSeq1.idx_int
    wp_walk using wpAny_loadPart' hl
    repeat (first
      | (refine wpAny_ite_false (decide_eq_false (by rw [c0]; exact Bool.false_ne_true)) ?_; wp_walk using wpAny_loadPart' hl)
      | (refine wpAny_ite_false (decide_eq_false (by rw [c1]; exact Bool.false_ne_true)) ?_; wp_walk using wpAny_loadPart' hl)
      | (refine wpAny_ite_true (decide_eq_true c2) ?_; wp_walk using wpAny_loadPart' hl))
    exact ⟨_, rfl, h⟩
section
variable {X : Cx}
/-- t * k where k is 1 or less, or t is empty: t itself, or a new empty tuple -/
def rRep1 (K : PySem.W.Frag) : R2 := fun x y H Q => ∃ l k xs, x = .ref l ∧ y = .int k ∧ SqT K H l xs ∧ -(2 ^ 62) < k ∧ k < 2 ^ 62 ∧ (k ≤ 1 ∨ xs = []) ∧
  ((xs = [] ∨ k = 1) → Q (.ref l) H) ∧ (¬ (xs = [] ∨ k = 1) → ∀ p, H p = none → Q (.ref p) (upd H p (.tup [])))
theorem op_rep1 : OpR X (binaryOp .Mult) (rRep1 X.K) := by
  intro pins s σ H x y v u Q I rx ry h
  obtain ⟨l, k, xs, rfl, rfl, hT, h1, h2, h3, qa, qb⟩ := h
  cases rx
  obtain ⟨t, rfl⟩ := ry
  obtain ⟨its, r, ⟨⟨cls, dd, data, sl⟩, ho, hc, n, hd⟩, hs⟩ := I.tuple hT
  simp only at hc hd
  subst hc hd
  have hle : its.length = xs.length := r.length.symm
  have emp : its.toArray.isEmpty = true ↔ xs = [] := by
    cases its with
    | nil => cases r; simp
    | cons a b => cases r; simp
  have c0 : (decide (k < -(2 ^ 63)) || decide (k ≥ 2 ^ 63)) = false := by
    rw [decide_eq_false (by omega), decide_eq_false (by omega)] <;> rfl
  refine wpAny_binaryOp_repeat_ref (T := "tuple") (U := "int") (by decide) ⟨_, ho, rfl⟩ (fun s' => typeIs_int s' k t) noFill_tuple_mul F.fills_int_mul F.slot_int_rmul repeat_tuple F.slot_int_index.lookup
    (call_meets F.slot_int_rmul (typeIs_int s k t) F.entry_int_rmul (F.args_int_rmul_2 _ _) (int_rmul_tuple k t l its.toArray n dd sl) ⟨ho, rfl, ⟨_, ho, rfl⟩, ?_⟩)
  by_cases hq : xs = [] ∨ k = 1
  · have c1 : (its.toArray.isEmpty || k == 1) = true := by
      rw [Bool.or_eq_true]
      exact hq.imp emp.mpr fun z => by rw [z]; rfl
    exact call_meets F.slot_tuple_mul ⟨_, ho, rfl⟩ F.entry_tuple_mul (F.args_tuple_mul_2 _ _) (tuple_mul1 l its.toArray n sl dd k t c0 c1) ⟨ho, ⟨.ref l, H, I, rfl, qa hq⟩⟩
  · have ne : ¬ its.toArray.isEmpty = true := fun z => hq (.inl (emp.mp z))
    have c1 : (its.toArray.isEmpty || k == 1) = false := by
      rw [Bool.or_eq_false_iff]
      exact ⟨by simpa using ne, beq_eq_false_iff_ne.mpr fun z => hq (.inr z)⟩
    have hk : k ≤ 0 := by
      rcases h3 with h3 | h3
      · have : k ≠ 1 := fun z => hq (.inr z)
        omega
      · exact absurd (.inl h3) hq
    have c2 : (decide (k ≤ 0) || its.toArray.isEmpty) = true := by rw [decide_eq_true hk]; rfl
    refine call_meets F.slot_tuple_mul ⟨_, ho, rfl⟩ F.entry_tuple_mul (F.args_tuple_mul_2 _ _) (tuple_mul0 l its.toArray n sl dd k t c0 c1 c2) ⟨ho, ?_⟩
    refine ⟨.ref s.heap.objs.size, _, I.laid (t' := s.toks) (o := .tup []) (fun b ob q => Heap.get?_push_of_some _ q) (Nat.le_refl _) ?_, rfl, qb hq _ (I.hok.fresh (Nat.le_refl _))⟩
    exact ⟨Nat.zero_le _, [], .nil, IsTup.new _ _⟩
end
def dMul : D → D → Option D
  | .int i, .int j => if i.natAbs.log2 + j.natAbs.log2 < 1000000 then some (.int (i * j)) else none
  | .tuple a, .int k => if -(2 ^ 62) < k ∧ k ≤ 1000 ∧ a.length ≤ 1000 then some (.tuple (List.replicate k.toNat a).flatten) else none
  | .list a, .int k => if -(2 ^ 62) < k ∧ k < 2 ^ 62 ∧ a.length * k.toNat ≤ lim then some (.list (List.replicate k.toNat a).flatten) else none
  | _, _ => none
def rMulD (K : PySem.W.Frag) : R2 := rOr (rI CMulW fun i j => .int (i * j)) (rOr (rRepT K) (rOr (rRep1 K) rRep))
theorem op_mulD {X : Cx} : OpR X (binaryOp .Mult) (rMulD X.K) := op_or op_mulW (op_or op_repT (op_or op_rep1 op_rep))
theorem do_mul {K : PySem.W.Frag} : DO2 K (rMulD K) dMul := by
  intro P H x y dx dy d t hx hy e Q q
  unfold dMul at e
  split at e
  · split at e
    · rename_i h; cases e
      exact .inl ⟨_, _, hx.int_inv, hy.int_inv, h, q _ H (Grw.refl H) (.int _)⟩
    · cases e
  · rename_i a k
    split at e
    · rename_i h; cases e
      obtain ⟨l, vs, rfl, h1, r1⟩ := hx.tup_inv
      by_cases hc : vs ≠ [] ∧ 2 ≤ k
      · refine .inr (.inl ⟨l, k, vs, rfl, hy.int_inv, sqT_le h1, hc.1, hc.2, h.2.1, by rw [r1.length]; exact h.2.2, fun p hp => ?_⟩)
        exact q _ _ (Grw.new hp) (rp_newT t hp (r1.rep _))
      · refine .inr (.inr (.inl ⟨l, k, vs, rfl, hy.int_inv, sqT_le h1, h.1, by omega, ?_, fun z => ?_, fun z p hp => ?_⟩))
        · by_cases hv : vs = []
          · exact .inr hv
          · exact .inl (by have : ¬ 2 ≤ k := fun z => hc ⟨hv, z⟩; omega)
        · have e1 : (List.replicate k.toNat a).flatten = a := by
            rcases z with z | z
            · subst z; cases r1; simp
            · subst z; simp
          rw [e1] at q
          exact q _ H (Grw.refl H) hx
        · have hk : k.toNat = 0 := by
            have n1 : vs ≠ [] := fun w => z (.inl w)
            have n2 : k ≠ 1 := fun w => z (.inr w)
            have : ¬ 2 ≤ k := fun w => hc ⟨n1, w⟩
            omega
          rw [hk] at q
          exact q _ _ (Grw.new hp) (rp_newT t hp .nil)
    · cases e
  · rename_i a k
    split at e
    · rename_i h; cases e
      obtain ⟨l, vs, rfl, h1, r1⟩ := hx.lst_inv
      refine .inr (.inr (.inr ⟨l, k, vs, rfl, hy.int_inv, mask_le _ _ h1, by omega, by omega, by rw [r1.length]; exact lim_le h.2.2, fun p hp => ?_⟩))
      exact q _ _ (Grw.new hp) (rp_newL t hp (r1.rep _))
    · cases e
  · cases e
/-! ### x[::-1] -/
section
variable {prog : Program} {w : World} {A : Around} {E : Value → Shared → Prop} {s : Shared}
theorem places_back (n : Nat) : Builtin.Slice.slicePlaces ((n : Int) - 1) (-1) (-1) = n := by
  unfold Builtin.Slice.slicePlaces
  rw [if_neg (by decide)]
  by_cases h : (n : Int) - 1 > -1
  · rw [if_pos h]
    have e : ((n : Int) - 1 - -1 - 1) / (- -1) + 1 = (n : Int) := by
      rw [show (- -1 : Int) = 1 by decide, Int.ediv_one]; omega
    rw [e]; exact Int.toNat_natCast n
  · rw [if_neg h]
    have : n = 0 := by omega
    subst this; rfl
theorem fm_congr {α β : Type} {f g : α → Option β} : ∀ {l : List α}, (∀ x ∈ l, f x = g x) → l.filterMap f = l.filterMap g
  | [], _ => rfl
  | x :: l, h => by
    rw [List.filterMap_cons, List.filterMap_cons, h x List.mem_cons_self, fm_congr fun y hy => h y (List.mem_cons_of_mem _ hy)]
theorem pick_back (xs : Array Value) : ((List.range xs.size).filterMap fun (k : Nat) => xs[((xs.size : Int) - 1 + (k : Int) * (-1)).toNat]?).toArray = xs.toList.reverse.toArray := by
  have e : (List.range xs.size).filterMap (fun (k : Nat) => xs[((xs.size : Int) - 1 + (k : Int) * (-1)).toNat]?) = ((List.range xs.size).map fun k => xs.size - 1 - k).filterMap (xs[·]?) := by
    rw [List.filterMap_map]
    refine fm_congr fun k hk => ?_
    have := List.mem_range.mp hk
    show xs[((xs.size : Int) - 1 + (k : Int) * (-1)).toNat]? = xs[xs.size - 1 - k]?
    rw [show ((xs.size : Int) - 1 + (k : Int) * (-1)).toNat = xs.size - 1 - k by omega]
  rw [e, PySem.W.krv_range, List.filterMap_reverse, PySem.W.krv_all]
theorem sliceApplied_back {sl : Addr} {vs : Value} {n : Nat} {Q : Int × Int × Nat → Shared → Prop} (hs : s.heap.IsSliceOf sl .none .none vs) (pv : IsPart vs (some (-1)))
    (h : Q ((n : Int) - 1, -1, n) s) : wpAny (model prog w) A (Builtin.Slice.sliceApplied (.ref sl) (pure (n : Int))) Q E s := by
  obtain ⟨os, hos, hcs, hds⟩ := id hs
  unfold Builtin.Slice.sliceApplied Builtin.Slice.sliceFields
  refine wpAny_bind (wpAny_bind (wpAny_field hos hds (x := .none) rfl (wpAny_bind (wpAny_field hos hds (x := .none) rfl (wpAny_bind (wpAny_field hos hds (x := vs) rfl (wpAny_pure ?_)))))))
  refine wpAny_bind (HT.slicePart_ pv ?_)
  show wpAny _ _ (if ((-1 : Int) == 0) = true then _ else _) _ _ s
  rw [if_neg (by decide)]
  refine wpAny_bind (HT.slicePart_ .none (wpAny_bind (HT.slicePart_ .none (wpAny_bind (wpAny_pure ?_)))))
  show wpAny _ _ (pure ((n : Int) - 1, (-1 : Int), Builtin.Slice.slicePlaces ((n : Int) - 1) (-1) (-1))) _ _ s
  rw [places_back]
  exact wpAny_pure h
theorem getItem_tuple_back {t sl : Addr} {items : Array Value} {vs : Value} {Q : Value → Shared → Prop} (ht : IsTup s.heap t items) (hs : s.heap.IsSliceOf sl .none .none vs) (pv : IsPart vs (some (-1)))
    (h : Q (.ref s.heap.objs.size) { s with heap := s.heap.push { cls := .type "tuple", data := .seq items.toList.reverse.toArray } }) (hsz : items.size ≤ sizeLine) : wpAny (model prog w) A (getItem (.ref t) (.ref sl)) Q E s := by
  have hok : sizeOk (.seq items.toList.reverse.toArray) := by
    show items.toList.reverse.toArray.size ≤ sizeLine
    rw [List.size_toArray, List.length_reverse, Array.length_toList]; exact hsz
  obtain ⟨os, hos, hcs, hds⟩ := id hs
  have hTs : s.TypeIs (.ref sl) "slice" := ⟨os, hos, hcs⟩
  unfold getItem
  try with_reducible refine wpAny_holding ?_
  first | refine wpAny_bind (wpAny_pure ?_) | skip
  refine wpAny_bind (wpAny_sequenceKey ht.typeIs (by decide) ?_)
  refine wpAny_bind (wpAny_callSpecial?_slot (name := Str.ofString "__getitem__") ht.typeIs PyProof.Rows.slot_tuple_getitem (wpAny_call_entry PyProof.Rows.slot_tuple_getitem ht.typeIs entry_tuple_getitem ?_ (args_tuple_getitem _ _)))
  show wpAny _ _ (Builtin.Tuple.tupleItemsOf (.ref t) >>= _) _ _ s
  refine wpAny_bind (tupleItemsOf_ ht ?_)
  refine wpAny_bind (wpAny_typeOf hTs ?_)
  rw [if_pos (by decide)]
  refine wpAny_bind (sliceApplied_back hs pv ?_)
  have hno : ¬ ((((items.size : Int) - 1) == 0 && (-1 : Int) == 1 && items.size == items.size) = true) := by
    rw [show ((-1 : Int) == 1) = false from rfl]; simp
  show wpAny _ _ (if (((items.size : Int) - 1) == 0 && (-1 : Int) == 1 && items.size == items.size) = true then _ else _) _ _ s
  rw [if_neg hno, pick_back]
  first
    | exact wpAny_bind (m := Builtin.Tuple.tupleExact _) (wpAny_newObj_type (wpAny_pure ⟨_, rfl, wpAny_pure h⟩) hok)
    | exact wpAny_bind (m := Builtin.Tuple.tupleExact _) (wpAny_newObj_type (wpAny_bind (wpAny_pure (wpAny_pure ⟨_, rfl, wpAny_pure h⟩))) hok)
    | exact wpAny_bind (wpAny_bind (m := Builtin.Tuple.tupleExact _) (wpAny_newObj_type (wpAny_pure (wpAny_pure ⟨_, rfl, wpAny_pure h⟩)) hok))
    | exact wpAny_bind (wpAny_bind (m := Builtin.Tuple.tupleExact _) (wpAny_newObj_type (wpAny_pure ⟨_, rfl, wpAny_pure h⟩) hok))
end
section
variable {X : Cx} {e : Expr} {te : TE} {f : M D} {k : Nat} {p1 p2 p3 pos : Pos}
/-- t[::-1], t a list or a tuple -/
def tRevD (K : PySem.W.Frag) (te : TE) : TE := fun σ H Q => te σ H fun x H1 => ∃ a xs, x = .ref a ∧ ((SqL K H1 a xs ∧ ∀ p, H1 p = none → Q (.ref p) (upd H1 p (.lst xs.reverse))) ∨ (SqT K H1 a xs ∧ ∀ p, H1 p = none → Q (.ref p) (upd H1 p (.tup xs.reverse))))
theorem pe_revD (he : PE X e te) : PE X (.Subscript e (.Slice none none (some (.UnaryOp .USub (.Constant (.int 1) k p1) p2)) p3) pos) (tRevD X.K te) := by
  refine ⟨fun pins s σ H Q I h => ?_⟩
  refine Subscript_ (thn (he.run pins s σ H _ I h) fun v s1 ⟨x, H1, I1, r1, q1⟩ => ?_)
  obtain ⟨a, xs, ex, hx⟩ := q1
  subst ex
  cases r1
  have hst : PO X (some (.UnaryOp .USub (.Constant (.int 1) k p1) p2)) (tPart (tUn (rU fun i => .int (-i)) (tC (.int 1)))) := po_some (pe_un un_neg pe_int)
  refine wpAny_Slice (thn (po_none.run pins s1 σ H1 (fun o H2 => o = none ∧ H2 = H1) I1 ⟨rfl, rfl⟩) fun vl s2 ⟨l, H2, I2, pl, el, e2⟩ => ?_)
  subst el e2
  refine thn (po_none.run pins s2 σ H2 (fun o H3 => o = none ∧ H3 = H2) I2 ⟨rfl, rfl⟩) fun vu s3 ⟨u, H3, I3, pu, eu, e3⟩ => ?_
  subst eu e3
  refine thn (hst.run pins s3 σ H3 (fun o H4 => o = some (-1) ∧ H4 = H3) I3 ⟨1, rfl, -1, rfl, rfl, rfl⟩) fun vs s4 ⟨o, H4, I4, ps, eo, e4⟩ => ?_
  subst eo e4
  have I5 : Inv X pins σ H4 { s4 with heap := s4.heap.push { cls := .type "slice", data := .fields #[vl, vu, vs] } } := I4.kept (t' := s4.toks) fun b ob q => Heap.get?_push_of_some _ q
  show wpAny (model X.prog X.w) X.A (subscriptTail e (.Slice none none (some (.UnaryOp .USub (.Constant (.int 1) k p1) p2)) p3) (.ref a) (.ref s4.heap.objs.size)) (EP X pins σ Q) X.xe { s4 with heap := s4.heap.push { cls := .type "slice", data := .fields #[vl, vu, vs] } }
  rcases hx with ⟨hx, q⟩ | ⟨hx, q⟩
  · obtain ⟨its, r, ht, hz⟩ := I5.list hx
    have hlen := r.length
    refine tail_any (ops := [.ref a, .ref s4.heap.objs.size]) ht.isList.typeIs (PySem.slot_list_getitem.lookup) ?_ (by with_unfolding_all rfl)
    refine wpAny_getItem_list_slice ht.isList (Heap.IsSliceOf.new _ vl vu vs) pl pu ps (by decide) ?_ (by rw [List.size_toArray]; omega)
    rw [PySem.W.krv_pick]
    refine ⟨.ref _, _, I5.laid (t' := s4.toks) (o := .lst xs.reverse) (fun b ob q => Heap.get?_push_of_some _ q) (Nat.le_refl _) ?_, rfl, q _ (I5.hok.fresh (Nat.le_refl _))⟩
    exact ⟨by rw [List.length_reverse]; exact hz, _, 0, r.reverse, Heap.get?_push_size _ rfl⟩
  · obtain ⟨its, r, ht, hz⟩ := I5.tuple hx
    have hlen := r.length
    cases pl
    cases pu
    refine tail_any (ops := [.ref a, .ref s4.heap.objs.size]) ht.typeIs (PyProof.Rows.slot_tuple_getitem.lookup) ?_ (by with_unfolding_all rfl)
    refine getItem_tuple_back ht (Heap.IsSliceOf.new _ _ _ vs) ps ?_ (by rw [List.size_toArray]; omega)
    refine ⟨.ref _, _, I5.laid (t' := s4.toks) (o := .tup xs.reverse) (fun b ob q => Heap.get?_push_of_some _ q) (Nat.le_refl _) ?_, rfl, q _ (I5.hok.fresh (Nat.le_refl _))⟩
    exact ⟨by rw [List.length_reverse]; exact hz, _, r.reverse, IsTup.new _ _⟩
def dRev : D → Option D
  | .list a => some (.list a.reverse)
  | .tuple a => some (.tuple a.reverse)
  | _ => none
theorem ev_rev {K : PySem.W.Frag} (h : EvE K te f) : EvE K (tRevD K te) (eOp1 dRev f) := by
  intro A hid P s σ H d s' ok e Q q
  obtain ⟨x, s1, h1, e⟩ := bd_some e
  obtain ⟨h3, rfl⟩ := lf_some e
  refine h A hid P s σ H x _ ok h1 _ fun v P1 H1 ok1 st1 r1 => ?_
  unfold dRev at h3
  split at h3
  · cases h3
    obtain ⟨a, vs, rfl, hx, rr⟩ := r1.lst_inv
    exact ⟨a, vs, rfl, .inl ⟨SqL.of (mask_le _ _ hx), fun p hp => q _ P1 _ (ok1.grw (Grw.new hp)) (st1.trans (Stp.grw (Grw.new hp))) (rp_newL ok1.trk hp rr.reverse)⟩⟩
  · cases h3
    obtain ⟨a, vs, rfl, hx, rr⟩ := r1.tup_inv
    exact ⟨a, vs, rfl, .inr ⟨sqT_le hx, fun p hp => q _ P1 _ (ok1.grw (Grw.new hp)) (st1.trans (Stp.grw (Grw.new hp))) (rp_newT ok1.trk hp rr.reverse)⟩⟩
  · cases h3
theorem de_rev (h : DE X e te f) : DE X (.Subscript e (.Slice none none (some (.UnaryOp .USub (.Constant (.int 1) k p1) p2)) p3) pos) (tRevD X.K te) (eOp1 dRev f) := ⟨pe_revD h.p, ev_rev h.v⟩
end
end DL


namespace DL
open PySem PySem.Spec PyProof.Rows L2
/-! DL9: a def that is called where no object is being shown; the law's end. -/
structure FnG (P : Program) (w : World) (K : PySem.W.Frag) (mg : Str → Option Value) (base : Heap) (k : Nat) (f : Addr) (fd : FuncData) (ps : List Str) (sp : Sp) : Prop where
  len : ∀ vs H Q E, sp vs H Q E → vs.length = ps.length
  run : ∀ (A : Around) (outer : List Env) (s : Shared) (H : Hp) (args : Args) (us : List Value) (vs : List V) (Q : VK) (E : XK), A.guards = some [] → Room k A → Env0 P w K mg base A outer s H →
    BindsTo s fd args (ps.zip us) → Vals vs us → sp vs H Q E → codeAny (model P w) A (.call (.ref f) args) (CR CX0 outer P w H s Q E) s
section
variable {P : Program} {w : World} {K : PySem.W.Frag} {mg : Str → Option Value} {base : Heap}
theorem fnG_of {x qual : Str} {st : Stmt} {f : Addr} {fd : FuncData} {N ps : List Str} {k : Nat} {sp : Sp} (F : Fun K x qual st f fd) (Sc : FnScope N ps (defScope st)) (len : ∀ vs H Q E, sp vs H Q E → vs.length = ps.length)
    (body : ∀ (cdv : Value) (A : Around) (outer : List Env) (s : Shared) (H : Hp) (vs : List V) (Q : VK) (E : XK), (A.deeper (envOfC qual (defScope st) s.heap.objs.size f cdv)).guards = some [] → Room k (A.deeper (envOfC qual (defScope st) s.heap.objs.size f cdv)) → sp vs H Q E →
      ∃ t, PSs (cxOf CX0 P w K mg base N qual (defScope st) f cdv A outer s H E).nox (defBody st) t ∧ t { nx := fun _ H' => Q .non H', rt := Q } (L2.start N vs) H) : FnG P w K mg base (k + 1) f fd ps sp := by
  obtain ⟨oc, od, kV, doc, pm, an, cdv, ct, osl, rfl, lk, hcd⟩ := F.ex
  refine ⟨len, fun A outer s H args us vs Q E hG hr e0 hb rv hsp => ?_⟩
  have hlen := len _ _ _ _ hsp
  have kin : K.In s.heap := e0.mod.kin.keeps fun b o e => (e0.bs b o e).1
  have nol : s.heap.NoLimit := e0.mod.nolimit.keeps fun b o e => (e0.bs b o e).1
  have kinds : ∀ y ∈ ps.zip us, (defScope st).names.lookup y.1 = some .local ∨ ((defScope st).names.lookup y.1 = some .cell ∧ ((cellsFrom (s.heap.objs.size + 1) (defScope st).names []).lookup y.1).isSome = true) := by
    rintro ⟨nm, val⟩ hy
    rcases Sc.par nm (List.of_mem_zip hy).1 with q | q
    · exact .inl q
    · exact .inr ⟨q, PySem.W.cellsFrom_some _ _ _ (.inl q)⟩
  refine codeAny_call_function hr.depth (kin _ _ lk) rfl Sc.co Sc.gen rfl (PySem.W.codeRec_of kin hcd) (hb _ _ _ _ ?_)
  refine wpAny_newFunctionEnv_cells Sc.kind kinds fun env he s1 inC => ?_
  subst he
  refine ⟨nol.keeps inC.toInCall.keep, codeAny_func ?_⟩
  obtain ⟨t, ht, hq⟩ := body cdv A outer s H vs Q E (by show A.guards = some []; exact hG) (hr.deeper _) hsp
  have I0 : Inv (cxOf CX0 P w K mg base N qual (defScope st) f cdv A outer s H E) [] (L2.start N vs) H s1 := inv_start Sc hr.hd e0 hlen rv inC
  refine wpAny_mono (ht.nox.run [] s1 (L2.start N vs) H _ I0 hq) (fun fl s' hs => ?_) fun e s' hs => hs
  have close : ∀ {σ' : St} {H' : Hp} {v : V} {u : Value}, Inv (cxOf CX0 P w K mg base N qual (defScope st) f cdv A outer s H E) [] σ' H' s' → RelV v u → Q v H' → CE outer P w H s Q u s' :=
    fun {_ H' v _} J ru qv => ⟨v, H', J.os, J.bare, J.base, J.hok, ru, qv⟩
  cases fl with
  | ret u => obtain ⟨v, _, H', J, ru, qv⟩ := hs; exact close J ru qv
  | next => obtain ⟨_, H', J, qv⟩ := hs; exact close (v := V.non) (u := Value.none) J rfl qv
  | brk => obtain ⟨_, _, _, qv⟩ := hs; exact qv.elim
  | cont => obtain ⟨_, _, _, qv⟩ := hs; exact qv.elim
/-- the law's def is called -/
theorem law_callG {mb : Str → Option Value} {k : Nat} {fa a : Addr} {fd : FuncData} {x : Str} {sp : Sp} {s₁ : Shared} {vs : List Value} {ns : List Int}
    (kx : K.In s₁.heap) (gl : s₁.heap.Ns mainGlobals mg) (bl : s₁.heap.Ns builtinsNs mb) (blb : ∀ x : Str, x ≠ "__name__" → mb x = bootBuiltins x) (lim : s₁.heap.NoLimit) (gens : s₁.gens = #[])
    (obj : s₁.heap.get? a = some { cls := .type "list", data := .seq vs.toArray }) (inN : IntsAre vs ns) (short : ns.length ≤ sizeLine) (room : Room k callerA)
    (fn : ∀ base : Heap, K.In base → base.Ns mainGlobals mg → FnG P w K mg base k fa fd [x] sp) (binds : ∀ (s : Shared) (u : Value), BindsTo s fd ⟨[u], []⟩ [(x, u)])
    (prom : ∀ H : Hp, Only H → SqL K H a (ns.map V.int) → sp [.ref a] H (fun v _ => v = .bl true) fun _ _ _ => False) :
    codeAny (model P w) callerA (.call (.ref fa) ⟨[.ref a], []⟩) (fun r s' => r = .ok (.ret (.bool true)) ∧ OldK s₁.heap s'.heap ∧ s'.os = s₁.os ∧ AllBare s'.gens) s₁ := by
  have rel := vals_ints inN
  have lenV := inN.length
  have main : ∀ H : Hp, Only H → SqL K H a (ns.map V.int) → HOk P w H s₁.heap → (∀ b, H b ≠ none → b = a) → (H a ≠ none → K.lookup a = none) →
      codeAny (model P w) callerA (.call (.ref fa) ⟨[.ref a], []⟩) (fun r s' => r = .ok (.ret (.bool true)) ∧ OldK s₁.heap s'.heap ∧ s'.os = s₁.os ∧ AllBare s'.gens) s₁ := by
    intro H only seq held oneA noK
    have isA : ∀ {b : Addr} {u : HO}, H b = some u → b = a := fun {b u} q => oneA b (by rw [q]; simp)
    have inB : ∀ {b : Addr} {o : Obj}, s₁.heap.get? b = some o → H b = none → (hidT s₁.heap H).get? b = some o := fun e n => hidT_get e n
    have dictFree : ∀ {b : Addr} {o : Obj} {es : Array DictEntry} {ep : Nat}, s₁.heap.get? b = some o → o.data = .dict es ep → H b = none := by
      intro b o es ep e d
      cases q : H b with
      | none => rfl
      | some u =>
        obtain rfl := isA q
        rw [obj] at e; cases e
        have dd : Data.seq vs.toArray _ = Data.dict es ep := d
        cases dd
    have nsB : ∀ {b : Addr} {m : Str → Option Value}, s₁.heap.Ns b m → (hidT s₁.heap H).Ns b m := fun {b m} ⟨o, es, ep, e, d, r⟩ => ⟨o, es, ep, inB e (dictFree e d), d, r⟩
    have kB : K.In (hidT s₁.heap H) := by
      intro b o e
      refine inB (kx b o e) ?_
      cases q : H b with
      | none => rfl
      | some u =>
        obtain rfl := isA q
        rw [noK (by rw [q]; simp)] at e; cases e
    have md : Mod K mg (hidT s₁.heap H) := ⟨kB, nsB gl, ⟨mb, nsB bl, blb⟩, let ⟨mc, h1, h2⟩ := lim; ⟨mc, nsB h1, h2⟩⟩
    have en : Env0 P w K mg (hidT s₁.heap H) callerA [] s₁ H := ⟨rfl, md, fun b o e => of_hidT e, Nat.le_of_eq (hidT_size _ _), trivial, fun b z => absurd (show b ∈ ([] : List Addr) from z) (by simp), held, .of_eq gens⟩
    refine codeAny_mono ((fn _ kB (nsB gl)).run callerA [] s₁ H ⟨[.ref a], []⟩ [.ref a] [.ref a] _ _ rfl room en (binds s₁ (.ref a)) (.cons rfl .nil) (prom H only seq)) fun r s' res => ?_
    cases r with
    | error e => exact False.elim res
    | ok fl =>
      cases fl with
      | next => exact False.elim res
      | brk => exact False.elim res
      | cont => exact False.elim res
      | ret u =>
        obtain ⟨v, H', os, bare, un, held', rv, q⟩ := res
        have q : v = .bl true := q
        subst q
        obtain rfl : u = Value.bool true := rv
        refine ⟨rfl, OldK.of_keep fun b o e => ?_, os, bare⟩
        cases q : H b with
        | none => exact un.keep b o e q (fun z => absurd (show b ∈ ([] : List Addr) from z) (by simp)) (by simp)
        | some u =>
          rcases only b with z | ⟨ob, xs, z⟩
          · rw [q] at z; cases z
          · obtain ⟨e1, _⟩ := held b _ z
            obtain ⟨e2, _⟩ := held' b _ (un.frzs b ob _ z)
            rw [e] at e1; cases e1
            exact e2
  cases hk : K.lookup a with
  | some o =>
    have e := kx a o hk
    rw [obj] at e
    cases e
    refine main (fun _ => none) (fun _ => .inl rfl) (.inr ⟨_, vs.toArray, _, hk, rfl, rfl, rfl, by rw [List.size_toArray, lenV]; exact short, by simpa using rel⟩) (fun b u z => nomatch (show (none : Option HO) = some u from z)) (fun b z => absurd rfl z) fun z => absurd rfl z
  | none =>
    refine main (fun b => if b = a then some (.frz { cls := .type "list", data := .seq vs.toArray } (.lst (ns.map V.int))) else none) (fun b => ?_) (.inl (.inr ⟨_, if_pos rfl⟩)) (fun b u z => ?_) (fun b z => ?_) fun _ => hk
    · by_cases hb : b = a
      · exact .inr ⟨_, _, if_pos hb⟩
      · exact .inl (if_neg hb)
    · by_cases hb : b = a
      · subst hb
        have z := (if_pos rfl).symm.trans z
        cases z
        exact ⟨obj, by rw [List.length_map]; exact short, vs, _, rel, obj⟩
      · exact nomatch (if_neg hb).symm.trans z
    · by_cases hb : b = a
      · exact hb
      · exact absurd (if_neg hb) z
end
theorem walk_G {l : PySem.W.OpenLaw} {n k : Nat} {q : Program} {loose : List Str} {XP : (Str → Option Value) → Heap → Prop} {YP : World → Heap → Prop} {d : DefRec} {K : Params → PySem.W.Frag} {sp : PySem.W.Frag → Sp} {x : Str}
    (hn : l.most = some n) (hn2 : n ≤ sizeLine) (hdf : d.params.defaults = []) (hr : Room k callerA) (hY : ∀ (w : World) (h : Heap), YP w h → (K w.params).In h)
    (F : ∀ (w : World) (mg : Str → Option Value) (fa : Addr) (h : Heap), (K w.params).In h → h.Ns mainGlobals mg → mg d.name = some (.ref fa) →
      ∃ fd : FuncData, (∀ (s : Shared) (u : Value), BindsTo s fd ⟨[u], []⟩ [(x, u)]) ∧ ∀ base : Heap, (K w.params).In base → base.Ns mainGlobals mg → FnG l.prog w (K w.params) mg base k fa fd [x] (sp (K w.params)))
    (hsp : ∀ (K : PySem.W.Frag) (H : Hp) (a : Addr) (ns : List Int), ns.length ≤ n → Only H → SqL K H a (ns.map V.int) → sp K [.ref a] H (fun v _ => v = .bl true) fun _ _ _ => False) :
    PySem.W.WalkO q loose XP YP l.row.toRowW d [] (fun f vs => PySem.call f vs) := by
  refine Att.attach_call hn hdf fun w s₀ s₁ mg mb fa o pm cd doc a vs ns G Y ho hd hcd hmg hobj hints hlen hg => ?_
  have kx := hY w _ Y
  obtain ⟨fd, bnd, fnG⟩ := F w mg fa _ kx G.T.g hmg
  exact law_callG kx G.T.g G.T.b G.T.builtins G.T.nolimit hg hobj hints (Nat.le_trans hlen hn2) hr fnG bnd fun H only seq => hsp _ H a ns hlen only seq
end DL


namespace DL
open PySem PySem.Spec PyProof.Rows L2
/-! DL10: the deck. -/
def Dk.drw (k : Dk) (m : Int) : Option (Int × Dk) := match k.great with
  | g :: r => some (g.fmod m, { k with great := if g / m = 0 then r else (g / m) :: r })
  | [] => match k.cells[((k.n + 1).fmod (k.cells.length : Int)).toNat]? with
    | some c =>
      let a := (c.fmod 4294966297 + 1640531527 * (k.n + 1)).fmod 4294966297
      let b := (a * a + 122949823 * (k.n + 1)).fmod 4294966237
      some (((b * b).fmod 4294966187 / 1024).fmod m, { k with n := k.n + 1 })
    | none => none
def drawSem : FS := fun xs k => match xs with
  | [.deck, .dat (.int m)] => if 0 < m ∧ m < 1000000000 then (match k.drw m with
    | some (r, k') => some (.int r, k')
    | none => none) else none
  | _ => none
def DkV (k : Dk) : Prop := k.cells ≠ []
theorem fmod_lt {a m : Int} (h : 0 < m) : 0 ≤ a.fmod m ∧ a.fmod m < m := ⟨Int.fmod_nonneg_of_pos a h, Int.fmod_lt_of_pos a h⟩
theorem drw_ok {k : Dk} {m : Int} (hk : DkV k) (h : 0 < m) : ∃ r k', k.drw m = some (r, k') ∧ 0 ≤ r ∧ r < m ∧ DkV k' := by
  unfold Dk.drw
  split
  · exact ⟨_, _, rfl, (fmod_lt h).1, (fmod_lt h).2, hk⟩
  · have hl : 0 < k.cells.length := by
      cases e : k.cells with
      | nil => exact absurd e hk
      | cons => simp
    have hb := fmod_lt (a := k.n + 1) (m := (k.cells.length : Int)) (by omega)
    have hi : ((k.n + 1).fmod (k.cells.length : Int)).toNat < k.cells.length := by omega
    rw [List.getElem?_eq_getElem hi]
    exact ⟨_, _, rfl, (fmod_lt h).1, (fmod_lt h).2, hk⟩
/-- the greats' list, the cells' list, the number, by their places -/
theorem lst3 {a b c : V} : atI [a, b, c] 0 = some a ∧ atI [a, b, c] 1 = some b ∧ atI [a, b, c] 2 = some c := ⟨rfl, rfl, rfl⟩
theorem upd3 {a b c d : V} : ([a, b, c] : List V).set 2 d = [a, b, d] := rfl
/-- the deck behind a change of its greats, of its number -/
theorem DkOk.putG {A : DA} {P : Addr → Prop} {H : Hp} {k : Dk} {gs : List Int} (h : DkOk A P H k) : DkOk A P (upd H A.g (.lst (gs.map V.int))) { k with great := gs } :=
  ⟨by rw [upd_ne h.og]; exact h.ho, upd_same, by rw [upd_ne h.gc.symm]; exact h.hc, h.rs, h.og, h.oc, h.gc⟩
theorem DkOk.putN {A : DA} {P : Addr → Prop} {H : Hp} {k : Dk} {n : Int} (h : DkOk A P H k) : DkOk A P (upd H A.o (.lst [.ref A.g, .ref A.c, .int n])) { k with n := n } :=
  ⟨upd_same, by rw [upd_ne h.og.symm]; exact h.hg, by rw [upd_ne h.oc.symm]; exact h.hc, h.rs, h.og, h.oc, h.gc⟩
theorem keepG {A : DA} {H : Hp} {o : HO} {b : Addr} (hb : A.is b) : ∀ a u, H a = some u → ¬ A.is a → upd H b o a = some u := fun a u e n => by
  rw [upd_ne (show a ≠ b from fun z => n (z ▸ hb))]; exact e
/-- a new deck -/
def spDeck (K : PySem.W.Frag) : Sp := fun vs H Q _ => ∃ (a : Addr) (ns : List Int), vs = [.ref a] ∧ SqL K H a (ns.map V.int) ∧ ns.length ≤ 1000 ∧
  ∀ (A : DA) (k : Dk) (H' : Hp), A.x = none → Grw H H' → DkOk A A.is H' k → (∀ b, A.is b → H b = none) → DkV k → Q (.ref A.o) H'
end DL


namespace DL
open PySem PySem.Spec PyProof.Rows L2
/-! DL11: a cell given up; {}; several names at once; name = [..]; defs without a promise. -/
section
variable {K : PySem.W.Frag} {A : DA} {hid P : Addr → Prop} {s : S} {σ : St} {H : Hp}
/-- a cell is given up: its list is data from now on -/
theorem SOk.give {i : Nat} {ds : List D} (ok : SOk K A hid P s σ H) (hi : s.g[i]? = some (some (.lst ds))) : ∃ a, σ[i]? = some (some (.ref a)) ∧ SOk K A hid (fun b => P b ∧ b ≠ a) { s with g := s.g.set i (some (.dat (.list ds))) } σ H ∧ Stp hid P (fun b => P b ∧ b ≠ a) H H ∧ Rp K (mask (fun b => P b ∧ b ≠ a) H) (.ref a) (.list ds) := by
  obtain ⟨a, vs, ea, h1, h2, h3, h4, rr⟩ := ok.slot i _ hi
  have hil : i < s.g.length := (List.getElem?_eq_some_iff.mp hi).1
  have g : Grw (mask P H) (mask (fun b => P b ∧ b ≠ a) H) := mask_grw fun b o e c => ⟨fun z => c z.1, e⟩
  have r : Rp K (mask (fun b => P b ∧ b ≠ a) H) (.ref a) (.list ds) := .lst (mask_some.mpr ⟨fun z => z.2 rfl, h1⟩) (rr.mono g)
  have oth : ∀ (j : Nat) (w : Val) (b : Addr), j ≠ i → s.g[j]? = some (some w) → isCell w = true → σ[j]? = some (some (.ref b)) → b ≠ a := fun j w b hj e c e3 z => by
    subst z
    exact hj (ok.apart j i w _ _ e hi c rfl e3 ea)
  refine ⟨a, ea, ⟨fun b z => ok.trk b z.1, fun b z => ⟨ok.hp b z, fun w => h3 (w ▸ z)⟩, ok.hd, by simpa using ok.len, fun j w e => ?_, fun j l w u b e1 e2 c1 c2 e3 e4 => ?_, ?_⟩, ⟨fun b o e _ => e, fun b o e c z => c z.1⟩, r⟩
  · have e : (s.g.set i (some (.dat (.list ds))))[j]? = some (some w) := e
    rw [get_set] at e
    by_cases k1 : i = j ∧ j < s.g.length
    · rw [if_pos k1] at e
      cases e
      exact ⟨.ref a, by rw [← k1.1]; exact ea, r⟩
    · rw [if_neg k1] at e
      have hj : j ≠ i := fun z => k1 ⟨z.symm, by rw [z]; exact hil⟩
      have q := ok.slot j w e
      cases w with
      | dat d => obtain ⟨u, e5, r⟩ := q; exact ⟨u, e5, r.mono g⟩
      | lst es => obtain ⟨b, us, e5, k1, k2, k3, k4, r⟩ := q; exact ⟨b, us, e5, k1, ⟨k2, oth j _ b hj e rfl e5⟩, k3, k4, r.mono g⟩
      | obj o =>
        obtain ⟨y, z1, z2, z3⟩ := q
        exact ⟨y, z1, z2, z3.move g fun _ _ _ e => e⟩
      | dct tt es =>
        obtain ⟨b, e5, k2, k3, k4, r⟩ := q
        refine ⟨b, e5, ⟨k2, oth j _ b hj e rfl e5⟩, k3, k4, ?_⟩
        rcases r with ⟨ht, ks, k1, r⟩ | ⟨ht, ks, k1, r⟩
        · exact .inl ⟨ht, ks, k1, r.mono g⟩
        · exact .inr ⟨ht, ks, k1, r.mono g⟩
      | deck => exact q
  · have e1 : (s.g.set i (some (.dat (.list ds))))[j]? = some (some w) := e1
    have e2 : (s.g.set i (some (.dat (.list ds))))[l]? = some (some u) := e2
    rw [get_set] at e1 e2
    split at e1
    · cases e1; cases c1
    · split at e2
      · cases e2; cases c2
      · exact ok.apart j l w u b e1 e2 c1 c2 e3 e4
  · have d := ok.deck
    exact ⟨d.ho, d.hg, d.hc, fun b z => ⟨d.rs b z, fun w => h4 (w ▸ z)⟩, d.og, d.oc, d.gc⟩
end
section
variable {X : Cx} {K : PySem.W.Frag} {pos : Pos}
/-- a name whose cell is not changed any more -/
def eGive (i : Nat) : M D := fun s => match s.g[i]? with
  | some (some (.dat d)) => some (d, s)
  | some (some (.lst ds)) => some (.list ds, { s with g := s.g.set i (some (.dat (.list ds))) })
  | _ => none
theorem ev_give {i : Nat} : EvE K (tVar i) (eGive i) := by
  intro A hid P s σ H d s' ok h Q q
  unfold eGive at h
  split at h
  · cases h
    rename_i h1
    obtain ⟨v, e, r⟩ := ok.slot i _ h1
    exact ⟨v, e, q v P H ok Stp.refl r⟩
  · cases h
    rename_i h1
    obtain ⟨a, e, ok2, st, r⟩ := ok.give h1
    exact ⟨.ref a, e, q _ _ H ok2 st r⟩
  · cases h
theorem de_give (i : Nat) {x : Str} {pos : Pos} (hN : X.N[i]? = some x := by rfl) (hv : Vis X.env.scope x := by first | exact Or.inl rfl | exact Or.inr (Or.inl rfl) | exact Or.inr (Or.inr rfl)) (hd : (x == ("__debug__" : Str)) = false := by decide)
    (hcd : (x == ("__classdict__" : Str)) = false := by decide) : DE X (.Name x pos) (tVar i) (eGive i) := ⟨pe_var hN hv hd hcd, ev_give⟩
/-- {} -/
theorem ev_dnew : EvE K tDNewK (eC (.dict [])) := by
  intro A hid P s σ H d s' ok h Q q p hp
  obtain ⟨rfl, rfl⟩ := rtn_some h
  exact q _ P _ (ok.grw (Grw.new hp)) (Stp.grw (Grw.new hp)) (.dK (.inl (mask_new (ok.free hp))) .nil)
theorem de_dnew : DE X (.Dict [] [] pos) tDNewK (eC (.dict [])) := ⟨pe_dnewK, ev_dnew⟩
/-! ### values for several names: data, or new lists that become cells -/
inductive PV where
  | dat (d : D) | new (ds : List D)
def PVOk (K : PySem.W.Frag) (P : Addr → Prop) (H : Hp) (L : List Addr) (v : V) : PV → Prop
  | .dat d => Rp K (mask P H) v d
  | .new ds => ∃ a vs, v = .ref a ∧ a ∈ L ∧ H a = some (.lst vs) ∧ RpA K (mask P H) vs ds
/-- the new lists stand in L, in order -/
inductive PVs (K : PySem.W.Frag) (P : Addr → Prop) (H : Hp) : List Addr → List V → List PV → Prop
  | nil : PVs K P H [] [] []
  | dat {L : List Addr} {v : V} {vs : List V} {d : D} {xs : List PV} : Rp K (mask P H) v d → PVs K P H L vs xs → PVs K P H L (v :: vs) (.dat d :: xs)
  | new {L : List Addr} {a : Addr} {us vs : List V} {ds : List D} {xs : List PV} : H a = some (.lst us) → RpA K (mask P H) us ds → PVs K P H L vs xs → PVs K P H (a :: L) (.ref a :: vs) (.new ds :: xs)
theorem PVs.mono {P P' : Addr → Prop} {H H' : Hp} {L : List Addr} {vs : List V} {xs : List PV} (g : Grw (mask P H) (mask P' H')) (k : ∀ a ∈ L, ∀ o, H a = some o → H' a = some o) (h : PVs K P H L vs xs) : PVs K P' H' L vs xs := by
  induction h with
  | nil => exact .nil
  | dat r _ ih => exact .dat (r.mono g) (ih k)
  | new e r _ ih => exact .new (k _ (List.mem_cons_self ..) _ e) (r.mono g) (ih fun a ha => k a (List.mem_cons_of_mem _ ha))
def EvP (K : PySem.W.Frag) (t : TA) (f : M (List PV)) : Prop := ∀ (A : DA) (hid P : Addr → Prop) (s : S) (σ : St) (H : Hp) (xs : List PV) (s' : S), SOk K A hid P s σ H → f s = some (xs, s') →
  ∀ Q : List V → Hp → Prop, (∀ vs L P' H', SOk K A (fun a => hid a ∨ a ∈ L) P' s' σ H' → Stp hid P P' H H' → L.Nodup → (∀ a ∈ L, ¬ hid a) → PVs K P' H' L vs xs → Q vs H') → t σ H Q
structure DP (X : Cx) (es : List Expr) (t : TA) (f : M (List PV)) : Prop where
  p : PA X es t
  v : EvP X.K t f
def pNil : M (List PV) := rtn []
def pDat (f : M D) (fr : M (List PV)) : M (List PV) := bd f fun x => bd fr fun xs => rtn (.dat x :: xs)
def pNew (f : M (List D)) (fr : M (List PV)) : M (List PV) := bd f fun x => bd fr fun xs => rtn (.new x :: xs)
variable {e : Expr} {es : List Expr} {te : TE} {f : M D} {g : M (List D)} {tr : TA} {fr : M (List PV)}
theorem SOk.hidEq {A : DA} {hid hid' P : Addr → Prop} {s : S} {σ : St} {H : Hp} (ok : SOk K A hid P s σ H) (h : ∀ a, hid a ↔ hid' a) : SOk K A hid' P s σ H := by
  have : hid = hid' := funext fun a => propext (h a)
  subst this; exact ok
theorem ep_nil : EvP K tNil pNil := by
  intro A hid P s σ H xs s' ok h Q q
  obtain ⟨rfl, rfl⟩ := rtn_some h
  exact q [] [] P H (ok.hidEq fun a => by simp) Stp.refl List.nodup_nil (by simp) .nil
theorem ep_dat (ha : EvE K te f) (hr : EvP K tr fr) : EvP K (tCons te tr) (pDat f fr) := by
  intro A hid P s σ H ds s' ok h Q q
  obtain ⟨x, s1, h1, h⟩ := bd_some h
  obtain ⟨xs, s2, h2, h⟩ := bd_some h
  obtain ⟨rfl, rfl⟩ := rtn_some h
  refine ha A hid P s σ H x s1 ok h1 _ fun v P1 H1 ok1 st1 r1 => ?_
  refine hr A hid P1 s1 σ H1 xs _ ok1 h2 _ fun vs L P2 H2 ok2 st2 nd nh r2 => ?_
  exact q (v :: vs) L P2 H2 ok2 (st1.trans st2) nd nh (.dat (st2.rp r1) r2)
theorem ep_new (ha : EvN K te g) (hr : EvP K tr fr) : EvP K (tCons te tr) (pNew g fr) := by
  intro A hid P s σ H ds s' ok h Q q
  obtain ⟨x, s1, h1, h⟩ := bd_some h
  obtain ⟨xs, s2, h2, h⟩ := bd_some h
  obtain ⟨rfl, rfl⟩ := rtn_some h
  refine ha A hid P s σ H x s1 ok h1 _ fun us P1 H1 p ok1 st1 hp r1 => ?_
  have okh : SOk K A (fun a => hid a ∨ a = p) (fun a => P1 a ∨ a = p) s1 σ (upd H1 p (.lst us)) := ok1.hide hp
  refine hr A _ _ s1 σ _ xs _ okh h2 _ fun vs L P2 H2 ok2 st2 nd nh r2 => ?_
  have np : p ∉ L := fun z => nh p z (.inr rfl)
  have hp2 : H2 p = some (.lst us) := st2.keep p _ upd_same (.inl (.inr rfl))
  have stW : Stp hid P1 P2 H1 H2 := by
    refine ⟨fun a o e c => ?_, fun a o e c => ?_⟩
    · have ha : a ≠ p := ne_of_none e hp
      exact st2.keep a o (by rw [upd_ne ha]; exact e) (c.imp (fun z => .inl z) fun z w => w.elim z ha)
    · have ha : a ≠ p := ne_of_none e hp
      exact st2.vis a o (by rw [upd_ne ha]; exact e) fun w => w.elim c ha
  refine q (.ref p :: vs) (p :: L) P2 H2 (ok2.hidEq fun a => ?_) (st1.trans stW) (List.nodup_cons.mpr ⟨np, nd⟩) (fun a ha => ?_) (.new hp2 (r1.mono stW.mg) r2)
  · rw [List.mem_cons]; exact or_assoc
  · rcases List.mem_cons.mp ha with rfl | ha
    · exact fun z => ok1.free hp (ok1.hp _ z)
    · exact fun z => nh a ha (.inl z)
theorem dp_nil : DP X [] tNil pNil := ⟨pa_nil, ep_nil⟩
theorem dp_dat (ha : DE X e te f) (hr : DP X es tr fr) (hs : starEach (e :: es) X.env = (false, eval e X.env) :: starEach es X.env := by rfl) : DP X (e :: es) (tCons te tr) (pDat f fr) := ⟨pa_cons ha.p hr.p hs, ep_dat ha.v hr.v⟩
theorem dp_new (ha : DN X e te g) (hr : DP X es tr fr) (hs : starEach (e :: es) X.env = (false, eval e X.env) :: starEach es X.env := by rfl) : DP X (e :: es) (tCons te tr) (pNew g fr) := ⟨pa_cons ha.p hr.p hs, ep_new ha.v hr.v⟩
/-- a hidden list becomes a slot's cell -/
theorem SOk.adopt {A : DA} {hid P : Addr → Prop} {s : S} {σ : St} {H : Hp} {L : List Addr} {i : Nat} {p : Addr} {us : List V} {ds : List D} (ok : SOk K A (fun a => hid a ∨ a ∈ p :: L) P s σ H) (nh : ¬ hid p) (nL : p ∉ L) (hp : H p = some (.lst us)) (r : RpA K (mask P H) us ds) :
    SOk K A (fun a => hid a ∨ a ∈ L) P { s with g := s.g.set i (some (.lst ds)) } (σ.set i (some (.ref p))) H := by
  have hl := ok.len
  have hh : hid p ∨ p ∈ p :: L := .inr (List.mem_cons_self ..)
  have le : ∀ a, (hid a ∨ a ∈ L) → hid a ∨ a ∈ p :: L := fun a z => z.imp (fun z => z) fun z => List.mem_cons_of_mem _ z
  have cellNe : ∀ (j : Nat) (w : Val) (a : Addr), s.g[j]? = some (some w) → isCell w = true → σ[j]? = some (some (.ref a)) → a ≠ p := fun j w a e c e3 z => by
    subst z
    have q := ok.slot j w e
    cases w with
    | dat d => cases c
    | obj o => cases c
    | deck => cases c
    | lst es => obtain ⟨b, us, e5, _, _, h3, _⟩ := q; rw [e3] at e5; cases e5; exact h3 hh
    | dct tt es => obtain ⟨b, e5, _, h3, _⟩ := q; rw [e3] at e5; cases e5; exact h3 hh
  refine ⟨ok.trk, fun a z => ok.hp a (le a z), fun a z => ok.hd a (le a z), by simpa using ok.len, fun j w e => ?_, fun j l w u a e1 e2 c1 c2 e3 e4 => ?_, ok.deck⟩
  · show SlotOk K A _ _ _ (σ.set i (some (.ref p)))[j]? w
    have e : (s.g.set i (some (.lst ds)))[j]? = some (some w) := e
    rw [get_set] at e ⊢
    rw [← hl]
    split at e
    · cases e
      rw [if_pos (by assumption)]
      exact ⟨p, us, rfl, hp, ok.hp p hh, fun z => z.elim nh nL, ok.hd p hh, r⟩
    · rw [if_neg (by assumption)]
      have q := ok.slot j w e
      cases w with
      | dat d => exact q
      | obj o => exact q
      | deck => exact q
      | lst es => obtain ⟨b, us, e5, h1, h2, h3, h4⟩ := q; exact ⟨b, us, e5, h1, h2, fun z => h3 (le b z), h4⟩
      | dct tt es => obtain ⟨b, e5, h2, h3, h4⟩ := q; exact ⟨b, e5, h2, fun z => h3 (le b z), h4⟩
  · have e1 : (s.g.set i (some (.lst ds)))[j]? = some (some w) := e1
    have e2 : (s.g.set i (some (.lst ds)))[l]? = some (some u) := e2
    rw [get_set] at e1 e2 e3 e4
    rw [← hl] at e3 e4
    by_cases k1 : i = j ∧ j < s.g.length
    · rw [if_pos k1] at e1 e3
      cases e3
      by_cases k2 : i = l ∧ l < s.g.length
      · exact k1.1.symm.trans k2.1
      · rw [if_neg k2] at e2 e4
        exact absurd rfl (cellNe l u _ e2 c2 e4)
    · rw [if_neg k1] at e1 e3
      by_cases k2 : i = l ∧ l < s.g.length
      · rw [if_pos k2] at e2 e4
        cases e4
        exact absurd rfl (cellNe j w _ e1 c1 e3)
      · rw [if_neg k2] at e2 e4
        exact ok.apart j l w u a e1 e2 c1 c2 e3 e4
def putP (i : Nat) (x : PV) (s : S) : S := { s with g := s.g.set i (some (match x with
  | .dat d => .dat d
  | .new ds => .lst ds)) }
/-- one of the values goes to its slot -/
theorem SOk.putP {A : DA} {hid P : Addr → Prop} {s : S} {σ : St} {H : Hp} {L : List Addr} {i : Nat} {v : V} {vs : List V} {x : PV} {xs : List PV} (ok : SOk K A (fun a => hid a ∨ a ∈ L) P s σ H) (nd : L.Nodup) (nh : ∀ a ∈ L, ¬ hid a) (h : PVs K P H L (v :: vs) (x :: xs)) :
    ∃ L', SOk K A (fun a => hid a ∨ a ∈ L') P (DL.putP i x s) (σ.set i (some v)) H ∧ L'.Nodup ∧ (∀ a ∈ L', ¬ hid a) ∧ PVs K P H L' vs xs := by
  cases h with
  | dat r h => exact ⟨L, ok.set_dat r, nd, nh, h⟩
  | @new L' a us _ ds _ e r h =>
    have n := List.nodup_cons.mp nd
    exact ⟨L', ok.adopt (nh a (List.mem_cons_self ..)) n.1 e r, n.2, fun b hb => nh b (List.mem_cons_of_mem _ hb), h⟩
def sPar (i j : Nat) (fr : M (List PV)) : M Fl := bd fr fun xs => match xs with
  | [x, y] => fun s => some (.nx, putP j y (putP i x s))
  | _ => fun _ => none
theorem es_par {i j : Nat} (h : EvP K tr fr) : EvS K (tPar i j tr) (sPar i j fr) := by
  intro A hid P s σ H fl s' ok e D q
  obtain ⟨xs, s1, h1, e⟩ := bd_some e
  refine h A hid P s σ H xs s1 ok h1 _ fun vs L P1 H1 ok1 st1 nd nh r => ?_
  split at e
  · cases e
    match vs, r with
    | [v, w], r =>
      refine ⟨v, w, rfl, ?_⟩
      obtain ⟨L1, ok2, nd2, nh2, r2⟩ := ok1.putP (i := i) nd nh r
      obtain ⟨L2, ok3, nd3, nh3, r3⟩ := ok2.putP (i := j) nd2 nh2 r2
      cases r3
      exact q _ P1 H1 (ok3.hidEq fun a => by simp) st1
    | [], r => cases r
    | [_], r => cases r with
      | dat _ r => cases r
      | new _ _ r => cases r
    | _ :: _ :: _ :: _, r => cases r with
      | dat _ r => cases r with
        | dat _ r => cases r
        | new _ _ r => cases r
      | new _ _ r => cases r with
        | dat _ r => cases r
        | new _ _ r => cases r
  · cases e
def sPar3 (i j l : Nat) (fr : M (List PV)) : M Fl := bd fr fun xs => match xs with
  | [x, y, z] => fun s => some (.nx, putP l z (putP j y (putP i x s)))
  | _ => fun _ => none
theorem PVs.length {P : Addr → Prop} {H : Hp} {L : List Addr} {vs : List V} {xs : List PV} (h : PVs K P H L vs xs) : vs.length = xs.length := by
  induction h with
  | nil => rfl
  | dat _ _ ih => simp [ih]
  | new _ _ _ ih => simp [ih]
theorem es_par3 {i j l : Nat} (h : EvP K tr fr) : EvS K (tPar3 i j l tr) (sPar3 i j l fr) := by
  intro A hid P s σ H fl s' ok e D q
  obtain ⟨xs, s1, h1, e⟩ := bd_some e
  refine h A hid P s σ H xs s1 ok h1 _ fun vs L P1 H1 ok1 st1 nd nh r => ?_
  split at e
  · cases e
    have hl := r.length
    match vs, r, hl with
    | [v, w, u], r, _ =>
      refine ⟨v, w, u, rfl, ?_⟩
      obtain ⟨L1, ok2, nd2, nh2, r2⟩ := ok1.putP (i := i) nd nh r
      obtain ⟨L2, ok3, nd3, nh3, r3⟩ := ok2.putP (i := j) nd2 nh2 r2
      obtain ⟨L3, ok4, nd4, nh4, r4⟩ := ok3.putP (i := l) nd3 nh3 r3
      cases r4
      exact q _ P1 H1 (ok4.hidEq fun a => by simp) st1
    | [], _, h => simp at h
    | [_], _, h => simp at h
    | [_, _], _, h => simp at h
    | _ :: _ :: _ :: _ :: _, _, h => simp at h
  · cases e
theorem ds_par (i j : Nat) {x y : Str} {a b : Expr} {px py pt : Pos} {kt k2 pt2} (hc : X.calm = true) (hN : X.N.Nodup) (ha : DP X [a, b] tr fr) (hi : X.N[i]? = some x := by rfl) (hj : X.N[j]? = some y := by rfl) (hij : i ≠ j := by decide)
    (hx : X.env.scope.names.lookup x = some .local := by rfl) (hy : X.env.scope.names.lookup y = some .local := by rfl)
    (hw : swappedStores [.Tuple [.Name x px, .Name y py] kt pt] (.Tuple [a, b] k2 pt2) X.env = pure (some [x, y]) := by rfl)
    (hs : swapsWithSole [.Tuple [.Name x px, .Name y py] kt pt] (.Tuple [a, b] k2 pt2) pos.line X.env = pure false := by rfl) :
    DS X (.Assign [.Tuple [.Name x px, .Name y py] kt pt] (.Tuple [a, b] k2 pt2) pos) (tPar i j tr) (sPar i j fr) := ⟨ps_par hc hN hi hj hij hx hy ha.p hw hs, es_par ha.v⟩
theorem ds_par3 (i j l : Nat) {x y z : Str} {a b c : Expr} {px py pz pt : Pos} {kt k2 pt2} (hc : X.calm = true) (hN : X.N.Nodup) (ha : DP X [a, b, c] tr fr) (hi : X.N[i]? = some x := by rfl) (hj : X.N[j]? = some y := by rfl) (hl : X.N[l]? = some z := by rfl) (hij : i ≠ j := by decide) (hil : i ≠ l := by decide) (hjl : j ≠ l := by decide)
    (hx : X.env.scope.names.lookup x = some .local := by rfl) (hy : X.env.scope.names.lookup y = some .local := by rfl) (hz : X.env.scope.names.lookup z = some .local := by rfl)
    (hw : swappedStores [.Tuple [.Name x px, .Name y py, .Name z pz] kt pt] (.Tuple [a, b, c] k2 pt2) X.env = pure (some [x, y, z]) := by rfl)
    (hs : swapsWithSole [.Tuple [.Name x px, .Name y py, .Name z pz] kt pt] (.Tuple [a, b, c] k2 pt2) pos.line X.env = pure false := by rfl) :
    DS X (.Assign [.Tuple [.Name x px, .Name y py, .Name z pz] kt pt] (.Tuple [a, b, c] k2 pt2) pos) (tPar3 i j l tr) (sPar3 i j l fr) := ⟨ps_par3 hc hN hi hj hl hij hil hjl hx hy hz ha.p hw hs, es_par3 ha.v⟩
end
section
variable {X : Cx}
/-- name = [..] on one line, the name a local: data or a cell -/
theorem ps_lcn {i : Nat} {y : Str} {py spos : Pos} {elt tg iter : Expr} {ifs : List Expr} {scope : Scope} {own : List (Str × Nat)} {pos : Pos} {wi : TI} {g : TG} {tt : TT} {te : TE} {it : M (List D)} {js : List Nat} {fg : D → M Unit} {gt : M Bool} {fe : M D} (hc : X.calm = true) (hN : X.N.Nodup) (hi : DI X tg iter wi it) (ok : BlkOk X.N X.env.scope scope own)
    (hg : ∀ (s : Shared) (H : Hp) (C : Addr) (cl : List (Str × Addr)) (fp : List Addr), DG (X.blk s H scope (compEnvC scope cl C X.env) fp) tg js g fg) (hj : ∀ i ∈ js, i ∈ own.map (·.2)) (ht : ∀ (s : Shared) (H : Hp) (C : Addr) (cl : List (Str × Addr)) (fp : List Addr), DTs (X.blk s H scope (compEnvC scope cl C X.env) fp) ifs tt gt)
    (he : ∀ (s : Shared) (H : Hp) (C : Addr) (cl : List (Str × Addr)) (fp : List Addr), DE (X.blk s H scope (compEnvC scope cl C X.env) fp) elt te fe) (hy : X.N[i]? = some y) (hyl : X.env.scope.names.lookup y = some .local)
    (hsw : swapsWith (.ListComp elt [⟨tg, iter, ifs, 0⟩] scope pos) (some (.Name y py)) spos.line X.env = pure true) (hs : ∀ x, foldedSetIterable iter X.env x = pure x) :
    PS X (.Assign [.Name y py] (.ListComp elt [⟨tg, iter, ifs, 0⟩] scope pos) spos) (tAsg (tLc wi g tt te (own.map (·.2))) (gName i)) ∧ EvN X.K (tLc wi g tt te (own.map (·.2))) (nLc (own.map (·.2)) it fg gt fe) :=
  ⟨ps_setLc hc hN hy hyl hsw hi.p ok (fun s H C cl fp => (hg s H C cl fp).p) (fun s H C cl fp => (ht s H C cl fp).p) (fun s H C cl fp => (he s H C cl fp).p) hs,
    en_lc hi.v (hg X.s_0 X.H_0 0 [] []).v hj (ht X.s_0 X.H_0 0 [] []).v (he X.s_0 X.H_0 0 [] []).v⟩
theorem ds_lcD (i : Nat) {y : Str} {py spos : Pos} {elt tg iter : Expr} {ifs : List Expr} {scope : Scope} {own : List (Str × Nat)} {pos : Pos} {wi : TI} {g : TG} {tt : TT} {te : TE} {it : M (List D)} {js : List Nat} {fg : D → M Unit} {gt : M Bool} {fe : M D} (hc : X.calm = true) (hN : X.N.Nodup) (hi : DI X tg iter wi it) (ok : BlkOk X.N X.env.scope scope own)
    (hg : ∀ (s : Shared) (H : Hp) (C : Addr) (cl : List (Str × Addr)) (fp : List Addr), DG (X.blk s H scope (compEnvC scope cl C X.env) fp) tg js g fg) (hj : ∀ i ∈ js, i ∈ own.map (·.2)) (ht : ∀ (s : Shared) (H : Hp) (C : Addr) (cl : List (Str × Addr)) (fp : List Addr), DTs (X.blk s H scope (compEnvC scope cl C X.env) fp) ifs tt gt)
    (he : ∀ (s : Shared) (H : Hp) (C : Addr) (cl : List (Str × Addr)) (fp : List Addr), DE (X.blk s H scope (compEnvC scope cl C X.env) fp) elt te fe)
    (hsw : swapsWith (.ListComp elt [⟨tg, iter, ifs, 0⟩] scope pos) (some (.Name y py)) spos.line X.env = pure true) (hy : X.N[i]? = some y := by rfl) (hyl : X.env.scope.names.lookup y = some .local := by rfl) (hs : ∀ x, foldedSetIterable iter X.env x = pure x := by intro _; rfl) :
    DS X (.Assign [.Name y py] (.ListComp elt [⟨tg, iter, ifs, 0⟩] scope pos) spos) (tAsg (tLc wi g tt te (own.map (·.2))) (gName i)) (sAsg (eL (nLc (own.map (·.2)) it fg gt fe)) (gN i)) := by
  obtain ⟨h1, h2⟩ := ps_lcn (spos := spos) hc hN hi ok hg hj ht he hy hyl hsw hs
  exact ⟨h1, es_asg (ev_N h2) eg_name⟩
theorem ds_lcC (i : Nat) {y : Str} {py spos : Pos} {elt tg iter : Expr} {ifs : List Expr} {scope : Scope} {own : List (Str × Nat)} {pos : Pos} {wi : TI} {g : TG} {tt : TT} {te : TE} {it : M (List D)} {js : List Nat} {fg : D → M Unit} {gt : M Bool} {fe : M D} (hc : X.calm = true) (hN : X.N.Nodup) (hi : DI X tg iter wi it) (ok : BlkOk X.N X.env.scope scope own)
    (hg : ∀ (s : Shared) (H : Hp) (C : Addr) (cl : List (Str × Addr)) (fp : List Addr), DG (X.blk s H scope (compEnvC scope cl C X.env) fp) tg js g fg) (hj : ∀ i ∈ js, i ∈ own.map (·.2)) (ht : ∀ (s : Shared) (H : Hp) (C : Addr) (cl : List (Str × Addr)) (fp : List Addr), DTs (X.blk s H scope (compEnvC scope cl C X.env) fp) ifs tt gt)
    (he : ∀ (s : Shared) (H : Hp) (C : Addr) (cl : List (Str × Addr)) (fp : List Addr), DE (X.blk s H scope (compEnvC scope cl C X.env) fp) elt te fe)
    (hsw : swapsWith (.ListComp elt [⟨tg, iter, ifs, 0⟩] scope pos) (some (.Name y py)) spos.line X.env = pure true) (hy : X.N[i]? = some y := by rfl) (hyl : X.env.scope.names.lookup y = some .local := by rfl) (hs : ∀ x, foldedSetIterable iter X.env x = pure x := by intro _; rfl) :
    DS X (.Assign [.Name y py] (.ListComp elt [⟨tg, iter, ifs, 0⟩] scope pos) spos) (tAsg (tLc wi g tt te (own.map (·.2))) (gName i)) (sNew i (nLc (own.map (·.2)) it fg gt fe)) := by
  obtain ⟨h1, h2⟩ := ps_lcn (spos := spos) hc hN hi ok hg hj ht he hy hyl hsw hs
  exact ⟨h1, es_new h2⟩
end
/-- nothing promised: the start of a def that calls itself -/
def semNo : FS := fun _ _ => none
theorem fnD_no {P : Program} {w : World} {K : PySem.W.Frag} {mg : Str → Option Value} {base : Heap} {f : Addr} {fd : FuncData} {ps : List Str} {k : Nat} : FnOk P w K mg base CX0 k f fd ps (spD K semNo) :=
  ⟨fun vs H Q E h => (by obtain ⟨_, _, _, _, _, _, _, _, _, _, e, _⟩ := h; cases e), fun A outer s H args us vs Q E _ _ _ _ h => (by obtain ⟨_, _, _, _, _, _, _, _, _, _, e, _⟩ := h; cases e)⟩
end DL


namespace DL
open PySem PySem.Spec PyProof.Rows L2
/-! DL12: a list or a tuple walked. -/
def iSeq (K : PySem.W.Frag) (tl : TE) : TI := fun σ H R => tl σ H fun x H1 => ∃ a, x = .ref a ∧ (((∃ xs, SqL K H1 a xs) ∧ R (Itl K a) H1) ∨ ((∃ xs, SqT K H1 a xs) ∧ R (Itt K a) H1))
theorem pi_seq {X : Cx} {tg l : Expr} {tl : TE} (hl : PE X l tl) : PI X tg l (iSeq X.K tl) := by
  refine ⟨fun pins s σ H R I0 h => thn (hl.run pins s σ H _ I0 h) fun v s2 ⟨x, H2, I2, r2, ⟨a, ea, q2⟩⟩ => ?_⟩
  subst ea
  cases r2
  have nw : ∀ (hp : Heap) (b : Addr), b ∈ [s2.heap.objs.size] → FpOk X pins H2 b := fun _ b hb => by
    obtain rfl : b = s2.heap.objs.size := by simpa using hb
    exact I2.fpOk (Nat.le_refl _) (I2.hok.fresh (Nat.le_refl _))
  rcases q2 with ⟨⟨xs, hx⟩, qq⟩ | ⟨⟨xs, hx⟩, qq⟩
  · obtain ⟨its, rv, pl, _⟩ := I2.list hx
    exact wpAny_pyIter_list pl.isList ⟨_, [s2.heap.objs.size], _, _, H2, rfl, I2.kept (t' := s2.toks) (fun b o e => Heap.get?_push_of_some _ e), turn_list a _, ⟨_, Heap.get?_push_size _ rfl, rfl, rfl⟩, nw s2.heap, qq⟩
  · obtain ⟨its, rv, pt, _⟩ := I2.tuple hx
    have pt : s2.heap.IsTuple a its.toArray := pt
    exact wpAny_pyIter_tuple pt ⟨_, [s2.heap.objs.size], _, _, H2, rfl, I2.kept (t' := s2.toks) (fun b o e => Heap.get?_push_of_some _ e), turn_tuple a _, ⟨_, Heap.get?_push_size _ rfl, rfl, rfl⟩, nw s2.heap, qq⟩
def asQ (f : M D) : M (List D) := bd f fun x => match x with
  | .list ds => rtn ds
  | .tuple ds => rtn ds
  | _ => fun _ => none
theorem ei_seq {K : PySem.W.Frag} {te : TE} {f : M D} (h : EvE K te f) : EvI K (iSeq K te) (asQ f) := by
  intro A hid P s σ H ds s' ok e R q
  obtain ⟨x, s1, h1, e⟩ := bd_some e
  refine h A hid P s σ H x s1 ok h1 _ fun v P1 H1 ok1 st1 r => ?_
  split at e
  · obtain ⟨rfl, rfl⟩ := rtn_some e
    obtain ⟨a, vs, rfl, hx, rr⟩ := r.lst_inv
    exact ⟨a, rfl, .inl ⟨⟨vs, SqL.of (mask_le _ _ hx)⟩, q _ _ P1 H1 ok1 st1 (walkL rr.length) ⟨hx, rr⟩⟩⟩
  · obtain ⟨rfl, rfl⟩ := rtn_some e
    obtain ⟨a, vs, rfl, hx, rr⟩ := r.tup_inv
    exact ⟨a, rfl, .inr ⟨⟨vs, sqT_le hx⟩, q _ _ P1 H1 ok1 st1 (walkT rr.length) ⟨hx, rr⟩⟩⟩
  · cases e
theorem di_seq {X : Cx} {tg e : Expr} {te : TE} {f : M D} (h : DE X e te f) : DI X tg e (iSeq X.K te) (asQ f) := ⟨pi_seq h.p, ei_seq h.v⟩
/-- x.append(e), x a cell -/
theorem ds_append {X : Cx} {e : Expr} {te : TE} {f : M D} {pos : Pos} (i : Nat) {x : Str} {px pa pe : Pos} (h : DE X e te f) (hN : X.N[i]? = some x := by rfl) (hv : Vis X.env.scope x := by first | exact Or.inl rfl | exact Or.inr (Or.inl rfl) | exact Or.inr (Or.inr rfl))
    (hd : (x == ("__debug__" : Str)) = false := by decide) (hcd : (x == ("__classdict__" : Str)) = false := by decide) (hst : starEach [e] X.env = (false, eval e X.env) :: starEach [] X.env := by rfl)
    (hbase : attributeBase (.Name x px) "append" X.env (eval (.Name x px) X.env) = eval (.Name x px) X.env := by rfl)
    (hfew : ((backTo pe (starEach [e] X.env)).all (fun x => !x.1) && (backToKw pe (keywordEach [] X.env)).all (fun x => x.1.isSome) && decide ([e].length + ([] : List Keyword).length + (if ([] : List Keyword).isEmpty then 0 else 1) < 30)) = true := by rfl)
    (hline : (pa.endLine == pe.line) = true := by rfl) (hplain : (backTo pe (starEach [] X.env)).any (·.1) = false := by rfl)
    (hs : swapsWith (.Call (.Attribute (.Name x px) "append" pa) [e] [] pe) none pos.line X.env = pure false := by rfl) : DS X (.Expr (.Call (.Attribute (.Name x px) "append" pa) [e] [] pe) pos) (tDrop (tBM X.K "list" rAppend (tVar i) (tCons te tNil))) (sApp i f) :=
  ds_app i h hN hv hd hcd (pe_bm PySem.F.plainAttrs_list PySem.F.slot_list_append PySem.F.type_list_append mt_append (pe_var hN hv hd hcd) (pa_cons h.p pa_nil hst) hbase hfew hline hst hplain) hs
end DL


namespace DL
open PySem PySem.Spec PyProof.Rows L2
/-! DL13: keywords of a def; a law by its deck and its pure rest. -/
theorem _root_.L2.Fun.kbinds {K : PySem.W.Frag} {x qual : Str} {st : Stmt} {f : Addr} {fd : FuncData} {ps ks : List Str} {pm : List Nat} (F : Fun K x qual st f fd) (hp : ps ≠ [])
    (h : ∀ (kV doc pmv : Value) (an : Option Addr) (cdv ct : Value) (ws : List Value), ws.length = pm.length → bindArgs (PySem.W.fnOf x qual (defArgs st) (defBody st) (defScope st) .none kV doc pmv an cdv ct) ⟨[], ks.zip ws⟩ = pure (ps.zip (permL pm ws))) : KBinds K fd ps ks (gK pm) (gK pm) := by
  obtain ⟨oc, od, kV, doc, pmv, an, cdv, ct, osl, rfl, lk, hcd⟩ := F.ex
  exact kbinds_of hp (h kV doc pmv an cdv ct)
/-! statements, the readings hidden -/
def XS (X : Cx) (sts : List Stmt) (m : M Fl) : Prop := ∃ t, DSs X sts t m
def X1 (X : Cx) (st : Stmt) (m : M Fl) : Prop := ∃ t, DS X st t m
section
variable {X : Cx} {st : Stmt} {rest p q : List Stmt} {m n : M Fl} {pos : Pos}
theorem xs_nil : XS X [] sNx := ⟨_, dss_nil⟩
theorem xs_one (h : X1 X st m) : XS X [st] m := let ⟨_, h⟩ := h; ⟨_, dss_one h⟩
theorem xs_cons (h : X1 X st m) (hr : XS X rest n) : XS X (st :: rest) (sSeq m n) := let ⟨_, h⟩ := h; let ⟨_, hr⟩ := hr; ⟨_, dss_cons h hr⟩
theorem x_lf {t : TS} (h : DS X st t m) : X1 X st m := ⟨_, h⟩
theorem x_if {c : Expr} {tc : TT} {g : M Bool} (hc : DT X c tc g) (ha : XS X p m) (hb : XS X q n) : X1 X (.If c p q pos) (sIf g m n) := let ⟨_, ha⟩ := ha; let ⟨_, hb⟩ := hb; ⟨_, ds_if hc ha hb⟩
theorem x_for {tg iter : Expr} {wi : TI} {it : M (List D)} {js : List Nat} {g : TG} {fg : D → M Unit} (hi : DI X tg iter wi it) (hg : DG X tg js g fg) (hb : XS X p m) (hp : PassesOwn (model X.prog X.w) X.A X.env X.xe := by exact PassesOwn.never) (hc : X.calm = true := by rfl) (hs : ∀ x, foldedSetIterable iter X.env x = pure x := by intro _; rfl) :
    X1 X (.For tg iter p [] pos) (sFor it fg m) := let ⟨_, hb⟩ := hb; ⟨_, ds_for hp hc hi hg hb hs⟩
end
def spLaw (K : PySem.W.Frag) : Sp := fun vs H Q _ => ∃ (a : Addr) (ns : List Int), vs = [.ref a] ∧ SqL K H a (ns.map V.int) ∧ ns.length ≤ 63 ∧ ∀ H', Q (.bl true) H'
/-- the state behind the deck's making -/
def st0 (n : Nat) (k : Dk) : S := ⟨none :: some .deck :: List.replicate (n - 2) none, k⟩
theorem sok_law {K : PySem.W.Frag} {A : DA} {H : Hp} {k : Dk} {v : Option V} {n : Nat} (hx : A.x = none) (dk : DkOk A A.is H k) : SOk K A (fun _ => False) A.is (st0 n k) (v :: some (.ref A.o) :: List.replicate (n - 2) none) H := by
  have hs : ∀ (i : Nat) (w : Val), (st0 n k).g[i]? = some (some w) → i = 1 ∧ w = .deck := fun i w e => by
    match i with
    | 0 => cases e
    | 1 => cases e; exact ⟨rfl, rfl⟩
    | i + 2 =>
      have e : (List.replicate (n - 2) (none : Option Val))[i]? = some (some w) := e
      rw [List.getElem?_replicate] at e
      split at e <;> cases e
  refine ⟨fun a z => ?_, fun a z => z.elim, fun a z => z.elim, by simp [st0], fun i w e => ?_, fun i j w u a e1 e2 c1 _ _ _ => ?_, dk⟩
  · rcases z with rfl | rfl | rfl | ⟨y, z, _⟩
    · exact ⟨_, dk.ho, trivial⟩
    · exact ⟨_, dk.hg, trivial⟩
    · exact ⟨_, dk.hc, trivial⟩
    · rw [hx] at z; cases z
  · obtain ⟨rfl, rfl⟩ := hs i w e
    rfl
  · obtain ⟨rfl, rfl⟩ := hs i w e1
    cases c1
theorem law_of {P : Program} {w : World} {K : PySem.W.Frag} {mg : Str → Option Value} {base : Heap} {st s1 : Stmt} {rest : List Stmt} {f : Addr} {fd : FuncData} {N : List Str} {k : Nat} {m : M Fl} {x : Str} (F : Fun K "law" "law" st f fd) (Sc : FnScope (x :: N) [x] (defScope st)) (hN : 1 ≤ N.length)
    (hb : defBody st = s1 :: rest)
    (h1 : ∀ (cdv : Value) (A : Around) (outer : List Env) (s : Shared) (H : Hp) (E : XK), Room k (A.deeper (envOfC "law" (defScope st) s.heap.objs.size f cdv)) → PS (cxOf CX0 P w K mg base (x :: N) "law" (defScope st) f cdv A outer s H E).nox s1 (tAsg (tCall (spDeck K) [] E0 (tCons (tVar 0) tNil)) (gName 1)))
    (h2 : ∀ (cdv : Value) (A : Around) (outer : List Env) (s : Shared) (H : Hp) (E : XK), (A.deeper (envOfC "law" (defScope st) s.heap.objs.size f cdv)).guards = some [] → Room k (A.deeper (envOfC "law" (defScope st) s.heap.objs.size f cdv)) → ∃ t, DSs (cxOf CX0 P w K mg base (x :: N) "law" (defScope st) f cdv A outer s H E).nox rest t m)
    (hm : ∀ k0, DkV k0 → ∃ s', m (st0 (x :: N).length k0) = some (.rt (.bool true), s')) : FnG P w K mg base (k + 1) f fd [x] (spLaw K) := by
  refine fnG_of F Sc (fun vs H Q E h => by obtain ⟨a, ns, rfl, _⟩ := h; rfl) fun cdv A outer s H vs Q E hG hr h => ?_
  obtain ⟨a, ns, rfl, hS, hl, q⟩ := h
  obtain ⟨t, hD⟩ := h2 cdv A outer s H E hG hr
  refine ⟨_, hb ▸ pss_cons (h1 cdv A outer s H E hr) hD.p, ?_⟩
  · refine ⟨.ref a, rfl, a, ns, rfl, hS, Nat.le_trans hl (by decide), fun A1 k0 H1 hx g dk nn dv => ?_⟩
    obtain ⟨s', e⟩ := hm k0 dv
    have hst : (L2.start (x :: N) [V.ref a]).set 1 (some (.ref A1.o)) = some (.ref a) :: some (.ref A1.o) :: List.replicate (N.length + 1 - 2) none := by
      unfold L2.start
      match N, hN with
      | y :: N, _ => simp [List.replicate_succ]
    show t _ ((L2.start (x :: N) [V.ref a]).set 1 (some (.ref A1.o))) H1
    rw [hst]
    refine hD.v A1 _ _ _ _ H1 _ s' (sok_law (n := N.length + 1) hx dk) e _ ?_
    intro v σ' P' H' ok' st' r
    cases r
    exact q H'
end DL


namespace DL
open PySem PySem.Spec PyProof.Rows L2
/-! DL14: the rules with the frozen part by its own name (for the blocks of comprehensions). -/
theorem _root_.L2.Room.u100 {k : Nat} {A : Around} (r : Room k A) : A.units + 100 < cLine := by have := r.un; omega
section
variable {X : Cx} {K : PySem.W.Frag} {e a b c : Expr} {ta tb te : TE} {fa fb f : M D} {pos p2 p : Pos}
theorem k_add (hK : X.K = K := by rfl) : OpR X (binaryOp .Add) (rAddD K) := hK ▸ op_addD
theorem k_mul (hK : X.K = K := by rfl) : OpR X (binaryOp .Mult) (rMulD K) := hK ▸ op_mulD
theorem k_eq (hu : X.A.units + 64 < cLine) (hK : X.K = K := by rfl) : OpR X (compareOp .Eq) (rEqS K) := hK ▸ op_or op_eq (op_eqD hu)
theorem k_ne (hu : X.A.units + 64 < cLine) (hK : X.K = K := by rfl) : OpR X (compareOp .NotEq) (rNeS K) := hK ▸ op_or op_ne (op_neD hu)
theorem k_in (hK : X.K = K := by rfl) : OpR X (compareOp .In) (rIn K false) := hK ▸ op_in_seq
theorem k_notIn (hK : X.K = K := by rfl) : OpR X (compareOp .NotIn) (rIn K true) := hK ▸ op_notIn_seq
theorem k_len (hK : X.K = K := by rfl) : CallR X (.builtin "len") (rOrC (rLenQ K) rLenZ) := hK ▸ DL.call_lenD
theorem k_listOf (hK : X.K = K := by rfl) : CallR X (.type "list") (rListOf K) := hK ▸ call_list_of
theorem k_tupleOf (hK : X.K = K := by rfl) : CallR X (.type "tuple") (rTupleOf K) := hK ▸ call_tuple_of
theorem k_repr (hz : NoDig K) (hg : X.A.guards = some []) (hu : X.A.units + 100 < cLine) (hK : X.K = K := by rfl) : CallR X (.builtin "repr") (rRepr K) := by subst hK; exact call_reprD hz hg hu
theorem k_ix (ha : DE X a ta fa) (hb : DE X b tb fb) (hK : X.K = K := by rfl) (hs : PlainIx b := by exact fun _ _ => rfl) : DE X (.Subscript a b pos) (tOp (rIx K) ta tb) (eOp2 dIx fa fb) := hK ▸ de_ix ha hb hs
variable {lo hi : Option Expr} {tl th : TO} {gl gh : M (Option Int)}
theorem k_sl (ha : DE X e te f) (hl : DO X lo tl gl) (hh : DO X hi th gh) (hK : X.K = K := by rfl) : DE X (.Subscript e (.Slice lo hi none p2) pos) (tSl (rSlD K) te tl th) (eSl f gl gh) := hK ▸ de_sl ha hl hh
theorem k_isi (T : String) {x y : Str} {p3 : Pos} (hT : T ∈ ["int", "bool", "str", "list", "tuple", "dict"]) (hg : Gl X x) (hm : X.mg x = none) (hv : bootBuiltins x = some (.builtin "isinstance")) (h : DE X e te f) (hg2 : Gl X y) (hm2 : X.mg y = none) (hv2 : bootBuiltins y = some (.type T)) (hK : X.K = K := by rfl)
    (hn : x ≠ "__name__" := by decide) (hdb : (x == ("__debug__" : Str)) = false := by decide) (hn2 : y ≠ "__name__" := by decide) (hdb2 : (y == ("__debug__" : Str)) = false := by decide)
    (hs : starEach [.Name y p3] X.env = [(false, eval (.Name y p3) X.env)] := by rfl)
    (he : starEach [e, .Name y p3] X.env = (false, eval e X.env) :: starEach [.Name y p3] X.env := by rfl) (hpl : (backTo pos (starEach [.Name y p3] X.env)).any (·.1) = false := by rfl) :
    DE X (.Call (.Name x p) [e, .Name y p3] [] pos) (tCB (rIsiY K) (tCons te (tCons (tC (.ty T)) tNil))) (eIsi T f) := hK ▸ de_isi T hT hg hm hv h hg2 hm2 hv2 hn hdb hn2 hdb2 hs he hpl
variable {x : Str} {es : List Expr} {B : List Nat} {tr : TA} {fr : M (List AV)} {k : Nat} {ps : List Str} {kws : List (List Str × List Nat)} {sem : FS}
theorem k_call (F : FnD X.prog X.w X.K X.mg X.base k x ps kws sem) (hr : Room k X.A) (hg : Gl X x) (ha : DV X (e :: es) B tr fr) (hK : X.K = K := by rfl) (hdb : (x == ("__debug__" : Str)) = false := by decide) (he : starEach (e :: es) X.env = (false, eval e X.env) :: starEach es X.env := by rfl)
    (hpl : (backTo pos (starEach es X.env)).any (·.1) = false := by rfl) : DE X (.Call (.Name x p) (e :: es) [] pos) (tCall (spD K sem) [] E0 tr) (eCallB B sem fr) := hK ▸ de_call F hr hg ha hdb he hpl
theorem k_call0 (F : FnD X.prog X.w X.K X.mg X.base k x ps kws sem) (hr : Room k X.A) (hg : Gl X x) (hK : X.K = K := by rfl) (hdb : (x == ("__debug__" : Str)) = false := by decide) : DE X (.Call (.Name x p) [] [] pos) (tCall (spD K sem) [] E0 tNil) (eCallB [] sem vNil) := hK ▸ de_call0 F hr hg hdb
theorem k_callK {kw : List Keyword} (ks : List Str) (pm : List Nat) (F : FnD X.prog X.w X.K X.mg X.base k x ps kws sem) (hq : (ks, pm) ∈ kws) (hr : Room k X.A) (hg : Gl X x) (ha : DVK X kw B tr fr) (hK : X.K = K := by rfl)
    (hall : (backToKw pos (keywordEach kw X.env)).all (·.1.isSome) = true := by rfl) (hks : (backToKw pos (keywordEach kw X.env)).filterMap (·.1) = ks := by rfl)
    (hdb : (x == ("__debug__" : Str)) = false := by decide) (hpl : ((backTo pos (starEach [] X.env)).any (·.1) || (backToKw pos (keywordEach kw X.env)).any (·.1.isNone)) = false := by rfl) :
    DE X (.Call (.Name x p) [] kw pos) (tCallK (spD K sem) (gK pm) E0 tNil tr) (eCallB B sem (vPerm pm fr)) := hK ▸ de_callK ks pm F hq hr hg ha hall hks hdb hpl
theorem k_gtup {js : List Nat} {t : TGs} {g : List D → M Unit} {n kk : Nat} (h : DGs X es js t g) (hK : X.K = K := by rfl) (hc : X.calm = true := by rfl)
    (hn : (assignEach es X.env).length = n := by rfl) (hst : (assignEach es X.env).findIdx? (·.1) = none := by rfl) : DG X (.Tuple es kk pos) js (gTup K n t) (gTp n g) := hK ▸ dg_tup hc h hn hst
theorem k_rev {k1 : Nat} {p1 p3 : Pos} (h : DE X e te f) (hK : X.K = K := by rfl) : DE X (.Subscript e (.Slice none none (some (.UnaryOp .USub (.Constant (.int 1) k1 p1) p2)) p3) pos) (tRevD K te) (eOp1 dRev f) := hK ▸ de_rev h
theorem k_seq {tg : Expr} (h : DE X e te f) (hK : X.K = K := by rfl) : DI X tg e (iSeq K te) (asQ f) := hK ▸ di_seq h
end
end DL


namespace DL
open PySem PySem.Spec PyProof.Rows L2
/-! DL18: enumerate of a list or a tuple. -/
theorem meets_enum1 {v : Value} {o : Obj} {H : Heap → Prop} (B : Begins v o H) :
    Meets (Builtin.«enumerate.__new__» ⟨[.type "enumerate", v], []⟩) (fun _ R s => H s.heap ∧
      R (.ok (.ret (.ref (s.heap.push o).objs.size))) { s with heap := (s.heap.push o).push { cls := .type "enumerate", data := .fields #[.none, .bool false, .ref s.heap.objs.size, rawInt 0, .none, .none] } }) :=
  .of_wp fun prog w A R s h => by
    obtain ⟨hp, g, d, tk, os⟩ := s; obtain ⟨h1, h⟩ := h
    have hsub := sub_enumerate
    have q1 : ∀ {A' : Around} {E : Value → Shared → Prop} {Q : Value → Shared → Prop}, Q (.ref hp.objs.size) ⟨hp.push o, g, d, tk, os⟩ → wpAny (model prog w) A' (pyIter v) Q E ⟨hp, g, d, tk, os⟩ :=
      fun q => B.iter prog w _ _ ⟨hp, g, d, tk, os⟩ _ h1 q
    wp_walk using q1
    refine wpAny_stack_any fun st => wpAny_pure ?_
    split
    · rename_i c _ _ _ _ _
      cases (c == Value.type "enumerate")
      · wp_walk using q1
        exact ⟨_, rfl, h⟩
      · wp_walk using q1
        exact ⟨_, rfl, h⟩
    · wp_walk using q1
      exact ⟨_, rfl, h⟩
theorem enum1 {prog : Program} {w : World} {A : Around} {E : Value → Shared → Prop} {s : Shared} {v : Value} {o : Obj} {H : Heap → Prop} {Q : Value → Shared → Prop} (B : Begins v o H) (h1 : H s.heap)
    (h : ∀ h', IsEnum h' (s.heap.objs.size + 1) s.heap.objs.size 0 .none → h'.get? s.heap.objs.size = some o → h'.objs.size = s.heap.objs.size + 2 →
      (∀ b o, s.heap.get? b = some o → h'.get? b = some o) → Q (.ref (s.heap.objs.size + 1)) { s with heap := h' }) :
    wpAny (model prog w) A (call (.type "enumerate") [v]) Q E s := by
  refine callType_new F.called_enumerate (by decide) (F.typeCall_enumerate_1 _) (F.newCall_enumerate_1 _) (fun obj => F.args_object_init_2 obj _) F.entry_enumerate_new
    (meets_enum1 B) ⟨h1, ?_⟩
  have hz : (s.heap.push o).objs.size = s.heap.objs.size + 1 := Heap.size_push ..
  show _ ∧ _
  rw [hz]
  have he : IsEnum ((s.heap.push o).push { cls := .type "enumerate", data := .fields #[.none, .bool false, .ref s.heap.objs.size, rawInt 0, .none, .none] }) (s.heap.objs.size + 1) s.heap.objs.size 0 .none := by
    have := Heap.get?_push_size (s.heap.push o) (o := { cls := .type "enumerate", data := .fields #[.none, .bool false, .ref s.heap.objs.size, rawInt 0, .none, .none] }) rfl
    rw [hz] at this; exact this
  refine ⟨⟨_, he, rfl⟩, h _ he (Heap.get?_push_of_some _ (Heap.get?_push_size _ B.free)) (by rw [Heap.size_push, hz]) fun b o x => Heap.get?_push_of_some _ (Heap.get?_push_of_some _ x)⟩
/-- the tuple at a, each item in a new pair -/
def IteT (K : PySem.W.Frag) (a : Addr) : It :=
  ⟨fun i H => ∃ (xs : List V) (x : V), SqT K H a xs ∧ xs[i]? = some x, fun i H v H' => ∃ T x, v = .ref T ∧ H T = none ∧ H' = upd H T (.tup [.int (i : Nat), x]) ∧ ∀ xs, SqT K H a xs → xs[i]? = some x, fun i H => ∃ xs : List V, SqT K H a xs ∧ xs.length ≤ i⟩
theorem turn_enumT {P : Program} {w : World} {K : PySem.W.Frag} {elts : List Expr} {kk : Nat} {tpos : Pos} (a e it : Addr) :
    Turn P w K (.Tuple elts kk tpos) (IteT K a) [e, it] e (fun i h => (∃ old, IsEnum h e it ((i : Nat) : Int) old) ∧ h.IsTupleIter it a i ∧ e ≠ it ∧ a ≠ it ∧ e ≠ a) where
  mem := by simp
  obj := fun i h st b hb => by
    obtain ⟨⟨old, he⟩, ⟨o, ho, hc, hd⟩, _⟩ := st
    have e' : b = e ∨ b = it := by simpa using hb
    rcases e' with z | z
    · rw [z]; exact ⟨_, he, fun v q => nomatch q⟩
    · rw [z]; exact ⟨o, ho, fun v q => by rw [hd] at q; cases q⟩
  keep := fun i h h' st k => let ⟨⟨old, he⟩, hi, hne⟩ := st; ⟨⟨old, k e (by simp) _ he⟩, hi.at fun o q => k it (by simp) o q, hne⟩
  item := by
    intro X hP hw hK hc i pins s σ H E I hf st hg
    subst hP hw hK
    obtain ⟨⟨old, he⟩, hit, hne, hai, hea⟩ := st
    obtain ⟨xs, x, hq, hx⟩ := hg
    obtain ⟨its, rv, p, hz⟩ := I.tuple hq
    have p : s.heap.IsTuple a its.toArray := p
    obtain ⟨u, hu, ru⟩ := rv.get hx
    have hel : e < s.heap.objs.size := Heap.lt_size he
    have hil : it < s.heap.objs.size := by obtain ⟨_, q, _⟩ := hit; exact Heap.lt_size q
    have hlt : i < its.toArray.size := by
      have : i < its.length := by
        rcases Nat.lt_or_ge i its.length with h | h
        · exact h
        · rw [List.getElem?_eq_none h] at hu; cases hu
      simpa using this
    refine wpAny_pyNext_enum_itemD (Draws.tuple (A := X.A.in1) (I.ok.hd hc) it a hai its.toArray) he ⟨hit, p⟩ hlt hne (by simp; exact ⟨hne, hea⟩) fun x' h' tk hx' ho hit' hT hsz hk => ?_
    have ex' : x' = u := by
      have h2 : its[i]? = some x' := by simpa using hx'
      rw [hu] at h2; exact (Option.some.inj h2).symm
    subst ex'
    refine ⟨_, rfl, wpAny_letOwnedTupleGo_enum (s := { s with heap := h', toks := tk + 1 }) ho fun h'' he' sb => ?_⟩
    have hT2 : h''.get? s.heap.objs.size = some { cls := .type "tuple", data := .seq #[.int i tk, x'] } := (sb.2 _ (Nat.ne_of_gt hel)).trans hT
    have new : ObjOk X.prog X.w (upd H s.heap.objs.size (.tup [.int (i : Nat), x])) h'' s.heap.objs.size (.tup [.int (i : Nat), x]) :=
      ⟨by show 2 ≤ sizeLine; decide, [.int i tk, x'], .cons ⟨_, rfl⟩ (.cons ru .nil), ⟨_, hT2, rfl, _, rfl⟩⟩
    have I1 : Inv X pins σ (upd H s.heap.objs.size (.tup [.int (i : Nat), x])) { s with heap := h'', toks := tk + 1 } :=
      I.turnedNew (ch := [e, it]) (fun b ob hb q => (sb.2 b (fun z => hb (by simp [z]))).trans (hk b ob (fun z => hb (by simp [z])) (fun z => hb (by simp [z])) q)) hf (Nat.le_refl _) new
    refine ⟨.ref s.heap.objs.size, _, I1, rfl, ⟨_, x, rfl, I.hok.fresh (Nat.le_refl _), rfl, fun ys hy => by rw [I.tuple_inj hy hq]; exact hx⟩, ⟨⟨x', ?_⟩, hit'.1.at fun o q => (sb.2 it (Ne.symm hne)).trans q, hne, hai, hea⟩, fun b hb => ?_⟩
    · have e1 : ((i + 1 : Nat) : Int) = (i : Int) + 1 := by omega
      rw [e1]; exact he'
    · have hb' : b < s.heap.objs.size := by
        have e' : b = e ∨ b = it := by simpa using hb
        rcases e' with z | z
        · rw [z]; exact hel
        · rw [z]; exact hil
      rw [upd_ne (Nat.ne_of_lt hb')]
      exact (hf b hb).1
  done := by
    intro X hP hw hK hc i pins s σ H E I hf st hg
    subst hP hw hK
    obtain ⟨⟨old, he⟩, hit, hne, hai, hea⟩ := st
    obtain ⟨xs, hq, hx⟩ := hg
    obtain ⟨its, rv, p, hz⟩ := I.tuple hq
    have p : s.heap.IsTuple a its.toArray := p
    obtain ⟨f0, f1, f2, f3, f4, f5⟩ := hf it (by simp)
    have hl := rv.length
    have hT : s.TypeIs (.ref e) "enumerate" := ⟨_, he, rfl⟩
    unfold pyNext
    refine wpAny_bind (wpAny_attempt (wpAny_callSpecial?_slot (name := Str.ofString "__next__") hT F.slot_enumerate_next
      (wpAny_call_entry F.slot_enumerate_next hT F.entry_enumerate_next ?_ (F.args_enumerate_next_1 _))))
    show wpAny _ _ (field (.ref e) 2 >>= _) _ _ _
    refine wpAny_bind (wpAny_field he rfl (x := .ref it) rfl ?_)
    refine wpAny_bind (RZ.nextOf_tuple_end (A := X.A.in1) (I.ok.hd hc) hit p (by simp; omega) fun h' x he' hx' => ?_)
    obtain ⟨o, ho, hc'⟩ := hx'
    refine wpAny_bind (wpAny_isInstance (T := "StopIteration") (b := true) ⟨o, ho, hc'⟩ isSubtype_stop ?_)
    exact wpAny_pure ⟨rfl, I.turned (t' := s.toks) (fun b o hb q => he' b o hb q) f0 f1 f3 f4 f5⟩
  self := fun A i s Q E st h => let ⟨⟨_, he⟩, _⟩ := st; wpAny_pyIter_enum he h
def iEnumQ (K : PySem.W.Frag) (ta : TA) : TI := fun σ H R => ta σ H fun vs H1 => ∃ a, vs = [.ref a] ∧ (((∃ xs, SqL K H1 a xs) ∧ R (Ite K a) H1) ∨ ((∃ xs, SqT K H1 a xs) ∧ R (IteT K a) H1))
theorem pi_enumQ {X : Cx} {e : Expr} {ta : TA} {p pos tpos : Pos} {elts : List Expr} {kk : Nat} (hg : Gl X "enumerate") (hm : X.mg "enumerate" = none) (ha : PA X [e] ta) (hs : starEach [e] X.env = [(false, eval e X.env)] := by rfl) :
    PI X (.Tuple elts kk tpos) (.Call (.Name "enumerate" p) [e] [] pos) (iEnumQ X.K ta) := by
  refine ⟨fun pins s σ H R I h => ?_⟩
  refine Call_ (ld_blt I hg hm boot_enumerate (PyProof.Rows.callWith_type1 (thn (ha.run pos pins s σ H _ I h) fun us s1 ⟨vs, H1, I1, r1, q1⟩ => ?_) hs rfl))
  obtain ⟨a, ex, q⟩ := q1
  subst ex
  cases r1 with
  | cons r rr =>
    cases rr
    cases r
    have fp : ∀ b ∈ [s1.heap.objs.size + 1, s1.heap.objs.size], FpOk X pins H1 b := fun b hb => by
      have e' : b = s1.heap.objs.size + 1 ∨ b = s1.heap.objs.size := by simpa using hb
      have hle : s1.heap.objs.size ≤ b := by
        rcases e' with z | z
        · rw [z]; exact Nat.le_add_right _ _
        · rw [z]; exact Nat.le_refl _
      exact I1.fpOk hle (I1.hok.fresh hle)
    rcases q with ⟨⟨xs, hq⟩, q⟩ | ⟨⟨xs, hq⟩, q⟩
    · obtain ⟨its, rv, p', hz⟩ := I1.list hq
      refine call_enumerate_list p'.isList fun h' he hit hsz hk => wpAny_pyIter_enum he ?_
      have I2 : Inv X pins σ H1 { s1 with heap := h' } := I1.kept (t' := s1.toks) hk
      exact ⟨s1.heap.objs.size + 1, [s1.heap.objs.size + 1, s1.heap.objs.size], _, _, H1, rfl, I2, turn_enum a (s1.heap.objs.size + 1) s1.heap.objs.size, ⟨⟨.none, he⟩, hit, Nat.succ_ne_self _⟩, fp, q⟩
    · obtain ⟨its, rv, p', hz⟩ := I1.tuple hq
      have p' : s1.heap.IsTuple a its.toArray := p'
      have hal : a < s1.heap.objs.size := by obtain ⟨_, q, _⟩ := p'; exact Heap.lt_size q
      refine enum1 (begins_tuple a its.toArray) p' fun h' he hit hsz hk => wpAny_pyIter_enum he ?_
      have I2 : Inv X pins σ H1 { s1 with heap := h' } := I1.kept (t' := s1.toks) hk
      exact ⟨s1.heap.objs.size + 1, [s1.heap.objs.size + 1, s1.heap.objs.size], _, _, H1, rfl, I2, turn_enumT a (s1.heap.objs.size + 1) s1.heap.objs.size, ⟨⟨.none, he⟩, ⟨_, hit, rfl, rfl⟩, Nat.succ_ne_self _, Nat.ne_of_lt hal, Nat.ne_of_gt (Nat.lt_succ_of_lt hal)⟩, fp, q⟩
/-! what is walked -/
def enmD (ds : List D) : List D := (List.range ds.length).map fun i => .tuple [.int (i : Nat), ds.getD i .none]
theorem enmD_len (ds : List D) : (enmD ds).length = ds.length := by simp [enmD]
theorem enmD_get {ds : List D} {i : Nat} {d : D} (h : ds[i]? = some d) : (enmD ds)[i]? = some (.tuple [.int (i : Nat), d]) := by
  have hi : i < ds.length := by
    rcases Nat.lt_or_ge i ds.length with h' | h'
    · exact h'
    · rw [List.getElem?_eq_none h'] at h; cases h
  rw [List.getElem?_eq_getElem hi] at h
  simp [enmD, hi, Option.some.inj h]
theorem rp_pair {K : PySem.W.Frag} {P : Addr → Prop} {H : Hp} {T : Addr} {i : Nat} {x : V} {d : D} (t : Trk P H) (hT : H T = none) (r : Rp K (mask P H) x d) : Rp K (mask P (upd H T (.tup [.int (i : Nat), x]))) (.ref T) (.tuple [.int (i : Nat), d]) :=
  rp_newT t hT (.cons (.int _) (.cons r .nil))
theorem walkEL {K : PySem.W.Frag} {a : Addr} {vs : List V} {ds : List D} (n : vs.length = ds.length) : WalkD K (Ite K a) (fun P H => mask P H a = some (.lst vs) ∧ RpA K (mask P H) vs ds) (enmD ds) := by
  refine ⟨fun P i H hi g => ⟨vs, vs[i]'(by rw [enmD_len] at hi; omega), SqL.of (mask_le _ _ g.1), by simp⟩, fun P H g => ⟨vs, SqL.of (mask_le _ _ g.1), by rw [enmD_len]; omega⟩, fun P i H x H' hi t g y => ?_, fun P P' H H' q g => ⟨q _ _ g.1, g.2.mono q⟩⟩
  obtain ⟨T, x, rfl, hT, rfl, y⟩ := y
  have h := y vs (SqL.of (mask_le _ _ g.1))
  obtain ⟨d, h1, h2⟩ := g.2.getv h
  exact ⟨Grw.new hT, _, enmD_get h1, rp_pair t hT h2⟩
theorem walkET {K : PySem.W.Frag} {a : Addr} {vs : List V} {ds : List D} (n : vs.length = ds.length) : WalkD K (IteT K a) (fun P H => SqT K (mask P H) a vs ∧ RpA K (mask P H) vs ds) (enmD ds) := by
  refine ⟨fun P i H hi g => ⟨vs, vs[i]'(by rw [enmD_len] at hi; omega), sqT_le g.1, by simp⟩, fun P H g => ⟨vs, sqT_le g.1, by rw [enmD_len]; omega⟩, fun P i H x H' hi t g y => ?_, fun P P' H H' q g => ⟨SqT.grw q g.1, g.2.mono q⟩⟩
  obtain ⟨T, x, rfl, hT, rfl, y⟩ := y
  have h := y vs (sqT_le g.1)
  obtain ⟨d, h1, h2⟩ := g.2.getv h
  exact ⟨Grw.new hT, _, enmD_get h1, rp_pair t hT h2⟩
def asE (f : M (List D)) : M (List D) := bd f fun x => match x with
  | [.list ds] => rtn (enmD ds)
  | [.tuple ds] => rtn (enmD ds)
  | _ => fun _ => none
theorem ei_enum {K : PySem.W.Frag} {ta : TA} {f : M (List D)} (h : EvA K ta f) : EvI K (iEnumQ K ta) (asE f) := by
  intro A hid P s σ H ds s' ok e R q
  obtain ⟨x, s1, h1, e⟩ := bd_some e
  refine h A hid P s σ H x s1 ok h1 _ fun v P1 H1 ok1 st1 r => ?_
  split at e
  · obtain ⟨rfl, rfl⟩ := rtn_some e
    obtain ⟨v, rfl, r0⟩ := r.one
    obtain ⟨a, vs, rfl, hx, rr⟩ := r0.lst_inv
    exact ⟨a, rfl, .inl ⟨⟨vs, SqL.of (mask_le _ _ hx)⟩, q _ _ P1 H1 ok1 st1 (walkEL rr.length) ⟨hx, rr⟩⟩⟩
  · obtain ⟨rfl, rfl⟩ := rtn_some e
    obtain ⟨v, rfl, r0⟩ := r.one
    obtain ⟨a, vs, rfl, hx, rr⟩ := r0.tup_inv
    exact ⟨a, rfl, .inr ⟨⟨vs, sqT_le hx⟩, q _ _ P1 H1 ok1 st1 (walkET rr.length) ⟨hx, rr⟩⟩⟩
  · cases e
theorem k_enum {K : PySem.W.Frag} {X : Cx} {e : Expr} {ta : TA} {f : M (List D)} {p pos tpos : Pos} {elts : List Expr} {kk : Nat} (hg : Gl X "enumerate") (hm : X.mg "enumerate" = none) (ha : DAr X [e] ta f) (hs : starEach [e] X.env = [(false, eval e X.env)] := by rfl) (hK : X.K = K := by rfl) :
    DI X (.Tuple elts kk tpos) (.Call (.Name "enumerate" p) [e] [] pos) (iEnumQ K ta) (asE f) := hK ▸ ⟨pi_enumQ hg hm ha.p hs, ei_enum ha.v⟩
end DL


namespace DL
open PySem PySem.Spec PyProof.Rows L2
/-! DL19: dicts with keys ints and texts, as data: displays, [], in; all of a list of bools. -/
def kD : D → Option Key
  | .int i => some (.inl i)
  | .str x => some (.inr x)
  | _ => none
theorem kD_keyD (k : Key) : kD (keyD k) = some k := by cases k <;> rfl
theorem kD_some {d : D} {k : Key} (h : kD d = some k) : d = keyD k := by
  cases d <;> simp [kD] at h <;> subst h <;> rfl
theorem Rp.key {K : PySem.W.Frag} {H : Hp} {v : V} {k : Key} (h : Rp K H v (keyD k)) : v = kV k := by
  cases k <;> cases h <;> rfl
def sameK (a b : D) : Bool := (kD a).isSome && decide (kD a = kD b)
theorem sameK_key (a b : Key) : sameK (keyD a) (keyD b) = decide (a = b) := by
  unfold sameK
  rw [kD_keyD, kD_keyD]
  by_cases h : a = b <;> simp [h]
def lookD (ds : List (D × D)) (y : D) : Option D := (ds.find? fun p => sameK p.1 y).map (·.2)
theorem RpK.look {K : PySem.W.Frag} {H : Hp} {k : Key} : ∀ {kvs : List (Key × V)} {ds : List (D × D)}, RpK K H kvs ds → (∃ v d, valV kvs k = some v ∧ lookD ds (keyD k) = some d ∧ Rp K H v d) ∨ (valV kvs k = none ∧ lookD ds (keyD k) = none)
  | _, _, .nil => .inr ⟨rfl, rfl⟩
  | (k', v) :: r, (_, d) :: ds, .cons h t => by
    by_cases e : k' = k
    · subst e
      refine .inl ⟨v, d, by rw [valV_pos rfl], ?_, h⟩
      unfold lookD
      rw [List.find?_cons_of_pos (by show sameK (keyD k') (keyD k') = true; rw [sameK_key]; simp)]
      rfl
    · have e2 : lookD ((keyD k', d) :: ds) (keyD k) = lookD ds (keyD k) := by
        unfold lookD
        rw [List.find?_cons_of_neg (by show ¬ sameK (keyD k') (keyD k) = true; rw [sameK_key]; simp [e])]
      rw [valV_neg (show ¬ (k', v).1 = k from e), e2]
      exact RpK.look t
def putD (ds : List (D × D)) (k v : D) : List (D × D) := if (ds.any fun p => sameK p.1 k) = true then ds.map (fun p => if sameK p.1 k = true then (p.1, v) else p) else ds ++ [(k, v)]
theorem RpK.anyk {K : PySem.W.Frag} {H : Hp} {k : Key} : ∀ {kvs : List (Key × V)} {ds : List (D × D)}, RpK K H kvs ds → (kvs.any fun kv => decide (kv.1 = k)) = ds.any fun p => sameK p.1 (keyD k)
  | _, _, .nil => rfl
  | _, _, .cons h t => by rw [List.any_cons, List.any_cons, sameK_key, RpK.anyk t]
theorem RpK.app {K : PySem.W.Frag} {H : Hp} {k : Key} {v : V} {d : D} (hv : Rp K H v d) : ∀ {kvs : List (Key × V)} {ds : List (D × D)}, RpK K H kvs ds → RpK K H (kvs ++ [(k, v)]) (ds ++ [(keyD k, d)])
  | _, _, .nil => .cons hv .nil
  | _, _, .cons h t => .cons h (RpK.app hv t)
theorem RpK.upd {K : PySem.W.Frag} {H : Hp} {k : Key} {v : V} {d : D} (hv : Rp K H v d) : ∀ {kvs : List (Key × V)} {ds : List (D × D)}, RpK K H kvs ds →
    RpK K H (kvs.map fun kv => if kv.1 = k then (kv.1, v) else kv) (ds.map fun p => if sameK p.1 (keyD k) = true then (p.1, d) else p)
  | _, _, .nil => .nil
  | (k', u) :: r, (_, e) :: ds, .cons h t => by
    rw [List.map_cons, List.map_cons]
    have e1 : (if sameK (keyD k', e).1 (keyD k) = true then ((keyD k', e).1, d) else (keyD k', e)) = (keyD k', if k' = k then d else e) := by
      show (if sameK (keyD k') (keyD k) = true then _ else _) = _
      rw [sameK_key]
      by_cases q : k' = k <;> simp [q]
    have e2 : (if (k', u).1 = k then ((k', u).1, v) else (k', u)) = (k', if k' = k then v else u) := by
      by_cases q : k' = k <;> simp [q]
    rw [e1, e2]
    refine .cons ?_ (RpK.upd hv t)
    by_cases q : k' = k
    · rw [if_pos q, if_pos q]; exact hv
    · rw [if_neg q, if_neg q]; exact h
theorem RpK.put {K : PySem.W.Frag} {H : Hp} {k : Key} {v : V} {d : D} {kvs : List (Key × V)} {ds : List (D × D)} (r : RpK K H kvs ds) (hv : Rp K H v d) : RpK K H (putK kvs k v) (putD ds (keyD k) d) := by
  unfold putK putD
  rw [r.anyk (k := k)]
  split
  · exact r.upd hv
  · exact r.app hv
theorem RpK.length {K : PySem.W.Frag} {H : Hp} : ∀ {kvs : List (Key × V)} {ds : List (D × D)}, RpK K H kvs ds → kvs.length = ds.length
  | _, _, .nil => rfl
  | _, _, .cons _ t => by rw [List.length_cons, List.length_cons, RpK.length t]
def mergeD : List (D × D) → List (D × D) → List (D × D)
  | ds, [] => ds
  | ds, p :: r => mergeD (putD ds p.1 p.2) r
theorem RpK.merge {K : PySem.W.Frag} {H : Hp} : ∀ {more : List (Key × V)} {es : List (D × D)} {kvs : List (Key × V)} {ds : List (D × D)}, RpK K H more es → RpK K H kvs ds → RpK K H (mergeK kvs more) (mergeD ds es)
  | _, _, _, _, .nil, r => r
  | (k, v) :: more, (_, d) :: es, kvs, ds, .cons h t, r => by
    show RpK K H (mergeK (putK kvs k v) more) (mergeD (putD ds (keyD k) d) es)
    exact RpK.merge t (r.put h)
theorem Rp.dict_inv {K : PySem.W.Frag} {H : Hp} {v : V} {ds : List (D × D)} (h : Rp K H v (.dict ds)) : ∃ a, v = .ref a ∧ ((∃ kvs, Rd H a (.dK kvs) ∧ RpK K H kvs ds) ∨ ∃ kvs, Rd H a (.dT kvs) ∧ RpT K H kvs ds) := by
  cases h with
  | dK h r => exact ⟨_, rfl, .inl ⟨_, h, r⟩⟩
  | dT h r => exact ⟨_, rfl, .inr ⟨_, h, r⟩⟩
/-- flat keys, at least one -/
def flatKs : List (D × D) → Bool
  | [] => false
  | p :: _ => (kD p.1).isSome
theorem Rp.dictK {K : PySem.W.Frag} {H : Hp} {v : V} {ds : List (D × D)} (h : Rp K H v (.dict ds)) (f : flatKs ds = true) : ∃ a kvs, v = .ref a ∧ Rd H a (.dK kvs) ∧ RpK K H kvs ds := by
  obtain ⟨a, rfl, ⟨kvs, h1, r⟩ | ⟨kvs, h1, r⟩⟩ := h.dict_inv
  · exact ⟨a, kvs, rfl, h1, r⟩
  · cases r with
    | nil => cases f
    | cons h t => cases f
/-! ### d[k], k in d -/
def dDGet (x y : D) : Option D := match x with
  | .dict ds => if flatKs ds && (kD y).isSome then lookD ds y else none
  | _ => none
def dDIn (y x : D) : Option D := match x with
  | .dict ds => if flatKs ds && (kD y).isSome then some (.bool (lookD ds y).isSome) else none
  | _ => none
def dDNotIn (y x : D) : Option D := match x with
  | .dict ds => if flatKs ds && (kD y).isSome then some (.bool (!(lookD ds y).isSome)) else none
  | _ => none
section
variable {X : Cx} {K : PySem.W.Frag} {a b : Expr} {ta tb : TE} {fa fb : M D} {pos : Pos}
theorem ev_dget (h : EvE K ta fa) (h' : EvE K tb fb) : EvE K (tDGet ta tb) (eOp2 dDGet fa fb) := by
  intro A hid P s σ H d s' ok e Q q
  obtain ⟨x, s1, e1, e⟩ := bd_some e
  obtain ⟨y, s2, e2, e⟩ := bd_some e
  refine h A hid P s σ H x s1 ok e1 _ fun v P1 H1 ok1 st1 r1 => ?_
  refine h' A hid P1 s1 σ H1 y s2 ok1 e2 _ fun u P2 H2 ok2 st2 r2 => ?_
  obtain ⟨e, rfl⟩ := lf_some e
  unfold dDGet at e
  split at e
  · split at e
    · rename_i ds hh
      rw [Bool.and_eq_true] at hh
      obtain ⟨a, kvs, rfl, h1, r⟩ := (st2.rp r1).dictK hh.1
      obtain ⟨k, hk⟩ := Option.isSome_iff_exists.mp hh.2
      have ek := kD_some hk
      subst ek
      have := r2.key
      subst this
      rcases r.look (k := k) with ⟨v', d', q1, q2, q3⟩ | ⟨q1, q2⟩
      · rw [q2] at e
        cases e
        exact ⟨a, v', rfl, .inl ⟨kvs, k, rd_grw mask_le h1, rfl, q1.symm⟩, q _ _ _ ok2 (st1.trans st2) q3⟩
      · rw [q2] at e; cases e
    · cases e
  · cases e
theorem ev_din (h : EvE K tb fb) (h' : EvE K ta fa) : EvE K (tDIn tb ta) (eOp2 dDIn fb fa) := by
  intro A hid P s σ H d s' ok e Q q
  obtain ⟨y, s1, e1, e⟩ := bd_some e
  obtain ⟨x, s2, e2, e⟩ := bd_some e
  refine h A hid P s σ H y s1 ok e1 _ fun u P1 H1 ok1 st1 r1 => ?_
  refine h' A hid P1 s1 σ H1 x s2 ok1 e2 _ fun v P2 H2 ok2 st2 r2 => ?_
  obtain ⟨e, rfl⟩ := lf_some e
  unfold dDIn at e
  split at e
  · split at e
    · rename_i ds hh
      rw [Bool.and_eq_true] at hh
      cases e
      obtain ⟨a, kvs, rfl, h1, r⟩ := r2.dictK hh.1
      obtain ⟨k, hk⟩ := Option.isSome_iff_exists.mp hh.2
      have ek := kD_some hk
      subst ek
      have := (st2.rp r1).key
      subst this
      refine ⟨a, valV kvs k, rfl, .inl ⟨kvs, k, rd_grw mask_le h1, rfl, rfl⟩, ?_⟩
      rcases r.look (k := k) with ⟨v', d', q1, q2, q3⟩ | ⟨q1, q2⟩
      · rw [q2] at q; rw [q1]; exact q _ _ _ ok2 (st1.trans st2) (.bl _)
      · rw [q2] at q; rw [q1]; exact q _ _ _ ok2 (st1.trans st2) (.bl _)
    · cases e
  · cases e
theorem ev_dnotIn (h : EvE K tb fb) (h' : EvE K ta fa) : EvE K (tDNotIn tb ta) (eOp2 dDNotIn fb fa) := by
  intro A hid P s σ H d s' ok e Q q
  obtain ⟨y, s1, e1, e⟩ := bd_some e
  obtain ⟨x, s2, e2, e⟩ := bd_some e
  refine h A hid P s σ H y s1 ok e1 _ fun u P1 H1 ok1 st1 r1 => ?_
  refine h' A hid P1 s1 σ H1 x s2 ok1 e2 _ fun v P2 H2 ok2 st2 r2 => ?_
  obtain ⟨e, rfl⟩ := lf_some e
  unfold dDNotIn at e
  split at e
  · split at e
    · rename_i ds hh
      rw [Bool.and_eq_true] at hh
      cases e
      obtain ⟨a, kvs, rfl, h1, r⟩ := r2.dictK hh.1
      obtain ⟨k, hk⟩ := Option.isSome_iff_exists.mp hh.2
      have ek := kD_some hk
      subst ek
      have := (st2.rp r1).key
      subst this
      refine ⟨a, valV kvs k, rfl, .inl ⟨kvs, k, rd_grw mask_le h1, rfl, rfl⟩, ?_⟩
      rcases r.look (k := k) with ⟨v', d', q1, q2, q3⟩ | ⟨q1, q2⟩
      · rw [q2] at q; rw [q1]; exact q _ _ _ ok2 (st1.trans st2) (.bl _)
      · rw [q2] at q; rw [q1]; exact q _ _ _ ok2 (st1.trans st2) (.bl _)
    · cases e
  · cases e
theorem de_dget (hu : X.A.units + 1 < cLine) (ha : DE X a ta fa) (hb : DE X b tb fb) (hs : NoSl b := by exact fun _ _ => rfl) : DE X (.Subscript a b pos) (tDGet ta tb) (eOp2 dDGet fa fb) := ⟨pe_dget hu ha.p hb.p hs, ev_dget ha.v hb.v⟩
theorem ev_dis {pr : Prop} : pr → pr := id
end
end DL


namespace DL
open PySem PySem.Spec PyProof.Rows L2
/-! DL20: k in d; displays; all. -/
section
variable {X : Cx} {K : PySem.W.Frag} {a b : Expr} {ta tb : TE} {fa fb : M D} {pos : Pos}
theorem de_din (hu : X.A.units + 1 < cLine) (ha : DE X a ta fa) (hb : DE X b tb fb) (hm : behindInMarks .In b = false) : DE X (.Compare a [.In] [b] pos) (tDIn ta tb) (eOp2 dDIn fa fb) := ⟨pe_cmp (pc_din hu ha.p hb.p) hm, ev_din ha.v hb.v⟩
theorem de_dnotIn (hu : X.A.units + 1 < cLine) (ha : DE X a ta fa) (hb : DE X b tb fb) (hm : behindInMarks .NotIn b = false) : DE X (.Compare a [.NotIn] [b] pos) (tDNotIn ta tb) (eOp2 dDNotIn fa fb) := ⟨pe_cmp (pc_dnotin hu ha.p hb.p) hm, ev_dnotIn ha.v hb.v⟩
theorem dt_din (hu : X.A.units + 1 < cLine) (ha : DE X a ta fa) (hb : DE X b tb fb) (hm : behindInMarks .In b = false) : DT X (.Compare a [.In] [b] pos) (tB (tDIn ta tb)) (tV (eOp2 dDIn fa fb)) := ⟨pt_cmp (pc_din hu ha.p hb.p) hm, ev_tV (ev_din ha.v hb.v)⟩
theorem dt_dnotIn (hu : X.A.units + 1 < cLine) (ha : DE X a ta fa) (hb : DE X b tb fb) (hm : behindInMarks .NotIn b = false) : DT X (.Compare a [.NotIn] [b] pos) (tB (tDNotIn ta tb)) (tV (eOp2 dDNotIn fa fb)) := ⟨pt_cmp (pc_dnotin hu ha.p hb.p) hm, ev_tV (ev_dnotIn ha.v hb.v)⟩
/-! ### all([..]) -/
def bsD : List D → Option (List Bool)
  | [] => some []
  | .bool b :: r => (bsD r).map (b :: ·)
  | _ :: _ => none
def dAll : List D → Option D
  | [.list ds] => (bsD ds).map fun bs => .bool (bs.all id)
  | _ => none
theorem RpA.bools {K : PySem.W.Frag} {H : Hp} : ∀ {vs : List V} {ds : List D} {bs : List Bool}, RpA K H vs ds → bsD ds = some bs → vs = bs.map V.bl
  | _, _, bs, .nil, e => by cases e; rfl
  | _, _, bs, .cons (d := d) h t, e => by
    cases d <;> simp [bsD] at e
    obtain ⟨bs', e1, rfl⟩ := e
    cases h
    rw [List.map_cons, RpA.bools t e1]
theorem do_all : DOC K (rAll K) dAll := by
  intro P H xs ds d t r e Q q
  unfold dAll at e
  split at e
  · rename_i ds
    cases hb : bsD ds with
    | none => rw [hb] at e; cases e
    | some bs =>
      rw [hb] at e; cases e
      obtain ⟨v, rfl, h⟩ := r.one
      obtain ⟨a, vs, rfl, h1, r1⟩ := h.lst_inv
      have := r1.bools hb
      subst this
      exact ⟨a, bs, rfl, SqL.of (mask_le _ _ h1), q _ H (Grw.refl H) (.bl _)⟩
  · cases e
theorem k_all (hc : X.calm = true := by rfl) (hK : X.K = K := by rfl) : CallR X (.builtin "all") (rAll K) := hK ▸ cr_all hc
end
/-! ### {k: v, ..} -/
abbrev RpP (K : PySem.W.Frag) (H : Hp) (vs : List (V × V)) (ds : List (D × D)) : Prop := Paired (fun v d => Rp K H v.1 d.1 ∧ Rp K H v.2 d.2) vs ds
theorem RpP.mono {K : PySem.W.Frag} {H H' : Hp} (g : Grw H H') {vs : List (V × V)} {ds : List (D × D)} (h : RpP K H vs ds) : RpP K H' vs ds := by
  induction h with
  | nil => exact .nil
  | cons h _ ih => exact .cons ⟨h.1.mono g, h.2.mono g⟩ ih
def EvPr (K : PySem.W.Frag) (trs : List (TE × TE)) (f : M (List (D × D))) : Prop := ∀ (A : DA) (hid P : Addr → Prop) (s : S) (σ : St) (H : Hp) (ds : List (D × D)) (s' : S), SOk K A hid P s σ H → f s = some (ds, s') →
  ∀ Q : List (V × V) → Hp → Prop, (∀ vs P' H', SOk K A hid P' s' σ H' → Stp hid P P' H H' → RpP K (mask P' H') vs ds → Q vs H') → tPairs trs σ H Q
structure DPr (X : Cx) (pos : Pos) (keys : List (Option Expr)) (values : List Expr) (trs : List (TE × TE)) (f : M (List (D × D))) : Prop where
  p : PPs X pos keys values trs
  v : EvPr X.K trs f
def prNil : M (List (D × D)) := rtn []
def prCons (fk fv : M D) (fr : M (List (D × D))) : M (List (D × D)) := bd fk fun k => bd fv fun v => bd fr fun r => rtn ((k, v) :: r)
section
variable {X : Cx} {K : PySem.W.Frag} {pos : Pos}
theorem dpr_nil : DPr X pos [] [] [] prNil := ⟨pps_nil, by
  intro A hid P s σ H ds s' ok e Q q
  obtain ⟨rfl, rfl⟩ := rtn_some e
  exact q [] P H ok Stp.refl .nil⟩
theorem dpr_cons {k v : Expr} {ks : List (Option Expr)} {vs : List Expr} {tk tv : TE} {trs : List (TE × TE)} {fk fv : M D} {fr : M (List (D × D))} (hk : DE X k tk fk) (hv : DE X v tv fv) (hr : DPr X pos ks vs trs fr) :
    DPr X pos (some k :: ks) (v :: vs) ((tk, tv) :: trs) (prCons fk fv fr) := ⟨pps_cons hk.p hv.p hr.p, by
  intro A hid P s σ H ds s' ok e Q q
  obtain ⟨x, s1, e1, e⟩ := bd_some e
  obtain ⟨y, s2, e2, e⟩ := bd_some e
  obtain ⟨r, s3, e3, e⟩ := bd_some e
  obtain ⟨rfl, rfl⟩ := rtn_some e
  refine hk.v A hid P s σ H x s1 ok e1 _ fun u P1 H1 ok1 st1 r1 => ?_
  refine hv.v A hid P1 s1 σ H1 y s2 ok1 e2 _ fun w P2 H2 ok2 st2 r2 => ?_
  refine hr.v A hid P2 s2 σ H2 r _ ok2 e3 _ fun ps P3 H3 ok3 st3 r3 => ?_
  exact q _ P3 H3 ok3 ((st1.trans st2).trans st3) (.cons ⟨(st2.trans st3).rp r1, st3.rp r2⟩ r3)⟩
theorem RpP.keys {H : Hp} : ∀ {vs : List (V × V)} {ds : List (D × D)}, RpP K H vs ds → (ds.all fun p => (kD p.1).isSome) = true → ∃ kvs : List (Key × V), vs = kvs.map (fun kv => (kV kv.1, kv.2)) ∧ RpK K H kvs ds
  | _, _, .nil, _ => ⟨[], rfl, .nil⟩
  | _ :: _, (dk, dv) :: _, .cons h t, f => by
    rw [List.all_cons, Bool.and_eq_true] at f
    obtain ⟨kvs, e, r⟩ := RpP.keys t f.2
    obtain ⟨k, hk⟩ := Option.isSome_iff_exists.mp f.1
    have ek : dk = keyD k := kD_some hk
    subst ek
    refine ⟨(k, _) :: kvs, ?_, .cons h.2 r⟩
    rw [List.map_cons, e]
    have : _ = kV k := h.1.key
    rw [← this]
theorem RpP.len {H : Hp} : ∀ {vs : List (V × V)} {ds : List (D × D)}, RpP K H vs ds → vs.length = ds.length
  | _, _, .nil => rfl
  | _, _, .cons _ t => by rw [List.length_cons, List.length_cons, RpP.len t]
def dDisp (ds : List (D × D)) : Option D := if ds.length ≤ 15 ∧ (ds.all fun p => (kD p.1).isSome) = true then some (.dict (mergeD [] ds)) else none
def eDisp (f : M (List (D × D))) : M D := bd f fun ds => lf (dDisp ds)
theorem de_disp {keys : List (Option Expr)} {values : List Expr} {trs : List (TE × TE)} {f : M (List (D × D))} (h : DPr X pos keys values trs f) (hall : keys.all (·.isSome) = true := by rfl) (hl : keys.length = values.length := by rfl) (h0 : keys ≠ [] := by simp) (h15 : keys.length ≤ 15 := by decide) :
    DE X (.Dict keys values pos) (tDisp trs) (eDisp f) := ⟨pe_disp h.p hall hl h0 h15, by
  intro A hid P s σ H d s' ok e Q q p hp
  obtain ⟨ds, s1, e1, e⟩ := bd_some e
  obtain ⟨e, rfl⟩ := lf_some e
  unfold dDisp at e
  split at e
  · rename_i hh
    cases e
    have nP : ¬ P p := ok.free hp
    have nh : ¬ hid p := fun z => nP (ok.hp _ z)
    refine h.v A _ _ s σ (upd H p (.dK [])) ds _ (ok.hide hp) e1 _ fun vs P1 H1 ok1 st1 r1 => ?_
    obtain ⟨st2, hp1⟩ := Stp.unhide hp st1
    obtain ⟨kvs, rfl, rk⟩ := r1.keys hh.2
    have hPp : P1 p := ok1.hp p (.inr rfl)
    have ok2 := ok1.unhide nh
    have gu := unhide_grw (H := H1) hPp
    refine ⟨hp1, kvs, rfl, by rw [rk.length]; exact hh.1, ?_⟩
    rw [← upd_rmv]
    have hn : rmv p H1 p = none := rmv_same
    refine q _ _ _ (ok2.grw (Grw.new hn)) (st2.trans (Stp.grw (Grw.new hn))) ?_
    exact .dK (.inl (mask_new (fun z => z.2 rfl))) (((RpK.merge (rk.mono gu) .nil)).mono (grw_mask (Grw.new hn)))
  · cases e⟩
end
end DL


namespace DL
open PySem PySem.Spec PyProof.Rows L2
/-! DL21: a cell looked at while it stays a cell: x[i], len(x), y in x, x == y. -/
/-- what stands in a slot, cell or data -/
def peek (i : Nat) (s : S) : Option D := match s.g[i]? with
  | some (some (.lst ds)) => some (.list ds)
  | some (some (.dat d)) => some d
  | _ => none
section
variable {X : Cx} {K : PySem.W.Frag} {A : DA} {hid P : Addr → Prop} {s : S} {σ : St} {H : Hp} {pos : Pos}
/-- the value in the slot stands for its data once its own address is shown -/
theorem SOk.peek {i : Nat} {d : D} (ok : SOk K A hid P s σ H) (e : peek i s = some d) : ∃ (v : V) (P1 : Addr → Prop), σ[i]? = some (some v) ∧ Rp K (mask P1 H) v d ∧ (∀ a, P1 a → P a) ∧ (∀ a, P a → ¬ P1 a → ∃ vs, H a = some (.lst vs)) := by
  unfold DL.peek at e
  split at e
  · rename_i ds hi
    cases e
    obtain ⟨a, vs, ea, h1, h2, h3, h4, rr⟩ := ok.slot i _ hi
    have g : Grw (mask P H) (mask (fun b => P b ∧ b ≠ a) H) := mask_grw fun b o e c => ⟨fun z => c z.1, e⟩
    refine ⟨.ref a, fun b => P b ∧ b ≠ a, ea, .lst (mask_some.mpr ⟨fun z => z.2 rfl, h1⟩) (rr.mono g), fun b z => z.1, fun b z1 z2 => ?_⟩
    have : b = a := Classical.byContradiction fun z => z2 ⟨z1, z⟩
    exact ⟨vs, this ▸ h1⟩
  · rename_i d' hi
    cases e
    obtain ⟨v, e, r⟩ := ok.slot i _ hi
    exact ⟨v, P, e, r, fun _ z => z, fun _ z1 z2 => absurd z1 z2⟩
  · cases e
theorem unpeek {P1 : Addr → Prop} {H1 : Hp} {z : V} {d : D} (h : ∀ a, P a → ¬ P1 a → ∃ vs, H1 a = some (.lst vs)) (r : Rp K (mask P1 H1) z d) (n : noMut d = true) : Rp K (mask P H1) z d := by
  refine r.tupsOnly (fun a xs q => ?_) n
  obtain ⟨q1, q2⟩ := mask_some.mp q
  refine mask_some.mpr ⟨fun z => ?_, q2⟩
  obtain ⟨vs, q3⟩ := h a z q1
  rw [q2] at q3; cases q3
variable {a b : Expr} {ta tb : TE} {fa fb : M D}
/-- an operator, its first side a cell -/
def eB1 (op : D → D → Option D) (i : Nat) (fb : M D) : M D := fun s => if (peek i s).isSome = true then bd fb (fun y s1 => match peek i s1 with
  | some x => match op x y with
    | some d => if noMut d = true then some (d, s1) else none
    | none => none
  | none => none) s else none
def eB2 (op : D → D → Option D) (fb : M D) (i : Nat) : M D := bd fb (fun y s1 => match peek i s1 with
  | some x => match op y x with
    | some d => if noMut d = true then some (d, s1) else none
    | none => none
  | none => none)
theorem ev_b1 {r : R2} {op : D → D → Option D} {i : Nat} (hr : DO2 K r op) (hb : EvE K tb fb) : EvE K (tOp r (tVar i) tb) (eB1 op i fb) := by
  intro A hid P s σ H d s' ok e Q q
  unfold eB1 at e
  split at e
  · rename_i hp
    obtain ⟨x0, hx0⟩ := Option.isSome_iff_exists.mp hp
    obtain ⟨v, _, ev, _⟩ := ok.peek hx0
    obtain ⟨y, s1, e1, e⟩ := bd_some e
    refine ⟨v, ev, hb A hid P s σ H y s1 ok e1 _ fun u P1 H1 ok1 st1 r1 => ?_⟩
    split at e
    · rename_i x hx
      obtain ⟨v', P2, ev', rv, hs, hl⟩ := ok1.peek hx
      rw [ev] at ev'; cases ev'
      split at e
      · rename_i d' ho
        split at e
        · rename_i hn
          cases e
          refine hr P2 H1 v u x y _ (fun a z => ok1.trk a (hs a z)) rv (r1.mono (mask_grw fun a o e c => ⟨fun z => c (hs a z), e⟩)) ho _ fun z H3 g r3 => ?_
          refine q z P1 H3 (ok1.grw g) (st1.trans (Stp.grw g)) (unpeek (fun a z1 z2 => ?_) r3 hn)
          obtain ⟨vs, q3⟩ := hl a z1 z2
          exact ⟨vs, g _ _ q3⟩
        · cases e
      · cases e
    · cases e
  · cases e
theorem ev_b2 {r : R2} {op : D → D → Option D} {i : Nat} (hr : DO2 K r op) (hb : EvE K tb fb) : EvE K (tOp r tb (tVar i)) (eB2 op fb i) := by
  intro A hid P s σ H d s' ok e Q q
  obtain ⟨y, s1, e1, e⟩ := bd_some e
  refine hb A hid P s σ H y s1 ok e1 _ fun u P1 H1 ok1 st1 r1 => ?_
  split at e
  · rename_i x hx
    obtain ⟨v, P2, ev, rv, hs, hl⟩ := ok1.peek hx
    refine ⟨v, ev, ?_⟩
    split at e
    · rename_i d' ho
      split at e
      · rename_i hn
        cases e
        refine hr P2 H1 u v y x _ (fun a z => ok1.trk a (hs a z)) (r1.mono (mask_grw fun a o e c => ⟨fun z => c (hs a z), e⟩)) rv ho _ fun z H3 g r3 => ?_
        refine q z P1 H3 (ok1.grw g) (st1.trans (Stp.grw g)) (unpeek (fun a z1 z2 => ?_) r3 hn)
        obtain ⟨vs, q3⟩ := hl a z1 z2
        exact ⟨vs, g _ _ q3⟩
      · cases e
    · cases e
  · cases e
/-- a built-in of one argument, a cell -/
def eBC (op : List D → Option D) (i : Nat) : M D := fun s => match peek i s with
  | some x => match op [x] with
    | some d => if noMut d = true then some (d, s) else none
    | none => none
  | none => none
theorem ev_bc {r : List V → Hp → VK → Prop} {op : List D → Option D} {i : Nat} (hr : DOC K r op) : EvE K (tCB r (tCons (tVar i) tNil)) (eBC op i) := by
  intro A hid P s σ H d s' ok e Q q
  unfold eBC at e
  split at e
  · rename_i x hx
    obtain ⟨v, P2, ev, rv, hs, hl⟩ := ok.peek hx
    split at e
    · rename_i d' ho
      split at e
      · rename_i hn
        cases e
        refine ⟨v, ev, ?_⟩
        refine hr P2 H [v] [x] _ (fun a z => ok.trk a (hs a z)) (.cons rv .nil) ho _ fun z H3 g r3 => ?_
        refine q z P H3 (ok.grw g) (Stp.grw g) (unpeek (fun a z1 z2 => ?_) r3 hn)
        obtain ⟨vs, q3⟩ := hl a z1 z2
        exact ⟨vs, g _ _ q3⟩
      · cases e
    · cases e
  · cases e
/-- x[e], x a cell: the item may be anything -/
def eIxC (i : Nat) (fb : M D) : M D := fun s => if (peek i s).isSome = true then bd fb (fun y s1 => match s1.g[i]? with
  | some (some (.lst ds)) => (match y with
    | .int j => (match atI ds j with
      | some d => some (d, s1)
      | none => none)
    | _ => none)
  | some (some (.dat x)) => (match dIx x y with
    | some d => some (d, s1)
    | none => none)
  | _ => none) s else none
theorem ev_ixC {i : Nat} (hb : EvE K tb fb) : EvE K (tOp (rIx K) (tVar i) tb) (eIxC i fb) := by
  intro A hid P s σ H d s' ok e Q q
  unfold eIxC at e
  split at e
  · rename_i hp
    obtain ⟨x0, hx0⟩ := Option.isSome_iff_exists.mp hp
    obtain ⟨v, _, ev, _⟩ := ok.peek hx0
    obtain ⟨y, s1, e1, e⟩ := bd_some e
    refine ⟨v, ev, hb A hid P s σ H y s1 ok e1 _ fun u P1 H1 ok1 st1 r1 => ?_⟩
    split at e
    · rename_i ds hi
      split at e
      · rename_i j
        split at e
        · rename_i d' hd
          cases e
          obtain ⟨a, vs, ea, h1, h2, h3, h4, rr⟩ := ok1.slot i _ hi
          rw [ev] at ea; cases ea
          cases r1
          obtain ⟨v', q1, q2⟩ := rr.atI hd
          exact .inl ⟨a, vs, j, v', rfl, rfl, SqL.of h1, q1, q v' P1 H1 ok1 st1 q2⟩
        · cases e
      · cases e
    · rename_i x hi
      split at e
      · rename_i d' hd
        cases e
        obtain ⟨v', ev', rv⟩ := ok1.slot i _ hi
        rw [ev] at ev'; cases ev'
        exact do_ix P1 H1 v u x y _ ok1.trk rv r1 hd _ fun z H3 g r3 => q z P1 H3 (ok1.grw g) (st1.trans (Stp.grw g)) r3
      · cases e
    · cases e
  · cases e
variable (i : Nat) {x : Str} {px : Pos}
theorem de_b1 {op : Operator} {r : R2} {dop : D → D → Option D} (ho : OpR X (binaryOp op) r) (hr : DO2 X.K r dop) (hb : DE X b tb fb) (hN : X.N[i]? = some x := by rfl) (hv : Vis X.env.scope x := by first | exact Or.inl rfl | exact Or.inr (Or.inl rfl) | exact Or.inr (Or.inr rfl)) (hd : (x == ("__debug__" : Str)) = false := by decide) (hcd : (x == ("__classdict__" : Str)) = false := by decide) :
    DE X (.BinOp (.Name x px) op b pos) (tOp r (tVar i) tb) (eB1 dop i fb) := ⟨pe_op ho (pe_var hN hv hd hcd) hb.p, ev_b1 hr hb.v⟩
theorem de_cb1 {op : CmpOp} {r : R2} {dop : D → D → Option D} (ho : OpR X (compareOp op) r) (hr : DO2 X.K r dop) (hb : DE X b tb fb) (hm : behindInMarks op b = false) (hN : X.N[i]? = some x := by rfl) (hv : Vis X.env.scope x := by first | exact Or.inl rfl | exact Or.inr (Or.inl rfl) | exact Or.inr (Or.inr rfl)) (hd : (x == ("__debug__" : Str)) = false := by decide) (hcd : (x == ("__classdict__" : Str)) = false := by decide) :
    DE X (.Compare (.Name x px) [op] [b] pos) (tOp r (tVar i) tb) (eB1 dop i fb) := ⟨pe_cmpR ho (pe_var hN hv hd hcd) hb.p hm, ev_b1 hr hb.v⟩
theorem dt_cb1 {op : CmpOp} {r : R2} {dop : D → D → Option D} (ho : OpR X (compareOp op) r) (hr : DO2 X.K r dop) (hb : DE X b tb fb) (hm : behindInMarks op b = false) (hN : X.N[i]? = some x := by rfl) (hv : Vis X.env.scope x := by first | exact Or.inl rfl | exact Or.inr (Or.inl rfl) | exact Or.inr (Or.inr rfl)) (hd : (x == ("__debug__" : Str)) = false := by decide) (hcd : (x == ("__classdict__" : Str)) = false := by decide) :
    DT X (.Compare (.Name x px) [op] [b] pos) (tTest (tOp r (tVar i) tb)) (tV (eB1 dop i fb)) := ⟨pt_cmpR ho (pe_var hN hv hd hcd) hb.p hm, ev_tT (ev_b1 hr hb.v)⟩
theorem de_cb2 {op : CmpOp} {r : R2} {dop : D → D → Option D} (ho : OpR X (compareOp op) r) (hr : DO2 X.K r dop) (ha : DE X a ta fa) (hm : behindInMarks op (.Name x px) = false) (hN : X.N[i]? = some x := by rfl) (hv : Vis X.env.scope x := by first | exact Or.inl rfl | exact Or.inr (Or.inl rfl) | exact Or.inr (Or.inr rfl)) (hd : (x == ("__debug__" : Str)) = false := by decide) (hcd : (x == ("__classdict__" : Str)) = false := by decide) :
    DE X (.Compare a [op] [.Name x px] pos) (tOp r ta (tVar i)) (eB2 dop fa i) := ⟨pe_cmpR ho ha.p (pe_var hN hv hd hcd) hm, ev_b2 hr ha.v⟩
theorem dt_cb2 {op : CmpOp} {r : R2} {dop : D → D → Option D} (ho : OpR X (compareOp op) r) (hr : DO2 X.K r dop) (ha : DE X a ta fa) (hm : behindInMarks op (.Name x px) = false) (hN : X.N[i]? = some x := by rfl) (hv : Vis X.env.scope x := by first | exact Or.inl rfl | exact Or.inr (Or.inl rfl) | exact Or.inr (Or.inr rfl)) (hd : (x == ("__debug__" : Str)) = false := by decide) (hcd : (x == ("__classdict__" : Str)) = false := by decide) :
    DT X (.Compare a [op] [.Name x px] pos) (tTest (tOp r ta (tVar i))) (tV (eB2 dop fa i)) := ⟨pt_cmpR ho ha.p (pe_var hN hv hd hcd) hm, ev_tT (ev_b2 hr ha.v)⟩
theorem k_ixC (hb : DE X b tb fb) (hK : X.K = K := by rfl) (hs : PlainIx b := by exact fun _ _ => rfl) (hN : X.N[i]? = some x := by rfl) (hv : Vis X.env.scope x := by first | exact Or.inl rfl | exact Or.inr (Or.inl rfl) | exact Or.inr (Or.inr rfl)) (hd : (x == ("__debug__" : Str)) = false := by decide) (hcd : (x == ("__classdict__" : Str)) = false := by decide) :
    DE X (.Subscript (.Name x px) b pos) (tOp (rIx K) (tVar i) tb) (eIxC i fb) := hK ▸ ⟨pe_ix ix_seq (pe_var hN hv hd hcd) hb.p hs, ev_ixC hb.v⟩
theorem de_bc {f : Str} {p : Pos} {id : String} {r : List V → Hp → VK → Prop} {op : List D → Option D} (hc : CallR X (.builtin id) r) (hr : DOC X.K r op) (hg : Gl X f) (hm : X.mg f = none) (hbb : bootBuiltins f = some (.builtin id)) (hN : X.N[i]? = some x := by rfl) (hv : Vis X.env.scope x := by first | exact Or.inl rfl | exact Or.inr (Or.inl rfl) | exact Or.inr (Or.inr rfl)) (hd : (x == ("__debug__" : Str)) = false := by decide) (hcd : (x == ("__classdict__" : Str)) = false := by decide)
    (hn : f ≠ "__name__" := by decide) (hdb : (f == ("__debug__" : Str)) = false := by decide)
    (he : starEach [.Name x px] X.env = (false, eval (.Name x px) X.env) :: starEach [] X.env := by rfl) (hpl : (backTo pos (starEach [] X.env)).any (·.1) = false := by rfl) : DE X (.Call (.Name f p) [.Name x px] [] pos) (tCB r (tCons (tVar i) tNil)) (eBC op i) :=
  ⟨pe_callB hc hg hm hbb (pa_cons (pe_var hN hv hd hcd) pa_nil he) hn hdb he hpl, ev_bc hr⟩
theorem de_bTy {f : Str} {p : Pos} {T : String} {r : List V → Hp → VK → Prop} {op : List D → Option D} (hc : CallR X (.type T) r) (hr : DOC X.K r op) (hg : Gl X f) (hm : X.mg f = none) (hbb : bootBuiltins f = some (.type T)) (hN : X.N[i]? = some x := by rfl) (hv : Vis X.env.scope x := by first | exact Or.inl rfl | exact Or.inr (Or.inl rfl) | exact Or.inr (Or.inr rfl)) (hd : (x == ("__debug__" : Str)) = false := by decide) (hcd : (x == ("__classdict__" : Str)) = false := by decide)
    (hn : f ≠ "__name__" := by decide) (hdb : (f == ("__debug__" : Str)) = false := by decide)
    (he : starEach [.Name x px] X.env = (false, eval (.Name x px) X.env) :: starEach [] X.env := by rfl) (hpl : (backTo pos (starEach [] X.env)).any (·.1) = false := by rfl) : DE X (.Call (.Name f p) [.Name x px] [] pos) (tCB r (tCons (tVar i) tNil)) (eBC op i) :=
  ⟨pe_callTy hc hg hm hbb (pa_cons (pe_var hN hv hd hcd) pa_nil he) hn hdb he hpl, ev_bc hr⟩
end
end DL


namespace DL
open PySem PySem.Spec PyProof.Rows L2
/-! DL22: a, b = x, y where a name is read in a comprehension (a tuple is made and taken apart). -/
section
variable {X : Cx} {K : PySem.W.Frag} {tr : TA} {fr : M (List PV)} {pos : Pos}
theorem PVs.len {P : Addr → Prop} {H : Hp} {L : List Addr} {vs : List V} {xs : List PV} (h : PVs K P H L vs xs) : vs.length = xs.length := by
  induction h with
  | nil => rfl
  | dat _ _ ih => simp [ih]
  | new _ _ _ ih => simp [ih]
theorem es_parT {i j : Nat} (h : EvP K tr fr) : EvS K (tAsg (tTup tr) (gTup K 2 (gCons (gName i) (gCons (gName j) gNil)))) (sPar i j fr) := by
  intro A hid P s σ H fl s' ok e D q
  obtain ⟨xs, s1, h1, e⟩ := bd_some e
  refine h A hid P s σ H xs s1 ok h1 _ fun vs L P1 H1 ok1 st1 nd nh r => ?_
  split at e
  · cases e
    match vs, r with
    | [v, w], r =>
      refine ⟨by show 2 ≤ sizeLine; decide, fun p hp => ?_⟩
      have g := Grw.new (o := HO.tup [v, w]) hp
      refine ⟨p, [v, w], rfl, .inl (.inl upd_same), rfl, v, [w], rfl, w, [], rfl, rfl, ?_⟩
      have ok1' := ok1.grw g
      have r' := r.mono (grw_mask g) (fun a _ o e => g a o e)
      obtain ⟨L1, ok2, nd2, nh2, r2⟩ := ok1'.putP (i := i) nd nh r'
      obtain ⟨L2, ok3, nd3, nh3, r3⟩ := ok2.putP (i := j) nd2 nh2 r2
      cases r3
      exact q _ P1 _ (ok3.hidEq fun a => by simp) (st1.trans (Stp.grw g))
    | [], r => cases r
    | [_], r => exact absurd r.len (by simp)
    | _ :: _ :: _ :: _, r => exact absurd r.len (by simp)
  · cases e
theorem k_parT (i j : Nat) {x y : Str} {a b : Expr} {px py pt : Pos} {kt k2 pt2} (hN : X.N.Nodup) (ha : DP X [a, b] tr fr) (hK : X.K = K := by rfl) (hc : X.calm = true := by rfl) (hi : X.N[i]? = some x := by rfl) (hj : X.N[j]? = some y := by rfl)
    (hx : Loc X.env.scope x := by first | exact Or.inl rfl | exact Or.inr rfl) (hy : Loc X.env.scope y := by first | exact Or.inl rfl | exact Or.inr rfl)
    (hf : X.fn x = true ∨ X.env.scope.names.lookup x = some .local := by first | exact .inl rfl | exact .inr rfl | assumption) (hf2 : X.fn y = true ∨ X.env.scope.names.lookup y = some .local := by first | exact .inl rfl | exact .inr rfl | assumption)
    (hs : swapsWithSole [.Tuple [.Name x px, .Name y py] kt pt] (.Tuple [a, b] k2 pt2) pos.line X.env = pure false := by rfl) (hw : swappedStores [.Tuple [.Name x px, .Name y py] kt pt] (.Tuple [a, b] k2 pt2) X.env = pure none := by rfl)
    (h1 : (assignEach [.Tuple [.Name x px, .Name y py] kt pt] X.env).map (·.2) = [assign (.Tuple [.Name x px, .Name y py] kt pt) X.env] := by rfl)
    (q1 : (assignEach [.Name x px, .Name y py] X.env).map (·.2) = assign (.Name x px) X.env :: (assignEach [.Name y py] X.env).map (·.2) := by rfl) (q2 : (assignEach [.Name y py] X.env).map (·.2) = assign (.Name y py) X.env :: (assignEach [] X.env).map (·.2) := by rfl)
    (hn : (assignEach [.Name x px, .Name y py] X.env).length = 2 := by rfl) (hst : (assignEach [.Name x px, .Name y py] X.env).findIdx? (·.1) = none := by rfl) :
    DS X (.Assign [.Tuple [.Name x px, .Name y py] kt pt] (.Tuple [a, b] k2 pt2) pos) (tAsg (tTup tr) (gTup K 2 (gCons (gName i) (gCons (gName j) gNil)))) (sPar i j fr) :=
  hK ▸ ⟨ps_asg (pe_tup ha.p) (pg_tup hc (pgs_cons (pg_name hN hi hx hf) (pgs_cons (pg_name hN hj hy hf2) pgs_nil q2) q1) hn hst) hs hw h1, es_parT ha.v⟩
end
end DL


namespace DL
open PySem PySem.Spec PyProof.Rows L2
/-! DL23: new lists by x + y, list(x). -/
theorem un1 {n c : Nat} (h : n + 64 < c) : n + 1 < c := by omega
section
variable {X : Cx} {K : PySem.W.Frag} {ta tb : TE} {fa fb : M D} {a b : Expr} {pos : Pos} {tr : TA} {fr : M (List D)}
def nAdd (fa fb : M D) : M (List D) := bd fa fun x => bd fb fun y => match x, y with
  | .list xs, .list ys => if xs.length + ys.length ≤ lim then rtn (xs ++ ys) else fun _ => none
  | _, _ => fun _ => none
theorem en_add (ha : EvE K ta fa) (hb : EvE K tb fb) : EvN K (tOp (rAddD K) ta tb) (nAdd fa fb) := by
  intro A hid P s σ H ds s' ok e Q q
  obtain ⟨x, s1, e1, e⟩ := bd_some e
  obtain ⟨y, s2, e2, e⟩ := bd_some e
  refine ha A hid P s σ H x s1 ok e1 _ fun u P1 H1 ok1 st1 r1 => ?_
  refine hb A hid P1 s1 σ H1 y s2 ok1 e2 _ fun w P2 H2 ok2 st2 r2 => ?_
  split at e
  · split at e
    · rename_i hl
      obtain ⟨rfl, rfl⟩ := rtn_some e
      obtain ⟨a1, vs, rfl, h1, q1⟩ := (st2.rp r1).lst_inv
      obtain ⟨b1, us, rfl, h2, q2⟩ := r2.lst_inv
      refine .inr (.inr (.inl ⟨a1, b1, vs, us, rfl, rfl, mask_le _ _ h1, mask_le _ _ h2, by rw [q1.length, q2.length]; exact lim_le hl, fun p hp => ?_⟩))
      exact q _ P2 H2 p ok2 (st1.trans st2) hp (q1.append q2)
    · cases e
  · cases e
/-- x + e, x a cell that stays one -/
def nAddC (i : Nat) (fb : M D) : M (List D) := fun s => if (peek i s).isSome = true then bd fb (fun y s1 => match peek i s1, y with
  | some (.list xs), .list ys => if xs.length + ys.length ≤ lim then some (xs ++ ys, s1) else none
  | _, _ => none) s else none
theorem en_addC {i : Nat} (hb : EvE K tb fb) : EvN K (tOp (rAddD K) (tVar i) tb) (nAddC i fb) := by
  intro A hid P s σ H ds s' ok e Q q
  unfold nAddC at e
  split at e
  · rename_i hp
    obtain ⟨x0, hx0⟩ := Option.isSome_iff_exists.mp hp
    obtain ⟨v, _, ev, _⟩ := ok.peek hx0
    obtain ⟨y, s1, e1, e⟩ := bd_some e
    refine ⟨v, ev, hb A hid P s σ H y s1 ok e1 _ fun u P1 H1 ok1 st1 r1 => ?_⟩
    split at e
    · rename_i xs ys hx
      split at e
      · rename_i hl
        cases e
        have key : ∃ a vs, v = .ref a ∧ H1 a = some (.lst vs) ∧ RpA K (mask P1 H1) vs xs := by
          unfold peek at hx
          split at hx
          · rename_i ds hi
            cases hx
            obtain ⟨a, vs, ea, h1, h2, h3, h4, rr⟩ := ok1.slot i _ hi
            rw [ev] at ea; cases ea
            exact ⟨a, vs, rfl, h1, rr⟩
          · rename_i d hi
            cases hx
            obtain ⟨v', ev', rv⟩ := ok1.slot i _ hi
            rw [ev] at ev'; cases ev'
            obtain ⟨a, vs, rfl, h1, rr⟩ := rv.lst_inv
            exact ⟨a, vs, rfl, mask_le _ _ h1, rr⟩
          · cases hx
        obtain ⟨a1, vs, rfl, h1, q1⟩ := key
        obtain ⟨b1, us, rfl, h2, q2⟩ := r1.lst_inv
        refine .inr (.inr (.inl ⟨a1, b1, vs, us, rfl, rfl, h1, mask_le _ _ h2, by rw [q1.length, q2.length]; exact lim_le hl, fun p hp => ?_⟩))
        exact q _ P1 H1 p ok1 st1 hp (q1.append q2)
      · cases e
    · cases e
  · cases e
def nListOf (fr : M (List D)) : M (List D) := bd fr fun ds => match ds with
  | [.list a] => rtn a
  | [.tuple a] => rtn a
  | _ => fun _ => none
theorem en_listOf (ha : EvA K tr fr) : EvN K (tCB (rListOf K) tr) (nListOf fr) := by
  intro A hid P s σ H ds s' ok e Q q
  obtain ⟨xs, s1, e1, e⟩ := bd_some e
  refine ha A hid P s σ H xs s1 ok e1 _ fun us P1 H1 ok1 st1 r1 => ?_
  split at e
  · obtain ⟨rfl, rfl⟩ := rtn_some e
    obtain ⟨v, rfl, h⟩ := r1.one
    obtain ⟨a, vs, rfl, h1, r⟩ := h.lst_inv
    exact ⟨a, vs, rfl, .inl (SqL.of (mask_le _ _ h1)), fun l hl => q _ P1 H1 l ok1 st1 hl r⟩
  · obtain ⟨rfl, rfl⟩ := rtn_some e
    obtain ⟨v, rfl, h⟩ := r1.one
    obtain ⟨a, vs, rfl, h1, r⟩ := h.tup_inv
    exact ⟨a, vs, rfl, .inr (sqT_le h1), fun l hl => q _ P1 H1 l ok1 st1 hl r⟩
  · cases e
theorem k_nadd (ha : DE X a ta fa) (hb : DE X b tb fb) (hK : X.K = K := by rfl) : DN X (.BinOp a .Add b pos) (tOp (rAddD K) ta tb) (nAdd fa fb) := hK ▸ ⟨pe_op op_addD ha.p hb.p, en_add ha.v hb.v⟩
theorem k_naddC (i : Nat) {x : Str} {px : Pos} (hb : DE X b tb fb) (hK : X.K = K := by rfl) (hN : X.N[i]? = some x := by rfl) (hv : Vis X.env.scope x := by first | exact Or.inl rfl | exact Or.inr (Or.inl rfl) | exact Or.inr (Or.inr rfl)) (hd : (x == ("__debug__" : Str)) = false := by decide) (hcd : (x == ("__classdict__" : Str)) = false := by decide) :
    DN X (.BinOp (.Name x px) .Add b pos) (tOp (rAddD K) (tVar i) tb) (nAddC i fb) := hK ▸ ⟨pe_op op_addD (pe_var hN hv hd hcd) hb.p, en_addC hb.v⟩
theorem k_nlist {e : Expr} {es : List Expr} {x : Str} {p : Pos} (hc : CallR X (.type "list") (rListOf X.K)) (hg : Gl X x) (hm : X.mg x = none) (hv : bootBuiltins x = some (.type "list")) (ha : DAr X (e :: es) tr fr) (hK : X.K = K := by rfl)
    (hn : x ≠ "__name__" := by decide) (hdb : (x == ("__debug__" : Str)) = false := by decide)
    (he : starEach (e :: es) X.env = (false, eval e X.env) :: starEach es X.env := by rfl) (hpl : (backTo pos (starEach es X.env)).any (·.1) = false := by rfl) : DN X (.Call (.Name x p) (e :: es) [] pos) (tCB (rListOf K) tr) (nListOf fr) := hK ▸ ⟨pe_callTy hc hg hm hv ha.p hn hdb he hpl, en_listOf ha.v⟩
end
end DL


namespace DL
open PySem PySem.Spec PyProof.Rows L2
/-! DL15: the pure side: what a pure body comes to. -/
def wp {α : Type} (m : M α) (s : S) (Q : α → S → Prop) : Prop := ∃ a s', m s = some (a, s') ∧ Q a s'
section
variable {α β : Type} {m : M α} {s : S} {Q Q' : α → S → Prop}
theorem wp_mono (h : wp m s Q) (hq : ∀ a s', Q a s' → Q' a s') : wp m s Q' := let ⟨a, s', e, q⟩ := h; ⟨a, s', e, hq _ _ q⟩
@[simp ↓] theorem wp_bd {f : α → M β} {Q : β → S → Prop} : wp (bd m f) s Q ↔ wp m s fun a s1 => wp (f a) s1 Q := by
  constructor
  · rintro ⟨b, s', e, q⟩
    obtain ⟨a, s1, e1, e2⟩ := bd_some e
    exact ⟨a, s1, e1, b, s', e2, q⟩
  · rintro ⟨a, s1, e1, b, s', e2, q⟩
    exact ⟨b, s', by unfold bd; rw [e1]; exact e2, q⟩
@[simp ↓] theorem wp_rtn {a : α} : wp (rtn a) s Q ↔ Q a s := ⟨fun ⟨_, _, e, q⟩ => by obtain ⟨rfl, rfl⟩ := rtn_some e; exact q, fun q => ⟨_, _, rfl, q⟩⟩
@[simp ↓] theorem wp_lf {o : Option α} : wp (lf o) s Q ↔ ∃ a, o = some a ∧ Q a s := ⟨fun ⟨_, _, e, q⟩ => by obtain ⟨h, rfl⟩ := lf_some e; exact ⟨_, h, q⟩, fun ⟨a, h, q⟩ => ⟨a, s, by rw [h]; rfl, q⟩⟩
@[simp ↓] theorem wp_no : wp (fun _ => none : M α) s Q ↔ False := ⟨fun ⟨_, _, e, _⟩ => (by cases e), False.elim⟩
theorem wp_ite {c : Prop} [Decidable c] {n : M α} : wp (if c then m else n) s Q ↔ if c then wp m s Q else wp n s Q := by split <;> rfl
theorem wp_fn {f : S → α} {g : S → S} : wp (fun s => some (f s, g s)) s Q ↔ Q (f s) (g s) := ⟨fun ⟨_, _, e, q⟩ => by cases e; exact q, fun q => ⟨_, _, rfl, q⟩⟩
end
section
variable {s : S} {Q : D → S → Prop}
@[simp ↓] theorem wp_eVar {i : Nat} : wp (eVar i) s Q ↔ ∃ d, s.g[i]? = some (some (.dat d)) ∧ Q d s := ⟨fun ⟨_, _, e, q⟩ => by obtain ⟨h, rfl⟩ := eVar_some e; exact ⟨_, h, q⟩, fun ⟨d, h, q⟩ => ⟨d, s, by unfold eVar; rw [h], q⟩⟩
@[simp ↓] theorem wp_eC {d : D} : wp (eC d) s Q ↔ Q d s := wp_rtn
@[simp ↓] theorem wp_gN {i : Nat} {d : D} {Q : Unit → S → Prop} : wp (gN i d) s Q ↔ Q () ⟨s.g.set i (some (.dat d)), s.k⟩ := ⟨fun ⟨_, _, e, q⟩ => by cases e; exact q, fun q => ⟨_, _, rfl, q⟩⟩
@[simp ↓] theorem wp_gNl {Q : Unit → S → Prop} : wp (gNl []) s Q ↔ Q () s := ⟨fun ⟨_, _, e, q⟩ => by cases e; exact q, fun q => ⟨_, _, rfl, q⟩⟩
@[simp ↓] theorem wp_gCn {f : D → M Unit} {g : List D → M Unit} {d : D} {r : List D} {Q : Unit → S → Prop} : wp (gCn f g (d :: r)) s Q ↔ wp (f d) s fun _ s1 => wp (g r) s1 Q := wp_bd
theorem wp_gTp {n : Nat} {g : List D → M Unit} {ds : List D} {Q : Unit → S → Prop} (h : ds.length = n) : wp (gTp n g (.tuple ds)) s Q ↔ wp (g ds) s Q := by
  show wp (if ds.length = n then g ds else fun _ => none) s Q ↔ _
  rw [if_pos h]
@[simp ↓] theorem wp_eOp2 {op : D → D → Option D} {fa fb : M D} : wp (eOp2 op fa fb) s Q ↔ wp fa s fun x s1 => wp fb s1 fun y s2 => ∃ d, op x y = some d ∧ Q d s2 := by
  unfold eOp2; simp only [wp_bd, wp_lf]
@[simp ↓] theorem wp_eOp1 {op : D → Option D} {fa : M D} : wp (eOp1 op fa) s Q ↔ wp fa s fun x s1 => ∃ d, op x = some d ∧ Q d s1 := by
  unfold eOp1; simp only [wp_bd, wp_lf]
@[simp ↓] theorem wp_eCB {op : List D → Option D} {fr : M (List D)} : wp (eCB op fr) s Q ↔ wp fr s fun x s1 => ∃ d, op x = some d ∧ Q d s1 := by
  unfold eCB; simp only [wp_bd, wp_lf]
@[simp ↓] theorem wp_aNil {Q : List D → S → Prop} : wp aNil s Q ↔ Q [] s := wp_rtn
@[simp ↓] theorem wp_aCons {f : M D} {fr : M (List D)} {Q : List D → S → Prop} : wp (aCons f fr) s Q ↔ wp f s fun x s1 => wp fr s1 fun xs s2 => Q (x :: xs) s2 := by
  unfold aCons; simp only [wp_bd, wp_rtn]
@[simp ↓] theorem wp_eTup {fr : M (List D)} : wp (eTup fr) s Q ↔ wp fr s fun ds s1 => ds.length ≤ lim ∧ Q (.tuple ds) s1 := by
  unfold eTup; simp only [wp_bd]
  constructor <;> intro h <;> refine wp_mono h fun a s' q => ?_
  · by_cases hl : a.length ≤ lim
    · rw [if_pos hl, wp_rtn] at q; exact ⟨hl, q⟩
    · rw [if_neg hl, wp_no] at q; exact q.elim
  · rw [if_pos q.1, wp_rtn]; exact q.2
@[simp ↓] theorem wp_nLst {fr : M (List D)} {Q : List D → S → Prop} : wp (nLst fr) s Q ↔ wp fr s fun ds s1 => ds.length ≤ lim ∧ Q ds s1 := by
  unfold nLst; simp only [wp_bd]
  constructor <;> intro h <;> refine wp_mono h fun a s' q => ?_
  · by_cases hl : a.length ≤ lim
    · rw [if_pos hl, wp_rtn] at q; exact ⟨hl, q⟩
    · rw [if_neg hl, wp_no] at q; exact q.elim
  · rw [if_pos q.1, wp_rtn]; exact q.2
@[simp ↓] theorem wp_eL {f : M (List D)} : wp (eL f) s Q ↔ wp f s fun ds s1 => Q (.list ds) s1 := by unfold eL; simp only [wp_bd, wp_rtn]
@[simp ↓] theorem wp_eIsi {T : String} {f : M D} : wp (eIsi T f) s Q ↔ wp f s fun d s1 => Q (.bool (isiD T d)) s1 := by unfold eIsi; simp only [wp_bd, wp_rtn]
@[simp ↓] theorem wp_eIf {g : M Bool} {fa fb : M D} : wp (eIf g fa fb) s Q ↔ wp g s fun b s1 => if b = true then wp fa s1 Q else wp fb s1 Q := by
  unfold eIf; simp only [wp_bd, wp_ite]
theorem wp_tV {f : M D} {Q : Bool → S → Prop} (h : wp f s fun d s1 => ∃ b, d = .bool b ∧ Q b s1) : wp (tV f) s Q := by
  unfold tV; rw [wp_bd]; refine wp_mono h fun d s1 ⟨b, e, q⟩ => ?_
  subst e; exact wp_rtn.mpr q
@[simp ↓] theorem wp_tV' {f : M D} {Q : Bool → S → Prop} : wp (tV f) s Q ↔ wp f s fun d s1 => ∃ b, d = .bool b ∧ Q b s1 := by
  refine ⟨fun h => ?_, wp_tV⟩
  unfold tV at h; rw [wp_bd] at h; refine wp_mono h fun d s1 q => ?_
  cases d with
  | bool b => exact ⟨b, rfl, wp_rtn.mp q⟩
  | _ => exact (wp_no.mp q).elim
@[simp ↓] theorem wp_tNot {g : M Bool} {Q : Bool → S → Prop} : wp (tNotM g) s Q ↔ wp g s fun b s1 => Q (!b) s1 := by unfold tNotM; simp only [wp_bd, wp_rtn]
@[simp ↓] theorem wp_tAnd {g h : M Bool} {Q : Bool → S → Prop} : wp (tAndM g h) s Q ↔ wp g s fun b s1 => if b = true then wp h s1 Q else Q false s1 := by unfold tAndM; simp only [wp_bd, wp_ite, wp_rtn]
@[simp ↓] theorem wp_tOr {g h : M Bool} {Q : Bool → S → Prop} : wp (tOrM g h) s Q ↔ wp g s fun b s1 => if b = true then Q true s1 else wp h s1 Q := by unfold tOrM; simp only [wp_bd, wp_ite, wp_rtn]
@[simp ↓] theorem wp_eAnd {fa fb : M D} : wp (eAnd fa fb) s Q ↔ wp fa s fun d s1 => ∃ b, d = .bool b ∧ if b = true then wp fb s1 Q else Q (.bool false) s1 := by
  unfold eAnd; rw [wp_bd]
  constructor <;> intro h <;> refine wp_mono h fun d s1 q => ?_
  · match d, q with
    | .bool true, q => exact ⟨true, rfl, by simpa using q⟩
    | .bool false, q => exact ⟨false, rfl, by simpa using wp_rtn.mp q⟩
    | .none, q => exact (wp_no.mp q).elim
    | .int _, q => exact (wp_no.mp q).elim
    | .str _, q => exact (wp_no.mp q).elim
    | .list _, q => exact (wp_no.mp q).elim
    | .tuple _, q => exact (wp_no.mp q).elim
    | .dict _, q => exact (wp_no.mp q).elim
  · obtain ⟨b, rfl, q⟩ := q
    cases b
    · exact wp_rtn.mpr (by simpa using q)
    · simpa using q
@[simp ↓] theorem wp_eOr {fa fb : M D} : wp (eOr fa fb) s Q ↔ wp fa s fun d s1 => ∃ b, d = .bool b ∧ if b = true then Q (.bool true) s1 else wp fb s1 Q := by
  unfold eOr; rw [wp_bd]
  constructor <;> intro h <;> refine wp_mono h fun d s1 q => ?_
  · match d, q with
    | .bool true, q => exact ⟨true, rfl, by simpa using wp_rtn.mp q⟩
    | .bool false, q => exact ⟨false, rfl, by simpa using q⟩
    | .none, q => exact (wp_no.mp q).elim
    | .int _, q => exact (wp_no.mp q).elim
    | .str _, q => exact (wp_no.mp q).elim
    | .list _, q => exact (wp_no.mp q).elim
    | .tuple _, q => exact (wp_no.mp q).elim
    | .dict _, q => exact (wp_no.mp q).elim
  · obtain ⟨b, rfl, q⟩ := q
    cases b
    · simpa using q
    · exact wp_rtn.mpr (by simpa using q)
@[simp ↓] theorem wp_eNot {f : M D} : wp (eNot f) s Q ↔ wp f s fun d s1 => ∃ b, d = .bool b ∧ Q (.bool (!b)) s1 := by
  unfold eNot; rw [wp_bd]
  constructor <;> intro h <;> refine wp_mono h fun d s1 q => ?_
  · cases d with
    | bool b => exact ⟨b, rfl, wp_rtn.mp q⟩
    | _ => exact (wp_no.mp q).elim
  · obtain ⟨b, rfl, q⟩ := q
    exact wp_rtn.mpr q
@[simp ↓] theorem wp_eChain {op op' : D → D → Option D} {fa fb fc : M D} : wp (eChain op op' fa fb fc) s Q ↔ wp fa s fun x s1 => wp fb s1 fun y s2 => ∃ b, op x y = some (.bool b) ∧ if b = true then wp fc s2 fun w s3 => ∃ d, op' y w = some d ∧ Q d s3 else Q (.bool false) s2 := by
  unfold eChain; simp only [wp_bd, wp_lf]
  constructor <;> intro h <;> refine wp_mono h fun x s1 h => ?_ <;> refine wp_mono h fun y s2 h => ?_
  · obtain ⟨d, e, q⟩ := h
    match d, e, q with
    | .bool true, e, q => exact ⟨true, e, by simpa [wp_bd, wp_lf] using q⟩
    | .bool false, e, q => exact ⟨false, e, by simpa using wp_rtn.mp q⟩
    | .none, _, q => exact (wp_no.mp q).elim
    | .int _, _, q => exact (wp_no.mp q).elim
    | .str _, _, q => exact (wp_no.mp q).elim
    | .list _, _, q => exact (wp_no.mp q).elim
    | .tuple _, _, q => exact (wp_no.mp q).elim
    | .dict _, _, q => exact (wp_no.mp q).elim
  · obtain ⟨b, e, q⟩ := h
    refine ⟨_, e, ?_⟩
    cases b
    · exact wp_rtn.mpr (by simpa using q)
    · simpa [wp_bd, wp_lf] using q
@[simp ↓] theorem wp_oN {Q : Option Int → S → Prop} : wp oN s Q ↔ Q none s := wp_rtn
@[simp ↓] theorem wp_oS {f : M D} {Q : Option Int → S → Prop} : wp (oS f) s Q ↔ wp f s fun d s1 => ∃ i, d = .int i ∧ Q (some i) s1 := by
  unfold oS; rw [wp_bd]
  constructor <;> intro h <;> refine wp_mono h fun d s1 q => ?_
  · cases d with
    | int i => exact ⟨i, rfl, wp_rtn.mp q⟩
    | _ => exact (wp_no.mp q).elim
  · obtain ⟨i, rfl, q⟩ := q
    exact wp_rtn.mpr q
@[simp ↓] theorem wp_eSl {f : M D} {l h : M (Option Int)} : wp (eSl f l h) s Q ↔ wp f s fun x s1 => wp l s1 fun lo s2 => wp h s2 fun hi s3 => ∃ d, dSl x lo hi = some d ∧ Q d s3 := by
  unfold eSl; simp only [wp_bd, wp_lf]
@[simp ↓] theorem wp_asQ {f : M D} {Q : List D → S → Prop} : wp (asQ f) s Q ↔ wp f s fun d s1 => ∃ ds, (d = .list ds ∨ d = .tuple ds) ∧ Q ds s1 := by
  unfold asQ; rw [wp_bd]
  constructor <;> intro h <;> refine wp_mono h fun d s1 q => ?_
  · cases d with
    | list ds => exact ⟨ds, .inl rfl, wp_rtn.mp q⟩
    | tuple ds => exact ⟨ds, .inr rfl, wp_rtn.mp q⟩
    | _ => exact (wp_no.mp q).elim
  · obtain ⟨ds, rfl | rfl, q⟩ := q <;> exact wp_rtn.mpr q
@[simp ↓] theorem wp_rg1 {f : M D} {Q : List D → S → Prop} : wp (rg1 (aCons f aNil)) s Q ↔ wp f s fun d s1 => ∃ j : Int, d = .int j ∧ (-(2 ^ 62) ≤ j ∧ j < 2 ^ 62) ∧ Q (rngD 0 j.toNat) s1 := by
  unfold rg1; simp only [wp_bd, wp_aCons, wp_aNil]
  constructor <;> intro h <;> refine wp_mono h fun d s1 q => ?_
  · cases d with
    | int j =>
      refine ⟨j, rfl, ?_⟩
      by_cases hj : -(2 ^ 62) ≤ j ∧ j < 2 ^ 62
      · simp only [if_pos hj, wp_rtn] at q; exact ⟨hj, q⟩
      · simp only [if_neg hj, wp_no] at q
    | _ => exact (wp_no.mp q).elim
  · obtain ⟨j, rfl, hj, q⟩ := q
    simp only [if_pos hj, wp_rtn]; exact q
/-! statements -/
variable {Z : Fl → S → Prop}
@[simp ↓] theorem wp_sNx : wp sNx s Z ↔ Z .nx s := wp_rtn
@[simp ↓] theorem wp_sSeq {m n : M Fl} : wp (sSeq m n) s Z ↔ wp m s fun fl s1 => match fl with
    | .nx => wp n s1 Z
    | fl => Z fl s1 := by
  unfold sSeq; rw [wp_bd]
  constructor <;> intro h <;> refine wp_mono h fun fl s1 q => ?_ <;> cases fl <;> first | exact q | exact wp_rtn.mp q | exact wp_rtn.mpr q
@[simp ↓] theorem wp_sRet {f : M D} : wp (sRet f) s Z ↔ wp f s fun d s1 => Z (.rt d) s1 := by unfold sRet; simp only [wp_bd, wp_rtn]
@[simp ↓] theorem wp_sIf {c : M Bool} {m n : M Fl} : wp (sIf c m n) s Z ↔ wp c s fun b s1 => if b = true then wp m s1 Z else wp n s1 Z := by unfold sIf; simp only [wp_bd, wp_ite]
@[simp ↓] theorem wp_sDrop {f : M D} : wp (sDrop f) s Z ↔ wp f s fun _ s1 => Z .nx s1 := by unfold sDrop; simp only [wp_bd, wp_rtn]
@[simp ↓] theorem wp_sAsg {f : M D} {g : D → M Unit} : wp (sAsg f g) s Z ↔ wp f s fun d s1 => wp (g d) s1 fun _ s2 => Z .nx s2 := by unfold sAsg; simp only [wp_bd, wp_rtn]
@[simp ↓] theorem wp_sNew {i : Nat} {f : M (List D)} : wp (sNew i f) s Z ↔ wp f s fun ds s1 => Z .nx ⟨s1.g.set i (some (.lst ds)), s1.k⟩ := by
  unfold sNew; rw [wp_bd]
  constructor <;> intro h <;> refine wp_mono h fun ds s1 q => ?_
  · obtain ⟨_, _, e, q⟩ := q; cases e; exact q
  · exact ⟨_, _, rfl, q⟩
@[simp ↓] theorem wp_sFor {it : M (List D)} {asg : D → M Unit} {b : M Fl} : wp (sFor it asg b) s Z ↔ wp it s fun ds s1 => wp (loop asg b ds) s1 Z := wp_bd
/-- a loop by what stands ahead of the rest -/
theorem wp_loop {asg : D → M Unit} {b : M Fl} (I : List D → S → Prop) (step : ∀ x r s, I (x :: r) s → wp (asg x) s fun _ s1 => wp b s1 fun fl s2 => match fl with
    | .nx => I r s2
    | .ct => I r s2
    | .bk => Z .nx s2
    | .rt d => Z (.rt d) s2) (fin : ∀ s, I [] s → Z .nx s) : ∀ (ds : List D) (s : S), I ds s → wp (loop asg b ds) s Z
  | [], s, h => wp_rtn.mpr (fin s h)
  | x :: r, s, h => by
    unfold loop
    rw [wp_bd]
    refine wp_mono (step x r s h) fun _ s1 q => ?_
    rw [wp_bd]
    refine wp_mono q fun fl s2 q => ?_
    cases fl with
    | nx => exact wp_loop I step fin r s2 q
    | ct => exact wp_loop I step fin r s2 q
    | bk => exact wp_rtn.mpr q
    | rt d => exact wp_rtn.mpr q
@[simp ↓] theorem wp_nLc {own : List Nat} {it : M (List D)} {asg : D → M Unit} {t : M Bool} {e : M D} {Q : List D → S → Prop} : wp (nLc own it asg t e) s Q ↔ wp it s fun ds s1 => wp (lcLoop own asg t e ds []) (wipeS s1 own) Q := by
  unfold nLc; rw [wp_bd]; rfl
theorem wp_lc {own : List Nat} {asg : D → M Unit} {t : M Bool} {e : M D} {Q : List D → S → Prop} (I : List D → List D → S → Prop)
    (step : ∀ x r acc s, I (x :: r) acc s → wp (asg x) s fun _ s1 => wp t s1 fun b s2 => if b = true then wp e s2 fun d s3 => acc.length ≤ lim ∧ I r (acc ++ [d]) (wipeS s3 own) else I r acc (wipeS s2 own)) (fin : ∀ acc s, I [] acc s → Q acc s) :
    ∀ (ds acc : List D) (s : S), I ds acc s → wp (lcLoop own asg t e ds acc) s Q
  | [], acc, s, h => wp_rtn.mpr (fin acc s h)
  | x :: r, acc, s, h => by
    show wp (bd (asg x) fun _ => bd t fun b => if b = true then bd e fun d => if acc.length ≤ lim then fun s1 => lcLoop own asg t e r (acc ++ [d]) (wipeS s1 own) else fun _ => none else fun s1 => lcLoop own asg t e r acc (wipeS s1 own)) s Q
    rw [wp_bd]
    refine wp_mono (step x r acc s h) fun _ s1 q => ?_
    rw [wp_bd]
    refine wp_mono q fun b s2 q => ?_
    cases b with
    | true =>
      rw [if_pos rfl] at q ⊢
      rw [wp_bd]
      refine wp_mono q fun d s3 ⟨hl, q⟩ => ?_
      rw [if_pos hl]
      exact wp_lc I step fin r (acc ++ [d]) (wipeS s3 own) q
    | false =>
      rw [if_neg Bool.false_ne_true] at q ⊢
      exact wp_lc I step fin r acc (wipeS s2 own) q
/-! calls -/
def fp (sem : FS) (xs : List Val) (k : Dk) (Q : D → Dk → Prop) : Prop := ∃ d k', sem xs k = some (d, k') ∧ Q d k'
theorem fp_mono {sem : FS} {xs : List Val} {k : Dk} {Q Q' : D → Dk → Prop} (h : fp sem xs k Q) (hq : ∀ d k', Q d k' → Q' d k') : fp sem xs k Q' := let ⟨d, k', e, q⟩ := h; ⟨d, k', e, hq _ _ q⟩
@[simp ↓] theorem wp_vNil {Q : List AV → S → Prop} : wp vNil s Q ↔ Q [] s := wp_rtn
@[simp ↓] theorem wp_vDat {f : M D} {fr : M (List AV)} {Q : List AV → S → Prop} : wp (vDat f fr) s Q ↔ wp f s fun x s1 => wp fr s1 fun xs s2 => Q (.dat x :: xs) s2 := by unfold vDat; simp only [wp_bd, wp_rtn]
@[simp ↓] theorem wp_vDeck {i : Nat} {fr : M (List AV)} {Q : List AV → S → Prop} : wp (vDeck i fr) s Q ↔ s.g[i]? = some (some .deck) ∧ wp fr s fun xs s2 => Q (.deck :: xs) s2 := by
  constructor
  · rintro ⟨a, s', e, q⟩
    unfold vDeck at e
    split at e
    · rename_i h
      obtain ⟨xs, s2, e1, e2⟩ := bd_some e
      obtain ⟨rfl, rfl⟩ := rtn_some e2
      exact ⟨h, xs, _, e1, q⟩
    · cases e
  · rintro ⟨h, xs, s2, e, q⟩
    refine ⟨_, s2, ?_, q⟩
    unfold vDeck
    rw [h]
    show bd fr _ s = _
    unfold bd
    rw [e]; rfl
/-- the arguments as they stand -/
def avv : List AV → Option (List Val)
  | [] => some []
  | .dat d :: r => (avv r).map (Val.dat d :: ·)
  | .deck :: r => (avv r).map (Val.deck :: ·)
  | .bor _ :: _ => none
theorem avv_res {s : S} : ∀ {avs : List AV} {xs : List Val}, avv avs = some xs → avs.mapM (res s) = some xs
  | [], xs, e => by cases e; rfl
  | .dat d :: r, xs, e => by
    unfold avv at e
    cases h : avv r with
    | none => rw [h] at e; cases e
    | some ys => rw [h] at e; cases e; rw [List.mapM_cons, avv_res h]; rfl
  | .deck :: r, xs, e => by
    unfold avv at e
    cases h : avv r with
    | none => rw [h] at e; cases e
    | some ys => rw [h] at e; cases e; rw [List.mapM_cons, avv_res h]; rfl
  | .bor _ :: _, _, e => by cases e
theorem wp_call {sem : FS} {fr : M (List AV)} (h : wp fr s fun avs s1 => ∃ xs, avv avs = some xs ∧ fp sem xs s1.k fun d k' => Q d ⟨s1.g, k'⟩) : wp (eCallB [] sem fr) s Q := by
  unfold eCallB
  rw [wp_bd]
  refine wp_mono h fun avs s1 ⟨xs, e, d, k', e2, q⟩ => ?_
  refine ⟨d, ⟨s1.g, k'⟩, ?_, q⟩
  have e1 := avv_res (s := s1) e
  simp [cellsB, e1, e2]
theorem wp_vPerm {pm : List Nat} {fr : M (List AV)} {Q : List AV → S → Prop} (h : wp fr s fun xs s1 => (xs.length = pm.length ∧ (pm.all fun i => decide (i < xs.length)) = true) ∧ Q (permL pm xs) s1) : wp (vPerm pm fr) s Q := by
  unfold vPerm
  rw [wp_bd]
  refine wp_mono h fun xs s1 ⟨hc, q⟩ => ?_
  rw [if_pos hc]; exact wp_rtn.mpr q
/-- a def by its body -/
theorem fp_of {np n : Nat} {m : M Fl} {xs : List Val} {k : Dk} {Q : D → Dk → Prop} (hl : xs.length = np) (h : wp m ⟨xs.map some ++ List.replicate (n - xs.length) none, k⟩ fun fl s' => ∃ d, fl = .rt d ∧ Q d s'.k) : fp (semOf np n m) xs k Q := by
  obtain ⟨fl, s', e, d, rfl, q⟩ := h
  refine ⟨d, s'.k, ?_, q⟩
  unfold semOf
  rw [if_pos hl, e]
theorem fp_draw {k : Dk} {m : Int} {Q : D → Dk → Prop} (hk : DkV k) (h0 : 0 < m) (h1 : m < 1000000000) (h : ∀ r k', 0 ≤ r → r < m → DkV k' → Q (.int r) k') : fp drawSem [.deck, .dat (.int m)] k Q := by
  obtain ⟨r, k', e, a, b, c⟩ := drw_ok hk h0
  refine ⟨.int r, k', ?_, h r k' a b c⟩
  unfold drawSem
  simp only [h0, h1, and_self, if_true, e]
end
end DL


namespace DL
open PySem PySem.Spec PyProof.Rows L2
/-! DL16: what the operations on data come to, for simp. -/
@[simp] theorem isi_int_none : isiD "int" .none = false := by simp [isiD, isiT, tyD]
@[simp] theorem isi_int_bool {b : Bool} : isiD "int" (.bool b) = true := by simp [isiD, isiT, tyD]
@[simp] theorem isi_int_int {i : Int} : isiD "int" (.int i) = true := by simp [isiD, isiT, tyD]
@[simp] theorem isi_int_str {x : Str} : isiD "int" (.str x) = false := by simp [isiD, isiT, tyD]
@[simp] theorem isi_int_list {l : List D} : isiD "int" (.list l) = false := by simp [isiD, isiT, tyD]
@[simp] theorem isi_int_tuple {l : List D} : isiD "int" (.tuple l) = false := by simp [isiD, isiT, tyD]
@[simp] theorem isi_int_dict {q : List (D × D)} : isiD "int" (.dict q) = false := by simp [isiD, isiT, tyD]
@[simp] theorem isi_bool_none : isiD "bool" .none = false := by simp [isiD, isiT, tyD]
@[simp] theorem isi_bool_bool {b : Bool} : isiD "bool" (.bool b) = true := by simp [isiD, isiT, tyD]
@[simp] theorem isi_bool_int {i : Int} : isiD "bool" (.int i) = false := by simp [isiD, isiT, tyD]
@[simp] theorem isi_bool_str {x : Str} : isiD "bool" (.str x) = false := by simp [isiD, isiT, tyD]
@[simp] theorem isi_bool_list {l : List D} : isiD "bool" (.list l) = false := by simp [isiD, isiT, tyD]
@[simp] theorem isi_bool_tuple {l : List D} : isiD "bool" (.tuple l) = false := by simp [isiD, isiT, tyD]
@[simp] theorem isi_bool_dict {q : List (D × D)} : isiD "bool" (.dict q) = false := by simp [isiD, isiT, tyD]
@[simp] theorem isi_str_none : isiD "str" .none = false := by simp [isiD, isiT, tyD]
@[simp] theorem isi_str_bool {b : Bool} : isiD "str" (.bool b) = false := by simp [isiD, isiT, tyD]
@[simp] theorem isi_str_int {i : Int} : isiD "str" (.int i) = false := by simp [isiD, isiT, tyD]
@[simp] theorem isi_str_str {x : Str} : isiD "str" (.str x) = true := by simp [isiD, isiT, tyD]
@[simp] theorem isi_str_list {l : List D} : isiD "str" (.list l) = false := by simp [isiD, isiT, tyD]
@[simp] theorem isi_str_tuple {l : List D} : isiD "str" (.tuple l) = false := by simp [isiD, isiT, tyD]
@[simp] theorem isi_str_dict {q : List (D × D)} : isiD "str" (.dict q) = false := by simp [isiD, isiT, tyD]
@[simp] theorem isi_list_none : isiD "list" .none = false := by simp [isiD, isiT, tyD]
@[simp] theorem isi_list_bool {b : Bool} : isiD "list" (.bool b) = false := by simp [isiD, isiT, tyD]
@[simp] theorem isi_list_int {i : Int} : isiD "list" (.int i) = false := by simp [isiD, isiT, tyD]
@[simp] theorem isi_list_str {x : Str} : isiD "list" (.str x) = false := by simp [isiD, isiT, tyD]
@[simp] theorem isi_list_list {l : List D} : isiD "list" (.list l) = true := by simp [isiD, isiT, tyD]
@[simp] theorem isi_list_tuple {l : List D} : isiD "list" (.tuple l) = false := by simp [isiD, isiT, tyD]
@[simp] theorem isi_list_dict {q : List (D × D)} : isiD "list" (.dict q) = false := by simp [isiD, isiT, tyD]
@[simp] theorem isi_tuple_none : isiD "tuple" .none = false := by simp [isiD, isiT, tyD]
@[simp] theorem isi_tuple_bool {b : Bool} : isiD "tuple" (.bool b) = false := by simp [isiD, isiT, tyD]
@[simp] theorem isi_tuple_int {i : Int} : isiD "tuple" (.int i) = false := by simp [isiD, isiT, tyD]
@[simp] theorem isi_tuple_str {x : Str} : isiD "tuple" (.str x) = false := by simp [isiD, isiT, tyD]
@[simp] theorem isi_tuple_list {l : List D} : isiD "tuple" (.list l) = false := by simp [isiD, isiT, tyD]
@[simp] theorem isi_tuple_tuple {l : List D} : isiD "tuple" (.tuple l) = true := by simp [isiD, isiT, tyD]
@[simp] theorem isi_tuple_dict {q : List (D × D)} : isiD "tuple" (.dict q) = false := by simp [isiD, isiT, tyD]
@[simp] theorem isi_dict_none : isiD "dict" .none = false := by simp [isiD, isiT, tyD]
@[simp] theorem isi_dict_bool {b : Bool} : isiD "dict" (.bool b) = false := by simp [isiD, isiT, tyD]
@[simp] theorem isi_dict_int {i : Int} : isiD "dict" (.int i) = false := by simp [isiD, isiT, tyD]
@[simp] theorem isi_dict_str {x : Str} : isiD "dict" (.str x) = false := by simp [isiD, isiT, tyD]
@[simp] theorem isi_dict_list {l : List D} : isiD "dict" (.list l) = false := by simp [isiD, isiT, tyD]
@[simp] theorem isi_dict_tuple {l : List D} : isiD "dict" (.tuple l) = false := by simp [isiD, isiT, tyD]
@[simp] theorem isi_dict_dict {q : List (D × D)} : isiD "dict" (.dict q) = true := by simp [isiD, isiT, tyD]
section
variable {i j : Int} {a b l : List D} {x y : Str}
@[simp] theorem dAdd_int : dAdd (.int i) (.int j) = some (.int (i + j)) := rfl
@[simp] theorem dAdd_tup : dAdd (.tuple a) (.tuple b) = if a.length + b.length ≤ lim then some (.tuple (a ++ b)) else none := rfl
@[simp] theorem dAdd_lst : dAdd (.list a) (.list b) = if a.length + b.length ≤ lim then some (.list (a ++ b)) else none := rfl
@[simp] theorem dAdd_str : dAdd (.str x) (.str y) = if x.length + y.length ≤ lim then some (.str (x ++ y)) else none := rfl
@[simp] theorem dSub_int : dSub (.int i) (.int j) = some (.int (i - j)) := rfl
@[simp] theorem dMul_int : dMul (.int i) (.int j) = if i.natAbs.log2 + j.natAbs.log2 < 1000000 then some (.int (i * j)) else none := rfl
@[simp] theorem dMul_tup : dMul (.tuple a) (.int j) = if -(2 ^ 62) < j ∧ j ≤ 1000 ∧ a.length ≤ 1000 then some (.tuple (List.replicate j.toNat a).flatten) else none := rfl
@[simp] theorem dMod_int : dMod (.int i) (.int j) = if j = 0 then none else some (.int (i.fmod j)) := rfl
@[simp] theorem dDiv_int : dDiv (.int i) (.int j) = if 0 < j ∧ j.natAbs.log2 < 9000 then some (.int (i / j)) else none := rfl
@[simp] theorem dPow_int : dPow (.int i) (.int j) = if 0 ≤ j ∧ j ≤ 1000 ∧ i.natAbs < 1000000 then some (.int (i ^ j.toNat)) else none := rfl
@[simp] theorem dLt_int : dLt (.int i) (.int j) = some (.bool (decide (i < j))) := rfl
@[simp] theorem dLe_int : dLe (.int i) (.int j) = some (.bool (decide (i ≤ j))) := rfl
@[simp] theorem dGt_int : dGt (.int i) (.int j) = some (.bool (decide (j < i))) := rfl
@[simp] theorem dGe_int : dGe (.int i) (.int j) = some (.bool (decide (j ≤ i))) := rfl
@[simp] theorem dNeg_int : dNeg (.int i) = some (.int (-i)) := rfl
theorem dEq_sh {u v : D} (hu : SeqAt.shaped u = true) (hv : SeqAt.shaped v = true) (h : ∀ x, u ≠ .str x) : dEq u v = some (.bool (PyData.eqv u v)) := by
  unfold dEq
  split
  · rename_i a b; exact absurd rfl (h a)
  · rw [if_pos ⟨hu, hv⟩]
theorem dNe_sh {u v : D} (hu : SeqAt.shaped u = true) (hv : SeqAt.shaped v = true) (h : ∀ x, u ≠ .str x) : dNe u v = some (.bool (!PyData.eqv u v)) := by
  unfold dNe
  split
  · rename_i a b; exact absurd rfl (h a)
  · rw [if_pos ⟨hu, hv⟩]
@[simp] theorem dEq_int : dEq (.int i) (.int j) = some (.bool (decide (i = j))) := dEq_sh rfl rfl fun _ z => nomatch z
@[simp] theorem dNe_int : dNe (.int i) (.int j) = some (.bool (!decide (i = j))) := dNe_sh rfl rfl fun _ z => nomatch z
@[simp] theorem dEq_str : dEq (.str x) (.str y) = some (.bool (x == y)) := rfl
@[simp] theorem dNe_str : dNe (.str x) (.str y) = some (.bool (!(x == y))) := rfl
@[simp] theorem dIx_tup : dIx (.tuple a) (.int i) = atI a i := rfl
@[simp] theorem dIx_lst : dIx (.list a) (.int i) = atI a i := rfl
theorem atI_of {α : Type} {xs : List α} {n : Nat} (h : n < xs.length) : atI xs (n : Int) = some xs[n] := atI_nat (j := n) (by rw [List.getElem?_eq_getElem h])
theorem atI_int {α : Type} {xs : List α} {i : Int} (h0 : 0 ≤ i) (h : i < xs.length) : atI xs i = some (xs[i.toNat]'(by omega)) := by
  have h2 := atI_of (xs := xs) (n := i.toNat) (by omega)
  have e : ((i.toNat : Nat) : Int) = i := by omega
  rw [e] at h2; exact h2
@[simp] theorem atI_c0 {α : Type} {u : α} {r : List α} : atI (u :: r) 0 = some u := atI_nat (j := 0) rfl
@[simp] theorem atI_c1 {α : Type} {u v : α} {r : List α} : atI (u :: v :: r) 1 = some v := atI_nat (j := 1) rfl
@[simp] theorem atI_c2 {α : Type} {u v w : α} {r : List α} : atI (u :: v :: w :: r) 2 = some w := atI_nat (j := 2) rfl
@[simp] theorem dLen_tup : dLen [.tuple a] = some (.int a.length) := rfl
@[simp] theorem dLen_lst : dLen [.list a] = some (.int a.length) := rfl
@[simp] theorem dLen_str : dLen [.str x] = if x.length ≤ lim then some (.int x.length) else none := rfl
@[simp] theorem dInt_int : dInt [.int i] = some (.int i) := rfl
@[simp] theorem dInt_bool {c : Bool} : dInt [.bool c] = some (.int (if c then 1 else 0)) := rfl
@[simp] theorem dBool_int : dBool [.int i] = some (.bool (i != 0)) := rfl
@[simp] theorem dBool_bool {c : Bool} : dBool [.bool c] = some (.bool c) := rfl
@[simp] theorem dStr_int : dStr [.int i] = if i.natAbs.log2 < 1920 then some (.str (toString i : Str)) else none := rfl
@[simp] theorem dAbs_int : dAbs [.int i] = some (.int (if i < 0 then -i else i)) := rfl
@[simp] theorem dMin2_int : dMin2 [.int i, .int j] = some (.int (if j < i then j else i)) := rfl
@[simp] theorem dMax2_int : dMax2 [.int i, .int j] = some (.int (if j > i then j else i)) := rfl
@[simp] theorem dTupleOf_l : dTupleOf [.list a] = some (.tuple a) := rfl
@[simp] theorem dTupleOf_t : dTupleOf [.tuple a] = some (.tuple a) := rfl
@[simp] theorem dListOf_l : dListOf [.list a] = some (.list a) := rfl
@[simp] theorem dListOf_t : dListOf [.tuple a] = some (.list a) := rfl
@[simp] theorem dRev_t : dRev (.tuple a) = some (.tuple a.reverse) := rfl
@[simp] theorem dRev_l : dRev (.list a) = some (.list a.reverse) := rfl
@[simp] theorem dSl_t {lo hi : Option Int} : dSl (.tuple a) lo hi = some (.tuple (cutG a lo hi)) := rfl
@[simp] theorem dSl_l {lo hi : Option Int} : dSl (.list a) lo hi = some (.list (cutG a lo hi)) := rfl
@[simp] theorem dRepr_1 {d : D} : dRepr [d] = if okR d = true then some (.str d.shown) else none := rfl
theorem cutG_from {α : Type} {xs : List α} {i : Int} (h : 0 ≤ i) : cutG xs (some i) none = xs.drop i.toNat := by
  unfold cutG
  have e : HT.sIx xs.length 0 (some i) = min i.toNat xs.length := by
    have := HT.sIx_nat xs.length 0 i.toNat
    rwa [show ((i.toNat : Nat) : Int) = i by omega] at this
  rw [e, HT.sIx_none]
  by_cases hl : i.toNat ≤ xs.length
  · rw [Nat.min_eq_left hl, List.take_of_length_le (by rw [List.length_drop]; omega)]
  · rw [Nat.min_eq_right (by omega), List.drop_of_length_le (Nat.le_refl _), List.drop_of_length_le (by omega)]; simp
theorem cutG_to {α : Type} {xs : List α} {i : Int} (h : 0 ≤ i) : cutG xs none (some i) = xs.take i.toNat := by
  unfold cutG
  have e : HT.sIx xs.length xs.length (some i) = min i.toNat xs.length := by
    have := HT.sIx_nat xs.length xs.length i.toNat
    rwa [show ((i.toNat : Nat) : Int) = i by omega] at this
  rw [e, HT.sIx_none, List.drop_zero, Nat.sub_zero]
  by_cases hl : i.toNat ≤ xs.length
  · rw [Nat.min_eq_left hl]
  · rw [Nat.min_eq_right (by omega), List.take_length, List.take_of_length_le (by omega)]
theorem cutG_len {α : Type} (xs : List α) (lo hi : Option Int) : (cutG xs lo hi).length ≤ xs.length := by
  unfold cutG; rw [List.length_take, List.length_drop]; omega
theorem cutG_mem {α : Type} {xs : List α} {lo hi : Option Int} {z : α} (h : z ∈ cutG xs lo hi) : z ∈ xs := by
  unfold cutG at h; exact List.mem_of_mem_drop (List.mem_of_mem_take h)
theorem canLay_ofInts : ∀ {l : List D}, (∀ d ∈ l, ∃ i, d = .int i) → PyData.canLayAll0 l = true ∧ PyData.depthAll l = 0
  | [], _ => ⟨by simp [PyData.canLayAll0], by simp [PyData.depthAll]⟩
  | d :: r, h => by
    obtain ⟨i, rfl⟩ := h _ (List.mem_cons_self ..)
    obtain ⟨h1, h2⟩ := canLay_ofInts (l := r) fun d hd => h d (List.mem_cons_of_mem _ hd)
    exact ⟨by simp [PyData.canLayAll0, PyData.canLay0, h1], by simp [PyData.depthAll, PyData.depth, h2]⟩
theorem shaped_ofInts {l : List D} (h : ∀ d ∈ l, ∃ i, d = .int i) : SeqAt.shaped (.list l) = true := by
  obtain ⟨h1, h2⟩ := canLay_ofInts h
  simp [SeqAt.shaped, PyData.canLay0, PyData.depth, h1, h2]
theorem eqv_nil {l : List D} : PyData.eqv (.list l) (.list []) = l.isEmpty := by cases l <;> simp [PyData.eqv, PyData.eqvAll]
theorem eqv_nilT {l : List D} : PyData.eqv (.tuple l) (.tuple []) = l.isEmpty := by cases l <;> simp [PyData.eqv, PyData.eqvAll]
theorem dEq_nil {l : List D} (h : SeqAt.shaped (.list l) = true) : dEq (.list l) (.list []) = some (.bool l.isEmpty) := by rw [dEq_sh h rfl (fun _ z => nomatch z), eqv_nil]
theorem dNe_nilT {l : List D} (h : SeqAt.shaped (.tuple l) = true) : dNe (.tuple l) (.tuple []) = some (.bool (!l.isEmpty)) := by rw [dNe_sh h rfl (fun _ z => nomatch z), eqv_nilT]
@[simp] theorem ex_cx {α : Type} {c : Prop} {u : α} {P : α → Prop} : (∃ d, (c ∧ u = d) ∧ P d) ↔ c ∧ P u := ⟨fun ⟨_, ⟨hc, e⟩, q⟩ => ⟨hc, e ▸ q⟩, fun ⟨hc, q⟩ => ⟨_, ⟨hc, rfl⟩, q⟩⟩
@[simp] theorem res_dat {s : S} {d : D} : res s (.dat d) = some (.dat d) := rfl
@[simp] theorem res_deck {s : S} : res s .deck = some .deck := rfl
@[simp ↓] theorem wp_callE {s : S} {sem : FS} {fr : M (List AV)} {Q : D → S → Prop} : wp (eCallB [] sem fr) s Q ↔ wp fr s fun avs s1 => ∃ xs, avs.mapM (res s1) = some xs ∧ fp sem xs s1.k fun d k' => Q d ⟨s1.g, k'⟩ := by
  unfold eCallB
  rw [wp_bd]
  constructor <;> intro h <;> refine wp_mono h fun avs s1 q => ?_
  · obtain ⟨d, s', e, q⟩ := q
    have h0 : cellsB [] s1 = true := rfl
    simp only [h0, if_true] at e
    split at e
    · rename_i xs hx
      split at e
      · rename_i d' k' hs
        have hm : (([] : List Nat).isEmpty || noMut d') = true := rfl
        simp only [hm, if_true] at e
        cases e
        exact ⟨xs, hx, _, _, hs, q⟩
      · cases e
    · cases e
  · obtain ⟨xs, e, d, k', e2, q⟩ := q
    exact ⟨d, ⟨s1.g, k'⟩, by simp [cellsB, e, e2], q⟩
@[simp ↓] theorem wp_eGive {i : Nat} {s : S} {Q : D → S → Prop} : wp (eGive i) s Q ↔ match s.g[i]? with
    | some (some (.dat d)) => Q d s
    | some (some (.lst ds)) => Q (.list ds) ⟨s.g.set i (some (.dat (.list ds))), s.k⟩
    | _ => False := by
  unfold wp eGive
  generalize s.g[i]? = o
  rcases o with _ | (_ | v)
  · exact ⟨fun ⟨_, _, e, q⟩ => (by cases e), fun h => h.elim⟩
  · exact ⟨fun ⟨_, _, e, q⟩ => (by cases e), fun h => h.elim⟩
  · cases v with
    | dat d => exact ⟨fun ⟨_, _, e, q⟩ => by cases e; exact q, fun q => ⟨_, _, rfl, q⟩⟩
    | lst d => exact ⟨fun ⟨_, _, e, q⟩ => by cases e; exact q, fun q => ⟨_, _, rfl, q⟩⟩
    | dct _ d => exact ⟨fun ⟨_, _, e, q⟩ => (by cases e), fun h => h.elim⟩
    | obj d => exact ⟨fun ⟨_, _, e, q⟩ => (by cases e), fun h => h.elim⟩
    | deck => exact ⟨fun ⟨_, _, e, q⟩ => (by cases e), fun h => h.elim⟩
@[simp ↓] theorem wp_sApp {i : Nat} {f : M D} {s : S} {Z : Fl → S → Prop} : wp (sApp i f) s Z ↔ (∃ l0, s.g[i]? = some (some (.lst l0))) ∧ wp f s fun d s1 => ∃ ds, s1.g[i]? = some (some (.lst ds)) ∧ ds.length ≤ lim ∧ Z .nx ⟨s1.g.set i (some (.lst (ds ++ [d]))), s1.k⟩ := by
  constructor
  · rintro ⟨fl, s', e, q⟩
    unfold sApp at e
    split at e
    · rename_i l0 h0
      obtain ⟨d, s1, e1, e2⟩ := bd_some e
      refine ⟨⟨l0, h0⟩, d, s1, e1, ?_⟩
      split at e2
      · rename_i ds h1
        split at e2
        · rename_i hl; cases e2; exact ⟨ds, h1, hl, q⟩
        · cases e2
      · cases e2
    · cases e
  · rintro ⟨⟨l0, h0⟩, d, s1, e1, ds, h1, hl, q⟩
    refine ⟨_, _, ?_, q⟩
    unfold sApp
    rw [h0]
    show bd f _ s = _
    unfold bd
    rw [e1]
    show (match s1.g[i]? with
      | some (some (.lst ds)) => if ds.length ≤ lim then some (Fl.nx, { s1 with g := s1.g.set i (some (.lst (ds ++ [d]))) }) else none
      | _ => none) = _
    rw [h1]
    show (if ds.length ≤ lim then _ else _) = _
    rw [if_pos hl]
@[simp ↓] theorem wp_gTp1 {g : List D → M Unit} {u : D} {s : S} {Q : Unit → S → Prop} : wp (gTp 1 g (.tuple [u])) s Q ↔ wp (g [u]) s Q := wp_gTp rfl
@[simp ↓] theorem wp_gTp2 {g : List D → M Unit} {u v : D} {s : S} {Q : Unit → S → Prop} : wp (gTp 2 g (.tuple [u, v])) s Q ↔ wp (g [u, v]) s Q := wp_gTp rfl
@[simp ↓] theorem wp_gTp3 {g : List D → M Unit} {u v w : D} {s : S} {Q : Unit → S → Prop} : wp (gTp 3 g (.tuple [u, v, w])) s Q ↔ wp (g [u, v, w]) s Q := wp_gTp rfl
@[simp ↓] theorem wp_pNil {s : S} {Q : List PV → S → Prop} : wp pNil s Q ↔ Q [] s := wp_rtn
@[simp ↓] theorem wp_pDat {f : M D} {fr : M (List PV)} {s : S} {Q : List PV → S → Prop} : wp (pDat f fr) s Q ↔ wp f s fun u s1 => wp fr s1 fun us s2 => Q (.dat u :: us) s2 := by unfold pDat; simp only [wp_bd, wp_rtn]
@[simp ↓] theorem wp_pNew {f : M (List D)} {fr : M (List PV)} {s : S} {Q : List PV → S → Prop} : wp (pNew f fr) s Q ↔ wp f s fun u s1 => wp fr s1 fun us s2 => Q (.new u :: us) s2 := by unfold pNew; simp only [wp_bd, wp_rtn]
@[simp] theorem putP_dat {i : Nat} {d : D} {s : S} : putP i (.dat d) s = ⟨s.g.set i (some (.dat d)), s.k⟩ := rfl
@[simp] theorem putP_new {i : Nat} {d : List D} {s : S} : putP i (.new d) s = ⟨s.g.set i (some (.lst d)), s.k⟩ := rfl
@[simp ↓] theorem wp_sPar {i j : Nat} {fr : M (List PV)} {s : S} {Z : Fl → S → Prop} : wp (sPar i j fr) s Z ↔ wp fr s fun us s1 => ∃ u v, us = [u, v] ∧ Z .nx (putP j v (putP i u s1)) := by
  unfold sPar; rw [wp_bd]
  constructor <;> intro h <;> refine wp_mono h fun us s1 q => ?_
  · match us, q with
    | [u, v], q => obtain ⟨_, _, e, q⟩ := q; cases e; exact ⟨u, v, rfl, q⟩
    | [], q => exact (wp_no.mp q).elim
    | [_], q => exact (wp_no.mp q).elim
    | _ :: _ :: _ :: _, q => exact (wp_no.mp q).elim
  · obtain ⟨u, v, rfl, q⟩ := q
    exact ⟨_, _, rfl, q⟩
@[simp ↓] theorem wp_sPar3 {i j l : Nat} {fr : M (List PV)} {s : S} {Z : Fl → S → Prop} : wp (sPar3 i j l fr) s Z ↔ wp fr s fun us s1 => ∃ u v w, us = [u, v, w] ∧ Z .nx (putP l w (putP j v (putP i u s1))) := by
  unfold sPar3; rw [wp_bd]
  constructor <;> intro h <;> refine wp_mono h fun us s1 q => ?_
  · match us, q with
    | [u, v, w], q => obtain ⟨_, _, e, q⟩ := q; cases e; exact ⟨u, v, w, rfl, q⟩
    | [], q => exact (wp_no.mp q).elim
    | [_], q => exact (wp_no.mp q).elim
    | [_, _], q => exact (wp_no.mp q).elim
    | _ :: _ :: _ :: _ :: _, q => exact (wp_no.mp q).elim
  · obtain ⟨u, v, w, rfl, q⟩ := q
    exact ⟨_, _, rfl, q⟩
theorem fp_eq {sem : FS} {xs : List Val} {k k' : Dk} {d : D} {Q : D → Dk → Prop} (h : sem xs k = some (d, k')) : fp sem xs k Q ↔ Q d k' :=
  ⟨fun ⟨_, _, e, q⟩ => by rw [h] at e; cases e; exact q, fun q => ⟨_, _, h, q⟩⟩
theorem eq_fp {sem : FS} {xs : List Val} {k : Dk} {d : D} (h : fp sem xs k fun d' k' => d' = d ∧ k' = k) : sem xs k = some (d, k) := by
  obtain ⟨d', k', e, rfl, rfl⟩ := h; exact e
end
end DL


namespace DL
open PySem PySem.Spec PyProof.Rows L2
/-! DL17: how long a repr may be. -/
mutual
def sz : D → Nat
  | .none => 5
  | .bool _ => 5
  | .int i => if i.natAbs.log2 < 14190 then i.natAbs.log2 + 3 else 10000000
  | .str x => if x.cps.toList.all (fun c => decide (c < 16 ^ 8)) = true then 10 * x.length + 2 else 10000000
  | .list xs => szA xs + 4
  | .tuple xs => szA xs + 4
  | .dict kvs => if kvs.isEmpty = true then 2 else 10000000
def szA : List D → Nat
  | [] => 0
  | x :: r => sz x + 2 + szA r
end
theorem textFrom_le : ∀ (ts : List Str) (k : Nat) (acc : Str), (textFrom k acc ts).length ≤ acc.length + piled ts
  | [], k, acc => by show acc.length ≤ acc.length + 0; omega
  | t :: r, k, acc => by
    have ih := textFrom_le r (k + 1) (acc ++ (if k > 0 then ", " else "" : String) ++ t)
    have e : (acc ++ (if k > 0 then ", " else "" : String) ++ t).length ≤ acc.length + 2 + t.length := by
      rw [strLen_append, strLen_append]
      split
      · exact Nat.le_refl _
      · show acc.length + 0 + t.length ≤ _; omega
    rw [piled_cons]
    show (textFrom (k + 1) (acc ++ (if k > 0 then ", " else "" : String) ++ t) r).length ≤ _
    omega
theorem listText_le (ts : List Str) : (listText ts).length ≤ piled ts + 2 := by
  unfold listText
  rw [strLen_append]
  have := textFrom_le ts 0 "["
  have e1 : (("[" : String) : Str).length = 1 := rfl
  have e2 : (("]" : String) : Str).length = 1 := rfl
  omega
theorem tupleText_le (ts : List Str) : (tupleText ts).length ≤ piled ts + 4 := by
  unfold tupleText
  rw [strLen_append, strLen_append]
  have e1 : (("(" : String) : Str).length = 1 := rfl
  have e3 : (((if (ts.length == 1) = true then ",)" else ")") : String) : Str).length ≤ 2 := by
    split
    · exact Nat.le_refl _
    · show 1 ≤ 2; omega
  by_cases h : ts = []
  · subst h
    have e4 : (Str.join ", " []).length = 0 := rfl
    omega
  · have := join_length_add ts h
    omega
mutual
theorem sz_ok : ∀ (d : D), sz d ≤ 1000000 → shw d = true ∧ dict0 d = true ∧ d.shown.length ≤ sz d
  | .none, _ => ⟨rfl, rfl, by decide⟩
  | .bool b, _ => ⟨rfl, rfl, by cases b <;> decide⟩
  | .int i, h => by
    unfold sz at h
    split at h
    · rename_i hi
      refine ⟨by simp [shw, hi], rfl, ?_⟩
      have := int_text_length_le (a := i) (k := i.natAbs.log2 + 1) (by omega) (by omega)
      simp only [PyData.shown, sz, hi, if_true]
      rw [PySem.ofString_length]
      omega
    · omega
  | .str x, h => by
    unfold sz at h
    split at h
    · rename_i hx
      refine ⟨rfl, rfl, ?_⟩
      simp only [PyData.shown, sz, hx, if_true]
      refine PySem.StrLaws.reprText_len x fun c hc => ?_
      exact of_decide_eq_true (List.all_eq_true.mp hx c hc)
    · omega
  | .list xs, h => by
    unfold sz at h
    obtain ⟨h1, h2, h3⟩ := szA_ok xs (by omega)
    refine ⟨by simpa [shw] using h1, by simpa [dict0] using h2, ?_⟩
    simp only [PyData.shown, sz]
    have := listText_le (PyData.shownAll xs)
    omega
  | .tuple xs, h => by
    unfold sz at h
    obtain ⟨h1, h2, h3⟩ := szA_ok xs (by omega)
    refine ⟨by simpa [shw] using h1, by simpa [dict0] using h2, ?_⟩
    simp only [PyData.shown, sz]
    have := tupleText_le (PyData.shownAll xs)
    omega
  | .dict kvs, h => by
    unfold sz at h
    split at h
    · rename_i hk
      have : kvs = [] := by simpa using hk
      subst this
      exact ⟨by simp [shw], rfl, by simp only [PyData.shown, PyData.shownKv, sz]; decide⟩
    · omega
theorem szA_ok : ∀ (xs : List D), szA xs ≤ 1000000 → shwA xs = true ∧ dict0A xs = true ∧ piled (PyData.shownAll xs) ≤ szA xs
  | [], _ => ⟨rfl, rfl, by simp [PyData.shownAll, piled, szA]⟩
  | x :: r, h => by
    unfold szA at h
    obtain ⟨a1, a2, a3⟩ := sz_ok x (by omega)
    obtain ⟨b1, b2, b3⟩ := szA_ok r (by omega)
    refine ⟨by simp [shwA, a1, b1], by simp [dict0A, a2, b2], ?_⟩
    simp only [PyData.shownAll, szA, piled_cons]
    omega
end
theorem okR_of {d : D} (h : sz d ≤ 1000000) (hd : d.depth ≤ 60) : okR d = true := by
  obtain ⟨h1, h2, h3⟩ := sz_ok d h
  unfold okR
  simp only [h1, h2, Bool.true_and, Bool.and_eq_true, decide_eq_true_eq]
  exact ⟨show d.shown.length ≤ 1000000 by omega, hd⟩
theorem szA_app : ∀ (a b : List D), szA (a ++ b) = szA a + szA b
  | [], b => by simp [szA]
  | x :: r, b => by rw [List.cons_append, szA, szA, szA_app r b]; omega
theorem depthA_app : ∀ (a b : List D), PyData.depthAll (a ++ b) = max (PyData.depthAll a) (PyData.depthAll b)
  | [], b => by simp [PyData.depthAll]
  | x :: r, b => by rw [List.cons_append, PyData.depthAll, PyData.depthAll, depthA_app r b]; omega
theorem szA_mem : ∀ {l : List D} {d : D}, d ∈ l → sz d + 2 ≤ szA l
  | x :: r, d, h => by
    rw [szA]
    rcases List.mem_cons.mp h with rfl | h
    · omega
    · have := szA_mem h; omega
theorem depthA_mem : ∀ {l : List D} {d : D}, d ∈ l → d.depth ≤ PyData.depthAll l
  | x :: r, d, h => by
    rw [PyData.depthAll]
    rcases List.mem_cons.mp h with rfl | h
    · omega
    · have := depthA_mem h; omega
theorem szA_len : ∀ (l : List D), 2 * l.length ≤ szA l
  | [] => by simp [szA]
  | x :: r => by rw [szA, List.length_cons]; have := szA_len r; omega
theorem szA_le_of {n : Nat} : ∀ {l : List D}, (∀ d ∈ l, sz d ≤ n) → szA l ≤ l.length * (n + 2)
  | [], _ => by simp [szA]
  | x :: r, h => by
    rw [szA, List.length_cons, Nat.succ_mul]
    have h1 := h x (List.mem_cons_self ..)
    have h2 := szA_le_of (l := r) fun d hd => h d (List.mem_cons_of_mem _ hd)
    omega
theorem depthA_le_of {n : Nat} : ∀ {l : List D}, (∀ d ∈ l, d.depth ≤ n) → PyData.depthAll l ≤ n
  | [], _ => by simp [PyData.depthAll]
  | x :: r, h => by
    rw [PyData.depthAll]
    have h1 := h x (List.mem_cons_self ..)
    have h2 := depthA_le_of (l := r) fun d hd => h d (List.mem_cons_of_mem _ hd)
    omega
/-- a part of a list -/
theorem szA_drop : ∀ (l : List D) (n : Nat), szA (l.drop n) ≤ szA l
  | l, 0 => by simp
  | [], n + 1 => by simp
  | x :: r, n + 1 => by rw [List.drop_succ_cons, szA]; have := szA_drop r n; omega
theorem szA_take : ∀ (l : List D) (n : Nat), szA (l.take n) ≤ szA l
  | l, 0 => by simp [szA]
  | [], n + 1 => by simp
  | x :: r, n + 1 => by rw [List.take_succ_cons, szA, szA]; have := szA_take r n; omega
theorem szA_cut (l : List D) (lo hi : Option Int) : szA (cutG l lo hi) ≤ szA l := by
  unfold cutG; exact Nat.le_trans (szA_take _ _) (szA_drop _ _)
theorem depthA_cut (l : List D) (lo hi : Option Int) : PyData.depthAll (cutG l lo hi) ≤ PyData.depthAll l := depthA_le_of fun d hd => depthA_mem (cutG_mem hd)
theorem szA_rev (l : List D) : szA l.reverse = szA l := by
  induction l with
  | nil => rfl
  | cons x r ih => rw [List.reverse_cons, szA_app, ih]; simp [szA]; omega
theorem depthA_rev (l : List D) : PyData.depthAll l.reverse ≤ PyData.depthAll l := depthA_le_of fun d hd => depthA_mem (List.mem_reverse.mp hd)
theorem sz_int {i : Int} (h : i.natAbs < 2 ^ 200) : sz (.int i) ≤ 202 := by
  have hl : i.natAbs.log2 < 200 := by
    by_cases h0 : i.natAbs = 0
    · rw [h0]; decide
    · exact (Nat.log2_lt h0).mpr h
  unfold sz
  rw [if_pos (by omega)]
  omega
end DL


namespace DL
open PySem PySem.Spec PyProof.Rows L2
/-! DL24: the pure side of DL18 to DL23. -/
section
variable {s : S} {Q : D → S → Prop}
@[simp ↓] theorem wp_asE {f : M D} {Q : List D → S → Prop} : wp (asE (aCons f aNil)) s Q ↔ wp f s fun d s1 => ∃ ds, (d = .list ds ∨ d = .tuple ds) ∧ Q (enmD ds) s1 := by
  unfold asE; simp only [wp_bd, wp_aCons, wp_aNil]
  constructor <;> intro h <;> refine wp_mono h fun d s1 q => ?_
  · cases d with
    | list ds => exact ⟨ds, .inl rfl, wp_rtn.mp q⟩
    | tuple ds => exact ⟨ds, .inr rfl, wp_rtn.mp q⟩
    | _ => exact (wp_no.mp q).elim
  · obtain ⟨ds, rfl | rfl, q⟩ := q <;> exact wp_rtn.mpr q
@[simp] theorem peek_lst {i : Nat} {s : S} {ds : List D} (h : s.g[i]? = some (some (.lst ds))) : peek i s = some (.list ds) := by unfold peek; rw [h]
@[simp] theorem peek_dat {i : Nat} {s : S} {d : D} (h : s.g[i]? = some (some (.dat d))) : peek i s = some d := by unfold peek; rw [h]
@[simp ↓] theorem wp_eB1 {op : D → D → Option D} {i : Nat} {fb : M D} : wp (eB1 op i fb) s Q ↔ (peek i s).isSome = true ∧ wp fb s fun y s1 => ∃ x d, peek i s1 = some x ∧ op x y = some d ∧ noMut d = true ∧ Q d s1 := by
  constructor
  · rintro ⟨d, s', e, q⟩
    unfold eB1 at e
    split at e
    · rename_i h
      obtain ⟨y, s1, e1, e2⟩ := bd_some e
      refine ⟨h, y, s1, e1, ?_⟩
      split at e2
      · rename_i x hx
        split at e2
        · rename_i d2 hd
          split at e2
          · rename_i hn; cases e2; exact ⟨x, _, hx, hd, hn, q⟩
          · cases e2
        · cases e2
      · cases e2
    · cases e
  · rintro ⟨h, y, s1, e1, x, d, hx, hd, hn, q⟩
    refine ⟨d, s1, ?_, q⟩
    unfold eB1
    rw [if_pos h]
    unfold bd
    rw [e1]
    simp only [hx, hd, hn, if_true]
@[simp ↓] theorem wp_eB2 {op : D → D → Option D} {i : Nat} {fb : M D} : wp (eB2 op fb i) s Q ↔ wp fb s fun y s1 => ∃ x d, peek i s1 = some x ∧ op y x = some d ∧ noMut d = true ∧ Q d s1 := by
  constructor
  · rintro ⟨d, s', e, q⟩
    unfold eB2 at e
    obtain ⟨y, s1, e1, e2⟩ := bd_some e
    refine ⟨y, s1, e1, ?_⟩
    split at e2
    · rename_i x hx
      split at e2
      · rename_i d2 hd
        split at e2
        · rename_i hn; cases e2; exact ⟨x, _, hx, hd, hn, q⟩
        · cases e2
      · cases e2
    · cases e2
  · rintro ⟨y, s1, e1, x, d, hx, hd, hn, q⟩
    refine ⟨d, s1, ?_, q⟩
    unfold eB2 bd
    rw [e1]
    simp only [hx, hd, hn, if_true]
@[simp ↓] theorem wp_eBC {op : List D → Option D} {i : Nat} : wp (eBC op i) s Q ↔ ∃ x d, peek i s = some x ∧ op [x] = some d ∧ noMut d = true ∧ Q d s := by
  constructor
  · rintro ⟨d, s', e, q⟩
    unfold eBC at e
    split at e
    · rename_i x hx
      split at e
      · rename_i d2 hd
        split at e
        · rename_i hn; cases e; exact ⟨x, _, hx, hd, hn, q⟩
        · cases e
      · cases e
    · cases e
  · rintro ⟨x, d, hx, hd, hn, q⟩
    refine ⟨d, s, ?_, q⟩
    unfold eBC
    simp only [hx, hd, hn, if_true]
/-- an item of a cell -/
def ixc (s : S) (i : Nat) (y : D) : Option D := match s.g[i]? with
  | some (some (.lst ds)) => (match y with
    | .int j => atI ds j
    | _ => none)
  | some (some (.dat x)) => dIx x y
  | _ => none
theorem eIxC_eq {i : Nat} {fb : M D} : eIxC i fb = fun s => if (peek i s).isSome = true then bd fb (fun y s1 => (ixc s1 i y).map fun d => (d, s1)) s else none := by
  funext s
  unfold eIxC
  split
  · refine congrArg (fun f => bd fb f s) ?_
    funext y s1
    unfold ixc
    generalize s1.g[i]? = o
    rcases o with _ | (_ | v)
    · rfl
    · rfl
    · cases v with
      | lst ds =>
        cases y with
        | int j => simp only; cases atI ds j <;> rfl
        | _ => rfl
      | dat x => simp only; cases dIx x y <;> rfl
      | dct _ _ => rfl
      | obj _ => rfl
      | deck => rfl
  · rfl
@[simp ↓] theorem wp_eIxC {i : Nat} {fb : M D} : wp (eIxC i fb) s Q ↔ (peek i s).isSome = true ∧ wp fb s fun y s1 => ∃ d, ixc s1 i y = some d ∧ Q d s1 := by
  rw [eIxC_eq]
  constructor
  · rintro ⟨d, s', e, q⟩
    dsimp only at e
    split at e
    · rename_i h
      obtain ⟨y, s1, e1, e2⟩ := bd_some e
      refine ⟨h, y, s1, e1, ?_⟩
      cases hx : ixc s1 i y with
      | none => rw [hx] at e2; cases e2
      | some d2 => rw [hx] at e2; cases e2; exact ⟨_, hx, q⟩
    · cases e
  · rintro ⟨h, y, s1, e1, d, hx, q⟩
    refine ⟨d, s1, ?_, q⟩
    dsimp only
    rw [if_pos h]
    unfold bd
    rw [e1]
    simp only [hx, Option.map_some]
@[simp ↓] theorem wp_nAdd {fa fb : M D} {Q : List D → S → Prop} : wp (nAdd fa fb) s Q ↔ wp fa s fun x s1 => wp fb s1 fun y s2 => ∃ xs ys, x = .list xs ∧ y = .list ys ∧ xs.length + ys.length ≤ lim ∧ Q (xs ++ ys) s2 := by
  unfold nAdd; simp only [wp_bd]
  constructor <;> intro h <;> refine wp_mono h fun x s1 h => ?_ <;> refine wp_mono h fun y s2 h => ?_
  · cases x with
    | list xs =>
      cases y with
      | list ys =>
        simp only at h
        split at h
        · rename_i hl; exact ⟨xs, ys, rfl, rfl, hl, wp_rtn.mp h⟩
        · exact (wp_no.mp h).elim
      | _ => exact (wp_no.mp h).elim
    | _ => exact (wp_no.mp h).elim
  · obtain ⟨xs, ys, rfl, rfl, hl, q⟩ := h
    show wp (if _ then _ else _) s2 Q
    rw [if_pos hl]; exact wp_rtn.mpr q
@[simp ↓] theorem wp_nAddC {i : Nat} {fb : M D} {Q : List D → S → Prop} : wp (nAddC i fb) s Q ↔ (peek i s).isSome = true ∧ wp fb s fun y s1 => ∃ xs ys, peek i s1 = some (.list xs) ∧ y = .list ys ∧ xs.length + ys.length ≤ lim ∧ Q (xs ++ ys) s1 := by
  constructor
  · rintro ⟨d, s', e, q⟩
    unfold nAddC at e
    split at e
    · rename_i h
      obtain ⟨y, s1, e1, e2⟩ := bd_some e
      refine ⟨h, y, s1, e1, ?_⟩
      split at e2
      · rename_i xs ys hx
        split at e2
        · rename_i hl; cases e2; exact ⟨xs, ys, hx, rfl, hl, q⟩
        · cases e2
      · cases e2
    · cases e
  · rintro ⟨h, y, s1, e1, xs, ys, hx, rfl, hl, q⟩
    refine ⟨xs ++ ys, s1, ?_, q⟩
    unfold nAddC
    rw [if_pos h]
    unfold bd
    rw [e1]
    simp only [hx, hl, if_true]
@[simp ↓] theorem wp_nListOf {f : M D} {Q : List D → S → Prop} : wp (nListOf (aCons f aNil)) s Q ↔ wp f s fun d s1 => ∃ ds, (d = .list ds ∨ d = .tuple ds) ∧ Q ds s1 := by
  unfold nListOf; simp only [wp_bd, wp_aCons, wp_aNil]
  constructor <;> intro h <;> refine wp_mono h fun d s1 q => ?_
  · cases d with
    | list ds => exact ⟨ds, .inl rfl, wp_rtn.mp q⟩
    | tuple ds => exact ⟨ds, .inr rfl, wp_rtn.mp q⟩
    | _ => exact (wp_no.mp q).elim
  · obtain ⟨ds, rfl | rfl, q⟩ := q <;> exact wp_rtn.mpr q
@[simp ↓] theorem wp_prNil {Q : List (D × D) → S → Prop} : wp prNil s Q ↔ Q [] s := wp_rtn
@[simp ↓] theorem wp_prCons {fk fv : M D} {fr : M (List (D × D))} {Q : List (D × D) → S → Prop} : wp (prCons fk fv fr) s Q ↔ wp fk s fun k s1 => wp fv s1 fun v s2 => wp fr s2 fun r s3 => Q ((k, v) :: r) s3 := by
  unfold prCons; simp only [wp_bd, wp_rtn]
@[simp ↓] theorem wp_eDisp {f : M (List (D × D))} : wp (eDisp f) s Q ↔ wp f s fun ds s1 => ∃ d, dDisp ds = some d ∧ Q d s1 := by
  unfold eDisp; simp only [wp_bd, wp_lf]
/-- a cell lent to a callee -/
@[simp ↓] theorem wp_vBor {i : Nat} {fr : M (List AV)} {Q : List AV → S → Prop} : wp (vBor i fr) s Q ↔ (∃ v, s.g[i]? = some (some v) ∧ isCell v = true) ∧ wp fr s fun xs s2 => Q (.bor i :: xs) s2 := by
  unfold wp vBor
  generalize s.g[i]? = o
  rcases o with _ | (_ | v)
  · exact ⟨fun ⟨_, _, e, q⟩ => (by cases e), fun ⟨⟨v, e, _⟩, _⟩ => (by cases e)⟩
  · exact ⟨fun ⟨_, _, e, q⟩ => (by cases e), fun ⟨⟨v, e, _⟩, _⟩ => (by cases e)⟩
  · have go : (∃ a s', (bd fr fun xs => rtn (AV.bor i :: xs)) s = some (a, s') ∧ Q a s') ↔ ∃ a s', fr s = some (a, s') ∧ Q (.bor i :: a) s' := by
      have := (wp_bd (m := fr) (f := fun xs => rtn (AV.bor i :: xs)) (s := s) (Q := Q))
      simp only [wp_rtn] at this
      exact this
    cases v with
    | dat d => exact ⟨fun ⟨_, _, e, q⟩ => (by cases e), fun ⟨⟨v, e, h⟩, _⟩ => (by cases e; cases h)⟩
    | deck => exact ⟨fun ⟨_, _, e, q⟩ => (by cases e), fun ⟨⟨v, e, h⟩, _⟩ => (by cases e; cases h)⟩
    | obj o => exact ⟨fun ⟨_, _, e, q⟩ => (by cases e), fun ⟨⟨v, e, h⟩, _⟩ => (by cases e; cases h)⟩
    | lst ds => exact ⟨fun h => ⟨⟨_, rfl, rfl⟩, go.mp h⟩, fun h => go.mpr h.2⟩
    | dct _ ds => exact ⟨fun h => ⟨⟨_, rfl, rfl⟩, go.mp h⟩, fun h => go.mpr h.2⟩
/-- a call that lends cells -/
@[simp ↓] theorem wp_callC {b : Nat} {B : List Nat} {sem : FS} {fr : M (List AV)} : wp (eCallB (b :: B) sem fr) s Q ↔ wp fr s fun avs s1 => cellsB (b :: B) s1 = true ∧ ∃ xs, avs.mapM (res s1) = some xs ∧ fp sem xs s1.k fun d k' => noMut d = true ∧ Q d ⟨s1.g, k'⟩ := by
  unfold eCallB
  rw [wp_bd]
  constructor <;> intro h <;> refine wp_mono h fun avs s1 q => ?_
  · obtain ⟨d, s', e, q⟩ := q
    dsimp only at e
    split at e
    · rename_i hc
      split at e
      · rename_i xs hx
        split at e
        · rename_i d' k' hs
          split at e
          · rename_i hm
            cases e
            exact ⟨hc, xs, hx, _, _, hs, by simpa using hm, q⟩
          · cases e
        · cases e
      · cases e
    · cases e
  · obtain ⟨hc, xs, e, d, k', e2, hm, q⟩ := q
    refine ⟨d, ⟨s1.g, k'⟩, ?_, q⟩
    simp only [hc, if_true, e, e2, hm, Bool.or_true]
@[simp ↓] theorem wp_vPermE {pm : List Nat} {fr : M (List AV)} {Q : List AV → S → Prop} : wp (vPerm pm fr) s Q ↔ wp fr s fun xs s1 => (xs.length = pm.length ∧ (pm.all fun i => decide (i < xs.length)) = true) ∧ Q (permL pm xs) s1 := by
  refine ⟨fun h => ?_, wp_vPerm⟩
  unfold vPerm at h
  rw [wp_bd] at h
  refine wp_mono h fun xs s1 q => ?_
  split at q
  · rename_i hc; exact ⟨hc, wp_rtn.mp q⟩
  · exact (wp_no.mp q).elim
end
end DL


namespace DL
open PySem PySem.Spec PyProof.Rows L2
/-! RW1: rows as plain Lean. -/
inductive Rs where
  | inp (k : Nat) | set (c : Int) | neg (i : Nat) | add (i j : Nat) | sub (i j : Nat) | mul (i j : Nat)
def Rs.d : Rs → D
  | .inp k => .tuple [.str "in", .int (k : Nat)]
  | .set c => .tuple [.str "set", .int c]
  | .neg i => .tuple [.str "neg", .int (i : Nat)]
  | .add i j => .tuple [.str "+", .int (i : Nat), .int (j : Nat)]
  | .sub i j => .tuple [.str "-", .int (i : Nat), .int (j : Nat)]
  | .mul i j => .tuple [.str "*", .int (i : Nat), .int (j : Nat)]
/-- may be the step with the number m in a row of n inputs -/
def Rs.ok (n m : Nat) : Rs → Prop
  | .inp k => k < n
  | .set c => -100000000000000000000 ≤ c ∧ c ≤ 100000000000000000000
  | .neg i => i < m
  | .add i j => i < m ∧ j < m
  | .sub i j => i < m ∧ j < m
  | .mul i j => i < m ∧ j < m
def okFrom (n : Nat) : Nat → List Rs → Prop
  | _, [] => True
  | m, s :: r => s.ok n m ∧ okFrom n (m + 1) r
theorem okFrom_app {n : Nat} : ∀ {m : Nat} {a b : List Rs}, okFrom n m (a ++ b) ↔ okFrom n m a ∧ okFrom n (m + a.length) b
  | m, [], b => by simp [okFrom]
  | m, s :: r, b => by
    rw [List.cons_append, okFrom, okFrom, okFrom_app, List.length_cons, show m + 1 + r.length = m + (r.length + 1) by omega, and_assoc]
theorem okFrom_snoc {n m : Nat} {a : List Rs} {s : Rs} : okFrom n m (a ++ [s]) ↔ okFrom n m a ∧ s.ok n (m + a.length) := by
  rw [okFrom_app]; simp [okFrom]
theorem okFrom_mem {n : Nat} : ∀ {m : Nat} {a : List Rs} {i : Nat} (h : i < a.length), okFrom n m a → (a[i]).ok n (m + i)
  | m, s :: r, 0, _, o => by simpa using o.1
  | m, s :: r, i + 1, h, o => by
    have := okFrom_mem (i := i) (by simpa using h) o.2
    rw [List.getElem_cons_succ, show m + (i + 1) = m + 1 + i by omega]; exact this
/-- going from step to step -/
def runS {α : Type} (op : List α → Rs → α) : List Rs → List α → List α
  | [], acc => acc
  | s :: r, acc => runS op r (acc ++ [op acc s])
theorem runS_app {α : Type} {op : List α → Rs → α} : ∀ {a b : List Rs} {acc : List α}, runS op (a ++ b) acc = runS op b (runS op a acc)
  | [], _, _ => rfl
  | s :: r, b, acc => by rw [List.cons_append, runS, runS, runS_app]
theorem runS_snoc {α : Type} {op : List α → Rs → α} {a : List Rs} {s : Rs} {acc : List α} : runS op (a ++ [s]) acc = runS op a acc ++ [op (runS op a acc) s] := by
  rw [runS_app]; rfl
theorem runS_len {α : Type} {op : List α → Rs → α} : ∀ {a : List Rs} {acc : List α}, (runS op a acc).length = acc.length + a.length
  | [], _ => rfl
  | s :: r, acc => by rw [runS, runS_len, List.length_append, List.length_cons]; simp; omega
/-- sizes, with least for a set number -/
def Rs.size (f : List Nat) : Rs → Nat
  | .inp _ => 1
  | .set _ => 1
  | .neg i => f.getD i 0
  | .add i j => max (f.getD i 0) (f.getD j 0)
  | .sub i j => max (f.getD i 0) (f.getD j 0)
  | .mul i j => f.getD i 0 + f.getD j 0
def sizesS (a : List Rs) : List Nat := runS Rs.size a []
theorem sizesS_snoc {a : List Rs} {s : Rs} : sizesS (a ++ [s]) = sizesS a ++ [s.size (sizesS a)] := runS_snoc
theorem sizesS_len {a : List Rs} : (sizesS a).length = a.length := by unfold sizesS; rw [runS_len]; simp
def intsD (l : List Nat) : List D := l.map fun n => .int (n : Nat)
def spsD (l : List Rs) : List D := l.map Rs.d
theorem intsD_len {l : List Nat} : (intsD l).length = l.length := by simp [intsD]
theorem spsD_len {l : List Rs} : (spsD l).length = l.length := by simp [spsD]
theorem intsD_snoc {l : List Nat} {n : Nat} : intsD l ++ [.int (n : Nat)] = intsD (l ++ [n]) := by simp [intsD]
theorem spsD_snoc {l : List Rs} {s : Rs} : spsD l ++ [s.d] = spsD (l ++ [s]) := by simp [spsD]
theorem intsD_get {l : List Nat} {i : Nat} (h : i < l.length) : atI (intsD l) (i : Int) = some (.int (l.getD i 0 : Nat)) := by
  refine atI_nat ?_
  simp [intsD, List.getElem?_map, List.getElem?_eq_getElem h]
theorem spsD_get {l : List Rs} {i : Nat} (h : i < l.length) : atI (spsD l) (i : Int) = some (l[i]).d := by
  refine atI_nat ?_
  simp [spsD, List.getElem?_map, List.getElem?_eq_getElem h]
def rowD (n : Nat) (a : List Rs) (e : List Nat) : D := .tuple [.int (n : Nat), .tuple (spsD a), .tuple (intsD e)]
/-! ### plain bounds -/
mutual
def gv : D → Bool
  | .int i => decide (i.natAbs < 2 ^ 150)
  | .str x => PyData.strOk x
  | .none => true
  | .tuple l => gvA l
  | _ => false
def gvA : List D → Bool
  | [] => true
  | x :: r => gv x && gvA r
end
mutual
theorem gv_lay : ∀ {d : D}, gv d = true → d.canLay0 = true
  | .int i, _ => by simp [PyData.canLay0]
  | .str x, h => by simpa [PyData.canLay0, gv] using h
  | .none, _ => by simp [PyData.canLay0]
  | .tuple l, h => by simpa [PyData.canLay0] using gvA_lay (l := l) (by simpa [gv] using h)
  | .bool _, h => by simp [gv] at h
  | .list _, h => by simp [gv] at h
  | .dict _, h => by simp [gv] at h
theorem gvA_lay : ∀ {l : List D}, gvA l = true → PyData.canLayAll0 l = true
  | [], _ => by simp [PyData.canLayAll0]
  | x :: r, h => by
    rw [gvA, Bool.and_eq_true] at h
    simp [PyData.canLayAll0, gv_lay h.1, gvA_lay h.2]
end
theorem gvA_mem : ∀ {l : List D} {d : D}, gvA l = true → d ∈ l → gv d = true
  | x :: r, d, h, hd => by
    rw [gvA, Bool.and_eq_true] at h
    rcases List.mem_cons.mp hd with rfl | hd
    · exact h.1
    · exact gvA_mem h.2 hd
theorem gvA_of : ∀ {l : List D}, (∀ d ∈ l, gv d = true) → gvA l = true
  | [], _ => rfl
  | x :: r, h => by
    rw [gvA, h x (List.mem_cons_self ..), gvA_of fun d hd => h d (List.mem_cons_of_mem _ hd)]; rfl
theorem lg_lt {i : Int} {n : Nat} (hn : 0 < n) (h : i.natAbs < 2 ^ n) : i.natAbs.log2 < n := by
  by_cases h0 : i.natAbs = 0
  · rw [h0]; simpa using hn
  · exact (Nat.log2_lt h0).mpr h
theorem sz_tup {l : List D} : sz (.tuple l) = szA l + 4 := by rw [sz]
theorem sz_lst {l : List D} : sz (.list l) = szA l + 4 := by rw [sz]
theorem dp_tup {l : List D} : PyData.depth (.tuple l) = PyData.depthAll l + 1 := by rw [PyData.depth]
theorem dp_lst {l : List D} : PyData.depth (.list l) = PyData.depthAll l + 1 := by rw [PyData.depth]
theorem sz_smallInt {i : Int} (h : i.natAbs < 2 ^ 151) : sz (.int i) ≤ 160 := by
  have hl := lg_lt (n := 151) (by decide) h
  unfold sz
  rw [if_pos (by omega)]; omega
theorem sz_intB {i : Int} {n : Nat} (hn : 0 < n) (hn2 : n ≤ 14190) (h : i.natAbs < 2 ^ n) : sz (.int i) ≤ n + 2 := by
  have hl := lg_lt hn h
  unfold sz
  rw [if_pos (by omega)]; omega
theorem sz_nat {i : Nat} (h : i < 1024) : sz (.int (i : Int)) ≤ 12 := sz_intB (n := 10) (by decide) (by decide) (by simpa using h)
/-- a value that may be shown -/
def Gd (B : Nat) (d : D) : Prop := sz d ≤ B ∧ d.depth ≤ 20
theorem Gd.ok {B : Nat} {d : D} (h : Gd B d) (hB : B ≤ 1000000) : okR d = true := okR_of (Nat.le_trans h.1 hB) (by have := h.2; omega)
theorem Rs.d_sz {n m : Nat} {s : Rs} (h : s.ok n m) (hn : n ≤ 1000) (hm : m ≤ 1000) : sz s.d ≤ 200 ∧ s.d.depth ≤ 1 ∧ gv s.d = true := by
  have p150 : (2 : Nat) ^ 150 = 1427247692705959881058285969449495136382746624 := by decide
  have i1 : ∀ x : Nat, x < m → sz (.int (x : Int)) ≤ 12 ∧ (x : Int).natAbs < 2 ^ 150 := fun x hx => ⟨sz_nat (by omega), by omega⟩
  have s1 : sz (.str "in") = 22 := by decide
  have s2 : sz (.str "set") = 32 := by decide
  have s3 : sz (.str "neg") = 32 := by decide
  have s4 : sz (.str "+") = 12 := by decide
  have s5 : sz (.str "-") = 12 := by decide
  have s6 : sz (.str "*") = 12 := by decide
  have g1 : PyData.strOk "in" = true := by decide +kernel
  have g2 : PyData.strOk "set" = true := by decide +kernel
  have g3 : PyData.strOk "neg" = true := by decide +kernel
  have g4 : PyData.strOk "+" = true := by decide +kernel
  have g5 : PyData.strOk "-" = true := by decide +kernel
  have g6 : PyData.strOk "*" = true := by decide +kernel
  have p150 : (2 : Nat) ^ 150 = 1427247692705959881058285969449495136382746624 := by decide
  have p70 : (2 : Nat) ^ 70 = 1180591620717411303424 := by decide
  cases s with
  | inp k =>
    have hk : k < n := h
    have := sz_nat (i := k) (by omega)
    refine ⟨?_, ?_, ?_⟩
    · simp only [Rs.d, sz_tup, szA, s1]; omega
    · simp [Rs.d, PyData.depth, PyData.depthAll]
    · simp [Rs.d, gv, gvA, g1]; omega
  | set c =>
    have hc : -100000000000000000000 ≤ c ∧ c ≤ 100000000000000000000 := h
    have := sz_intB (i := c) (n := 70) (by decide) (by decide) (by omega)
    refine ⟨?_, ?_, ?_⟩
    · simp only [Rs.d, sz_tup, szA, s2]; omega
    · simp [Rs.d, PyData.depth, PyData.depthAll]
    · simp [Rs.d, gv, gvA, g2]; omega
  | neg i =>
    have hk : i < m := h
    have := i1 i hk
    refine ⟨?_, ?_, ?_⟩
    · simp only [Rs.d, sz_tup, szA, s3]; omega
    · simp [Rs.d, PyData.depth, PyData.depthAll]
    · simp [Rs.d, gv, gvA, g3]; omega
  | add i j =>
    have hk : i < m ∧ j < m := h
    have a := i1 i hk.1
    have b := i1 j hk.2
    refine ⟨?_, ?_, ?_⟩
    · simp only [Rs.d, sz_tup, szA, s4]; omega
    · simp [Rs.d, PyData.depth, PyData.depthAll]
    · simp [Rs.d, gv, gvA, g4]; omega
  | sub i j =>
    have hk : i < m ∧ j < m := h
    have a := i1 i hk.1
    have b := i1 j hk.2
    refine ⟨?_, ?_, ?_⟩
    · simp only [Rs.d, sz_tup, szA, s5]; omega
    · simp [Rs.d, PyData.depth, PyData.depthAll]
    · simp [Rs.d, gv, gvA, g5]; omega
  | mul i j =>
    have hk : i < m ∧ j < m := h
    have a := i1 i hk.1
    have b := i1 j hk.2
    refine ⟨?_, ?_, ?_⟩
    · simp only [Rs.d, sz_tup, szA, s6]; omega
    · simp [Rs.d, PyData.depth, PyData.depthAll]
    · simp [Rs.d, gv, gvA, g6]; omega
theorem okFrom_all {n : Nat} : ∀ {m : Nat} {a : List Rs}, okFrom n m a → ∀ s ∈ a, ∃ j, j < m + a.length ∧ s.ok n j
  | m, s :: r, o, t, ht => by
    rcases List.mem_cons.mp ht with rfl | ht
    · exact ⟨m, by simp, o.1⟩
    · obtain ⟨j, hj, o2⟩ := okFrom_all o.2 t ht
      exact ⟨j, by simp; omega, o2⟩
theorem rowD_gd {n : Nat} {a : List Rs} {e : List Nat} (h : okFrom n 0 a) (hn : n ≤ 1000) (ha : a.length ≤ 1000) (he : ∀ x ∈ e, x < a.length) : sz (rowD n a e) ≤ 30 + 202 * a.length + 14 * e.length ∧ (rowD n a e).depth ≤ 3 ∧ gv (rowD n a e) = true := by
  have h1 : ∀ d ∈ spsD a, sz d ≤ 200 ∧ d.depth ≤ 1 ∧ gv d = true := fun d hd => by
    simp only [spsD, List.mem_map] at hd
    obtain ⟨s, hs, rfl⟩ := hd
    obtain ⟨j, hj, o⟩ := okFrom_all h s hs
    exact Rs.d_sz o hn (by omega)
  have h2 : ∀ d ∈ intsD e, sz d ≤ 12 ∧ d.depth ≤ 0 ∧ gv d = true := fun d hd => by
    simp only [intsD, List.mem_map] at hd
    obtain ⟨x, hx, rfl⟩ := hd
    have := he x hx
    have p150 : (2 : Nat) ^ 150 = 1427247692705959881058285969449495136382746624 := by decide
    exact ⟨sz_nat (by omega), by simp [PyData.depth], by simp [gv]; omega⟩
  have z1 := szA_le_of fun d hd => (h1 d hd).1
  have z2 := szA_le_of fun d hd => (h2 d hd).1
  have z3 := depthA_le_of fun d hd => (h1 d hd).2.1
  have z4 := depthA_le_of fun d hd => (h2 d hd).2.1
  have z5 := gvA_of fun d hd => (h1 d hd).2.2
  have z6 := gvA_of fun d hd => (h2 d hd).2.2
  have z7 := sz_nat (i := n) (by omega)
  rw [spsD_len] at z1
  rw [intsD_len] at z2
  have p150 : (2 : Nat) ^ 150 = 1427247692705959881058285969449495136382746624 := by decide
  unfold rowD
  refine ⟨?_, ?_, ?_⟩
  · simp only [sz_tup, szA]; omega
  · simp only [dp_tup, PyData.depthAll, PyData.depth]; omega
  · simp [gv, gvA, z5, z6]; omega
/-! ### a seam -/
theorem wp_seqM {m n : M Fl} {s : S} {Z : Fl → S → Prop} (R : S → Prop) (h1 : wp m s fun fl s1 => fl = .nx ∧ R s1) (h2 : ∀ s1, R s1 → wp n s1 Z) : wp (sSeq m n) s Z := by
  rw [wp_sSeq]
  refine wp_mono h1 fun fl s1 ⟨e, q⟩ => ?_
  subst e; exact h2 s1 q
end DL


namespace DL
open PySem PySem.Spec PyProof.Rows L2
/-! RW2: what the law's own defs are spoken of with. -/
def isI (v : D) (a b : Int) : Bool := match v with
  | .int i => decide (a ≤ i) && decide (i ≤ b)
  | _ => false
def isStep (v : D) (n m : Int) : Bool := match v with
  | .tuple [.str w, y] => if w == "in" then isI y 0 (n - 1) else if w == "set" then isI y (-100000000000000000000) 100000000000000000000 else w == "neg" && isI y 0 (m - 1)
  | .tuple [.str w, y, z] => (w == "+" || w == "-" || w == "*") && (isI y 0 (m - 1) && isI z 0 (m - 1))
  | _ => false
def oddL : List D := [.none, .bool true, .bool false, .int 0, .int 1, .int 2, .int (-1), .int 1000000000000000000000000000000, .str "", .str "0", .str "in", .tuple [], .list [], .dict [], .tuple [.int 0], .tuple [.int 1], .tuple [.int 0, .int 1], .tuple [.bool true, .int 0], .list [.int 0]] ++
  [.tuple [.str "in", .int 0], .tuple [.str "set", .int 1], .tuple [.str "neg", .int 0], .tuple [.str "+", .int 0, .int 0], .tuple [.str "*", .int 0], .tuple [.str "in", .bool true], .tuple [.str "+", .int 0, .int (-1)], .tuple [.str "/", .int 0, .int 0]] ++
  [.tuple [.none], .tuple [.int (-1)], .tuple [.int 1, .tuple [.tuple [.str "in", .int 0]], .tuple [.int 0]], .tuple [.int 0, .tuple [], .tuple []], .tuple [.tuple [.int 0], .int 1], .tuple [.str "in"], .int 64, .int 65]
theorem odd_small : ∀ d ∈ oddL, sz d ≤ 200 ∧ d.depth ≤ 4 := by decide +kernel
theorem sz_text {i : Int} (h : i.natAbs < 2 ^ 150) : sz (.str (toString i : String)) ≤ 1600 := by
  have hl := lg_lt (n := 150) (by decide) h
  have hlen := int_text_length_le (a := i) (k := 150) (by decide) hl
  unfold sz
  have e : (Str.ofString (toString i)).length = (toString i).length := PySem.ofString_length _
  rw [if_pos, e]
  · omega
  · rw [List.all_eq_true]
    intro c hc
    rw [Str.ofString_eq_toList] at hc
    simp at hc
    obtain ⟨a, _, rfl⟩ := hc
    have := a.valid
    have h2 : a.toNat < 1114112 := by
      rcases a.valid with h | h
      · exact Nat.lt_trans h (by decide)
      · exact h.2
    exact decide_eq_true (Nat.lt_trans h2 (by decide))
/-- what is told of a bent value -/
def Bnt (n p m : Nat) (d : D) : Prop := sz d ≤ (m + 2) * n + 2000 + 20 * m ∧ d.depth ≤ p + 6 + m
theorem szA_split (l : List D) (a : Nat) : szA (l.take a) + szA (l.drop (a + 1)) ≤ szA l := by
  have h1 : szA l = szA (l.take a) + szA (l.drop a) := by rw [← szA_app, List.take_append_drop]
  have h2 : szA (l.drop (a + 1)) ≤ szA (l.drop a) := by
    rw [show l.drop (a + 1) = (l.drop a).drop 1 by rw [List.drop_drop]]
    exact szA_drop _ _
  omega
theorem gv_shaped {l : List D} {p : Nat} (hg : gv (.tuple l) = true) (hd : PyData.depth (.tuple l) ≤ p) (hp : p ≤ 40) : SeqAt.shaped (.tuple l) = true := by
  unfold SeqAt.shaped
  rw [gv_lay hg, Bool.true_and, decide_eq_true_eq]; omega
theorem Bnt.up {n p m : Nat} {d : D} (h : Bnt n p m d) : Bnt n p (m + 1) d := by
  unfold Bnt at h ⊢
  have : (m + 1 + 2) * n = (m + 2) * n + n := by rw [show m + 1 + 2 = (m + 2) + 1 by omega, Nat.succ_mul]
  omega
theorem Bnt.from0 {n p : Nat} {d : D} (h : Bnt n p 0 d) : ∀ m, Bnt n p m d
  | 0 => h
  | m + 1 => (Bnt.from0 h m).up
section
variable {x a b c : Str} {i j m : Int}
theorem dInS {x : Str} {ys : List D} (h : ys.all flatD = true) : dIn (.str x) (.tuple ys) = some (.bool (inD (.str x) ys)) := by
  unfold dIn dInB
  simp [h, flatD]
theorem dInI {i : Int} {ys : List D} (h : ys.all flatD = true) : dIn (.int i) (.tuple ys) = some (.bool (inD (.int i) ys)) := by
  unfold dIn dInB
  simp [h, flatD]
theorem dNotInI {i : Int} {ys : List D} (h : ys.all flatD = true) : dNotIn (.int i) (.tuple ys) = some (.bool (!inD (.int i) ys)) := by
  unfold dNotIn dInB
  simp [h, flatD]
@[simp] theorem dIn_s2 : dIn (.str x) (.tuple [.str a, .str b]) = some (.bool (x == a || x == b)) := by
  rw [dInS (by simp [flatD])]; simp only [inD, PyData.eqv, List.any_cons, List.any_nil, Bool.or_false]
  rw [BEq.comm (a := a), BEq.comm (a := b)]
@[simp] theorem dIn_s3 : dIn (.str x) (.tuple [.str a, .str b, .str c]) = some (.bool (x == a || x == b || x == c)) := by
  rw [dInS (by simp [flatD])]; simp only [inD, PyData.eqv, List.any_cons, List.any_nil, Bool.or_false, Bool.or_assoc]
  rw [BEq.comm (a := a), BEq.comm (a := b), BEq.comm (a := c)]
@[simp] theorem dNotIn_i2 : dNotIn (.int i) (.tuple [.int j, .int m]) = some (.bool (!(i == j || i == m))) := by
  rw [dNotInI (by simp [flatD])]; simp only [inD, PyData.eqv, List.any_cons, List.any_nil, Bool.or_false]
  rw [BEq.comm (a := j), BEq.comm (a := m)]
end
theorem ofS_inj {a b : String} : Str.ofString a = Str.ofString b ↔ a = b := by
  constructor
  · intro h
    rw [Str.ofString_eq_toList, Str.ofString_eq_toList] at h
    injection h with h
    have h2 : a.toList.map Char.toNat = b.toList.map Char.toNat := by simpa using h
    have h3 : a.toList = b.toList := by
      have inj : ∀ {x y : Char}, x.toNat = y.toNat → x = y := fun {x y} h => Char.ext (UInt32.toNat_inj.mp h)
      generalize a.toList = p at h2
      generalize b.toList = q at h2
      induction p generalizing q with
      | nil => cases q with
        | nil => rfl
        | cons => simp at h2
      | cons u r ih => cases q with
        | nil => simp at h2
        | cons w t =>
          simp only [List.map_cons, List.cons.injEq] at h2
          rw [inj h2.1, ih t h2.2]
    exact String.toList_inj.mp h3
  · rintro rfl; rfl
@[simp] theorem ofS_eq {a b : String} : (Str.ofString a = Str.ofString b) = (a = b) := propext ofS_inj
@[simp] theorem ofS_beq {a b : String} : (Str.ofString a == Str.ofString b) = decide (a = b) := by
  rw [Bool.eq_iff_iff]; simp
@[simp ↓] theorem wp_lc_nil {own : List Nat} {asg : D → M Unit} {t : M Bool} {e : M D} {acc : List D} {s : S} {Q : List D → S → Prop} : wp (lcLoop own asg t e [] acc) s Q ↔ Q acc s := wp_rtn
@[simp ↓] theorem wp_lc_cons {own : List Nat} {asg : D → M Unit} {t : M Bool} {e : M D} {x : D} {r acc : List D} {s : S} {Q : List D → S → Prop} : wp (lcLoop own asg t e (x :: r) acc) s Q ↔ wp (asg x) s fun _ s1 => wp t s1 fun b s2 => if b = true then wp e s2 fun d s3 => acc.length ≤ lim ∧ wp (lcLoop own asg t e r (acc ++ [d])) (wipeS s3 own) Q else wp (lcLoop own asg t e r acc) (wipeS s2 own) Q := by
  show wp (bd (asg x) fun _ => bd t fun b => if b = true then bd e fun d => if acc.length ≤ lim then fun s1 => lcLoop own asg t e r (acc ++ [d]) (wipeS s1 own) else fun _ => none else fun s1 => lcLoop own asg t e r acc (wipeS s1 own)) s Q ↔ _
  simp only [wp_bd, wp_ite]
  have h2 : ∀ b s2, (if b = true then wp e s2 fun a s1 => if acc.length ≤ lim then wp (fun s1 => lcLoop own asg t e r (acc ++ [a]) (wipeS s1 own)) s1 Q else wp (fun _ => none) s1 Q else wp (fun s1 => lcLoop own asg t e r acc (wipeS s1 own)) s2 Q) = (if b = true then wp e s2 fun d s3 => acc.length ≤ lim ∧ wp (lcLoop own asg t e r (acc ++ [d])) (wipeS s3 own) Q else wp (lcLoop own asg t e r acc) (wipeS s2 own) Q) := by
    intro b s2
    split
    · refine congrArg (wp e s2) ?_
      funext a s1
      split
      · rename_i h; simp only [h, true_and]; rfl
      · rename_i h; simp only [h, false_and]; exact propext wp_no
    · rfl
  simp only [h2]
@[simp ↓] theorem wp_loop_nil {asg : D → M Unit} {b : M Fl} {s : S} {Z : Fl → S → Prop} : wp (loop asg b []) s Z ↔ Z .nx s := wp_rtn
@[simp] theorem cutG_1 {α : Type} {x : α} {r : List α} : cutG (x :: r) (some 1) none = r := by rw [cutG_from (by decide)]; rfl
@[simp] theorem fp_no {sem : FS} {xs : List Val} {k : Dk} : fp sem xs k (fun _ _ => False) ↔ False := ⟨fun ⟨_, _, _, h⟩ => h, False.elim⟩
theorem drop_cons {α : Type} {l : List α} {i : Nat} {x : α} {r : List α} (h : l.drop i = x :: r) : ∃ h : i < l.length, x = l[i] ∧ r = l.drop (i + 1) := by
  have hi : i < l.length := by
    by_cases h2 : i < l.length
    · exact h2
    · rw [List.drop_of_length_le (by omega)] at h; cases h
  refine ⟨hi, ?_⟩
  rw [List.drop_eq_getElem_cons hi] at h
  injection h with h1 h2
  exact ⟨h1.symm, h2.symm⟩
theorem drop_nil {α : Type} {l : List α} {i : Nat} (h : l.drop i = []) : l.length ≤ i := by simpa using h
theorem enm_drop {l : List D} {i : Nat} {x : D} {r : List D} (h : (enmD l).drop i = x :: r) : ∃ h : i < l.length, x = .tuple [.int (i : Nat), l[i]] ∧ r = (enmD l).drop (i + 1) := by
  obtain ⟨hi, rfl, rfl⟩ := drop_cons h
  have hi2 : i < l.length := by rw [enmD_len] at hi; exact hi
  refine ⟨hi2, ?_, rfl⟩
  have := enmD_get (ds := l) (i := i) (d := l[i]) (by rw [List.getElem?_eq_getElem hi2])
  rw [List.getElem?_eq_getElem hi] at this
  exact Option.some.inj this
theorem enm_nil {l : List D} {i : Nat} (h : (enmD l).drop i = []) : l.length ≤ i := by
  have := drop_nil h; rwa [enmD_len] at this
theorem rng_len {a : Int} {n : Nat} : (rngD a n).length = n := by simp [rngD]
theorem rng_drop {a : Int} {n i : Nat} {x : D} {r : List D} (h : (rngD a n).drop i = x :: r) : i < n ∧ x = .int (a + (i : Nat)) ∧ r = (rngD a n).drop (i + 1) := by
  obtain ⟨hi, rfl, rfl⟩ := drop_cons h
  refine ⟨by rw [rng_len] at hi; exact hi, ?_, rfl⟩
  simp [rngD]
theorem rng_nil {a : Int} {n i : Nat} (h : (rngD a n).drop i = []) : n ≤ i := by
  have := drop_nil h; rwa [rng_len] at this
theorem drop_at {α : Type} {l : List α} {i : Nat} (h : i < l.length) : l.drop i = l[i] :: l.drop (i + 1) := List.drop_eq_getElem_cons h
theorem atI_at {α : Type} {l : List α} {i : Nat} (h : i < l.length) : atI l (i : Int) = some l[i] := atI_of h
@[simp] theorem cellsB_nil {s : S} : cellsB [] s = true := rfl
def cellO : Option (Option Val) → Bool
  | some (some v) => isCell v
  | _ => false
@[simp] theorem cellsB_cons {i : Nat} {B : List Nat} {s : S} : cellsB (i :: B) s = (cellO s.g[i]? && cellsB B s) := by
  unfold cellsB
  rw [List.all_cons]
  refine congrArg (· && _) ?_
  unfold cellO
  generalize s.g[i]? = o
  rcases o with _ | (_ | v) <;> rfl
@[simp] theorem cellO_lst {ds : List D} : cellO (some (some (.lst ds))) = true := rfl
@[simp] theorem cellO_dct {t : Bool} {ds : List (D × D)} : cellO (some (some (.dct t ds))) = true := rfl
@[simp] theorem isCell_lst {ds : List D} : isCell (.lst ds) = true := rfl
@[simp] theorem isCell_dct {t : Bool} {ds : List (D × D)} : isCell (.dct t ds) = true := rfl
@[simp] theorem res_bor {s : S} {i : Nat} : res s (.bor i) = resB s.g[i]? := rfl
@[simp] theorem resB_lst {ds : List D} : resB (some (some (.lst ds))) = some (.dat (.list ds)) := rfl
@[simp] theorem resB_dct {t : Bool} {ds : List (D × D)} : resB (some (some (.dct t ds))) = some (.dat (.dict ds)) := rfl
@[simp] theorem noMut_int {i : Int} : noMut (.int i) = true := by simp [noMut]
@[simp] theorem noMut_bool {i : Bool} : noMut (.bool i) = true := by simp [noMut]
@[simp] theorem noMut_str {i : Str} : noMut (.str i) = true := by simp [noMut]
@[simp] theorem noMut_none : noMut .none = true := by simp [noMut]
@[simp] theorem noMut_tuple {l : List D} : noMut (.tuple l) = noMutA l := by simp [noMut]
@[simp] theorem noMutA_nil : noMutA [] = true := by simp [noMutA]
@[simp] theorem noMutA_cons {x : D} {l : List D} : noMutA (x :: l) = (noMut x && noMutA l) := by simp [noMutA]
def ixO (o : Option (Option Val)) (y : D) : Option D := match o with
  | some (some (.lst ds)) => (match y with
    | .int j => atI ds j
    | _ => none)
  | some (some (.dat x)) => dIx x y
  | _ => none
@[simp] theorem ixc_g {s : S} {i : Nat} {y : D} : ixc s i y = ixO s.g[i]? y := rfl
@[simp] theorem ixO_lst {ds : List D} {j : Int} : ixO (some (some (.lst ds))) (.int j) = atI ds j := rfl
@[simp] theorem ixO_dat {x y : D} : ixO (some (some (.dat x))) y = dIx x y := rfl
def peekO : Option (Option Val) → Option D
  | some (some (.lst ds)) => some (.list ds)
  | some (some (.dat d)) => some d
  | _ => none
@[simp] theorem peek_g {s : S} {i : Nat} : peek i s = peekO s.g[i]? := by
  unfold peek peekO
  generalize s.g[i]? = o
  rcases o with _ | (_ | v)
  · rfl
  · rfl
  · cases v <;> rfl
@[simp] theorem peekO_lst {ds : List D} : peekO (some (some (.lst ds))) = some (.list ds) := rfl
@[simp] theorem peekO_dat {d : D} : peekO (some (some (.dat d))) = some d := rfl
@[simp] theorem wipeS_mk {g : List (Option Val)} {k : Dk} {l : List Nat} : wipeS ⟨g, k⟩ l = ⟨wipeL g l, k⟩ := rfl
@[simp] theorem wipeL_nil {g : List (Option Val)} : wipeL g [] = g := rfl
@[simp] theorem wipeL_cons {g : List (Option Val)} {v : Nat} {r : List Nat} : wipeL g (v :: r) = (wipeL g r).set v none := rfl
/-- a comprehension whose turns change nothing -/
theorem wp_lc_fm {own : List Nat} {asg : D → M Unit} {t : M Bool} {e : M D} {ds : List D} {s : S} {Q : List D → S → Prop} (p : D → Bool) (g : D → D)
    (h : ∀ x ∈ ds, wp (asg x) s fun _ s1 => wp t s1 fun b s2 => b = p x ∧ if p x = true then wp e s2 fun d s3 => d = g x ∧ wipeS s3 own = s else wipeS s2 own = s) (hl : ds.length ≤ lim) (hq : Q ((ds.filter p).map g) s) : wp (lcLoop own asg t e ds []) s Q := by
  refine wp_lc (fun r acc s' => s' = s ∧ (∀ x ∈ r, x ∈ ds) ∧ acc.length + r.length ≤ lim ∧ acc ++ (r.filter p).map g = (ds.filter p).map g) (fun x r acc s' hI => ?_) (fun acc s' hI => ?_) ds [] s ⟨rfl, fun _ hx => hx, by simpa using hl, by simp⟩
  · obtain ⟨rfl, hm, hl, he⟩ := hI
    refine wp_mono (h x (hm x (List.mem_cons_self ..))) fun _ s1 q => ?_
    refine wp_mono q fun b s2 ⟨hb, q⟩ => ?_
    subst hb
    rw [List.length_cons] at hl
    split
    · rename_i hp
      rw [if_pos hp] at q
      refine wp_mono q fun d s3 ⟨hd, hw⟩ => ?_
      subst hd
      refine ⟨by omega, hw, fun y hy => hm y (List.mem_cons_of_mem _ hy), by simp; omega, ?_⟩
      rw [← he, List.filter_cons_of_pos hp]; simp
    · rename_i hp
      rw [if_neg hp] at q
      refine ⟨q, fun y hy => hm y (List.mem_cons_of_mem _ hy), by omega, ?_⟩
      rw [← he, List.filter_cons_of_neg hp]
  · obtain ⟨rfl, hm, hl, he⟩ := hI
    rw [List.filter_nil, List.map_nil, List.append_nil] at he
    rw [he]; exact hq
theorem wp_lc_map {own : List Nat} {asg : D → M Unit} {e : M D} {ds : List D} {s : S} {Q : List D → S → Prop} (g : D → D)
    (h : ∀ x ∈ ds, wp (asg x) s fun _ s1 => wp e s1 fun d s3 => d = g x ∧ wipeS s3 own = s) (hl : ds.length ≤ lim) (hq : Q (ds.map g) s) : wp (lcLoop own asg (rtn true) e ds []) s Q := by
  refine wp_lc_fm (fun _ => true) g (fun x hx => ?_) hl ?_
  · refine wp_mono (h x hx) fun _ s1 q => ?_
    rw [wp_rtn]
    exact ⟨rfl, by simpa using q⟩
  · rw [List.filter_eq_self.mpr fun _ _ => rfl]; exact hq
theorem bsD_map {ds : List D} {f : D → Bool} : bsD (ds.map fun d => .bool (f d)) = some (ds.map f) := by
  induction ds with
  | nil => rfl
  | cons x r ih => simp [bsD, ih]
@[simp] theorem dAll_map {ds : List D} {f : D → Bool} : dAll [.list (ds.map fun d => .bool (f d))] = some (.bool (ds.all f)) := by
  simp [dAll, bsD_map, List.all_map, Function.comp_def]
theorem ones_shaped {n : Nat} : SeqAt.shaped (.list (List.replicate n (.int 1))) = true := shaped_ofInts fun d hd => ⟨1, List.eq_of_mem_replicate hd⟩
/-- [1 for x in xs if not p(x)] != [] -/
theorem dNe_ones {ds : List D} {p : D → Bool} : dNe (.list ((ds.filter p).map fun _ => .int 1)) (.list []) = some (.bool (!(ds.all fun d => !p d))) := by
  have h : SeqAt.shaped (.list ((ds.filter p).map fun _ => (.int 1 : D))) = true := shaped_ofInts fun d hd => by
    obtain ⟨x, _, rfl⟩ := List.mem_map.mp hd; exact ⟨1, rfl⟩
  rw [dNe_sh h rfl (fun _ z => nomatch z), eqv_nil]
  congr 3
  rw [Bool.eq_iff_iff]
  simp
theorem dEq_ones {ds : List D} {p : D → Bool} : dEq (.list ((ds.filter p).map fun _ => .int 1)) (.list []) = some (.bool (ds.all fun d => !p d)) := by
  have h : SeqAt.shaped (.list ((ds.filter p).map fun _ => (.int 1 : D))) = true := shaped_ofInts fun d hd => by
    obtain ⟨x, _, rfl⟩ := List.mem_map.mp hd; exact ⟨1, rfl⟩
  rw [dEq_sh h rfl (fun _ z => nomatch z), eqv_nil]
  congr 2
  rw [Bool.eq_iff_iff]
  simp
end DL


namespace DL
open PySem PySem.Spec PyProof.Rows L2
/-! RW3: what is wrong with a value that is to be a row. -/
def spOf : D → Rs
  | .tuple [.str w, .int i] => if w = "in" then .inp i.toNat else if w = "set" then .set i else .neg i.toNat
  | .tuple [.str w, .int i, .int j] => if w = "+" then .add i.toNat j.toNat else if w = "-" then .sub i.toNat j.toNat else .mul i.toNat j.toNat
  | _ => .set 0
theorem isI_int {v : D} {a b : Int} (h : isI v a b = true) : ∃ i, v = .int i ∧ a ≤ i ∧ i ≤ b := by
  cases v with
  | int i => simp [isI] at h; exact ⟨i, rfl, h⟩
  | _ => simp [isI] at h
theorem natCast_of {i : Int} (h : 0 ≤ i) : ((i.toNat : Nat) : Int) = i := by omega
theorem isStep_sp {v : D} {n m : Nat} (h : isStep v n m = true) : v = (spOf v).d ∧ (spOf v).ok n m := by
  unfold isStep at h
  split at h
  · rename_i w y
    split at h
    · rename_i hw
      obtain ⟨i, rfl, h1, h2⟩ := isI_int h
      have hw : w = "in" := by simpa using hw
      subst hw
      simp [spOf, Rs.d, Rs.ok, natCast_of h1]; omega
    · rename_i hw
      have hw : w ≠ "in" := by simpa using hw
      split at h
      · rename_i hw2
        obtain ⟨i, rfl, h1, h2⟩ := isI_int h
        have hw2 : w = "set" := by simpa using hw2
        subst hw2
        simp [spOf, Rs.d, Rs.ok]; omega
      · rename_i hw2
        have hw2 : w ≠ "set" := by simpa using hw2
        rw [Bool.and_eq_true] at h
        obtain ⟨i, rfl, h1, h2⟩ := isI_int h.2
        have hw3 : w = "neg" := by simpa using h.1
        subst hw3
        simp [spOf, Rs.d, Rs.ok, natCast_of h1]; omega
  · rename_i w y z
    rw [Bool.and_eq_true, Bool.and_eq_true] at h
    obtain ⟨hw, h1, h2⟩ := h
    obtain ⟨i, rfl, i1, i2⟩ := isI_int h1
    obtain ⟨j, rfl, j1, j2⟩ := isI_int h2
    simp only [Bool.or_eq_true, beq_iff_eq] at hw
    rcases hw with (rfl | rfl) | rfl
    · simp [spOf, Rs.d, Rs.ok, natCast_of i1, natCast_of j1]; omega
    · simp [spOf, Rs.d, Rs.ok, natCast_of i1, natCast_of j1]; omega
    · simp [spOf, Rs.d, Rs.ok, natCast_of i1, natCast_of j1]; omega
  · cases h
/-- the measure of a step, with least for a set number -/
def Rs.ms (l : Nat) (f : List Nat) : Rs → Nat
  | .inp _ => 1
  | .set _ => l
  | .neg i => f.getD i 0
  | .add i j => max (f.getD i 0) (f.getD j 0)
  | .sub i j => max (f.getD i 0) (f.getD j 0)
  | .mul i j => f.getD i 0 + f.getD j 0
theorem Rs.ms1 {f : List Nat} {s : Rs} : s.ms 1 f = s.size f := by cases s <;> rfl
def stepsErr (n : Nat) : List D → List Nat → Option D
  | [], _ => none
  | v :: r, f => if isStep v n f.length = true then (if 64 < (spOf v).size f then some (.tuple [.int (f.length : Nat), .str "size"]) else stepsErr n r (f ++ [(spOf v).size f])) else some (.tuple [.int (f.length : Nat), .str "step"])
def er (s : String) : D := .tuple [.none, .str s]
def endsErr (E : Int) (m : Nat) : D → D
  | .tuple es => if (1 ≤ (es.length : Int) ∧ (es.length : Int) ≤ E) ∧ es.all (fun d => isI d 0 ((m : Int) - 1)) = true then .none else er "ends"
  | _ => er "ends"
def rowErr (I S E : Int) (v : D) : D := match v with
  | .tuple [x, y, z] => if isI x 0 I = true then (match x, y with
      | .int n, .tuple l => if 1 ≤ (l.length : Int) ∧ (l.length : Int) ≤ S then ((stepsErr n.toNat l []).getD (endsErr E l.length z))
        else er "steps"
      | _, _ => er "steps") else er "inputs"
  | _ => er "row"
structure RowOk (n many most : Nat) (a : List Rs) (e : List Nat) : Prop where
  ok : okFrom n 0 a
  len : 1 ≤ a.length ∧ a.length ≤ many
  siz : ∀ x ∈ sizesS a, x ≤ most
  ends : ∀ x ∈ e, x < a.length
  elen : 1 ≤ e.length ∧ e.length ≤ 3
  sml : ∀ c, Rs.set c ∈ a → c.natAbs ≤ 4
/-- a row that is being made -/
structure RowIn (n most : Nat) (a : List Rs) : Prop where
  ok : okFrom n 0 a
  siz : ∀ x ∈ sizesS a, x ≤ most
  sml : ∀ c, Rs.set c ∈ a → c.natAbs ≤ 4
def Rs.small : Rs → Prop
  | .set c => c.natAbs ≤ 4
  | _ => True
theorem RowIn.snoc {n most : Nat} {a : List Rs} {s : Rs} (h : RowIn n most a) (o : s.ok n a.length) (z : s.size (sizesS a) ≤ most) (sm : s.small) : RowIn n most (a ++ [s]) := by
  refine ⟨okFrom_snoc.mpr ⟨h.ok, by simpa using o⟩, fun x hx => ?_, fun c hc => ?_⟩
  · rw [sizesS_snoc] at hx
    rcases List.mem_append.mp hx with hx | hx
    · exact h.siz x hx
    · simp at hx; subst hx; exact z
  · rcases List.mem_append.mp hc with hc | hc
    · exact h.sml c hc
    · simp at hc; subst hc; exact sm
theorem getD_le {l : List Nat} {b : Nat} (h : ∀ x ∈ l, x ≤ b) (i : Nat) : l.getD i 0 ≤ b := by
  by_cases hi : i < l.length
  · have : l.getD i 0 = l[i] := by simp [List.getElem?_eq_getElem hi]
    rw [this]; exact h _ (List.getElem_mem _)
  · simp [List.getElem?_eq_none (Nat.le_of_not_lt hi)]
theorem Rs.size_le {most : Nat} {f : List Nat} {s : Rs} (h : ∀ x ∈ f, x ≤ most) (h1 : 1 ≤ most) (hm : ∀ i j, s ≠ .mul i j) : s.size f ≤ most := by
  cases s with
  | inp _ => exact h1
  | set _ => exact h1
  | neg i => exact getD_le h i
  | add i j => exact Nat.max_le.mpr ⟨getD_le h i, getD_le h j⟩
  | sub i j => exact Nat.max_le.mpr ⟨getD_le h i, getD_le h j⟩
  | mul i j => exact absurd rfl (hm i j)
end DL


namespace DL
open PySem PySem.Spec PyProof.Rows L2
/-! DL25: sum, max, min, sorted of a list of ints; zip; range of three. -/
section
variable {X : Cx} {K : PySem.W.Frag}
def nsD : List D → Option (List Int)
  | [] => some []
  | .int i :: r => (nsD r).map (i :: ·)
  | _ :: _ => none
theorem RpA.nums {K : PySem.W.Frag} {H : Hp} : ∀ {vs : List V} {ds : List D} {ns : List Int}, RpA K H vs ds → nsD ds = some ns → vs = ns.map V.int
  | _, _, ns, .nil, e => by cases e; rfl
  | _, _, ns, .cons (d := d) h t, e => by
    cases d <;> simp [nsD] at e
    obtain ⟨ns', e1, rfl⟩ := e
    cases h
    rw [List.map_cons, RpA.nums t e1]
theorem nsD_map (ns : List Int) : nsD (ns.map PyData.int) = some ns := by
  induction ns with
  | nil => rfl
  | cons n r ih => rw [List.map_cons, nsD, ih]; rfl
def maxI : List Int → Int
  | [] => 0
  | [n] => n
  | n :: r => max n (maxI r)
def minI : List Int → Int
  | [] => 0
  | [n] => n
  | n :: r => min n (minI r)
theorem maxI_is : ∀ {ns : List Int}, ns ≠ [] → maxI ns ∈ ns ∧ ∀ y ∈ ns, y ≤ maxI ns
  | [n], _ => by simp [maxI]
  | n :: m :: r, _ => by
    obtain ⟨h1, h2⟩ := maxI_is (ns := m :: r) (by simp)
    rw [maxI]
    · constructor
      · rcases Int.le_total n (maxI (m :: r)) with h | h
        · rw [Int.max_eq_right h]; exact List.mem_cons_of_mem _ h1
        · rw [Int.max_eq_left h]; exact List.mem_cons_self ..
      · intro y hy
        rcases List.mem_cons.mp hy with rfl | hy
        · omega
        · have := h2 y hy; omega
    · simp
theorem minI_is : ∀ {ns : List Int}, ns ≠ [] → minI ns ∈ ns ∧ ∀ y ∈ ns, minI ns ≤ y
  | [n], _ => by simp [minI]
  | n :: m :: r, _ => by
    obtain ⟨h1, h2⟩ := minI_is (ns := m :: r) (by simp)
    rw [minI]
    · constructor
      · rcases Int.le_total n (minI (m :: r)) with h | h
        · rw [Int.min_eq_left h]; exact List.mem_cons_self ..
        · rw [Int.min_eq_right h]; exact List.mem_cons_of_mem _ h1
      · intro y hy
        rcases List.mem_cons.mp hy with rfl | hy
        · omega
        · have := h2 y hy; omega
    · simp
/-- put in its place -/
def insI (n : Int) : List Int → List Int
  | [] => [n]
  | m :: r => if n ≤ m then n :: m :: r else m :: insI n r
def srtI : List Int → List Int
  | [] => []
  | n :: r => insI n (srtI r)
theorem insI_perm (n : Int) : ∀ l : List Int, (insI n l).Perm (n :: l)
  | [] => .refl _
  | m :: r => by
    unfold insI
    split
    · exact .refl _
    · exact ((insI_perm n r).cons m).trans (.swap n m r)
theorem srtI_perm : ∀ l : List Int, (srtI l).Perm l
  | [] => .refl _
  | n :: r => (insI_perm n (srtI r)).trans ((srtI_perm r).cons n)
theorem insI_sorted {n : Int} : ∀ {l : List Int}, l.Pairwise (· ≤ ·) → (insI n l).Pairwise (· ≤ ·)
  | [], _ => by simp [insI]
  | m :: r, h => by
    unfold insI
    rw [List.pairwise_cons] at h
    split
    · rename_i hn
      rw [List.pairwise_cons, List.pairwise_cons]
      refine ⟨fun a ha => ?_, h⟩
      rcases List.mem_cons.mp ha with rfl | ha
      · exact hn
      · exact Int.le_trans hn (h.1 a ha)
    · rename_i hn
      rw [List.pairwise_cons]
      refine ⟨fun a ha => ?_, insI_sorted h.2⟩
      have := (insI_perm n r).mem_iff.mp ha
      rcases List.mem_cons.mp this with rfl | ha
      · omega
      · exact h.1 a ha
theorem srtI_sorted : ∀ l : List Int, (srtI l).Pairwise (· ≤ ·)
  | [] => .nil
  | n :: r => insI_sorted (srtI_sorted r)
theorem sorted_one : ∀ {a b : List Int}, a.Perm b → a.Pairwise (· ≤ ·) → b.Pairwise (· ≤ ·) → a = b
  | [], b, p, _, _ => by rw [List.nil_perm.mp p]
  | x :: a, [], p, _, _ => by have := p.length_eq; simp at this
  | x :: a, y :: b, p, ha, hb => by
    rw [List.pairwise_cons] at ha hb
    have e : x = y := by
      have h1 : x ∈ y :: b := p.mem_iff.mp (List.mem_cons_self ..)
      have h2 : y ∈ x :: a := p.mem_iff.mpr (List.mem_cons_self ..)
      rcases List.mem_cons.mp h1 with h | h
      · exact h
      · rcases List.mem_cons.mp h2 with h' | h'
        · exact h'.symm
        · have := ha.1 y h'; have := hb.1 x h; omega
    subst e
    rw [sorted_one ((List.perm_cons x).mp p) ha.2 hb.2]
theorem RpA.ofInts {H : Hp} (ns : List Int) : RpA K H (ns.map V.int) (ns.map PyData.int) := RpA.ints ns
def dSum : List D → Option D
  | [.list ds] => (nsD ds).map fun ns => .int ns.sum
  | _ => none
def dMaxL : List D → Option D
  | [.list ds] => (nsD ds).bind fun ns => if ns.isEmpty = true then none else some (.int (maxI ns))
  | _ => none
def dMinL : List D → Option D
  | [.list ds] => (nsD ds).bind fun ns => if ns.isEmpty = true then none else some (.int (minI ns))
  | _ => none
def dSortL : List D → Option D
  | [.list ds] => (nsD ds).map fun ns => .list ((srtI ns).map PyData.int)
  | _ => none
theorem do_sum : DOC K (rSum K) dSum := by
  intro P H xs ds d t r e Q q
  unfold dSum at e
  split at e
  · rename_i ds
    cases hb : nsD ds with
    | none => rw [hb] at e; cases e
    | some ns =>
      rw [hb] at e; cases e
      obtain ⟨v, rfl, h⟩ := r.one
      obtain ⟨a, vs, rfl, h1, r1⟩ := h.lst_inv
      have := r1.nums hb
      subst this
      exact ⟨a, ns, rfl, SqL.of (mask_le _ _ h1), q _ H (Grw.refl H) (.int _)⟩
  · cases e
theorem do_maxL : DOC K (rMax K) dMaxL := by
  intro P H xs ds d t r e Q q
  unfold dMaxL at e
  split at e
  · rename_i ds
    cases hb : nsD ds with
    | none => rw [hb] at e; cases e
    | some ns =>
      rw [hb] at e
      simp only [Option.bind_some] at e
      split at e
      · cases e
      · rename_i hne
        cases e
        have hne : ns ≠ [] := by simpa using hne
        obtain ⟨v, rfl, h⟩ := r.one
        obtain ⟨a, vs, rfl, h1, r1⟩ := h.lst_inv
        have := r1.nums hb
        subst this
        refine ⟨a, ns, rfl, SqL.of (mask_le _ _ h1), List.length_pos_iff.mpr hne, fun m h2 h3 => ?_⟩
        obtain ⟨h4, h5⟩ := maxI_is hne
        have e : m = maxI ns := Int.le_antisymm (h5 m h2) (h3 _ h4)
        rw [e]
        exact q _ H (Grw.refl H) (.int _)
  · cases e
theorem do_minL : DOC K (rMin K) dMinL := by
  intro P H xs ds d t r e Q q
  unfold dMinL at e
  split at e
  · rename_i ds
    cases hb : nsD ds with
    | none => rw [hb] at e; cases e
    | some ns =>
      rw [hb] at e
      simp only [Option.bind_some] at e
      split at e
      · cases e
      · rename_i hne
        cases e
        have hne : ns ≠ [] := by simpa using hne
        obtain ⟨v, rfl, h⟩ := r.one
        obtain ⟨a, vs, rfl, h1, r1⟩ := h.lst_inv
        have := r1.nums hb
        subst this
        refine ⟨a, ns, rfl, SqL.of (mask_le _ _ h1), List.length_pos_iff.mpr hne, fun m h2 h3 => ?_⟩
        obtain ⟨h4, h5⟩ := minI_is hne
        have e : m = minI ns := Int.le_antisymm (h3 _ h4) (h5 m h2)
        rw [e]
        exact q _ H (Grw.refl H) (.int _)
  · cases e
theorem do_sortL : DOC K (rSortedI K) dSortL := by
  intro P H xs ds d t r e Q q
  unfold dSortL at e
  split at e
  · rename_i ds
    cases hb : nsD ds with
    | none => rw [hb] at e; cases e
    | some ns =>
      rw [hb] at e; cases e
      obtain ⟨v, rfl, h⟩ := r.one
      obtain ⟨a, vs, rfl, h1, r1⟩ := h.lst_inv
      have := r1.nums hb
      subst this
      refine ⟨a, ns, rfl, SqL.of (mask_le _ _ h1), fun ns' p hp hs hf => ?_⟩
      have e : ns' = srtI ns := sorted_one (hp.trans (srtI_perm ns).symm) hs (srtI_sorted ns)
      rw [e]
      exact q _ _ (Grw.new hf) (rp_newL t hf (RpA.ints _))
  · cases e
theorem k_sum (hc : X.calm = true := by rfl) (hK : X.K = K := by rfl) : CallR X (.builtin "sum") (rSum K) := hK ▸ cr_sum hc
theorem k_maxL (hc : X.calm = true := by rfl) (hK : X.K = K := by rfl) : CallR X (.builtin "max") (rMax K) := hK ▸ cr_max hc
theorem k_minL (hc : X.calm = true := by rfl) (hK : X.K = K := by rfl) : CallR X (.builtin "min") (rMin K) := hK ▸ cr_min hc
theorem k_sortL (hK : X.K = K := by rfl) : CallR X (.builtin "sorted") (rSortedI K) := hK ▸ cr_sortedI
/-! ### zip -/
def zipD (xs ys : List D) : List D := (xs.zip ys).map fun p => .tuple [p.1, p.2]
theorem zipD_len (xs ys : List D) : (zipD xs ys).length = min xs.length ys.length := by simp [zipD]
theorem zipD_get {xs ys : List D} {i : Nat} {x y : D} (h1 : xs[i]? = some x) (h2 : ys[i]? = some y) : (zipD xs ys)[i]? = some (.tuple [x, y]) := by
  have : (xs.zip ys)[i]? = some (x, y) := List.getElem?_zip_eq_some.mpr ⟨h1, h2⟩
  simp [zipD, List.getElem?_map, this]
theorem rp_two {P : Addr → Prop} {H : Hp} {T : Addr} {x y : V} {d e : D} (t : Trk P H) (hT : H T = none) (r : Rp K (mask P H) x d) (r2 : Rp K (mask P H) y e) : Rp K (mask P (upd H T (.tup [x, y]))) (.ref T) (.tuple [d, e]) :=
  rp_newT t hT (.cons r (.cons r2 .nil))
theorem walkZL {a b : Addr} {vs us : List V} {ds es : List D} (n : vs.length = ds.length) (m : us.length = es.length) : WalkD K (Itz K a b) (fun P H => (mask P H a = some (.lst vs) ∧ RpA K (mask P H) vs ds) ∧ mask P H b = some (.lst us) ∧ RpA K (mask P H) us es) (zipD ds es) := by
  refine ⟨fun P i H hi g => ?_, fun P H g => ⟨vs, us, SqL.of (mask_le _ _ g.1.1), SqL.of (mask_le _ _ g.2.1), by rw [zipD_len]; omega⟩, fun P i H x H' hi t g y => ?_, fun P P' H H' q g => ⟨⟨q _ _ g.1.1, g.1.2.mono q⟩, q _ _ g.2.1, g.2.2.mono q⟩⟩
  · rw [zipD_len] at hi
    exact ⟨vs, us, vs[i]'(by omega), us[i]'(by omega), SqL.of (mask_le _ _ g.1.1), SqL.of (mask_le _ _ g.2.1), by simp, by simp⟩
  · obtain ⟨T, x, x2, rfl, hT, rfl, y1, y2⟩ := y
    obtain ⟨d, h1, h2⟩ := g.1.2.getv (y1 vs (SqL.of (mask_le _ _ g.1.1)))
    obtain ⟨e, h3, h4⟩ := g.2.2.getv (y2 us (SqL.of (mask_le _ _ g.2.1)))
    exact ⟨Grw.new hT, _, zipD_get h1 h3, rp_two t hT h2 h4⟩
theorem walkZT {a b : Addr} {vs us : List V} {ds es : List D} (n : vs.length = ds.length) (m : us.length = es.length) : WalkD K (RZ.ItzT K a b) (fun P H => (SqT K (mask P H) a vs ∧ RpA K (mask P H) vs ds) ∧ SqT K (mask P H) b us ∧ RpA K (mask P H) us es) (zipD ds es) := by
  refine ⟨fun P i H hi g => ?_, fun P H g => ⟨vs, us, sqT_le g.1.1, sqT_le g.2.1, by rw [zipD_len]; omega⟩, fun P i H x H' hi t g y => ?_, fun P P' H H' q g => ⟨⟨SqT.grw q g.1.1, g.1.2.mono q⟩, SqT.grw q g.2.1, g.2.2.mono q⟩⟩
  · rw [zipD_len] at hi
    exact ⟨vs, us, vs[i]'(by omega), us[i]'(by omega), sqT_le g.1.1, sqT_le g.2.1, by simp, by simp⟩
  · obtain ⟨T, x, x2, rfl, hT, rfl, y1, y2⟩ := y
    obtain ⟨d, h1, h2⟩ := g.1.2.getv (y1 vs (sqT_le g.1.1))
    obtain ⟨e, h3, h4⟩ := g.2.2.getv (y2 us (sqT_le g.2.1))
    exact ⟨Grw.new hT, _, zipD_get h1 h3, rp_two t hT h2 h4⟩
def asZ (f : M (List D)) : M (List D) := bd f fun x => match x with
  | [.list ds, .list es] => rtn (zipD ds es)
  | [.tuple ds, .tuple es] => rtn (zipD ds es)
  | _ => fun _ => none
theorem ei_zip {ta : TA} {f : M (List D)} (h : EvA K ta f) : EvI K (RZ.iZipA K ta) (asZ f) := by
  intro A hid P s σ H ds s' ok e R q
  obtain ⟨x, s1, h1, e⟩ := bd_some e
  refine h A hid P s σ H x s1 ok h1 _ fun v P1 H1 ok1 st1 r => ?_
  split at e
  · obtain ⟨rfl, rfl⟩ := rtn_some e
    obtain ⟨v, u, rfl, r0, r1⟩ := r.two
    obtain ⟨a, vs, rfl, hx, rr⟩ := r0.lst_inv
    obtain ⟨b, us, rfl, hy, r2⟩ := r1.lst_inv
    exact ⟨a, b, vs, us, rfl, .inl ⟨SqL.of (mask_le _ _ hx), SqL.of (mask_le _ _ hy), q _ _ P1 H1 ok1 st1 (walkZL rr.length r2.length) ⟨⟨hx, rr⟩, hy, r2⟩⟩⟩
  · obtain ⟨rfl, rfl⟩ := rtn_some e
    obtain ⟨v, u, rfl, r0, r1⟩ := r.two
    obtain ⟨a, vs, rfl, hx, rr⟩ := r0.tup_inv
    obtain ⟨b, us, rfl, hy, r2⟩ := r1.tup_inv
    exact ⟨a, b, vs, us, rfl, .inr ⟨sqT_le hx, sqT_le hy, q _ _ P1 H1 ok1 st1 (walkZT rr.length r2.length) ⟨⟨hx, rr⟩, hy, r2⟩⟩⟩
  · cases e
/-! ### range(a, b, -1) -/
def rg3 (fr : M (List D)) : M (List D) := bd fr fun ds => match ds with
  | [.int i, .int j, .int c] => if c = -1 ∧ (-(2 ^ 62) ≤ i ∧ i < 2 ^ 62) ∧ -(2 ^ 62) ≤ j ∧ j < 2 ^ 62 then rtn ((List.range (i - j).toNat).map fun n => .int (i - (n : Nat))) else fun _ => none
  | _ => fun _ => none
theorem walkC {lo : Int} {n : Nat} : WalkD K (Itc lo (-1) n) (fun _ _ => True) ((List.range n).map fun i => .int (lo - (i : Nat))) := by
  refine ⟨fun P i H hi g => (by simpa using hi : i < n), fun P H g => by show n ≤ _; simp, fun P i H x H' hi t g y => ?_, fun _ _ _ _ _ g => g⟩
  obtain ⟨rfl, rfl⟩ := y
  have hi : i < n := by simpa using hi
  refine ⟨Grw.refl _, .int (lo - (i : Nat)), by simp [List.getElem?_map, List.getElem?_range hi], ?_⟩
  have e : lo + ((i : Nat) : Int) * (-1) = lo - (i : Nat) := by omega
  rw [e]; exact .int _
theorem ei_rg3 {tr : TA} {fr : M (List D)} (h : EvA K tr fr) : EvI K (iRng3 tr) (rg3 fr) := by
  intro A hid P s σ H ds s' ok e R q
  obtain ⟨x, s1, h1, e⟩ := bd_some e
  refine h A hid P s σ H x s1 ok h1 _ fun v P1 H1 ok1 st1 r => ?_
  split at e
  · rename_i i j c
    split at e
    · rename_i hc
      obtain ⟨rfl, rfl⟩ := rtn_some e
      obtain ⟨rfl, ⟨a1, a2⟩, a3, a4⟩ := hc
      have ev : v = [.int i, .int j, .int (-1)] := by
        cases r with
        | cons x r => cases r with
          | cons y r => cases r with
            | cons z r => cases r; cases x; cases y; cases z; rfl
      exact ⟨i, j, -1, (i - j).toNat, ev, RgC.neg a1 a2 a3 a4, q _ _ P1 H1 ok1 st1 walkC trivial⟩
    · cases e
  · cases e
variable {e e2 a b c : Expr} {ta : TA} {f : M (List D)} {p pos tpos : Pos} {elts : List Expr} {kk : Nat} {tg : Expr}
theorem k_zip (hg : Gl X "zip") (hm : X.mg "zip" = none) (ha : DAr X [e, e2] ta f) (hs : starEach [e, e2] X.env = (false, eval e X.env) :: starEach [e2] X.env := by rfl) (hpl : (backTo pos (starEach [e2] X.env)).any (·.1) = false := by rfl) (hK : X.K = K := by rfl) :
    DI X (.Tuple elts kk tpos) (.Call (.Name "zip" p) [e, e2] [] pos) (RZ.iZipA K ta) (asZ f) := hK ▸ ⟨RZ.pi_zipA hg hm ha.p hs hpl, ei_zip ha.v⟩
theorem k_rg3 (hg : Gl X "range") (hm : X.mg "range" = none) (ha : DAr X [a, b, c] ta f) (hs : starEach [a, b, c] X.env = (false, eval a X.env) :: starEach [b, c] X.env := by rfl) (hpl : (backTo pos (starEach [b, c] X.env)).any (·.1) = false := by rfl) :
    DI X tg (.Call (.Name "range" p) [a, b, c] [] pos) (iRng3 ta) (rg3 f) := ⟨pi_range3 hg hm ha.p hs hpl, ei_rg3 ha.v⟩
end
end DL


namespace DL
open PySem PySem.Spec PyProof.Rows L2
/-! RW4: values, ranges, rates of rows, in plain Lean. -/
theorem runS_rel_aux {α β : Type} {op1 : List α → Rs → α} {op2 : List β → Rs → β} {d1 : α} {d2 : β} {n : Nat} {R : Nat → α → β → Prop}
    (h : ∀ (m : Nat) (l1 : List α) (l2 : List β) (s : Rs), l1.length = m → l2.length = m → s.ok n m → (∀ i, i < m → R i (l1.getD i d1) (l2.getD i d2)) → R m (op1 l1 s) (op2 l2 s)) :
    ∀ (a : List Rs) (m : Nat) (l1 : List α) (l2 : List β), l1.length = m → l2.length = m → okFrom n m a → (∀ i, i < m → R i (l1.getD i d1) (l2.getD i d2)) →
      ∀ i, i < m + a.length → R i ((runS op1 a l1).getD i d1) ((runS op2 a l2).getD i d2)
  | [], m, l1, l2, h1, h2, _, hr, i, hi => hr i (by simpa using hi)
  | s :: r, m, l1, l2, h1, h2, ho, hr, i, hi => by
    unfold runS
    refine runS_rel_aux h r (m + 1) _ _ (by simp [h1]) (by simp [h2]) ho.2 (fun j hj => ?_) i (by simp at hi; omega)
    by_cases hjm : j < m
    · have := hr j hjm
      simp only [List.getD_eq_getElem?_getD] at this ⊢
      rw [List.getElem?_append_left (by omega), List.getElem?_append_left (by omega)]; exact this
    · have e : j = m := by omega
      subst e
      have := h j l1 l2 s h1 h2 ho.1 hr
      simp only [List.getD_eq_getElem?_getD]
      rw [List.getElem?_append_right (by omega), List.getElem?_append_right (by omega)]
      simpa [h1, h2] using this
theorem runS_rel {α β : Type} {op1 : List α → Rs → α} {op2 : List β → Rs → β} (d1 : α) (d2 : β) {n : Nat} {R : Nat → α → β → Prop}
    (h : ∀ (m : Nat) (l1 : List α) (l2 : List β) (s : Rs), l1.length = m → l2.length = m → s.ok n m → (∀ i, i < m → R i (l1.getD i d1) (l2.getD i d2)) → R m (op1 l1 s) (op2 l2 s))
    {a : List Rs} (ho : okFrom n 0 a) {i : Nat} (hi : i < a.length) : R i ((runS op1 a []).getD i d1) ((runS op2 a []).getD i d2) :=
  runS_rel_aux h a 0 [] [] rfl rfl ho (fun i h => absurd h (by omega)) i (by omega)
theorem take_next {α : Type} {l : List α} {m : Nat} (h : m < l.length) : l.take (m + 1) = l.take m ++ [l[m]] := by
  rw [List.take_succ, List.getElem?_eq_getElem h]; rfl
theorem runS_take {α : Type} {op : List α → Rs → α} {a : List Rs} {m : Nat} (h : m < a.length) : runS op (a.take (m + 1)) [] = runS op (a.take m) [] ++ [op (runS op (a.take m) []) a[m]] := by
  rw [take_next h, runS_snoc]
theorem runS_take_len {α : Type} {op : List α → Rs → α} {a : List Rs} {m : Nat} (h : m ≤ a.length) : (runS op (a.take m) []).length = m := by
  rw [runS_len, List.length_take]; simp; omega
theorem sps_drop {a : List Rs} {m : Nat} {x : D} {r : List D} (h : (spsD a).drop m = x :: r) : ∃ h : m < a.length, x = (a[m]).d ∧ r = (spsD a).drop (m + 1) := by
  obtain ⟨hi, rfl, rfl⟩ := drop_cons h
  have hi2 : m < a.length := by rw [spsD_len] at hi; exact hi
  exact ⟨hi2, by simp [spsD], rfl⟩
theorem sps_nil {a : List Rs} {m : Nat} (h : (spsD a).drop m = []) : a.length ≤ m := by
  have := drop_nil h; rwa [spsD_len] at this
def numsD (l : List Int) : List D := l.map PyData.int
theorem numsD_len {l : List Int} : (numsD l).length = l.length := by simp [numsD]
theorem numsD_snoc {l : List Int} {n : Int} : numsD l ++ [.int n] = numsD (l ++ [n]) := by simp [numsD]
theorem numsD_get {l : List Int} {i : Nat} (h : i < l.length) : atI (numsD l) (i : Int) = some (.int (l.getD i 0)) := by
  refine atI_nat ?_
  simp [numsD, List.getElem?_map, List.getElem?_eq_getElem h]
/-! ### values -/
def Rs.val (p f : List Int) : Rs → Int
  | .inp k => p.getD k 0
  | .set c => c
  | .neg i => - f.getD i 0
  | .add i j => f.getD i 0 + f.getD j 0
  | .sub i j => f.getD i 0 - f.getD j 0
  | .mul i j => f.getD i 0 * f.getD j 0
def valsS (p : List Int) (a : List Rs) : List Int := runS (Rs.val p) a []
theorem valsS_len {p : List Int} {a : List Rs} : (valsS p a).length = a.length := by unfold valsS; rw [runS_len]; simp
/-! ### ranges -/
abbrev Iv := Int × Int
def ivNeg (x : Iv) : Iv := (-x.2, -x.1)
def ivAdd (x y : Iv) : Iv := (x.1 + y.1, x.2 + y.2)
def ivSub (x y : Iv) : Iv := (x.1 - y.2, x.2 - y.1)
def four (x y : Iv) : List Int := [x.1 * y.1, x.1 * y.2, x.2 * y.1, x.2 * y.2]
def ivMul (x y : Iv) : Iv := (minI (four x y), maxI (four x y))
def inIv (v : Int) (x : Iv) : Prop := x.1 ≤ v ∧ v ≤ x.2
theorem inIv_neg {v : Int} {x : Iv} (h : inIv v x) : inIv (-v) (ivNeg x) := by unfold inIv ivNeg at *; simp only; omega
theorem inIv_add {v w : Int} {x y : Iv} (h : inIv v x) (h2 : inIv w y) : inIv (v + w) (ivAdd x y) := by unfold inIv ivAdd at *; simp only; omega
theorem inIv_sub {v w : Int} {x y : Iv} (h : inIv v x) (h2 : inIv w y) : inIv (v - w) (ivSub x y) := by unfold inIv ivSub at *; simp only; omega
theorem mul_between {v a b w : Int} (h1 : a ≤ v) (h2 : v ≤ b) : (a * w ≤ v * w ∨ b * w ≤ v * w) ∧ (v * w ≤ a * w ∨ v * w ≤ b * w) := by
  rcases Int.le_total 0 w with h | h
  · exact ⟨.inl (Int.mul_le_mul_of_nonneg_right h1 h), .inr (Int.mul_le_mul_of_nonneg_right h2 h)⟩
  · exact ⟨.inr (Int.mul_le_mul_of_nonpos_right h2 h), .inl (Int.mul_le_mul_of_nonpos_right h1 h)⟩
theorem inIv_mul {v w : Int} {x y : Iv} (h : inIv v x) (h2 : inIv w y) : inIv (v * w) (ivMul x y) := by
  obtain ⟨m1, m2⟩ := minI_is (ns := four x y) (by simp [four])
  obtain ⟨m3, m4⟩ := maxI_is (ns := four x y) (by simp [four])
  have a1 := m2 (x.1 * y.1) (by simp [four])
  have a2 := m2 (x.1 * y.2) (by simp [four])
  have a3 := m2 (x.2 * y.1) (by simp [four])
  have a4 := m2 (x.2 * y.2) (by simp [four])
  have b1 := m4 (x.1 * y.1) (by simp [four])
  have b2 := m4 (x.1 * y.2) (by simp [four])
  have b3 := m4 (x.2 * y.1) (by simp [four])
  have b4 := m4 (x.2 * y.2) (by simp [four])
  obtain ⟨c1, c2⟩ := mul_between (w := w) h.1 h.2
  obtain ⟨c3, c4⟩ := mul_between (w := x.1) h2.1 h2.2
  obtain ⟨c5, c6⟩ := mul_between (w := x.2) h2.1 h2.2
  rw [Int.mul_comm w x.1, Int.mul_comm y.1 x.1, Int.mul_comm y.2 x.1] at c3 c4
  rw [Int.mul_comm w x.2, Int.mul_comm y.1 x.2, Int.mul_comm y.2 x.2] at c5 c6
  unfold inIv ivMul
  simp only
  omega
def Rs.rng (b f : List Iv) : Rs → Iv
  | .inp k => b.getD k (0, 0)
  | .set c => (c, c)
  | .neg i => ivNeg (f.getD i (0, 0))
  | .add i j => ivAdd (f.getD i (0, 0)) (f.getD j (0, 0))
  | .sub i j => ivSub (f.getD i (0, 0)) (f.getD j (0, 0))
  | .mul i j => ivMul (f.getD i (0, 0)) (f.getD j (0, 0))
def rngsS (b : List Iv) (a : List Rs) : List Iv := runS (Rs.rng b) a []
theorem rngsS_len {b : List Iv} {a : List Rs} : (rngsS b a).length = a.length := by unfold rngsS; rw [runS_len]; simp
/-- a point of a box -/
def inBox (p : List Int) (b : List Iv) : Prop := p.length = b.length ∧ ∀ k, k < b.length → inIv (p.getD k 0) (b.getD k (0, 0))
theorem vals_in {n : Nat} {p : List Int} {b : List Iv} {a : List Rs} (hb : b.length = n) (h : inBox p b) (ho : okFrom n 0 a) {i : Nat} (hi : i < a.length) : inIv ((valsS p a).getD i 0) ((rngsS b a).getD i (0, 0)) := by
  refine runS_rel 0 (0, 0) (R := fun _ v x => inIv v x) (fun m l1 l2 s h1 h2 ok hr => ?_) ho hi
  cases s with
  | inp k => exact h.2 k (by have : k < n := ok; omega)
  | set c => exact ⟨Int.le_refl _, Int.le_refl _⟩
  | neg i => exact inIv_neg (hr i ok)
  | add i j => exact inIv_add (hr i ok.1) (hr j ok.2)
  | sub i j => exact inIv_sub (hr i ok.1) (hr j ok.2)
  | mul i j => exact inIv_mul (hr i ok.1) (hr j ok.2)
/-! ### rates -/
def dlt (k u : Nat) : Int := if k = u then 1 else 0
/-- the slope between two points, or the rate where both are one -/
def Rs.slp (u : Nat) (vp vm f : List Int) : Rs → Int
  | .inp k => dlt k u
  | .set _ => 0
  | .neg i => - f.getD i 0
  | .add i j => f.getD i 0 + f.getD j 0
  | .sub i j => f.getD i 0 - f.getD j 0
  | .mul i j => f.getD i 0 * vm.getD j 0 + vp.getD i 0 * f.getD j 0
def slpS (u : Nat) (p m : List Int) (a : List Rs) : List Int := runS (Rs.slp u (valsS p a) (valsS m a)) a []
theorem slpS_len {u : Nat} {p m : List Int} {a : List Rs} : (slpS u p m a).length = a.length := by unfold slpS; rw [runS_len]; simp
def Rs.rr (u : Nat) (own f : List Iv) : Rs → Iv
  | .inp k => (dlt k u, dlt k u)
  | .set _ => (0, 0)
  | .neg i => ivNeg (f.getD i (0, 0))
  | .add i j => ivAdd (f.getD i (0, 0)) (f.getD j (0, 0))
  | .sub i j => ivSub (f.getD i (0, 0)) (f.getD j (0, 0))
  | .mul i j => ivAdd (ivMul (f.getD i (0, 0)) (own.getD j (0, 0))) (ivMul (own.getD i (0, 0)) (f.getD j (0, 0)))
def rrS (u : Nat) (b : List Iv) (a : List Rs) : List Iv := runS (Rs.rr u (rngsS b a)) a []
theorem rrS_len {u : Nat} {b : List Iv} {a : List Rs} : (rrS u b a).length = a.length := by unfold rrS; rw [runS_len]; simp
theorem slp_in {n u : Nat} {p m : List Int} {b : List Iv} {a : List Rs} (hb : b.length = n) (h : inBox p b) (h' : inBox m b) (ho : okFrom n 0 a) {i : Nat} (hi : i < a.length) : inIv ((slpS u p m a).getD i 0) ((rrS u b a).getD i (0, 0)) := by
  refine (runS_rel 0 (0, 0) (n := n) (R := fun i v x => i < a.length → inIv v x) (fun q l1 l2 s h1 h2 ok hr hq => ?_) ho hi) hi
  cases s with
  | inp k => exact ⟨Int.le_refl _, Int.le_refl _⟩
  | set c => exact ⟨Int.le_refl _, Int.le_refl _⟩
  | neg i => exact inIv_neg (hr i ok (by have : i < q := ok; omega))
  | add i j => exact inIv_add (hr i ok.1 (by have := ok.1; omega)) (hr j ok.2 (by have := ok.2; omega))
  | sub i j => exact inIv_sub (hr i ok.1 (by have := ok.1; omega)) (hr j ok.2 (by have := ok.2; omega))
  | mul i j =>
    have i1 : i < a.length := by have := ok.1; omega
    have j1 : j < a.length := by have := ok.2; omega
    exact inIv_add (inIv_mul (hr i ok.1 i1) (vals_in hb h' ho j1)) (inIv_mul (vals_in hb h ho i1) (hr j ok.2 j1))
/-! ### sums over inputs -/
def sumN : Nat → (Nat → Int) → Int
  | 0, _ => 0
  | n + 1, g => sumN n g + g n
theorem sumN_zero {n : Nat} : sumN n (fun _ => 0) = 0 := by induction n with
  | zero => rfl
  | succ n ih => rw [sumN, ih]; rfl
theorem sumN_congr {n : Nat} {g h : Nat → Int} (e : ∀ u, u < n → g u = h u) : sumN n g = sumN n h := by
  induction n with
  | zero => rfl
  | succ n ih => rw [sumN, sumN, ih fun u hu => e u (by omega), e n (by omega)]
theorem sumN_add {n : Nat} {g h : Nat → Int} : sumN n (fun u => g u + h u) = sumN n g + sumN n h := by
  induction n with
  | zero => rfl
  | succ n ih => rw [sumN, sumN, sumN, ih]; omega
theorem sumN_neg {n : Nat} {g : Nat → Int} : sumN n (fun u => - g u) = - sumN n g := by
  induction n with
  | zero => rfl
  | succ n ih => rw [sumN, sumN, ih]; omega
theorem sumN_mul {n : Nat} {g : Nat → Int} {c : Int} : sumN n (fun u => c * g u) = c * sumN n g := by
  induction n with
  | zero => simp [sumN]
  | succ n ih => rw [sumN, sumN, ih, Int.mul_add]
theorem sumN_dlt {n k : Nat} {g : Nat → Int} (h : k < n) : sumN n (fun u => dlt k u * g u) = g k := by
  induction n with
  | zero => omega
  | succ n ih =>
    rw [sumN]
    by_cases hk : k = n
    · subst hk
      rw [sumN_congr (h := fun _ => 0) fun u hu => by rw [dlt, if_neg (by omega)]; simp, sumN_zero]
      simp [dlt]
    · rw [ih (by omega)]; simp [dlt, hk]
theorem runS_pre {α : Type} {op : List α → Rs → α} : ∀ {a : List Rs} {acc : List α}, ∃ t, runS op a acc = acc ++ t
  | [], acc => ⟨[], by simp [runS]⟩
  | s :: r, acc => by
    obtain ⟨t, e⟩ := runS_pre (op := op) (a := r) (acc := acc ++ [op acc s])
    exact ⟨op acc s :: t, by rw [runS, e]; simp⟩
theorem runS_at {α : Type} {op : List α → Rs → α} {d : α} {n : Nat} (hop : ∀ (l l' : List α) (s : Rs) (m : Nat), s.ok n m → (∀ j, j < m → l.getD j d = l'.getD j d) → op l s = op l' s)
    {a : List Rs} (ho : okFrom n 0 a) {i : Nat} (hi : i < a.length) : (runS op a []).getD i d = op (runS op a []) a[i] := by
  have e1 : a = a.take i ++ a[i] :: a.drop (i + 1) := by
    rw [← drop_at hi, List.take_append_drop]
  have hl : (runS op (a.take i) []).length = i := runS_take_len (by omega)
  have e2 : runS op a [] = runS op (a.drop (i + 1)) (runS op (a.take i) [] ++ [op (runS op (a.take i) []) a[i]]) := by
    conv => lhs; rw [e1]
    rw [runS_app]; rfl
  obtain ⟨t, e3⟩ := runS_pre (op := op) (a := a.drop (i + 1)) (acc := runS op (a.take i) [] ++ [op (runS op (a.take i) []) a[i]])
  rw [e3] at e2
  have ok : (a[i]).ok n i := by have := okFrom_mem hi ho; simpa using this
  have e4 : op (runS op a []) a[i] = op (runS op (a.take i) []) a[i] := by
    refine hop _ _ _ i ok fun j hj => ?_
    rw [e2]
    simp only [List.getD_eq_getElem?_getD]
    rw [List.append_assoc, List.getElem?_append_left (by omega)]
  rw [e4, e2]
  simp only [List.getD_eq_getElem?_getD]
  rw [List.getElem?_append_left (by simp; omega), List.getElem?_append_right (by omega)]
  simp [hl]
theorem vals_at {n : Nat} {p : List Int} {a : List Rs} (ho : okFrom n 0 a) {i : Nat} (hi : i < a.length) : (valsS p a).getD i 0 = Rs.val p (valsS p a) a[i] := by
  refine runS_at (n := n) (fun l l' s m ok h => ?_) ho hi
  cases s with
  | inp k => rfl
  | set c => rfl
  | neg i => simp only [Rs.val]; rw [h i ok]
  | add i j => simp only [Rs.val]; rw [h i ok.1, h j ok.2]
  | sub i j => simp only [Rs.val]; rw [h i ok.1, h j ok.2]
  | mul i j => simp only [Rs.val]; rw [h i ok.1, h j ok.2]
theorem slp_at {n u : Nat} {p m : List Int} {a : List Rs} (ho : okFrom n 0 a) {i : Nat} (hi : i < a.length) : (slpS u p m a).getD i 0 = Rs.slp u (valsS p a) (valsS m a) (slpS u p m a) a[i] := by
  refine runS_at (n := n) (fun l l' s m ok h => ?_) ho hi
  cases s with
  | inp k => rfl
  | set c => rfl
  | neg i => simp only [Rs.slp]; rw [h i ok]
  | add i j => simp only [Rs.slp]; rw [h i ok.1, h j ok.2]
  | sub i j => simp only [Rs.slp]; rw [h i ok.1, h j ok.2]
  | mul i j => simp only [Rs.slp]; rw [h i ok.1, h j ok.2]
theorem rng_at {n : Nat} {b : List Iv} {a : List Rs} (ho : okFrom n 0 a) {i : Nat} (hi : i < a.length) : (rngsS b a).getD i (0, 0) = Rs.rng b (rngsS b a) a[i] := by
  refine runS_at (n := n) (fun l l' s m ok h => ?_) ho hi
  cases s with
  | inp k => rfl
  | set c => rfl
  | neg i => simp only [Rs.rng]; rw [h i ok]
  | add i j => simp only [Rs.rng]; rw [h i ok.1, h j ok.2]
  | sub i j => simp only [Rs.rng]; rw [h i ok.1, h j ok.2]
  | mul i j => simp only [Rs.rng]; rw [h i ok.1, h j ok.2]
theorem rr_at {n u : Nat} {b : List Iv} {a : List Rs} (ho : okFrom n 0 a) {i : Nat} (hi : i < a.length) : (rrS u b a).getD i (0, 0) = Rs.rr u (rngsS b a) (rrS u b a) a[i] := by
  refine runS_at (n := n) (fun l l' s m ok h => ?_) ho hi
  cases s with
  | inp k => rfl
  | set c => rfl
  | neg i => simp only [Rs.rr]; rw [h i ok]
  | add i j => simp only [Rs.rr]; rw [h i ok.1, h j ok.2]
  | sub i j => simp only [Rs.rr]; rw [h i ok.1, h j ok.2]
  | mul i j => simp only [Rs.rr]; rw [h i ok.1, h j ok.2]
theorem size_at {n : Nat} {a : List Rs} (ho : okFrom n 0 a) {i : Nat} (hi : i < a.length) : (sizesS a).getD i 0 = Rs.size (sizesS a) a[i] := by
  refine runS_at (n := n) (fun l l' s m ok h => ?_) ho hi
  cases s with
  | inp k => rfl
  | set c => rfl
  | neg i => simp only [Rs.size]; rw [h i ok]
  | add i j => simp only [Rs.size]; rw [h i ok.1, h j ok.2]
  | sub i j => simp only [Rs.size]; rw [h i ok.1, h j ok.2]
  | mul i j => simp only [Rs.size]; rw [h i ok.1, h j ok.2]
theorem ok_at {n : Nat} {a : List Rs} (ho : okFrom n 0 a) {i : Nat} (hi : i < a.length) : (a[i]).ok n i := by have := okFrom_mem hi ho; simpa using this
/-- the difference of two values is the slopes times the differences of the inputs -/
theorem slp_sum {n : Nat} {p m : List Int} {a : List Rs} (ho : okFrom n 0 a) : ∀ {i : Nat}, i < a.length →
    (valsS p a).getD i 0 - (valsS m a).getD i 0 = sumN n fun u => (slpS u p m a).getD i 0 * (p.getD u 0 - m.getD u 0) := by
  intro i
  induction i using Nat.strongRecOn with
  | ind i ih =>
    intro hi
    have ok := ok_at ho hi
    rw [vals_at ho hi, vals_at ho hi, sumN_congr fun u _ => by rw [slp_at ho hi]]
    cases hs : a[i] with
    | inp k =>
      rw [hs] at ok
      have hk : k < n := ok
      simp only [Rs.val, Rs.slp]
      rw [sumN_dlt (g := fun u => p.getD u 0 - m.getD u 0) hk]
    | set c =>
      simp only [Rs.val, Rs.slp]
      rw [sumN_congr (h := fun _ => 0) fun u _ => by simp, sumN_zero]; omega
    | neg j =>
      rw [hs] at ok
      have hj : j < i := ok
      have := ih j hj (by omega)
      simp only [Rs.val, Rs.slp]
      rw [sumN_congr (h := fun u => -((slpS u p m a).getD j 0 * (p.getD u 0 - m.getD u 0))) fun u _ => by rw [Int.neg_mul], sumN_neg, ← this]; omega
    | add j l =>
      rw [hs] at ok
      have hj : j < i ∧ l < i := ok
      have e1 := ih j hj.1 (by omega)
      have e2 := ih l hj.2 (by omega)
      simp only [Rs.val, Rs.slp]
      rw [sumN_congr (h := fun u => (slpS u p m a).getD j 0 * (p.getD u 0 - m.getD u 0) + (slpS u p m a).getD l 0 * (p.getD u 0 - m.getD u 0)) fun u _ => by rw [Int.add_mul], sumN_add, ← e1, ← e2]; omega
    | sub j l =>
      rw [hs] at ok
      have hj : j < i ∧ l < i := ok
      have e1 := ih j hj.1 (by omega)
      have e2 := ih l hj.2 (by omega)
      simp only [Rs.val, Rs.slp]
      rw [sumN_congr (h := fun u => (slpS u p m a).getD j 0 * (p.getD u 0 - m.getD u 0) + -((slpS u p m a).getD l 0 * (p.getD u 0 - m.getD u 0))) fun u _ => by rw [Int.sub_mul]; omega, sumN_add, sumN_neg, ← e1, ← e2]; omega
    | mul j l =>
      rw [hs] at ok
      have hj : j < i ∧ l < i := ok
      have e1 := ih j hj.1 (by omega)
      have e2 := ih l hj.2 (by omega)
      simp only [Rs.val, Rs.slp]
      rw [sumN_congr (h := fun u => (valsS m a).getD l 0 * ((slpS u p m a).getD j 0 * (p.getD u 0 - m.getD u 0)) + (valsS p a).getD j 0 * ((slpS u p m a).getD l 0 * (p.getD u 0 - m.getD u 0))) fun u _ => by
        rw [Int.add_mul, Int.mul_comm ((slpS u p m a).getD j 0) ((valsS m a).getD l 0), Int.mul_assoc, Int.mul_assoc], sumN_add, sumN_mul, sumN_mul, ← e1, ← e2]
      simp only [Int.mul_sub]
      rw [Int.mul_comm ((valsS m a).getD l 0) ((valsS p a).getD j 0), Int.mul_comm ((valsS m a).getD l 0) ((valsS m a).getD j 0)]; omega
end DL


namespace DL
open PySem PySem.Spec PyProof.Rows L2
/-! RW5: how great numbers come. -/
def mg (e : Nat) (x : Int) : Prop := x.natAbs < 2 ^ e
theorem mg_mono {e f : Nat} {x : Int} (h : mg e x) (hf : e ≤ f) : mg f x := Nat.lt_of_lt_of_le h (Nat.pow_le_pow_right (by decide) hf)
theorem mg_neg {e : Nat} {x : Int} (h : mg e x) : mg e (-x) := by unfold mg at *; rw [Int.natAbs_neg]; exact h
theorem mg_add {e : Nat} {x y : Int} (h : mg e x) (h2 : mg e y) : mg (e + 1) (x + y) := by
  unfold mg at *
  have := Int.natAbs_add_le x y
  rw [Nat.pow_succ]; omega
theorem mg_sub {e : Nat} {x y : Int} (h : mg e x) (h2 : mg e y) : mg (e + 1) (x - y) := by
  rw [Int.sub_eq_add_neg]; exact mg_add h (mg_neg h2)
theorem mg_mul {a b : Nat} {x y : Int} (hx : mg a x) (hy : mg b y) : mg (a + b) (x * y) := by
  unfold mg at *
  rw [Int.natAbs_mul, Nat.pow_add]
  rcases Nat.eq_zero_or_pos y.natAbs with h | h
  · rw [h, Nat.mul_zero]; exact Nat.mul_pos (Nat.pow_pos (by decide)) (Nat.pow_pos (by decide))
  · exact Nat.mul_lt_mul'' hx hy
theorem mg_lg {e : Nat} {x : Int} (he : 0 < e) (h : mg e x) : x.natAbs.log2 < e := lg_lt he h
theorem mg_0 {e : Nat} : mg e 0 := by unfold mg; simp; exact Nat.pow_pos (by decide)
theorem mg_70 {x : Int} (h : -100000000000000000000 ≤ x) (h2 : x ≤ 100000000000000000000) : mg 70 x := by
  unfold mg
  have : (2 : Nat) ^ 70 = 1180591620717411303424 := by decide
  omega
theorem mg_dlt {k u e : Nat} (he : 1 ≤ e) : mg e (dlt k u) := by
  unfold mg dlt
  have : 2 ^ 1 ≤ 2 ^ e := Nat.pow_le_pow_right (by decide) he
  split <;> simp <;> omega
def mgI (e : Nat) (x : Iv) : Prop := mg e x.1 ∧ mg e x.2
theorem mgI_mono {e f : Nat} {x : Iv} (h : mgI e x) (hf : e ≤ f) : mgI f x := ⟨mg_mono h.1 hf, mg_mono h.2 hf⟩
theorem mgI_neg {e : Nat} {x : Iv} (h : mgI e x) : mgI e (ivNeg x) := ⟨mg_neg h.2, mg_neg h.1⟩
theorem mgI_add {e : Nat} {x y : Iv} (h : mgI e x) (h2 : mgI e y) : mgI (e + 1) (ivAdd x y) := ⟨mg_add h.1 h2.1, mg_add h.2 h2.2⟩
theorem mgI_sub {e : Nat} {x y : Iv} (h : mgI e x) (h2 : mgI e y) : mgI (e + 1) (ivSub x y) := ⟨mg_sub h.1 h2.2, mg_sub h.2 h2.1⟩
theorem four_mg {a b : Nat} {x y : Iv} (h : mgI a x) (h2 : mgI b y) : ∀ z ∈ four x y, mg (a + b) z := by
  intro z hz
  simp only [four, List.mem_cons, List.mem_nil_iff, or_false] at hz
  rcases hz with rfl | rfl | rfl | rfl
  · exact mg_mul h.1 h2.1
  · exact mg_mul h.1 h2.2
  · exact mg_mul h.2 h2.1
  · exact mg_mul h.2 h2.2
theorem mgI_mul {a b : Nat} {x y : Iv} (h : mgI a x) (h2 : mgI b y) : mgI (a + b) (ivMul x y) :=
  ⟨four_mg h h2 _ (minI_is (by simp [four])).1, four_mg h h2 _ (maxI_is (by simp [four])).1⟩
theorem size_pos {n : Nat} {a : List Rs} (ho : okFrom n 0 a) : ∀ {i : Nat}, i < a.length → 1 ≤ (sizesS a).getD i 0 := by
  intro i
  induction i using Nat.strongRecOn with
  | ind i ih =>
    intro hi
    have ok := ok_at ho hi
    rw [size_at ho hi]
    cases hs : a[i] with
    | inp k => simp [Rs.size]
    | set c => simp [Rs.size]
    | neg j => rw [hs] at ok; exact ih j ok (by have : j < i := ok; omega)
    | add j l => rw [hs] at ok; have := ih j ok.1 (by have := ok.1; omega); simp only [Rs.size]; omega
    | sub j l => rw [hs] at ok; have := ih j ok.1 (by have := ok.1; omega); simp only [Rs.size]; omega
    | mul j l => rw [hs] at ok; have := ih j ok.1 (by have := ok.1; omega); simp only [Rs.size]; omega
/-- the exponent of a step -/
def ex (a : List Rs) (i : Nat) : Nat := (sizesS a).getD i 0 * (70 + i)
theorem ex_up {s t i j : Nat} (hs : 1 ≤ s) (h : s ≤ t) (hj : j < i) : s * (70 + j) + 1 ≤ t * (70 + i) := by
  have h1 : s * (70 + j) ≤ t * (70 + j) := Nat.mul_le_mul_right _ h
  have h2 : t * (70 + j) + t ≤ t * (70 + i) := by
    have : t * (70 + j) + t = t * (70 + j + 1) := by rw [Nat.mul_succ]
    rw [this]; exact Nat.mul_le_mul_left _ (by omega)
  omega
theorem ex_two {s t i j l : Nat} (hs : 1 ≤ s) (hj : j < i) (hl : l < i) : s * (70 + j) + t * (70 + l) + 1 ≤ (s + t) * (70 + i) := by
  have h1 := ex_up (s := s) (t := s) hs (Nat.le_refl _) hj
  have h2 : t * (70 + l) ≤ t * (70 + i) := Nat.mul_le_mul_left _ (by omega)
  rw [Nat.add_mul]; omega
theorem ex_one {s i : Nat} (hs : 1 ≤ s) : 70 ≤ s * (70 + i) := by
  have := Nat.mul_le_mul_right (70 + i) hs; omega
theorem ex_le {n many most : Nat} {a : List Rs} {i : Nat} (h : ∀ x ∈ sizesS a, x ≤ most) (hi : i < a.length) (hl : a.length ≤ many) : ex a i ≤ most * (70 + many) := by
  unfold ex
  exact Nat.mul_le_mul (getD_le h i) (by omega)
theorem vals_mg {n : Nat} {p : List Int} {a : List Rs} (ho : okFrom n 0 a) (hp : ∀ k, k < n → mg 70 (p.getD k 0)) : ∀ {i : Nat}, i < a.length → mg (ex a i) ((valsS p a).getD i 0) := by
  intro i
  induction i using Nat.strongRecOn with
  | ind i ih =>
    intro hi
    have ok := ok_at ho hi
    have sp := size_pos ho hi
    unfold ex
    rw [vals_at ho hi, size_at ho hi]
    rw [size_at ho hi] at sp
    cases hs : a[i] with
    | inp k => rw [hs] at ok sp; exact mg_mono (hp k ok) (ex_one sp)
    | set c => rw [hs] at ok sp; exact mg_mono (mg_70 ok.1 ok.2) (ex_one sp)
    | neg j =>
      rw [hs] at ok sp
      have hj : j < i := ok
      refine mg_mono (mg_neg (ih j hj (by omega))) ?_
      have := ex_up sp (Nat.le_refl _) hj
      simp only [Rs.size] at this ⊢
      unfold ex; omega
    | add j l =>
      rw [hs] at ok sp
      have hj : j < i ∧ l < i := ok
      have s1 := size_pos ho (show j < a.length by omega)
      have s2 := size_pos ho (show l < a.length by omega)
      simp only [Rs.size]
      have g1 := ex_up s1 (Nat.le_max_left ((sizesS a).getD j 0) ((sizesS a).getD l 0)) hj.1
      have g2 := ex_up s2 (Nat.le_max_right ((sizesS a).getD j 0) ((sizesS a).getD l 0)) hj.2
      refine mg_mono (mg_add (e := max (ex a j) (ex a l)) (mg_mono (ih j hj.1 (by omega)) (Nat.le_max_left ..)) (mg_mono (ih l hj.2 (by omega)) (Nat.le_max_right ..))) ?_
      unfold ex; omega
    | sub j l =>
      rw [hs] at ok sp
      have hj : j < i ∧ l < i := ok
      have s1 := size_pos ho (show j < a.length by omega)
      have s2 := size_pos ho (show l < a.length by omega)
      simp only [Rs.size]
      have g1 := ex_up s1 (Nat.le_max_left ((sizesS a).getD j 0) ((sizesS a).getD l 0)) hj.1
      have g2 := ex_up s2 (Nat.le_max_right ((sizesS a).getD j 0) ((sizesS a).getD l 0)) hj.2
      refine mg_mono (mg_sub (e := max (ex a j) (ex a l)) (mg_mono (ih j hj.1 (by omega)) (Nat.le_max_left ..)) (mg_mono (ih l hj.2 (by omega)) (Nat.le_max_right ..))) ?_
      unfold ex; omega
    | mul j l =>
      rw [hs] at ok sp
      have hj : j < i ∧ l < i := ok
      have s1 := size_pos ho (show j < a.length by omega)
      simp only [Rs.size]
      refine mg_mono (mg_mul (ih j hj.1 (by omega)) (ih l hj.2 (by omega))) ?_
      have := ex_two (t := (sizesS a).getD l 0) s1 hj.1 hj.2
      unfold ex; omega
theorem rng_mg {n : Nat} {b : List Iv} {a : List Rs} (ho : okFrom n 0 a) (hp : ∀ k, k < n → mgI 70 (b.getD k (0, 0))) : ∀ {i : Nat}, i < a.length → mgI (ex a i) ((rngsS b a).getD i (0, 0)) := by
  intro i
  induction i using Nat.strongRecOn with
  | ind i ih =>
    intro hi
    have ok := ok_at ho hi
    have sp := size_pos ho hi
    unfold ex
    rw [rng_at ho hi, size_at ho hi]
    rw [size_at ho hi] at sp
    cases hs : a[i] with
    | inp k => rw [hs] at ok sp; exact mgI_mono (hp k ok) (ex_one sp)
    | set c => rw [hs] at ok sp; exact mgI_mono ⟨mg_70 ok.1 ok.2, mg_70 ok.1 ok.2⟩ (ex_one sp)
    | neg j =>
      rw [hs] at ok sp
      have hj : j < i := ok
      refine mgI_mono (mgI_neg (ih j hj (by omega))) ?_
      have := ex_up sp (Nat.le_refl _) hj
      simp only [Rs.size] at this ⊢
      unfold ex; omega
    | add j l =>
      rw [hs] at ok sp
      have hj : j < i ∧ l < i := ok
      have s1 := size_pos ho (show j < a.length by omega)
      have s2 := size_pos ho (show l < a.length by omega)
      simp only [Rs.size]
      have g1 := ex_up s1 (Nat.le_max_left ((sizesS a).getD j 0) ((sizesS a).getD l 0)) hj.1
      have g2 := ex_up s2 (Nat.le_max_right ((sizesS a).getD j 0) ((sizesS a).getD l 0)) hj.2
      refine mgI_mono (mgI_add (e := max (ex a j) (ex a l)) (mgI_mono (ih j hj.1 (by omega)) (Nat.le_max_left ..)) (mgI_mono (ih l hj.2 (by omega)) (Nat.le_max_right ..))) ?_
      unfold ex; omega
    | sub j l =>
      rw [hs] at ok sp
      have hj : j < i ∧ l < i := ok
      have s1 := size_pos ho (show j < a.length by omega)
      have s2 := size_pos ho (show l < a.length by omega)
      simp only [Rs.size]
      have g1 := ex_up s1 (Nat.le_max_left ((sizesS a).getD j 0) ((sizesS a).getD l 0)) hj.1
      have g2 := ex_up s2 (Nat.le_max_right ((sizesS a).getD j 0) ((sizesS a).getD l 0)) hj.2
      refine mgI_mono (mgI_sub (e := max (ex a j) (ex a l)) (mgI_mono (ih j hj.1 (by omega)) (Nat.le_max_left ..)) (mgI_mono (ih l hj.2 (by omega)) (Nat.le_max_right ..))) ?_
      unfold ex; omega
    | mul j l =>
      rw [hs] at ok sp
      have hj : j < i ∧ l < i := ok
      have s1 := size_pos ho (show j < a.length by omega)
      simp only [Rs.size]
      refine mgI_mono (mgI_mul (ih j hj.1 (by omega)) (ih l hj.2 (by omega))) ?_
      have := ex_two (t := (sizesS a).getD l 0) s1 hj.1 hj.2
      unfold ex; omega
theorem rr_mg {n u : Nat} {b : List Iv} {a : List Rs} (ho : okFrom n 0 a) (hp : ∀ k, k < n → mgI 70 (b.getD k (0, 0))) : ∀ {i : Nat}, i < a.length → mgI (ex a i) ((rrS u b a).getD i (0, 0)) := by
  intro i
  induction i using Nat.strongRecOn with
  | ind i ih =>
    intro hi
    have ok := ok_at ho hi
    have sp := size_pos ho hi
    unfold ex
    rw [rr_at ho hi, size_at ho hi]
    rw [size_at ho hi] at sp
    cases hs : a[i] with
    | inp k => rw [hs] at ok sp; have := ex_one (i := i) sp; exact ⟨mg_dlt (by omega), mg_dlt (by omega)⟩
    | set c => exact ⟨mg_0, mg_0⟩
    | neg j =>
      rw [hs] at ok sp
      have hj : j < i := ok
      refine mgI_mono (mgI_neg (ih j hj (by omega))) ?_
      have := ex_up sp (Nat.le_refl _) hj
      simp only [Rs.size] at this ⊢
      unfold ex; omega
    | add j l =>
      rw [hs] at ok sp
      have hj : j < i ∧ l < i := ok
      have s1 := size_pos ho (show j < a.length by omega)
      have s2 := size_pos ho (show l < a.length by omega)
      simp only [Rs.size]
      have g1 := ex_up s1 (Nat.le_max_left ((sizesS a).getD j 0) ((sizesS a).getD l 0)) hj.1
      have g2 := ex_up s2 (Nat.le_max_right ((sizesS a).getD j 0) ((sizesS a).getD l 0)) hj.2
      refine mgI_mono (mgI_add (e := max (ex a j) (ex a l)) (mgI_mono (ih j hj.1 (by omega)) (Nat.le_max_left ..)) (mgI_mono (ih l hj.2 (by omega)) (Nat.le_max_right ..))) ?_
      unfold ex; omega
    | sub j l =>
      rw [hs] at ok sp
      have hj : j < i ∧ l < i := ok
      have s1 := size_pos ho (show j < a.length by omega)
      have s2 := size_pos ho (show l < a.length by omega)
      simp only [Rs.size]
      have g1 := ex_up s1 (Nat.le_max_left ((sizesS a).getD j 0) ((sizesS a).getD l 0)) hj.1
      have g2 := ex_up s2 (Nat.le_max_right ((sizesS a).getD j 0) ((sizesS a).getD l 0)) hj.2
      refine mgI_mono (mgI_sub (e := max (ex a j) (ex a l)) (mgI_mono (ih j hj.1 (by omega)) (Nat.le_max_left ..)) (mgI_mono (ih l hj.2 (by omega)) (Nat.le_max_right ..))) ?_
      unfold ex; omega
    | mul j l =>
      rw [hs] at ok sp
      have hj : j < i ∧ l < i := ok
      have s1 := size_pos ho (show j < a.length by omega)
      simp only [Rs.size, Rs.rr]
      have := ex_two (t := (sizesS a).getD l 0) s1 hj.1 hj.2
      have m1 := mgI_mul (ih j hj.1 (by omega)) (rng_mg ho hp (show l < a.length by omega))
      have m2 := mgI_mul (rng_mg ho hp (show j < a.length by omega)) (ih l hj.2 (by omega))
      refine mgI_mono (mgI_add m1 m2) ?_
      unfold ex; omega
end DL


namespace DL
open PySem PySem.Spec PyProof.Rows L2
/-! RW6: loops over steps. -/
@[simp ↓] theorem wp_asZ {f g : M D} {s : S} {Q : List D → S → Prop} : wp (asZ (aCons f (aCons g aNil))) s Q ↔ wp f s fun x s1 => wp g s1 fun y s2 => ∃ ds es, ((x = .list ds ∧ y = .list es) ∨ (x = .tuple ds ∧ y = .tuple es)) ∧ Q (zipD ds es) s2 := by
  unfold asZ; simp only [wp_bd, wp_aCons, wp_aNil]
  constructor <;> intro h <;> refine wp_mono h fun x s1 h => ?_ <;> refine wp_mono h fun y s2 q => ?_
  · cases x with
    | list ds => cases y with
      | list es => exact ⟨ds, es, .inl ⟨rfl, rfl⟩, wp_rtn.mp q⟩
      | _ => exact (wp_no.mp q).elim
    | tuple ds => cases y with
      | tuple es => exact ⟨ds, es, .inr ⟨rfl, rfl⟩, wp_rtn.mp q⟩
      | _ => exact (wp_no.mp q).elim
    | _ => exact (wp_no.mp q).elim
  · obtain ⟨ds, es, ⟨rfl, rfl⟩ | ⟨rfl, rfl⟩, q⟩ := q <;> exact wp_rtn.mpr q
@[simp ↓] theorem wp_rg2 {f g : M D} {s : S} {Q : List D → S → Prop} : wp (rg2 (aCons f (aCons g aNil))) s Q ↔ wp f s fun x s1 => wp g s1 fun y s2 => ∃ i j : Int, x = .int i ∧ y = .int j ∧ (-(2 ^ 62) ≤ i ∧ i < 2 ^ 62 ∧ -(2 ^ 62) ≤ j ∧ j < 2 ^ 62) ∧ Q (rngD i (j - i).toNat) s2 := by
  unfold rg2; simp only [wp_bd, wp_aCons, wp_aNil]
  constructor <;> intro h <;> refine wp_mono h fun x s1 h => ?_ <;> refine wp_mono h fun y s2 q => ?_
  · cases x with
    | int i => cases y with
      | int j =>
        refine ⟨i, j, rfl, rfl, ?_⟩
        simp only at q
        split at q
        · rename_i hc; exact ⟨hc, wp_rtn.mp q⟩
        · exact (wp_no.mp q).elim
      | _ => exact (wp_no.mp q).elim
    | _ => exact (wp_no.mp q).elim
  · obtain ⟨i, j, rfl, rfl, hc, q⟩ := q
    simp only [if_pos hc, wp_rtn]; exact q
@[simp ↓] theorem wp_rg3 {f g h : M D} {s : S} {Q : List D → S → Prop} : wp (rg3 (aCons f (aCons g (aCons h aNil)))) s Q ↔ wp f s fun x s1 => wp g s1 fun y s2 => wp h s2 fun z s3 => ∃ i j : Int, x = .int i ∧ y = .int j ∧ z = .int (-1) ∧ ((-(2 ^ 62) ≤ i ∧ i < 2 ^ 62) ∧ -(2 ^ 62) ≤ j ∧ j < 2 ^ 62) ∧ Q ((List.range (i - j).toNat).map fun n => .int (i - (n : Nat))) s3 := by
  unfold rg3; simp only [wp_bd, wp_aCons, wp_aNil]
  constructor <;> intro h <;> refine wp_mono h fun x s1 h => ?_ <;> refine wp_mono h fun y s2 h => ?_ <;> refine wp_mono h fun z s3 q => ?_
  · cases x with
    | int i => cases y with
      | int j => cases z with
        | int c =>
          simp only at q
          split at q
          · rename_i hc; exact ⟨i, j, rfl, rfl, by rw [hc.1], hc.2, wp_rtn.mp q⟩
          · exact (wp_no.mp q).elim
        | _ => exact (wp_no.mp q).elim
      | _ => exact (wp_no.mp q).elim
    | _ => exact (wp_no.mp q).elim
  · obtain ⟨i, j, rfl, rfl, rfl, hc, q⟩ := q
    simp only [hc, and_self, if_true, wp_rtn]; exact q
theorem runS_take_getD {α : Type} {op : List α → Rs → α} {d : α} {a : List Rs} {m i : Nat} (hm : m ≤ a.length) (hi : i < m) : (runS op (a.take m) []).getD i d = (runS op a []).getD i d := by
  have e : runS op a [] = runS op (a.drop m) (runS op (a.take m) []) := by rw [← runS_app, List.take_append_drop]
  obtain ⟨t, e2⟩ := runS_pre (op := op) (a := a.drop m) (acc := runS op (a.take m) [])
  have hl : (runS op (a.take m) []).length = m := runS_take_len hm
  rw [e, e2]
  simp only [List.getD_eq_getElem?_getD]
  rw [List.getElem?_append_left (by omega)]
theorem wp_steps {α : Type} {op : List α → Rs → α} (d : α) {n : Nat} {a : List Rs} {asg : D → M Unit} {body : M Fl} {Z : Fl → S → Prop} (I : List α → S → Prop) (ho : okFrom n 0 a)
    (step : ∀ (m : Nat) (h : m < a.length) (l : List α) (s : S), l.length = m → (∀ i, i < m → l.getD i d = (runS op a []).getD i d) → (a[m]).ok n m → I l s → wp (asg (a[m]).d) s fun _ s1 => wp body s1 fun fl s2 => fl = .nx ∧ I (l ++ [op l a[m]]) s2)
    (fin : ∀ s, I (runS op a []) s → Z .nx s) {s : S} (h0 : I [] s) : wp (loop asg body (spsD a)) s Z := by
  refine wp_loop (fun r s => ∃ m, m ≤ a.length ∧ r = (spsD a).drop m ∧ I (runS op (a.take m) []) s) (fun x r s hI => ?_) (fun s hI => ?_) _ _ ⟨0, by omega, rfl, h0⟩
  · obtain ⟨m, hm, hr, hi⟩ := hI
    obtain ⟨h, rfl, rfl⟩ := sps_drop hr.symm
    refine wp_mono (step m h _ s (runS_take_len hm) (fun i hi => runS_take_getD hm hi) (ok_at ho h) hi) fun _ s1 q => ?_
    refine wp_mono q fun fl s2 ⟨e, q⟩ => ?_
    subst e
    exact ⟨m + 1, h, rfl, by rw [runS_take h]; exact q⟩
  · obtain ⟨m, hm, hr, hi⟩ := hI
    have := sps_nil hr.symm
    have e : m = a.length := by omega
    subst e
    rw [List.take_length] at hi
    exact fin s hi
def ivD (x : Iv) : D := .tuple [.int x.1, .int x.2]
def ivsD (l : List Iv) : List D := l.map ivD
theorem ivsD_len {l : List Iv} : (ivsD l).length = l.length := by simp [ivsD]
theorem ivsD_snoc {l : List Iv} {x : Iv} : ivsD l ++ [ivD x] = ivsD (l ++ [x]) := by simp [ivsD]
theorem ivsD_get {l : List Iv} {i : Nat} (h : i < l.length) : atI (ivsD l) (i : Int) = some (ivD (l.getD i (0, 0))) := by
  refine atI_nat ?_
  simp [ivsD, List.getElem?_map, List.getElem?_eq_getElem h]
/-- what evaluating a row asks for -/
structure VOk (n : Nat) (a : List Rs) : Prop where
  ok : okFrom n 0 a
  ex : ∀ i, i < a.length → DL.ex a i ≤ 100000
  al : a.length ≤ 1000
  nl : n ≤ 1000
structure POk (n : Nat) (p : List Int) : Prop where
  len : p.length = n
  mg : ∀ k, k < n → DL.mg 70 (p.getD k 0)
structure BOk (n : Nat) (b : List Iv) : Prop where
  len : b.length = n
  mg : ∀ k, k < n → DL.mgI 70 (b.getD k (0, 0))
  ord : ∀ k, k < n → (b.getD k (0, 0)).1 ≤ (b.getD k (0, 0)).2
theorem mul_ok {e f : Nat} {x y : Int} (hx : mg e x) (hy : mg f y) (he : e ≤ 200000) (hf : f ≤ 200000) : x.natAbs.log2 + y.natAbs.log2 < 1000000 := by
  have h1 := mg_lg (by omega) (mg_mono hx (show e ≤ 200001 by omega))
  have h2 := mg_lg (by omega) (mg_mono hy (show f ≤ 200001 by omega))
  omega
@[simp] theorem dMinL_n {ns : List Int} (h : ns ≠ []) : dMinL [.list (ns.map PyData.int)] = some (.int (minI ns)) := by
  simp [dMinL, nsD_map, h]
@[simp] theorem dMaxL_n {ns : List Int} (h : ns ≠ []) : dMaxL [.list (ns.map PyData.int)] = some (.int (maxI ns)) := by
  simp [dMaxL, nsD_map, h]
theorem dMinL_4 {a b c d : Int} : dMinL [.list [.int a, .int b, .int c, .int d]] = some (.int (minI [a, b, c, d])) := rfl
theorem dMaxL_4 {a b c d : Int} : dMaxL [.list [.int a, .int b, .int c, .int d]] = some (.int (maxI [a, b, c, d])) := rfl
theorem dSortL_4 {a b c d : Int} : dSortL [.list [.int a, .int b, .int c, .int d]] = some (.list ((srtI [a, b, c, d]).map PyData.int)) := rfl
theorem srt_ends {a b c d : Int} : ∃ x y, srtI [a, b, c, d] = [minI [a, b, c, d], x, y, maxI [a, b, c, d]] := by
  have hp := srtI_perm [a, b, c, d]
  have hs := srtI_sorted [a, b, c, d]
  have hl := hp.length_eq
  match h : srtI [a, b, c, d], hl with
  | [p, q, r, s], _ =>
    rw [h] at hp hs
    obtain ⟨m1, m2⟩ := minI_is (ns := [a, b, c, d]) (by simp)
    obtain ⟨m3, m4⟩ := maxI_is (ns := [a, b, c, d]) (by simp)
    have e1 : p = minI [a, b, c, d] := by
      refine Int.le_antisymm ?_ (m2 p (hp.mem_iff.mp (by simp)))
      have := hp.mem_iff.mpr m1
      rw [List.pairwise_cons] at hs
      rcases List.mem_cons.mp this with h | h
      · omega
      · exact hs.1 _ h
    have e2 : s = maxI [a, b, c, d] := by
      refine Int.le_antisymm (m4 s (hp.mem_iff.mp (by simp))) ?_
      have := hp.mem_iff.mpr m3
      simp only [List.pairwise_cons, List.mem_cons, List.mem_nil_iff, or_false] at hs this
      rcases this with h | h | h | h
      · have := hs.1 s (by simp); omega
      · have := hs.2.1 s (by simp); omega
      · have := hs.2.2.1 s (by simp); omega
      · omega
    exact ⟨q, r, by rw [← e1, ← e2]⟩
@[simp] theorem atI_c3 {α : Type} {u v w x : α} {r : List α} : atI (u :: v :: w :: x :: r) 3 = some x := atI_nat (j := 3) rfl
def toldS (p : List Int) (a : List Rs) (e : List Nat) : List Int := e.map fun i => (valsS p a).getD i 0
def pickI (f : List Iv) (e : List Nat) : List Iv := e.map fun i => f.getD i (0, 0)
theorem vals_big {n : Nat} {a : List Rs} {p : List Int} (v : VOk n a) (hp : POk n p) {i : Nat} (hi : i < a.length) : mg 100000 ((valsS p a).getD i 0) := mg_mono (vals_mg v.ok hp.mg hi) (v.ex i hi)
theorem rngs_big {n : Nat} {a : List Rs} {b : List Iv} (v : VOk n a) (hb : BOk n b) {i : Nat} (hi : i < a.length) : mgI 100000 ((rngsS b a).getD i (0, 0)) := mgI_mono (rng_mg v.ok hb.mg hi) (v.ex i hi)
theorem rrs_big {n u : Nat} {a : List Rs} {b : List Iv} (v : VOk n a) (hb : BOk n b) {i : Nat} (hi : i < a.length) : mgI 100000 ((rrS u b a).getD i (0, 0)) := mgI_mono (rr_mg v.ok hb.mg hi) (v.ex i hi)
theorem intsD_mem {e : List Nat} {x : D} (h : x ∈ intsD e) : ∃ i, i ∈ e ∧ x = .int (i : Nat) := by
  simp only [intsD, List.mem_map] at h
  obtain ⟨i, hi, rfl⟩ := h
  exact ⟨i, hi, rfl⟩
theorem intsD_map {e : List Nat} {α : Type} {f : D → α} {g : Nat → α} (h : ∀ i, i ∈ e → f (.int (i : Nat)) = g i) : (intsD e).map f = e.map g := by
  simp only [intsD, List.map_map]
  exact List.map_congr_left fun i hi => h i hi
def midS (b : List Iv) : List Int := b.map fun x => x.1 + (x.2 - x.1) / 2
theorem mid_at {b : List Iv} {k : Nat} (h : k < b.length) : (midS b).getD k 0 = (b.getD k (0, 0)).1 + ((b.getD k (0, 0)).2 - (b.getD k (0, 0)).1) / 2 := by
  simp [midS, List.getElem?_map, List.getElem?_eq_getElem h]
theorem mid_in {n : Nat} {b : List Iv} (hb : BOk n b) : inBox (midS b) b := by
  refine ⟨by simp [midS], fun k hk => ?_⟩
  have := hb.ord k (by have := hb.len; omega)
  rw [mid_at hk]
  unfold inIv
  omega
theorem mg_in {e : Nat} {v : Int} {x : Iv} (h : inIv v x) (hx : mgI e x) : mg e v := by
  unfold inIv at h
  unfold mgI mg at *
  omega
theorem pok_in {n : Nat} {b : List Iv} {p : List Int} (hb : BOk n b) (h : inBox p b) : POk n p := ⟨by rw [h.1, hb.len], fun k hk => mg_in (h.2 k (by rw [hb.len]; exact hk)) (hb.mg k hk)⟩
theorem mid_pok {n : Nat} {b : List Iv} (hb : BOk n b) : POk n (midS b) := pok_in hb (mid_in hb)
def offI (b : List Iv) (u : Nat) : Iv := ((b.getD u (0, 0)).1 - (midS b).getD u 0, (b.getD u (0, 0)).2 - (midS b).getD u 0)
theorem off_mg {n u : Nat} {b : List Iv} (hb : BOk n b) (hu : u < n) : mgI 71 (offI b u) := ⟨mg_sub (hb.mg u hu).1 ((mid_pok hb).mg u hu), mg_sub (hb.mg u hu).2 ((mid_pok hb).mg u hu)⟩
def byI (b : List Iv) (a : List Rs) (i : Nat) : Nat → Iv
  | 0 => ((valsS (midS b) a).getD i 0, (valsS (midS b) a).getD i 0)
  | u + 1 => ivAdd (byI b a i u) (ivMul ((rrS u b a).getD i (0, 0)) (offI b u))
theorem by_in {n : Nat} {b : List Iv} {a : List Rs} {p : List Int} (hb : BOk n b) (ho : okFrom n 0 a) (h : inBox p b) {i : Nat} (hi : i < a.length) : inIv ((valsS p a).getD i 0) (byI b a i n) := by
  have key : ∀ m, m ≤ n → inIv ((valsS (midS b) a).getD i 0 + sumN m fun u => (slpS u p (midS b) a).getD i 0 * (p.getD u 0 - (midS b).getD u 0)) (byI b a i m) := by
    intro m
    induction m with
    | zero => intro _; simp [sumN, byI, inIv]
    | succ m ih =>
      intro hm
      rw [sumN, ← Int.add_assoc]
      refine inIv_add (ih (by omega)) (inIv_mul (slp_in hb.len h (mid_in hb) ho hi) ?_)
      have := h.2 m (by rw [hb.len]; omega)
      unfold inIv at this
      unfold inIv offI
      simp only
      omega
  have := key n (Nat.le_refl _)
  rw [← slp_sum ho hi] at this
  have e : (valsS (midS b) a).getD i 0 + ((valsS p a).getD i 0 - (valsS (midS b) a).getD i 0) = (valsS p a).getD i 0 := by omega
  rwa [e] at this
theorem by_mg {n E : Nat} {b : List Iv} {a : List Rs} (v : VOk n a) (hb : BOk n b) (hE : ∀ i, i < a.length → ex a i ≤ E) {i : Nat} (hi : i < a.length) : ∀ {m : Nat}, m ≤ n → mgI (E + 71 + m) (byI b a i m)
  | 0, _ => by
    have := vals_mg v.ok (mid_pok hb).mg hi
    exact ⟨mg_mono this (by have := hE i hi; omega), mg_mono this (by have := hE i hi; omega)⟩
  | m + 1, hm => by
    have h1 := mgI_mono (mgI_mul (rr_mg (u := m) v.ok hb.mg hi) (off_mg hb (show m < n by omega))) (show ex a i + 71 ≤ E + 71 + m by have := hE i hi; omega)
    exact mgI_add (by_mg v hb hE hi (by omega)) h1
theorem shaped_si {x : Str} {i : Int} (h : PyData.strOk x = true) : SeqAt.shaped (.tuple [.str x, .int i]) = true := by
  simp [SeqAt.shaped, PyData.canLay0, PyData.canLayAll0, PyData.depth, PyData.depthAll, h]
theorem dEq_si {x y : Str} {i j : Int} (h : PyData.strOk x = true) (h2 : PyData.strOk y = true) : dEq (.tuple [.str x, .int i]) (.tuple [.str y, .int j]) = some (.bool (decide (x = y) && decide (i = j))) := by
  rw [dEq_sh (shaped_si h) (shaped_si h2) (fun _ z => by cases z)]
  simp only [PyData.eqv, PyData.eqvAll, Bool.and_true]
  congr 2
end DL


namespace DL
open PySem PySem.Spec PyProof.Rows L2
@[simp] theorem dNotIn_s2 {x a b : Str} : dNotIn (.str x) (.tuple [.str a, .str b]) = some (.bool (!(x == a || x == b))) := by
  have h := dIn_s2 (x := x) (a := a) (b := b)
  unfold dIn at h
  unfold dNotIn
  cases hb : dInB (.str x) (.tuple [.str a, .str b]) with
  | none => rw [hb] at h; cases h
  | some c => rw [hb] at h; simp only [Option.map_some, Option.some.injEq, PyData.bool.injEq] at h ⊢; rw [h]
/-! RW7: rates at points, all inputs at once; sizes of what is shown. -/
theorem sSeq_assoc {A B C : M Fl} : sSeq (sSeq A B) C = sSeq A (sSeq B C) := by
  funext s
  unfold sSeq bd
  cases A s with
  | none => rfl
  | some p =>
    obtain ⟨fl, s1⟩ := p
    cases fl <;> rfl
theorem runS_map {α β : Type} {op : List α → Rs → α} {op' : List β → Rs → β} {h : α → β} (hh : ∀ l s, h (op l s) = op' (l.map h) s) : ∀ {a : List Rs} {acc : List α}, (runS op a acc).map h = runS op' a (acc.map h)
  | [], acc => rfl
  | s :: r, acc => by
    rw [runS, runS, runS_map hh, List.map_append, List.map_cons, List.map_nil, hh]
theorem getD_here {α : Type} {l : List α} {u : Nat} {d : α} (h : u < l.length) : l.getD u d = l[u] := by simp [List.getElem?_eq_getElem h]
/-- the rates by all inputs, step by step -/
def Rs.allr (n : Nat) (v : List Int) (L : List (List Int)) (s : Rs) : List Int := (List.range n).map fun u => Rs.slp u v v (L.map fun l => l.getD u 0) s
def allR (n : Nat) (p : List Int) (a : List Rs) : List (List Int) := runS (Rs.allr n (valsS p a)) a []
theorem allR_len {n : Nat} {p : List Int} {a : List Rs} : (allR n p a).length = a.length := by unfold allR; rw [runS_len]; simp
theorem allR_map {n u : Nat} {p : List Int} {a : List Rs} (hu : u < n) : (allR n p a).map (fun l => l.getD u 0) = slpS u p p a := by
  unfold allR slpS
  rw [runS_map (op' := Rs.slp u (valsS p a) (valsS p a)) fun l s => by simp [Rs.allr, List.getElem?_map, List.getElem?_range hu]]
  rfl
theorem allR_at {n u i : Nat} {p : List Int} {a : List Rs} (hu : u < n) (hi : i < a.length) : ((allR n p a).getD i []).getD u 0 = (slpS u p p a).getD i 0 := by
  rw [← allR_map hu]
  have hi : i < (allR n p a).length := by rw [allR_len]; exact hi
  simp [List.getElem?_map, List.getElem?_eq_getElem hi]
theorem runS_all {α : Type} {op : List α → Rs → α} {P : α → Prop} (h : ∀ l s, P (op l s)) : ∀ {a : List Rs} {acc : List α}, (∀ x ∈ acc, P x) → ∀ x ∈ runS op a acc, P x
  | [], acc, ha => ha
  | s :: r, acc, ha => by
    rw [runS]
    refine runS_all h fun x hx => ?_
    rcases List.mem_append.mp hx with hx | hx
    · exact ha x hx
    · simp at hx; subst hx; exact h acc s
theorem allR_wide {n : Nat} {p : List Int} {a : List Rs} : ∀ l ∈ allR n p a, l.length = n := runS_all (P := fun l : List Int => l.length = n) (fun l s => by simp [Rs.allr]) (by simp)
theorem allR_row {n i : Nat} {p : List Int} {a : List Rs} (hi : i < a.length) : (allR n p a).getD i [] = (List.range n).map fun u => (slpS u p p a).getD i 0 := by
  have hi2 : i < (allR n p a).length := by rw [allR_len]; exact hi
  have hw : ((allR n p a).getD i []).length = n := by
    have : (allR n p a).getD i [] = (allR n p a)[i] := by simp [List.getElem?_eq_getElem hi2]
    rw [this]; exact allR_wide _ (List.getElem_mem _)
  refine List.ext_getElem (by rw [hw]; simp) fun u h1 h2 => ?_
  have hu : u < n := by rw [hw] at h1; exact h1
  have := allR_at (p := p) hu hi
  simp only [List.getElem_map, List.getElem_range]
  rw [← this, getD_here h1]
def ptB (p : List Int) : List Iv := p.map fun x => (x, x)
theorem ptB_at {p : List Int} {k : Nat} (h : k < p.length) : (ptB p).getD k (0, 0) = (p.getD k 0, p.getD k 0) := by
  simp [ptB, List.getElem?_map, List.getElem?_eq_getElem h]
theorem ptB_ok {n : Nat} {p : List Int} (hp : POk n p) : BOk n (ptB p) := by
  refine ⟨by simp [ptB, hp.len], fun k hk => ?_, fun k hk => ?_⟩
  · rw [ptB_at (by rw [hp.len]; exact hk)]; exact ⟨hp.mg k hk, hp.mg k hk⟩
  · rw [ptB_at (by rw [hp.len]; exact hk)]; exact Int.le_refl _
theorem ptB_in {p : List Int} : inBox p (ptB p) := by
  refine ⟨by simp [ptB], fun k hk => ?_⟩
  rw [ptB_at (by simpa [ptB] using hk)]
  exact ⟨Int.le_refl _, Int.le_refl _⟩
theorem slp_mg {n u : Nat} {a : List Rs} {p : List Int} (ho : okFrom n 0 a) (hp : POk n p) {i : Nat} (hi : i < a.length) : mg (ex a i) ((slpS u p p a).getD i 0) :=
  mg_in (slp_in (ptB_ok hp).len ptB_in ptB_in ho hi) (rr_mg ho (ptB_ok hp).mg hi)
theorem slp_big {n u : Nat} {a : List Rs} {p : List Int} (v : VOk n a) (hp : POk n p) {i : Nat} (hi : i < a.length) : mg 100000 ((slpS u p p a).getD i 0) := mg_mono (slp_mg v.ok hp hi) (v.ex i hi)
/-! sizes -/
theorem sz_mg {e : Nat} {x : Int} (h : mg e x) (he : 0 < e) (h2 : e ≤ 1900) : sz (.int x) ≤ e + 2 := sz_intB he (by omega) h
theorem sz_iv {e : Nat} {x : Iv} (h : mgI e x) (he : 0 < e) (h2 : e ≤ 1900) : sz (ivD x) ≤ 2 * e + 12 ∧ (ivD x).depth ≤ 1 := by
  have h3 := sz_mg h.1 he h2
  have h4 := sz_mg h.2 he h2
  unfold ivD
  constructor
  · simp only [sz_tup, szA]; omega
  · simp [PyData.depth, PyData.depthAll]
theorem sz_ivs {e : Nat} {l : List Iv} (h : ∀ x ∈ l, mgI e x) (he : 0 < e) (h2 : e ≤ 1900) : szA (ivsD l) ≤ l.length * (2 * e + 14) ∧ PyData.depthAll (ivsD l) ≤ 1 := by
  have h1 : ∀ d ∈ ivsD l, sz d ≤ 2 * e + 12 ∧ d.depth ≤ 1 := fun d hd => by
    simp only [ivsD, List.mem_map] at hd
    obtain ⟨x, hx, rfl⟩ := hd
    exact sz_iv (h x hx) he h2
  have z1 := szA_le_of fun d hd => (h1 d hd).1
  rw [ivsD_len] at z1
  exact ⟨z1, depthA_le_of fun d hd => (h1 d hd).2⟩
theorem sz_nums {e : Nat} {l : List Int} (h : ∀ x ∈ l, mg e x) (he : 0 < e) (h2 : e ≤ 1900) : szA (numsD l) ≤ l.length * (e + 4) ∧ PyData.depthAll (numsD l) ≤ 0 := by
  have h1 : ∀ d ∈ numsD l, sz d ≤ e + 2 ∧ d.depth ≤ 0 := fun d hd => by
    simp only [numsD, List.mem_map] at hd
    obtain ⟨x, hx, rfl⟩ := hd
    exact ⟨sz_mg (h x hx) he h2, by simp [PyData.depth]⟩
  have z1 := szA_le_of fun d hd => (h1 d hd).1
  rw [numsD_len] at z1
  exact ⟨z1, depthA_le_of fun d hd => (h1 d hd).2⟩
/-- a box as the law draws it -/
structure BxOk (n : Nat) (b : List Iv) : Prop where
  len : b.length = n
  at_ : ∀ x ∈ b, -100000000000000000000 ≤ x.1 ∧ x.1 ≤ x.2 ∧ x.2 ≤ 100000000000000000000
theorem BxOk.bok {n : Nat} {b : List Iv} (h : BxOk n b) : BOk n b := by
  have key : ∀ k, k < n → ∃ x ∈ b, b.getD k (0, 0) = x := fun k hk => by
    have hk2 : k < b.length := by rw [h.len]; exact hk
    exact ⟨b[k], List.getElem_mem _, by simp [List.getElem?_eq_getElem hk2]⟩
  refine ⟨h.len, fun k hk => ?_, fun k hk => ?_⟩
  · obtain ⟨x, hx, e⟩ := key k hk
    have := h.at_ x hx
    rw [e]; exact ⟨mg_70 (by omega) (by omega), mg_70 (by omega) (by omega)⟩
  · obtain ⟨x, hx, e⟩ := key k hk
    have := h.at_ x hx
    rw [e]; omega
theorem vok_of {n many most : Nat} {a : List Rs} {e : List Nat} (hn : n ≤ 1000) (hm : many ≤ 1000) (hb : most * (70 + many) ≤ 100000) (h : RowOk n many most a e) : VOk n a :=
  ⟨h.ok, fun i hi => Nat.le_trans (ex_le (n := n) h.siz hi h.len.2) hb, by have := h.len.2; omega, hn⟩
end DL


namespace DL
open PySem PySem.Spec PyProof.Rows L2
/-! DL26: x.extend(e); while. -/
section
variable {X : Cx} {K : PySem.W.Frag} {e : Expr} {te : TE} {f : M D} {pos : Pos}
def sExt (i : Nat) (f : M D) : M Fl := fun s => match s.g[i]? with
  | some (some (.lst _)) => (bd f fun d => fun s1 => match s1.g[i]?, d with
    | some (some (.lst ds)), .list es => if ds.length + es.length ≤ lim then some (.nx, { s1 with g := s1.g.set i (some (.lst (ds ++ es))) }) else none
    | _, _ => none) s
  | _ => none
theorem es_ext {i : Nat} (h : EvE K te f) : EvS K (tDrop (tBM K "list" rExtend (tVar i) (tCons te tNil))) (sExt i f) := by
  intro A hid P s σ H fl s' ok e D q
  unfold sExt at e
  split at e
  · rename_i ds0 hg0
    obtain ⟨d, s1, h1, e⟩ := bd_some e
    obtain ⟨a, vs0, ea, k1, _⟩ := ok.slot i _ hg0
    refine ⟨.ref a, ea, .inl ⟨rfl, vs0, SqL.of k1⟩, ?_⟩
    refine h A hid P s σ H d s1 ok h1 _ fun v P1 H1 ok1 st1 r => ?_
    split at e
    · rename_i ds es hg
      split at e
      · rename_i hl
        cases e
        obtain ⟨b, vs, eb, m1, m2, m3, m4, mr⟩ := ok1.slot i _ hg
        rw [ea] at eb; cases eb
        obtain ⟨b2, us, rfl, n1, nr⟩ := r.lst_inv
        obtain ⟨ok2, st2⟩ := ok1.put_cell hg ea (mr.append nr)
        refine ⟨a, b2, vs, us, rfl, rfl, m1, mask_le _ _ n1, by rw [mr.length, nr.length]; exact lim_le hl, ?_⟩
        exact q σ P1 _ ok2 (st1.trans st2)
      · cases e
    · cases e
  · cases e
theorem ds_extend (i : Nat) {x : Str} {px pa pe : Pos} (h : DE X e te f) (hN : X.N[i]? = some x := by rfl) (hv : Vis X.env.scope x := by first | exact Or.inl rfl | exact Or.inr (Or.inl rfl) | exact Or.inr (Or.inr rfl))
    (hd : (x == ("__debug__" : Str)) = false := by decide) (hcd : (x == ("__classdict__" : Str)) = false := by decide) (hst : starEach [e] X.env = (false, eval e X.env) :: starEach [] X.env := by rfl)
    (hbase : attributeBase (.Name x px) "extend" X.env (eval (.Name x px) X.env) = eval (.Name x px) X.env := by rfl)
    (hfew : ((backTo pe (starEach [e] X.env)).all (fun x => !x.1) && (backToKw pe (keywordEach [] X.env)).all (fun x => x.1.isSome) && decide ([e].length + ([] : List Keyword).length + (if ([] : List Keyword).isEmpty then 0 else 1) < 30)) = true := by rfl)
    (hline : (pa.endLine == pe.line) = true := by rfl) (hplain : (backTo pe (starEach [] X.env)).any (·.1) = false := by rfl)
    (hs : swapsWith (.Call (.Attribute (.Name x px) "extend" pa) [e] [] pe) none pos.line X.env = pure false := by rfl) : DS X (.Expr (.Call (.Attribute (.Name x px) "extend" pa) [e] [] pe) pos) (tDrop (tBM X.K "list" rExtend (tVar i) (tCons te tNil))) (sExt i f) :=
  ⟨ps_expr (pe_bm PySem.F.plainAttrs_list PySem.F.slot_list_extend PySem.F.type_list_extend mt_extend (pe_var hN hv hd hcd) (pa_cons h.p pa_nil hst) hbase hfew hline hst hplain) hs, es_ext h.v⟩
/-! ### while -/
def wloop (c : M Bool) (b : M Fl) : Nat → M Fl
  | 0 => fun _ => none
  | n + 1 => bd c fun t => if t = true then bd b fun fl => match fl with
    | .nx => wloop c b n
    | .ct => wloop c b n
    | .bk => rtn .nx
    | .rt d => rtn (.rt d) else rtn .nx
def fuelW : Nat := 1000000
def sWhile (c : M Bool) (b : M Fl) : M Fl := wloop c b fuelW
theorem es_while {tc : TT} {tb : TS} {fc : M Bool} {fb : M Fl} (hc : EvT K tc fc) (hb : EvS K tb fb) : EvS K (tWhile tc tb) (sWhile fc fb) := by
  intro A hid P s σ H fl s' ok e D q
  refine ⟨fun m σ1 H1 => ∃ P1 s1, SOk K A hid P1 s1 σ1 H1 ∧ Stp hid P P1 H H1 ∧ wloop fc fb m s1 = some (fl, s'), ⟨fuelW, P, s, ok, Stp.refl, e⟩, ?_⟩
  rintro m σ1 H1 ⟨P1, s1, ok1, st1, e1⟩
  cases m with
  | zero => cases e1
  | succ m =>
    obtain ⟨t, s2, e2, e3⟩ := bd_some e1
    refine hc A hid P1 s1 σ1 H1 t s2 ok1 e2 _ fun P2 H2 ok2 st2 => ?_
    cases t with
    | false =>
      simp only [Bool.false_eq_true, if_false] at e3
      obtain ⟨rfl, rfl⟩ := rtn_some e3
      exact q σ1 P2 H2 ok2 (st1.trans st2)
    | true =>
      simp only [if_true] at e3
      obtain ⟨fl4, s4, e4, e5⟩ := bd_some e3
      refine ⟨fun σ' H' => ∃ P1 s1, SOk K A hid P1 s1 σ' H' ∧ Stp hid P P1 H H' ∧ wloop fc fb m s1 = some (fl, s'), fun σ' H' h => ⟨m, Nat.lt_succ_self _, h⟩, ?_⟩
      refine hb A hid P2 s2 σ1 H2 fl4 s4 ok2 e4 _ ?_
      cases fl4 with
      | nx => exact fun σ' P' H' ok' st' => ⟨P', s4, ok', (st1.trans st2).trans st', e5⟩
      | ct => exact fun σ' P' H' ok' st' => ⟨P', s4, ok', (st1.trans st2).trans st', e5⟩
      | bk =>
        obtain ⟨rfl, rfl⟩ := rtn_some e5
        exact fun σ' P' H' ok' st' => q σ' P' H' ok' ((st1.trans st2).trans st')
      | rt r =>
        obtain ⟨rfl, rfl⟩ := rtn_some e5
        exact fun v σ' P' H' ok' st' rr => q v σ' P' H' ok' ((st1.trans st2).trans st') rr
theorem ds_while {c : Expr} {body : List Stmt} {tc : TT} {tb : TS} {fc : M Bool} {fb : M Fl} (hp : PassesOwn (model X.prog X.w) X.A X.env X.xe) (hc : DT X c tc fc) (hb : DSs X body tb fb) : DS X (.While c body [] pos) (tWhile tc tb) (sWhile fc fb) := ⟨ps_while hp hc.p hb.p, es_while hc.v hb.v⟩
theorem x_while {c : Expr} {p : List Stmt} {m : M Fl} {tc : TT} {g : M Bool} (hc : DT X c tc g) (hb : XS X p m) (hp : PassesOwn (model X.prog X.w) X.A X.env X.xe := by exact PassesOwn.never) : X1 X (.While c p [] pos) (sWhile g m) := let ⟨_, hb⟩ := hb; ⟨_, ds_while hp hc hb⟩
end
end DL


namespace DL
open PySem PySem.Spec PyProof.Rows L2
/-! DL28: range(a, b) of any ints. -/
theorem turn_long {P : Program} {w : World} {K : PySem.W.Frag} {tg : Expr} (it : Addr) (lo : Int) (n : Nat) : Turn P w K tg (Itr lo n) [it] it (fun i h => IsLongIter h it (lo + (i : Nat) * 1) ((n : Int) - (i : Nat)) 1) where
  mem := by simp
  obj := fun i h st b hb => by
    have e : b = it := by simpa using hb
    subst e
    exact ⟨_, st, fun v z => by
      have z' : Data.fields _ = Data.cell v := z
      cases z'⟩
  keep := fun i h h' st k => k it (by simp) _ st
  item := by
    intro X hP hw hK hc i pins s σ H E I hf st hg
    subst hP hw hK
    obtain ⟨f0, f1, f2, f3, f4, f5⟩ := hf it (by simp)
    have W := Walks.longrange (prog := X.prog) (w := X.w) (I.ok.hd hc) it lo 1 n
    refine W.item i s _ _ hg st fun v h' tk hv st' kk => ?_
    obtain ⟨t, rfl⟩ := hv
    have I1 : Inv X pins σ H { s with heap := h', toks := tk } := I.turned (fun b o hb e => kk b o (by simpa using hb) e) f0 f1 f3 f4 f5
    refine ⟨_, rfl, go_of (s := { s with heap := h', toks := tk }) (n := "longrange_iterator") st' rfl rfl (by decide) ⟨.int (lo + i), H, I1, ⟨t, ?_⟩, ⟨rfl, rfl⟩, st', fun b hb => (hf b hb).1⟩⟩
    rw [Int.mul_one]
  done := by
    intro X hP hw hK hc i pins s σ H E I hf st hg
    subst hP hw hK
    obtain ⟨f0, f1, f2, f3, f4, f5⟩ := hf it (by simp)
    exact wpAny_pyNext_long_end (I.ok.hd hc) st (by have : n ≤ i := hg; omega) fun h' eb => ⟨rfl, I.turned (t' := s.toks) (fun b o hb e => eb b o hb e) f0 f1 f3 f4 f5⟩
  self := fun _ _ _ _ _ st h => wpAny_pyIter_longiter st h
section
variable {X : Cx} {tg : Expr} {K : PySem.W.Frag}
theorem range_any {pins : List (Addr × Obj)} {σ : St} {H : Hp} {s : Shared} {R : It → Hp → Prop} {E : Value → Shared → Prop} {lo hi : Int} {t u v : Tok} {tk : Nat} (I : Inv X pins σ H s)
    (q : R (Itr lo (hi - lo).toNat) H) : wpAny (model X.prog X.w) X.A (pyIter (.ref s.heap.objs.size)) (PIE X pins σ tg R) E { s with heap := s.heap.push { cls := .type "range", data := .fields #[.int lo t, .int hi u, .int 1 v] }, toks := tk } := by
  have I1 : Inv X pins σ H { s with heap := s.heap.push { cls := .type "range", data := .fields #[.int lo t, .int hi u, .int 1 v] }, toks := tk } := I.kept fun b o e => Heap.get?_push_of_some _ e
  have e1 : lo + ((0 : Nat) : Int) * 1 = lo := by simp
  have e2 : (((hi - lo).toNat : Nat) : Int) - ((0 : Nat) : Int) = Builtin.Range.rangeSize lo hi 1 := by rw [rangeSize_one]; split <;> omega
  have hf : ∀ b ∈ [(s.heap.push { cls := .type "range", data := .fields #[.int lo t, .int hi u, .int 1 v] }).objs.size], FpOk X pins H b := fun b hb => by
    have e : b = (s.heap.push { cls := .type "range", data := .fields #[.int lo t, .int hi u, .int 1 v] }).objs.size := by simpa using hb
    subst e
    exact I1.fpOk (Nat.le_refl _) (I1.hok.fresh (Nat.le_refl _))
  cases hs : Builtin.Range.small lo hi 1 with
  | true =>
    refine wpAny_pyIter_range (IsRange.new ..) hs ?_
    refine ⟨(s.heap.push { cls := .type "range", data := .fields #[.int lo t, .int hi u, .int 1 v] }).objs.size, [(s.heap.push { cls := .type "range", data := .fields #[.int lo t, .int hi u, .int 1 v] }).objs.size], _, _, H, rfl,
      I1.kept (t' := tk) fun b o e => Heap.get?_push_of_some _ e, turn_range _ lo (hi - lo).toNat, ?_, hf, q⟩
    show IsRangeIter _ _ (lo + ((0 : Nat) : Int) * 1) ((((hi - lo).toNat : Nat) : Int) - ((0 : Nat) : Int)) 1
    rw [e1, e2]
    exact Heap.get?_push_size _ rfl
  | false =>
    refine wpAny_pyIter_longrange (IsRange.new ..) hs ?_
    refine ⟨(s.heap.push { cls := .type "range", data := .fields #[.int lo t, .int hi u, .int 1 v] }).objs.size, [(s.heap.push { cls := .type "range", data := .fields #[.int lo t, .int hi u, .int 1 v] }).objs.size], _, _, H, rfl,
      I1.kept (t' := tk) fun b o e => Heap.get?_push_of_some _ e, turn_long _ lo (hi - lo).toNat, ?_, hf, q⟩
    show IsLongIter _ _ (lo + ((0 : Nat) : Int) * 1) ((((hi - lo).toNat : Nat) : Int) - ((0 : Nat) : Int)) 1
    rw [e1, e2]
    exact Heap.get?_push_size _ rfl
def iRngW (ta : TA) : TI := fun σ H R => ta σ H fun vs H1 => ∃ i j : Int, vs = [.int i, .int j] ∧ R (Itr i (j - i).toNat) H1
theorem pi_rangeW {a b : Expr} {ta : TA} {p pos : Pos} (hg : Gl X "range") (hm : X.mg "range" = none) (ha : PA X [a, b] ta) (hs : starEach [a, b] X.env = [(false, eval a X.env), (false, eval b X.env)] := by rfl) (hs2 : starEach [b] X.env = [(false, eval b X.env)] := by rfl) :
    PI X tg (.Call (.Name "range" p) [a, b] [] pos) (iRngW ta) := by
  refine ⟨fun pins s σ H R I h => ?_⟩
  refine Call_ (ld_blt I hg hm boot_range (PyProof.Rows.callWith_type1 (thn (ha.run pos pins s σ H _ I h) fun us s1 ⟨vs, H1, I1, r1, q1⟩ => ?_) (by rw [hs, hs2]) (by rw [hs2]; rfl)))
  obtain ⟨i, j, e, q⟩ := q1
  subst e
  cases r1 with
  | cons r rr =>
    cases rr with
    | cons r' rr =>
      cases rr
      obtain ⟨t, rfl⟩ := r
      obtain ⟨t', rfl⟩ := r'
      exact call_range_2 (range_any I1 q)
def rgW (fr : M (List D)) : M (List D) := bd fr fun ds => match ds with
  | [.int i, .int j] => rtn (rngD i (j - i).toNat)
  | _ => fun _ => none
theorem ei_rgW {tr : TA} {fr : M (List D)} (h : EvA K tr fr) : EvI K (iRngW tr) (rgW fr) := by
  intro A hid P s σ H ds s' ok e R q
  obtain ⟨x, s1, h1, e⟩ := bd_some e
  refine h A hid P s σ H x s1 ok h1 _ fun v P1 H1 ok1 st1 r => ?_
  split at e
  · rename_i i j
    obtain ⟨rfl, rfl⟩ := rtn_some e
    obtain ⟨v, u, rfl, r0, r1⟩ := r.two
    cases r0; cases r1
    exact ⟨i, j, rfl, q _ _ P1 H1 ok1 st1 walkR trivial⟩
  · cases e
theorem k_rgW {a b : Expr} {ta : TA} {f : M (List D)} {p pos : Pos} (hg : Gl X "range") (hm : X.mg "range" = none) (ha : DAr X [a, b] ta f) (hs : starEach [a, b] X.env = [(false, eval a X.env), (false, eval b X.env)] := by rfl) (hs2 : starEach [b] X.env = [(false, eval b X.env)] := by rfl) :
    DI X tg (.Call (.Name "range" p) [a, b] [] pos) (iRngW ta) (rgW f) := ⟨pi_rangeW hg hm ha.p hs hs2, ei_rgW ha.v⟩
end
end DL


namespace DL
open PySem PySem.Spec PyProof.Rows L2
/-! DL27: the pure side of DL26. -/
section
variable {s : S} {Z : Fl → S → Prop}
@[simp ↓] theorem wp_sExt {i : Nat} {f : M D} : wp (sExt i f) s Z ↔ (∃ l0, s.g[i]? = some (some (.lst l0))) ∧ wp f s fun d s1 => ∃ ds es, s1.g[i]? = some (some (.lst ds)) ∧ d = .list es ∧ ds.length + es.length ≤ lim ∧ Z .nx ⟨s1.g.set i (some (.lst (ds ++ es))), s1.k⟩ := by
  constructor
  · rintro ⟨fl, s', e, q⟩
    unfold sExt at e
    split at e
    · rename_i l0 h0
      obtain ⟨d, s1, e1, e2⟩ := bd_some e
      refine ⟨⟨l0, h0⟩, d, s1, e1, ?_⟩
      split at e2
      · rename_i ds es h1
        split at e2
        · rename_i hl; cases e2; exact ⟨ds, es, h1, rfl, hl, q⟩
        · cases e2
      · cases e2
    · cases e
  · rintro ⟨⟨l0, h0⟩, d, s1, e1, ds, es, h1, rfl, hl, q⟩
    refine ⟨.nx, _, ?_, q⟩
    unfold sExt
    rw [h0]
    show bd f _ s = _
    unfold bd
    rw [e1]
    simp only [h1, hl, if_true]
/-- a while by what stands and a measure -/
theorem wp_while {c : M Bool} {b : M Fl} (I : Nat → S → Prop) (step : ∀ m s, I m s → wp c s fun t s1 => if t = true then wp b s1 fun fl s2 => match fl with
    | .nx => ∃ m', m' < m ∧ I m' s2
    | .ct => ∃ m', m' < m ∧ I m' s2
    | .bk => Z .nx s2
    | .rt d => Z (.rt d) s2 else Z .nx s1) {m : Nat} (hm : m < 1000000) {s : S} (h : I m s) : wp (sWhile c b) s Z := by
  have key : ∀ (n m : Nat) (s : S), m < n → I m s → wp (wloop c b n) s Z := by
    intro n
    induction n with
    | zero => intro m s h; omega
    | succ n ih =>
      intro m s hmn hI
      unfold wloop
      rw [wp_bd]
      refine wp_mono (step m s hI) fun t s1 q => ?_
      cases t with
      | false => simp only [Bool.false_eq_true, if_false] at q ⊢; exact wp_rtn.mpr q
      | true =>
        simp only [if_true] at q ⊢
        rw [wp_bd]
        refine wp_mono q fun fl s2 q => ?_
        cases fl with
        | nx => obtain ⟨m', h1, h2⟩ := q; exact ih m' s2 (by omega) h2
        | ct => obtain ⟨m', h1, h2⟩ := q; exact ih m' s2 (by omega) h2
        | bk => exact wp_rtn.mpr q
        | rt d => exact wp_rtn.mpr q
  exact key 1000000 m s hm h
@[simp ↓] theorem wp_rgW {f g : M D} {Q : List D → S → Prop} : wp (rgW (aCons f (aCons g aNil))) s Q ↔ wp f s fun x s1 => wp g s1 fun y s2 => ∃ i j : Int, x = .int i ∧ y = .int j ∧ Q (rngD i (j - i).toNat) s2 := by
  unfold rgW; simp only [wp_bd, wp_aCons, wp_aNil]
  constructor <;> intro h <;> refine wp_mono h fun x s1 h => ?_ <;> refine wp_mono h fun y s2 q => ?_
  · cases x with
    | int i => cases y with
      | int j => exact ⟨i, j, rfl, rfl, wp_rtn.mp q⟩
      | _ => exact (wp_no.mp q).elim
    | _ => exact (wp_no.mp q).elim
  · obtain ⟨i, j, rfl, rfl, q⟩ := q
    exact wp_rtn.mpr q
end
end DL


namespace DL
open PySem PySem.Spec PyProof.Rows L2
/-! DL29: x[i] = v, x a list cell. -/
def gPut (i : Nat) (fi : M D) (d : D) : M Unit := fun s => match s.g[i]? with
  | some (some (.lst _)) => bd fi (fun j s1 => match j, s1.g[i]? with
      | .int k, some (some (.lst ds)) => (match ixN ds.length k with
          | some n => some ((), { s1 with g := s1.g.set i (some (.lst (ds.set n d))) })
          | none => none)
      | _, _ => none) s
  | _ => none
section
variable {X : Cx} {K : PySem.W.Frag} {ti : TE} {fi : M D}
theorem eg_put {i : Nat} (h : EvE K ti fi) : EvG K [] (gSub (tVar i) ti rSetL) (gPut i fi) := by
  intro A hid P s σ H v d s' ok r e Q q
  unfold gPut at e
  split at e
  · rename_i ds0 hg0
    obtain ⟨j, s1, h1, e⟩ := bd_some e
    obtain ⟨a, vs0, ea, k1, _⟩ := ok.slot i _ hg0
    refine ⟨.ref a, ea, ?_⟩
    refine h A hid P s σ H j s1 ok h1 _ fun w P1 H1 ok1 st1 rw_ => ?_
    split at e
    · rename_i k ds hg
      split at e
      · rename_i n hn
        cases e
        obtain ⟨b, vs, eb, m1, m2, m3, m4, mr⟩ := ok1.slot i _ hg
        rw [ea] at eb; cases eb
        obtain ⟨ok2, st2⟩ := ok1.put_cell hg ea (RpA.set (st1.rp r) n mr)
        cases rw_
        exact ⟨a, vs, k, n, rfl, rfl, m1, by rw [mr.length]; exact hn, q σ P1 _ ok2 (st1.trans st2) OutSame.refl⟩
      · cases e
    · cases e
  · cases e
theorem dg_put (i : Nat) {x : Str} {px pos : Pos} {e : Expr} (h : DE X e ti fi) (hN : X.N[i]? = some x := by rfl) (hv : Vis X.env.scope x := by first | exact Or.inl rfl | exact Or.inr (Or.inl rfl) | exact Or.inr (Or.inr rfl))
    (hd : (x == ("__debug__" : Str)) = false := by decide) (hcd : (x == ("__classdict__" : Str)) = false := by decide)
    (ha : ∀ v, assign (.Subscript (.Name x px) e pos) X.env v = (do
      let ov ← holding [v] (eval (.Name x px) X.env)
      let iv ← holding [v, ov] (eval e X.env)
      standAt pos
      holding [v, ov, iv] (setItem ov iv v)
      release [v, ov, iv] []) := by intro _; rfl) : DG X (.Subscript (.Name x px) e pos) [] (gSub (tVar i) ti rSetL) (gPut i fi) :=
  ⟨pg_sub (pe_var hN hv hd hcd) h.p set_list ha, eg_put h.v⟩
variable {s : S} {Q : Unit → S → Prop}
theorem wp_gPut {i : Nat} {d : D} {ds0 : List D} (h0 : s.g[i]? = some (some (.lst ds0))) : wp (gPut i fi d) s Q ↔ wp fi s fun j s1 => ∃ k ds n, j = .int k ∧ s1.g[i]? = some (some (.lst ds)) ∧ ixN ds.length k = some n ∧ Q () { s1 with g := s1.g.set i (some (.lst (ds.set n d))) } := by
  unfold gPut wp
  simp only [h0, bd]
  constructor
  · rintro ⟨a, s', e, q⟩
    cases hf : fi s with
    | none => rw [hf] at e; cases e
    | some y =>
      obtain ⟨j, s1⟩ := y
      rw [hf] at e
      dsimp only at e
      refine ⟨j, s1, rfl, ?_⟩
      split at e
      · rename_i k ds hg
        split at e
        · rename_i n hn
          cases e
          exact ⟨k, ds, n, rfl, hg, hn, q⟩
        · cases e
      · cases e
  · rintro ⟨j, s1, hf, k, ds, n, rfl, hg, hn, q⟩
    refine ⟨(), _, ?_, q⟩
    rw [hf]
    simp only [hg, hn]
end
/-! ### a list that is made anew by an operator -/
/-- the operator gives a new list -/
def DO2N (K : PySem.W.Frag) (r : R2) (op : D → D → Option (List D)) : Prop := ∀ (P : Addr → Prop) (H : Hp) (x y : V) (dx dy : D) (ds : List D), Rp K (mask P H) x dx → Rp K (mask P H) y dy → op dx dy = some ds →
  ∀ Q : VK, (∀ vs p, H p = none → RpA K (mask P H) vs ds → Q (.ref p) (upd H p (.lst vs))) → r x y H Q
def nOp2 (op : D → D → Option (List D)) (fa fb : M D) : M (List D) := bd fa fun x => bd fb fun y => lf (op x y)
theorem en_op2 {K : PySem.W.Frag} {ta tb : TE} {fa fb : M D} {r : R2} {op : D → D → Option (List D)} (hr : DO2N K r op) (ha : EvE K ta fa) (hb : EvE K tb fb) : EvN K (tOp r ta tb) (nOp2 op fa fb) := by
  intro A hid P s σ H ds s' ok h Q q
  obtain ⟨x, s1, h1, h⟩ := bd_some h
  obtain ⟨y, s2, h2, h⟩ := bd_some h
  obtain ⟨h3, rfl⟩ := lf_some h
  refine ha A hid P s σ H x s1 ok h1 _ fun v P1 H1 ok1 st1 r1 => ?_
  refine hb A hid P1 s1 σ H1 y _ ok1 h2 _ fun u P2 H2 ok2 st2 r2 => ?_
  refine hr P2 H2 v u x y ds (st2.rp r1) r2 h3 _ fun vs p hp rv => ?_
  exact q vs P2 H2 p ok2 (st1.trans st2) hp rv
theorem dn_bin {X : Cx} {a b : Expr} {pos : Pos} {ta tb : TE} {fa fb : M D} {op : Operator} {r : R2} {dop : D → D → Option (List D)} (ho : OpR X (binaryOp op) r) (hr : DO2N X.K r dop) (ha : DE X a ta fa) (hb : DE X b tb fb) : DN X (.BinOp a op b pos) (tOp r ta tb) (nOp2 dop fa fb) :=
  ⟨pe_op ho ha.p hb.p, en_op2 hr ha.v hb.v⟩
/-- [..] * n -/
def nMul : D → D → Option (List D)
  | .list a, .int k => if -(2 ^ 62) < k ∧ k < 2 ^ 62 ∧ a.length * k.toNat ≤ lim then some (List.replicate k.toNat a).flatten else none
  | _, _ => none
theorem do_nMul {K : PySem.W.Frag} : DO2N K (rMulD K) nMul := by
  intro P H x y dx dy ds hx hy e Q q
  unfold nMul at e
  split at e
  · rename_i a k
    split at e
    · rename_i h; cases e
      obtain ⟨l, vs, rfl, h1, r1⟩ := hx.lst_inv
      exact .inr (.inr (.inr ⟨l, k, vs, rfl, hy.int_inv, mask_le _ _ h1, by omega, by omega, by rw [r1.length]; exact lim_le h.2.2, fun p hp => q _ p hp (r1.rep _)⟩))
    · cases e
  · cases e
end DL


namespace DL
open PySem PySem.Spec PyProof.Rows L2
/-! DL30: list(enumerate(x)), x a list or a tuple. -/
section
variable {prog : Program} {w : World} {A : Around} {E : Value → Shared → Prop} {s : Shared} {e it S : Addr} {fp : List Addr} {items : Array Value} {St : Nat → Heap → Prop}
/-- draws under any frames -/
def DrawsE (prog : Program) (w : World) (it : Addr) (fp : List Addr) (items : Array Value) (St : Nat → Heap → Prop) : Prop := ∀ A : Around, A.handled = none → Draws prog w A it fp items.size (fun i v => items[i]? = some v) St
theorem enum_next_heldD {T : Addr} {i : Nat} {old : Value} {f : Bool} {oT : Obj} {Q : Value → Shared → Prop}
    (D : Draws prog w A it fp items.size (fun i v => items[i]? = some v) St) (he : IsEnumHeld s.heap e it i old T f) (hT : s.heap.get? T = some oT) (hTe : T ≠ e) (hTi : T ≠ it) (hst : St i s.heap) (hlt : i < items.size) (hne : e ≠ it) (hef : e ∉ fp)
    (hQ : ∀ x h' tk, items[i]? = some x → IsEnumHeld h' e it ((i : Int) + 1) old T true → St (i + 1) h' →
      h'.get? s.heap.objs.size = some { cls := .type "tuple", data := .seq #[.int i tk, x] } → h'.objs.size = s.heap.objs.size + 1 →
      (∀ b o, b ≠ e → b ≠ it → s.heap.get? b = some o → h'.get? b = some o) → Q (.ref s.heap.objs.size) { s with heap := h', toks := tk + 1 }) :
    wpAny (model prog w) A (Builtin.«enumerate.__next__» ⟨[.ref e], []⟩) (fun fin s' => ∃ v, fin = .done (.ret v) ∧ Q v s') E s := by
  obtain ⟨hp, g, d, tk₀, os⟩ := s
  show wpAny _ _ (field (.ref e) 2 >>= _) _ _ _
  refine wpAny_bind (wpAny_field he rfl (x := .ref it) rfl ?_)
  refine wpAny_bind (D.item i _ _ _ hlt hst fun x h₁ tk hPx hit₁ hs₁ => ?_)
  replace hs₁ : Heap.SameBut it hp h₁ := hs₁
  have he₁ : IsEnumHeld h₁ e it i old T f := (hs₁.2 e hne).trans he
  show wpAny _ _ (field (.ref e) 3 >>= _) _ _ ⟨h₁, g, d, tk, os⟩
  refine wpAny_bind (wpAny_field he₁ rfl (x := rawInt i) rfl ?_)
  show wpAny _ _ (field (.ref e) 4 >>= _) _ _ ⟨h₁, g, d, tk, os⟩
  refine wpAny_bind (wpAny_field he₁ rfl (x := .none) rfl ?_)
  show wpAny _ _ (mkInt i >>= _) _ _ ⟨h₁, g, d, tk, os⟩
  refine wpAny_bind (wpAny_mkInt ?_)
  show wpAny _ _ (setField (.ref e) 3 (rawInt ((i : Int) + 1)) >>= _) _ _ ⟨h₁, g, d, tk + 1, os⟩
  refine wpAny_bind (wpAny_setField_rec he₁ (by simp) fun h₂ he₂ hs₂ => ?_)
  replace hs₂ : Heap.SameBut e h₁ h₂ := hs₂
  replace he₂ : IsEnumHeld h₂ e it ((i : Int) + 1) old T f := he₂
  show wpAny _ _ (setField (.ref e) 4 .none >>= _) _ _ ⟨h₂, g, d, tk + 1, os⟩
  refine wpAny_bind (wpAny_setField_rec he₂ (by simp) fun h₃ he₃ hs₃ => ?_)
  replace hs₃ : Heap.SameBut e h₂ h₃ := hs₃
  replace he₃ : IsEnumHeld h₃ e it ((i : Int) + 1) old T f := he₃
  show wpAny _ _ (newTuple [.int i tk, x] >>= _) _ _ ⟨h₃, g, d, tk + 1, os⟩
  refine wpAny_bind (wpAny_newTuple ?_)
  have he₄ : IsEnumHeld (h₃.push { cls := .type "tuple", data := .seq #[.int i tk, x] }) e it ((i : Int) + 1) old T f := Heap.get?_push_of_some _ he₃
  generalize hh₄ : h₃.push { cls := .type "tuple", data := .seq #[.int i tk, x] } = h₄ at he₄
  have hsz : h₃.objs.size = hp.objs.size := by rw [hs₃.1, hs₂.1, hs₁.1]
  have hel : e < hp.objs.size := Heap.lt_size he
  have ht₄ : h₄.get? hp.objs.size = some { cls := .type "tuple", data := .seq #[.int i tk, x] } := by rw [← hh₄, ← hsz]; exact Heap.get?_push_size _ rfl
  have hz₄ : h₄.objs.size = hp.objs.size + 1 := by rw [← hh₄, Heap.size_push, hsz]
  have hk₄ : ∀ b o, b ≠ e → b ≠ it → hp.get? b = some o → h₄.get? b = some o := fun b o hbe hbi hb => by
    rw [← hh₄]; exact Heap.get?_push_of_some _ (hs₃.extBut b o hbe (hs₂.extBut b o hbe (hs₁.extBut b o hbi hb)))
  have hit₄ : St (i + 1) h₄ := D.frame _ _ _ hit₁ fun b hb o y => by
    have hbe : b ≠ e := fun q => hef (q ▸ hb)
    rw [← hh₄]; exact Heap.get?_push_of_some _ (hs₃.extBut b o hbe (hs₂.extBut b o hbe y))
  show wpAny _ _ (Builtin.SmallTypes.ownedTupleIsFree (.ref e) >>= _) _ _ ⟨h₄, g, d, tk + 1, os⟩
  rw [hsz]
  clear hh₄ he₃ hs₃ he₂ hs₂ he₁ hs₁ hit₁ hsz h₃ h₂ h₁
  refine wpAny_bind (wpAny_tupleHeld_enum (s := ⟨h₄, g, d, tk + 1, os⟩) he₄ (hk₄ T oT hTe hTi hT) fun h₅ he₅ hs₅ => ?_)
  replace hs₅ : Heap.SameBut e h₄ h₅ := hs₅
  simp only [Bool.false_eq_true, if_false]
  refine wpAny_pure ⟨_, rfl, hQ x h₅ tk hPx he₅ (D.frame _ _ _ hit₄ fun b hb o y => hs₅.extBut b o (fun q => hef (q ▸ hb)) y) (hs₅.extBut _ _ (Nat.ne_of_gt hel) ht₄) ?_ fun b o hbe hbi hb => hs₅.extBut b o hbe (hk₄ b o hbe hbi hb)⟩
  show h₅.objs.size = hp.objs.size + 1
  rw [hs₅.1, hz₄]
/-- where the enumerate object stands -/
def EnSt (St : Nat → Heap → Prop) (e it S : Addr) (i : Nat) (h : Heap) : Prop := St i h ∧ ((∃ old, IsEnum h e it i old) ∨ ∃ old T f oT, IsEnumHeld h e it i old T f ∧ h.get? T = some oT ∧ T ≠ e ∧ T ≠ it ∧ T ≠ S)
theorem EnSt.keep {i : Nat} {h h' : Heap} (hh : A.handled = none) (DD : DrawsE prog w it fp items St) (x : EnSt St e it S i h) (hk : ∀ b o, b ≠ S → h.get? b = some o → h'.get? b = some o) (h1 : e ≠ S) (h2 : it ≠ S) (h3 : S ∉ fp) : EnSt St e it S i h' := by
  obtain ⟨st, x⟩ := x
  refine ⟨(DD A hh).frame _ _ _ st fun b hb o y => hk b o (fun z => h3 (z ▸ hb)) y, ?_⟩
  rcases x with ⟨old, he⟩ | ⟨old, T, f, oT, he, hT, r1, r2, r3⟩
  · exact .inl ⟨old, hk _ _ h1 he⟩
  · exact .inr ⟨old, T, f, oT, hk _ _ h1 he, hk _ _ r3 hT, r1, r2, r3⟩
theorem en_item {i : Nat} {Q : Option Value → Shared → Prop} (DD : DrawsE prog w it fp items St) (hh : A.handled = none) (hst : EnSt St e it S i s.heap) (hS : S < s.heap.objs.size) (hlt : i < items.size) (hne : e ≠ it) (hef : e ∉ fp)
    (hQ : ∀ x h' tk, items[i]? = some x → EnSt St e it S (i + 1) h' → h'.get? s.heap.objs.size = some { cls := .type "tuple", data := .seq #[.int i tk, x] } → h'.objs.size = s.heap.objs.size + 1 →
      (∀ b o, b ≠ e → b ≠ it → s.heap.get? b = some o → h'.get? b = some o) → Q (some (.ref s.heap.objs.size)) { s with heap := h', toks := tk + 1 }) :
    wpAny (model prog w) A (pyNext (.ref e)) Q E s := by
  obtain ⟨st, x⟩ := hst
  have ec : ((i + 1 : Nat) : Int) = (i : Int) + 1 := by omega
  have hil : it < s.heap.objs.size := by
    obtain ⟨o, q⟩ := (DD A hh).live _ _ st
    exact Heap.lt_size q
  rcases x with ⟨old, he⟩ | ⟨old, T, f, oT, he, hT, r1, r2, r3⟩
  · refine wpAny_pyNext_enum_itemD (DD A.in1 hh) he st hlt hne hef fun x h' tk hx ho st' hT hsz hk => ?_
    exact hQ x h' tk hx ⟨st', .inr ⟨x, s.heap.objs.size, false, _, by rw [ec]; exact ho, hT, Nat.ne_of_gt (Heap.lt_size he), Nat.ne_of_gt hil, Nat.ne_of_gt hS⟩⟩ hT hsz hk
  · have hTy : s.TypeIs (.ref e) "enumerate" := ⟨_, he, rfl⟩
    unfold pyNext
    refine wpAny_bind (wpAny_attempt (wpAny_callSpecial?_slot (name := Str.ofString "__next__") hTy F.slot_enumerate_next
      (wpAny_call_entry F.slot_enumerate_next hTy F.entry_enumerate_next
        (enum_next_heldD (DD A.in1 hh) he hT r1 r2 st hlt hne hef fun x h' tk hx ho st' hT' hsz hk => wpAny_pure ?_) (F.args_enumerate_next_1 _))))
    exact hQ x h' tk hx ⟨st', .inr ⟨old, T, true, oT, by rw [ec]; exact ho, hk _ _ r1 r2 hT, r1, r2, r3⟩⟩ hT' hsz hk
theorem en_done {i : Nat} {Q : Option Value → Shared → Prop} (DD : DrawsE prog w it fp items St) (hh : A.handled = none) (hst : EnSt St e it S i s.heap) (hi : i = items.size)
    (hQ : ∀ h', Heap.ExtBut it s.heap h' → Q none { s with heap := h' }) : wpAny (model prog w) A (pyNext (.ref e)) Q E s := by
  subst hi
  obtain ⟨st, x⟩ := hst
  have go : ∀ {T : Addr} {f : Bool} {old a : Value}, s.heap.get? e = some { cls := .type "enumerate", dict := none, data := .fields #[a, .bool f, .ref it, rawInt items.size, .none, old], slots := #[] } → wpAny (model prog w) A (pyNext (.ref e)) Q E s := by
    intro T f old a he
    have hTy : s.TypeIs (.ref e) "enumerate" := ⟨_, he, rfl⟩
    unfold pyNext
    refine wpAny_bind (wpAny_attempt (wpAny_callSpecial?_slot (name := Str.ofString "__next__") hTy F.slot_enumerate_next
      (wpAny_call_entry F.slot_enumerate_next hTy F.entry_enumerate_next ?_ (F.args_enumerate_next_1 _))))
    show wpAny _ _ (field (.ref e) 2 >>= _) _ _ _
    refine wpAny_bind (wpAny_field he rfl (x := .ref it) rfl ?_)
    refine wpAny_bind ((DD A.in1 hh).done s _ _ st fun h' x he' hx' => ?_)
    obtain ⟨o, ho, hc⟩ := hx'
    refine wpAny_bind (wpAny_isInstance (T := "StopIteration") (b := true) ⟨o, ho, hc⟩ isSubtype_stop ?_)
    exact wpAny_pure (hQ _ he')
  rcases x with ⟨old, he⟩ | ⟨old, T, f, oT, he, _⟩
  · exact go (T := 0) he
  · exact go (T := T) he
def enV {α : Type} (xs : List α) : List (Key × α) := xs.zipIdx.map fun p => (Sum.inl (p.2 : Int), p.1)
theorem enV_get {α : Type} {xs : List α} {j : Nat} : (enV xs)[j]? = xs[j]?.map fun x => (Sum.inl (j : Int), x) := by
  unfold enV
  rw [List.getElem?_map, List.getElem?_zipIdx]
  cases xs[j]? <;> simp
theorem enV_len {α : Type} {xs : List α} : (enV xs).length = xs.length := by simp [enV]
theorem en_loop {R : Result → Shared → Prop} (DD : DrawsE prog w it fp items St) (hh : A.handled = none) (heS : e < S) (hiS : it < S) (hSf : S ∉ fp) (hne : e ≠ it) (hef : e ∉ fp) (hn : items.size ≤ sizeLine) (res : Value) {h₁ : Heap}
    (hR : ∀ h' tk acc c as, (∀ b o, b ≠ S → b ≠ e → b ≠ it → h₁.get? b = some o → h'.get? b = some o) → h'.get? S = some { cls := .type "list", dict := none, data := .seq acc c, slots := #[] } → as.length = items.size → PySem.W.KdxG (mixKind prog w) (enV items.toList) S h' as →
      acc.toList = as.map Value.ref → R (.ok (.ret res)) { s with heap := h', toks := tk }) :
    ∀ (k i : Nat) (h : Heap) (tk c : Nat) (acc : Array Value) (as : List Addr), items.size - i = k → i ≤ items.size → EnSt St e it S i h → (∀ b o, b ≠ S → b ≠ e → b ≠ it → h₁.get? b = some o → h.get? b = some o) →
      h.get? S = some { cls := .type "list", dict := none, data := .seq acc c, slots := #[] } → acc.toList = as.map Value.ref → as.length = i → PySem.W.KdxG (mixKind prog w) (enV items.toList) S h as →
      codeAny (model prog w) A (.builtin "list.extend.loop" ⟨[.ref S, .ref e, res], []⟩) R { s with heap := h, toks := tk } := by
  intro k
  induction k with
  | zero =>
    intro i h tk c acc as hk hi hst hkeep hS hacc hal hG
    have hin : i = items.size := by omega
    refine codeAny_builtin PySem.F.entry_extend_loop ?_
    rw [Around.under_plainId PySem.F.plain_extend_loop _]
    show wpAny _ A.in1 (pyNext (.ref e) >>= _) _ _ _
    refine wpAny_bind (en_done (s := { s with heap := h, toks := tk }) (A := A.in1) DD hh hst hin fun h' he => ?_)
    refine wpAny_pure (hR h' tk acc c as (fun b o h1 h2 h3 q => he b o h3 (hkeep b o h1 h2 h3 q)) (he S _ (Nat.ne_of_gt hiS) hS) (by omega) ⟨hG.rise, hG.above, fun j a hj => ?_⟩ hacc)
    obtain ⟨key, kk, x, e1, e2, e3⟩ := hG.pairs j a hj
    exact ⟨key, kk, x, e1, e2, he a _ (Nat.ne_of_gt (Nat.lt_trans hiS (hG.above a (List.mem_of_getElem? hj)))) e3⟩
  | succ k ih =>
    intro i h tk c acc as hk hi hst hkeep hS hacc hal hG
    have hlt : i < items.size := by omega
    have hsz : acc.size = i := by rw [← Array.length_toList, hacc, List.length_map, hal]
    have hSl : S < h.objs.size := Heap.lt_size hS
    refine codeAny_builtin PySem.F.entry_extend_loop ?_
    rw [Around.under_plainId PySem.F.plain_extend_loop _]
    show wpAny _ A.in1 (pyNext (.ref e) >>= _) _ _ _
    refine wpAny_bind (en_item (s := { s with heap := h, toks := tk }) (S := S) (A := A.in1) DD hh hst hSl hlt hne hef fun x h' tk' hx hst' ht hz hkp => ?_)
    dsimp only at ht hz hkp ⊢
    have hS' := hkp S _ (Nat.ne_of_gt heS) (Nat.ne_of_gt hiS) hS
    have up : ∀ b o, b ≠ S → h'.get? b = some o → (h'.update S (Obj.mapSeq (·.push (Value.ref h.objs.size)))).get? b = some o := fun b o hb e => (Heap.get?_update_other _ _ (Ne.symm hb)).trans e
    show wpAny _ A.in1 (updateSeq S (·.push (Value.ref h.objs.size)) >>= _) _ _ _
    refine wpAny_bind ?_
    refine wpAny_updateSeq hS' rfl (wpAny_pure ⟨plainId_quiet PySem.F.plain_extend_loop _, ih (i + 1) _ (tk' + 1) _ (acc.push (Value.ref h.objs.size)) (as ++ [h.objs.size]) (by omega) hlt (EnSt.keep hh DD hst' up (Nat.ne_of_lt heS) (Nat.ne_of_lt hiS) hSf)
      (fun b o h1 h2 h3 q => up b o h1 (hkp b o h2 h3 (hkeep b o h1 h2 h3 q))) (Heap.get?_update_self _ hS' rfl) (by rw [Array.toList_push, hacc, List.map_append]; rfl) (by rw [List.length_append, hal]; rfl) ⟨?_, ?_, ?_⟩⟩) (by rw [hsz]; omega) (by show (acc.push (Value.ref h.objs.size)).size ≤ sizeLine + 1; rw [Array.size_push, hsz]; omega)
    · refine List.pairwise_append.mpr ⟨hG.rise, List.pairwise_singleton _ _, fun a ha b hb => ?_⟩
      rw [List.mem_singleton.mp hb]
      exact hG.there ha
    · intro a ha
      rcases List.mem_append.mp ha with ha | ha
      · exact hG.above a ha
      · rw [List.mem_singleton.mp ha]; exact hSl
    · intro j b hj
      rcases Nat.lt_trichotomy j as.length with h1 | h1 | h1
      · rw [List.getElem?_append_left h1] at hj
        obtain ⟨key', k', x', e1, e2, e3⟩ := hG.pairs j b hj
        have hb := hG.above b (List.mem_of_getElem? hj)
        exact ⟨key', k', x', e1, e2, up b _ (Nat.ne_of_gt hb) (hkp b _ (Nat.ne_of_gt (Nat.lt_trans heS hb)) (Nat.ne_of_gt (Nat.lt_trans hiS hb)) e3)⟩
      · subst h1
        have hb : h.objs.size = b := by simpa using hj
        subst hb
        refine ⟨.int (i : Int) tk', .inl (i : Int), x, ?_, mixKind_int _ _ _ _, up _ _ (Nat.ne_of_gt hSl) ht⟩
        rw [enV_get, hal, Array.getElem?_toList, hx]; rfl
      · have hnone : (as ++ [h.objs.size])[j]? = none := List.getElem?_eq_none (by rw [List.length_append, List.length_singleton]; omega)
        rw [hnone] at hj; cases hj
theorem en_no_len : typeLookup (.type "enumerate") "__len__" = pure none := by rw [typeLookup_type, builtinLookup_eq_fast]; kernel_rfl
theorem en_no_hint : typeLookup (.type "enumerate") "__length_hint__" = pure none := by rw [typeLookup_type, builtinLookup_eq_fast]; kernel_rfl
theorem en_extend {R : Result → Shared → Prop} (DD : DrawsE prog w it fp items St) (hh : A.handled = none) (he : ∃ old, IsEnum s.heap e it (0 : Nat) old) (st : St 0 s.heap) (heS : e < S) (hiS : it < S) (hSf : S ∉ fp) (hne : e ≠ it) (hef : e ∉ fp) (hn : items.size ≤ sizeLine) (res : Value) (c₀ : Nat)
    (hS : s.heap.get? S = some { cls := .type "list", data := .seq #[] c₀ })
    (hR : ∀ h' tk acc c as, (∀ b o, b ≠ S → b ≠ e → b ≠ it → s.heap.get? b = some o → h'.get? b = some o) → h'.get? S = some { cls := .type "list", dict := none, data := .seq acc c, slots := #[] } → as.length = items.size → PySem.W.KdxG (mixKind prog w) (enV items.toList) S h' as →
      acc.toList = as.map Value.ref → R (.ok (.ret res)) { s with heap := h', toks := tk }) :
    wpAny (model prog w) A.in1 (Builtin.List.listExtendWith (.ref S) (.ref e) res)
      (fun fin s' => match fin with | .done f => R (.ok f) s' | .again c' => c'.quiet = true ∧ codeAny (model prog w) A c' R s') (fun e s' => R (.error e) s') s := by
  obtain ⟨old, he⟩ := he
  have hTy : s.TypeIs (.ref e) "enumerate" := ⟨_, he, rfl⟩
  unfold Builtin.List.listExtendWith
  refine wpAny_bind (wpAny_typeOf (T := "enumerate") hTy ?_)
  have h1 : Builtin.List.listSameRef (.ref S) (.ref e) = false := by simp [Builtin.List.listSameRef, Nat.ne_of_gt heS]
  have h2 : (Value.type "enumerate" == Value.type "list") = false := by decide
  have h3 : (Value.type "enumerate" == Value.type "tuple") = false := by decide
  simp only [h1, h2, h3, Bool.or_false, Bool.false_eq_true, if_false]
  refine wpAny_bind (wpAny_pyIter_enum he ?_)
  refine wpAny_bind (wpAny_holding ?_)
  unfold Builtin.List.listLengthHint
  refine wpAny_bind (wpAny_specialOf hTy en_no_len ?_)
  show wpAny _ A.in1 (specialOf (Value.ref e) (Str.ofString "__length_hint__") >>= _) _ _ _
  refine wpAny_bind (wpAny_specialOf hTy en_no_hint ?_)
  refine wpAny_pure ?_
  show wpAny _ A.in1 (rule "list.extend.makes-room" >>= fun _ => Builtin.List.listTouch (.ref S) >>= fun _ =>
    again (.builtin "list.extend.loop" ⟨[.ref S, .ref e, res], []⟩)) _ _ _
  refine wpAny_bind (wpAny_rule ?_)
  refine wpAny_bind ?_
  show wpAny _ A.in1 (updateSeq S (·.push .none) >>= fun _ => updateSeq S (·.pop)) _ _ _
  refine wpAny_bind (wpAny_updateSeq hS rfl ?_)
  have hS₂ := Heap.get?_update_self (Obj.mapSeq (·.push Value.none)) hS rfl
  refine wpAny_updateSeq (hz := by seq_fits) hS₂ rfl ?_
  have hS₃ := Heap.get?_update_self (Obj.mapSeq (·.pop)) hS₂ rfl
  have oth : ∀ b o, b ≠ S → s.heap.get? b = some o → ((s.heap.update S (Obj.mapSeq (·.push Value.none))).update S (Obj.mapSeq (·.pop))).get? b = some o :=
    fun b o hb e => (Heap.get?_update_other _ _ (Ne.symm hb)).trans ((Heap.get?_update_other _ _ (Ne.symm hb)).trans e)
  refine wpAny_pure ⟨plainId_quiet F.plain_extend_loop _, ?_⟩
  have go := en_loop (A := A) (s := s) (h₁ := s.heap) (R := R) DD hh heS hiS hSf hne hef hn res hR items.size 0 _ s.toks _ #[] [] (Nat.sub_zero _) (Nat.zero_le _)
    (EnSt.keep hh DD (show EnSt St e it S 0 s.heap from ⟨st, .inl ⟨old, he⟩⟩) oth (Nat.ne_of_lt heS) (Nat.ne_of_lt hiS) hSf) (fun b o hb _ _ q => oth b o hb q) hS₃ rfl rfl
    ⟨List.Pairwise.nil, (fun _ ha => nomatch ha), (fun j a hj => by simp at hj)⟩
  exact go
theorem en_call {Q : Value → Shared → Prop} (DD : DrawsE prog w it fp items St) (hh : A.handled = none) (he : ∃ old, IsEnum s.heap e it (0 : Nat) old) (st : St 0 s.heap) (hfp : ∀ b ∈ fp, b < s.heap.objs.size) (hne : e ≠ it) (hef : e ∉ fp) (hn : items.size ≤ sizeLine)
    (hQ : ∀ h' tk acc c as, (∀ b o, b ≠ e → b ≠ it → s.heap.get? b = some o → h'.get? b = some o) → h'.get? s.heap.objs.size = some { cls := .type "list", dict := none, data := .seq acc c, slots := #[] } → as.length = items.size → PySem.W.KdxG (mixKind prog w) (enV items.toList) s.heap.objs.size h' as →
      acc.toList = as.map Value.ref → Q (.ref s.heap.objs.size) { s with heap := h', toks := tk }) :
    wpAny (model prog w) A (call (.type "list") [.ref e]) Q E s := by
  refine callType_codes (Q₁ := fun obj s₁ => obj = .ref s.heap.objs.size ∧ s₁ = { s with heap := s.heap.push { cls := .type "list", data := .seq #[] } }) PySem.F.called_list (PySem.F.typeCall_list_1 _) PySem.F.entry_list_init
    (code_list_new _ ⟨rfl, rfl⟩) fun obj s₁ h₁ => ?_
  obtain ⟨rfl, rfl⟩ := h₁
  obtain ⟨old, he⟩ := he
  have heS : e < s.heap.objs.size := Heap.lt_size he
  have hiS : it < s.heap.objs.size := by
    obtain ⟨o, q⟩ := (DD A hh).live _ _ st
    exact Heap.lt_size q
  have hSf : s.heap.objs.size ∉ fp := fun z => Nat.lt_irrefl _ (hfp _ z)
  have hS : (s.heap.push { cls := .type "list", data := .seq #[] }).get? s.heap.objs.size = some { cls := .type "list", data := .seq #[] } := Heap.get?_push_size _ rfl
  have oth0 : ∀ b o, s.heap.get? b = some o → (s.heap.push { cls := .type "list", data := .seq #[] }).get? b = some o := fun b o e => Heap.get?_push_of_some _ e
  refine ⟨⟨_, hS, rfl⟩, PySem.F.args_list_init_2 _ _, ?_⟩
  show wpAny _ _ (do let old ← Builtin.List.listItems (.ref s.heap.objs.size); Builtin.List.listUpdate (.ref s.heap.objs.size) (fun _ => #[]); letGo old.toList.reverse; Builtin.List.listExtendWith (.ref s.heap.objs.size) (.ref e) .none) _ _ _
  refine wpAny_bind ?_
  unfold Builtin.List.listItems
  refine wpAny_bind (wpAny_seqItems hS rfl (wpAny_pure ?_))
  show wpAny _ _ (updateSeq s.heap.objs.size (fun _ => #[]) >>= fun _ => letGo (#[] : Array Value).toList.reverse >>= fun _ => Builtin.List.listExtendWith (.ref s.heap.objs.size) (.ref e) .none) _ _ _
  refine wpAny_bind (wpAny_updateSeq hS rfl ?_)
  have hS₂ := Heap.get?_update_self (Obj.mapSeq (fun _ => (#[] : Array Value))) hS rfl
  have oth : ∀ b o, b ≠ s.heap.objs.size → s.heap.get? b = some o → ((s.heap.push { cls := .type "list", data := .seq #[] }).update s.heap.objs.size (Obj.mapSeq (fun _ => (#[] : Array Value)))).get? b = some o :=
    fun b o hb e => (Heap.get?_update_other _ _ (Ne.symm hb)).trans (oth0 b o e)
  refine wpAny_bind (wpAny_letGo ?_)
  refine en_extend (s := { s with heap := (s.heap.push { cls := .type "list", data := .seq #[] }).update s.heap.objs.size (Obj.mapSeq (fun _ => (#[] : Array Value))) }) (A := A.in1) DD hh ⟨old, oth e _ (Nat.ne_of_lt heS) he⟩ ((DD A hh).frame _ _ _ st fun b hb o y => oth b o (Nat.ne_of_lt (hfp b hb)) y) heS hiS hSf hne hef hn .none _ hS₂ fun h' tk acc c as hk hS' hl hG hacc => ?_
  exact ⟨rfl, hQ h' tk acc c as (fun b o h1 h2 q => hk b o (Nat.ne_of_lt (Heap.lt_size q)) h1 h2 (oth b o (Nat.ne_of_lt (Heap.lt_size q)) q)) hS' hl hG hacc⟩
end
/-! the hand rule -/
theorem enV_kv {vs : List V} {us : List Value} (h : Vals vs us) : ∀ n : Nat, KV ((vs.zipIdx n).map fun p => ((Sum.inl (p.2 : Int) : Key), p.1)) ((us.zipIdx n).map fun p => ((Sum.inl (p.2 : Int) : Key), p.1)) := by
  induction h with
  | nil => intro n; exact .nil
  | cons r _ ih =>
    intro n
    rw [List.zipIdx_cons, List.zipIdx_cons, List.map_cons, List.map_cons]
    exact .cons ⟨rfl, r⟩ (ih (n + 1))
theorem laidAt {X : Cx} {pins : List (Addr × Obj)} {σ : L2.St} {H : Hp} {s : Shared} {h' : Heap} {tk : Nat} {S : Addr} {kvs : List (Key × V)} {vs : List (Key × Value)} {acc : Array Value} {c : Nat} {as : List Addr} (I : Inv X pins σ H s) (hz : kvs.length ≤ sizeLine) (kv : KV kvs vs) (hle : s.heap.objs.size ≤ S)
    (hk : ∀ b o, s.heap.get? b = some o → h'.get? b = some o) (hS : h'.get? S = some { cls := .type "list", dict := none, data := .seq acc c, slots := #[] }) (hl : as.length = vs.length) (hG : PySem.W.KdxG (mixKind X.prog X.w) vs S h' as) (hacc : acc.toList = as.map Value.ref) :
    ∃ H' : Hp, (∀ b o, H b = some o → H' b = some o) ∧ H S = none ∧ (∀ t ∈ as, H t = none) ∧ S ∉ as ∧ H' S = some (.lst (as.map V.ref)) ∧ Paired (fun (t : Addr) (q : Key × V) => H' t = some (.tup [kV q.1, q.2])) as kvs ∧ Inv X pins σ H' { s with heap := h', toks := tk } := by
  have lk : kvs.length = vs.length := Paired.length kv
  have hSn : S ∉ as := fun z => Nat.lt_irrefl _ (hG.above _ z)
  have nd : as.Nodup := List.Pairwise.imp (fun {a b} (h : a < b) => Nat.ne_of_lt h) hG.rise
  have new : ∀ t ∈ as, H t = none := fun t ht => I.hok.fresh (Nat.le_of_lt (Nat.lt_of_le_of_lt hle (hG.above t ht)))
  have newS : H S = none := I.hok.fresh hle
  have atP := LiI.putT_at as kvs (upd H S (.lst (as.map V.ref))) (by omega) nd
  have off : ∀ b, b ∉ as → b ≠ S → LiI.putT (upd H S (.lst (as.map V.ref))) as kvs b = H b := fun b h1 h2 => by rw [LiI.putT_off as kvs _ h1, upd_ne h2]
  have low : ∀ b o, s.heap.get? b = some o → b ∉ as ∧ b ≠ S := fun b o e => ⟨fun z => absurd (Heap.lt_size e) (Nat.not_lt.mpr (Nat.le_of_lt (Nat.lt_of_le_of_lt hle (hG.above b z)))), Nat.ne_of_lt (Nat.lt_of_lt_of_le (Heap.lt_size e) hle)⟩
  have kp : ∀ b u, H b = some u → (LiI.putT (upd H S (.lst (as.map V.ref))) as kvs) b = some u := fun b u e => by
    rw [off b (fun z => by rw [new b z] at e; cases e) (fun z => by rw [z, newS] at e; cases e)]
    exact e
  have eS : LiI.putT (upd H S (.lst (as.map V.ref))) as kvs S = some (.lst (as.map V.ref)) := by rw [LiI.putT_off as kvs _ hSn, upd_same]
  refine ⟨LiI.putT (upd H S (.lst (as.map V.ref))) as kvs, kp, newS, new, hSn, eS, atP, ?_⟩
  refine I.call' (ch := []) rfl ⟨fun b o q _ _ _ => hk b o q, fun b o q _ _ _ => ⟨o.slots, hk b o q⟩, fun b o q n _ => ?_, fun b o q _ => ⟨o, hk b o q⟩, fun b xs q => kp b _ q, fun b o u q => kp b _ q, fun b ps q => ⟨#[], by rw [kp b _ q]; simp⟩⟩ (fun b u q => ?_) I.bare fun b z => by simp at z
  · obtain ⟨z1, z2⟩ := low b o q
    rw [off b z1 z2]
    exact n
  · by_cases hb : b ∈ as
    · obtain ⟨j, pk, e1, e2, e3⟩ := LiI.paired_ix atP hb
      rw [e3] at q
      cases q
      obtain ⟨key, k, x, f1, f2, f3⟩ := hG.pairs j b e1
      obtain ⟨qv, g1, g2, g3⟩ := LiI.paired_get kv e2
      rw [f1] at g1
      cases g1
      have rk : RelV (kV pk.1) key := by
        rw [g2]
        exact relV_key (show keyIs k key = true from f2)
      exact ⟨by show 2 ≤ sizeLine; decide, [key, x], .cons rk (.cons g3 .nil), ⟨_, f3, rfl, _, rfl⟩⟩
    · by_cases hb2 : b = S
      · rw [hb2] at q ⊢
        rw [eS] at q
        cases q
        refine ⟨by rw [List.length_map]; omega, acc.toList, c, by rw [hacc]; exact LiI.vals_refs as, ?_⟩
        rw [Array.toArray_toList]
        exact hS
      · rw [off b hb hb2] at q
        exact (I.hok b u q).stay (fun d v _ y => hk d v y) (fun d y => kp d _ y) fun d xs y => kp d _ y
def rEnL (K : PySem.W.Frag) : Addr → Hp → VK → Prop := fun a H Q => ∃ xs : List V, (SqL K H a xs ∨ SqT K H a xs) ∧
  ∀ (H' : Hp) (p : Addr) (ts : List Addr), (∀ b o, H b = some o → H' b = some o) → H p = none → (∀ t ∈ ts, H t = none) → p ∉ ts → H' p = some (.lst (ts.map V.ref)) → Paired (fun (t : Addr) (q : Key × V) => H' t = some (.tup [kV q.1, q.2])) ts (enV xs) → Q (.ref p) H'
def tListEnum (K : PySem.W.Frag) (ta : TA) : TE := fun σ H Q => ta σ H fun vs H1 => ∃ a, vs = [.ref a] ∧ rEnL K a H1 Q
section
variable {X : Cx} {e : Expr} {ta : TA} {p p2 pos pos2 : Pos}
theorem pe_listEnum (hc : X.calm = true) (ha : PA X [e] ta) (hg : Gl X "list") (hm : X.mg "list" = none) (hv : bootBuiltins "list" = some (.type "list")) (hg2 : Gl X "enumerate") (hm2 : X.mg "enumerate" = none)
    (hs : starEach [.Call (.Name "enumerate" p2) [e] [] pos2] X.env = [(false, eval (.Call (.Name "enumerate" p2) [e] [] pos2) X.env)] := by rfl) (hs2 : starEach [e] X.env = [(false, eval e X.env)] := by rfl) :
    PE X (.Call (.Name "list" p) [.Call (.Name "enumerate" p2) [e] [] pos2] [] pos) (tListEnum X.K ta) := by
  refine ⟨fun pins s σ H Q I hq => ?_⟩
  refine wpAny_Call_Name_kw (ld_blt I hg hm hv ?_)
  refine PyProof.Rows.callWith_type1 ?_ hs rfl
  rw [hs]
  refine Calls.spliced_cons ?_
  refine Call_ (ld_blt I hg2 hm2 boot_enumerate (PyProof.Rows.callWith_type1 (thn (ha.run pos2 pins s σ H _ I hq) fun us s1 ⟨vs, H1, I1, r1, q1⟩ => ?_) hs2 rfl))
  obtain ⟨a, ex, xs, hx, q⟩ := q1
  subst ex
  cases r1 with
  | cons r rr =>
    cases rr
    cases r
    have fin : ∀ {St : Nat → Heap → Prop} {its : List Value} {fp : List Addr} {h1 : Heap} (rv : Vals xs its) (hz : xs.length ≤ sizeLine) (DD : DrawsE X.prog X.w s1.heap.objs.size fp its.toArray St) (h2 : h1.objs.size = s1.heap.objs.size + 2) (hk0 : ∀ b o, s1.heap.get? b = some o → h1.get? b = some o) (he : IsEnum h1 (s1.heap.objs.size + 1) s1.heap.objs.size (0 : Nat) .none) (st : St 0 h1)
        (hfp : ∀ b ∈ fp, b < h1.objs.size) (hef : s1.heap.objs.size + 1 ∉ fp), wpAny (model X.prog X.w) X.A (call (.type "list") [.ref (s1.heap.objs.size + 1)]) (EP X pins σ Q) X.xe { s1 with heap := h1 } := by
      intro St its fp h1 rv hz DD h2 hk0 he st hfp hef
      have hlen := rv.length
      refine en_call (s := { s1 with heap := h1 }) DD (I1.ok.hd hc) ⟨.none, he⟩ st hfp (Nat.succ_ne_self _) hef (by rw [List.size_toArray]; omega) fun h' tk acc c as hk hS hl hG hacc => ?_
      have hl' : as.length = (enV its).length := by rw [enV_len, hl, List.size_toArray]
      obtain ⟨H', k1, k2, k3, k4, k5, k6, J⟩ := laidAt (tk := tk) (kvs := enV xs) (vs := enV its) I1 (by rw [enV_len]; exact hz) (enV_kv rv 0) (by show s1.heap.objs.size ≤ h1.objs.size; omega) (fun b o q => hk b o (fun z => Nat.lt_irrefl _ (Nat.lt_of_lt_of_le (Heap.lt_size q) (by rw [z]; exact Nat.le_succ _))) (fun z => Nat.lt_irrefl _ (Nat.lt_of_lt_of_le (Heap.lt_size q) (by rw [z]; exact Nat.le_refl _))) (hk0 b o q)) hS hl' hG hacc
      exact ⟨.ref _, H', J, rfl, q H' _ as k1 k2 k3 k4 k5 k6⟩
    rcases hx with hx | hx
    · obtain ⟨its, rv, p', hz⟩ := I1.list hx
      have hal : a < s1.heap.objs.size := by obtain ⟨_, q, _⟩ := p'.isList; exact Heap.lt_size q
      refine call_enumerate_list p'.isList fun h' he hit hsz hk => ?_
      refine Calls.spliced_nil ?_
      refine fin rv hz (fun A hh => Draws.list hh s1.heap.objs.size a (Nat.ne_of_lt hal) its.toArray) hsz hk he ⟨hit, p'.isList.at fun o q => hk a o q⟩ (fun b hb => ?_) (fun hb => ?_)
      · have e' : b = s1.heap.objs.size ∨ b = a := by simpa using hb
        have h9 : h'.objs.size = s1.heap.objs.size + 2 := hsz
        rcases e' with z | z
        · rw [z]; show _ < h'.objs.size; rw [h9]; exact Nat.lt_add_of_pos_right (by decide)
        · rw [z]; show _ < h'.objs.size; rw [h9]; exact Nat.lt_trans hal (Nat.lt_add_of_pos_right (by decide))
      · have e' : s1.heap.objs.size + 1 = s1.heap.objs.size ∨ s1.heap.objs.size + 1 = a := by simpa using hb
        rcases e' with z | z
        · exact Nat.succ_ne_self _ z
        · exact absurd hal (by rw [← z]; exact Nat.not_lt.mpr (Nat.le_succ _))
    · obtain ⟨its, rv, p', hz⟩ := I1.tuple hx
      have p' : s1.heap.IsTuple a its.toArray := p'
      have hal : a < s1.heap.objs.size := by obtain ⟨_, q, _⟩ := p'; exact Heap.lt_size q
      refine enum1 (begins_tuple a its.toArray) p' fun h' he hit hsz hk => ?_
      refine Calls.spliced_nil ?_
      refine fin rv hz (fun A hh => Draws.tuple hh s1.heap.objs.size a (Nat.ne_of_lt hal) its.toArray) hsz hk he ⟨⟨_, hit, rfl, rfl⟩, p'.at fun o q => hk a o q⟩ (fun b hb => ?_) (fun hb => ?_)
      · have e' : b = s1.heap.objs.size ∨ b = a := by simpa using hb
        have h9 : h'.objs.size = s1.heap.objs.size + 2 := hsz
        rcases e' with z | z
        · rw [z]; show _ < h'.objs.size; rw [h9]; exact Nat.lt_add_of_pos_right (by decide)
        · rw [z]; show _ < h'.objs.size; rw [h9]; exact Nat.lt_trans hal (Nat.lt_add_of_pos_right (by decide))
      · have e' : s1.heap.objs.size + 1 = s1.heap.objs.size ∨ s1.heap.objs.size + 1 = a := by simpa using hb
        rcases e' with z | z
        · exact Nat.succ_ne_self _ z
        · exact absurd hal (by rw [← z]; exact Nat.not_lt.mpr (Nat.le_succ _))
end
end DL


namespace DL
open PySem PySem.Spec PyProof.Rows L2
/-! DL31: list(enumerate(x)), dict(list of pairs), list(range), tuple(range), pop, d.get(k, x). -/
section
variable {K : PySem.W.Frag}
def enmF (n : Nat) (ds : List D) : List D := (ds.zipIdx n).map fun p => .tuple [.int (p.2 : Int), p.1]
theorem enmD_zip (ds : List D) : enmD ds = enmF 0 ds := by
  refine List.ext_getElem (by simp [enmD, enmF]) fun i h1 h2 => ?_
  have hi : i < ds.length := by simpa [enmD] using h1
  simp [enmD, enmF, hi]
theorem rp_enm {P : Addr → Prop} {H : Hp} : ∀ {ts : List Addr} {vs : List V} {ds : List D} (n : Nat), RpA K (mask P H) vs ds → Paired (fun (t : Addr) (q : Key × V) => H t = some (.tup [kV q.1, q.2])) ts ((vs.zipIdx n).map fun p => ((Sum.inl (p.2 : Int) : Key), p.1)) → (∀ t ∈ ts, ¬ P t) → RpA K (mask P H) (ts.map V.ref) (enmF n ds)
  | [], _, _, n, .nil, _, _ => .nil
  | [], _, _, n, .cons a b, h, _ => by rw [List.zipIdx_cons] at h; cases h
  | t :: ts, _, _, n, .nil, h, _ => by cases h
  | t :: ts, _, _, n, .cons a b, h, hp => by
    rw [List.zipIdx_cons] at h
    cases h with
    | cons h1 h2 =>
      unfold enmF
      rw [List.zipIdx_cons]
      refine .cons (.tup (mask_some.mpr ⟨hp t (List.mem_cons_self ..), h1⟩) (.cons (.int _) (.cons a .nil))) ?_
      exact rp_enm (n + 1) b h2 fun t ht => hp t (List.mem_cons_of_mem _ ht)
def eLE (fr : M (List D)) : M D := bd (asE fr) fun ds => rtn (.list ds)
theorem ev_listEnum {ta : TA} {f : M (List D)} (h : EvA K ta f) : EvE K (tListEnum K ta) (eLE f) := by
  intro A hid P s σ H d s' ok e Q q
  obtain ⟨ds, s0, e, e0⟩ := bd_some e
  obtain ⟨rfl, rfl⟩ := rtn_some e0
  obtain ⟨x, s1, h1, e⟩ := bd_some e
  refine h A hid P s σ H x s1 ok h1 _ fun v P1 H1 ok1 st1 r => ?_
  have key : ∀ {a : Addr} {vs : List V} {es : List D} (g : SqL K H1 a vs ∨ SqT K H1 a vs) (rr : RpA K (mask P1 H1) vs es) (es0 : s1 = s') (e2 : enmD es = ds), rEnL K a H1 Q := by
    intro a vs es g rr es0 e2
    subst es0 e2
    refine ⟨vs, g, fun H' p ts k1 k2 k3 k4 k5 k6 => ?_⟩
    refine q _ P1 H' (ok1.grw k1) (st1.trans (Stp.grw k1)) (.lst (mask_some.mpr ⟨ok1.free k2, k5⟩) ?_)
    rw [enmD_zip]
    exact rp_enm 0 (rr.mono (grw_mask k1)) k6 fun t ht => ok1.free (k3 t ht)
  split at e
  · obtain ⟨rfl, rfl⟩ := rtn_some e
    obtain ⟨v, rfl, r0⟩ := r.one
    obtain ⟨a, vs, rfl, hx, rr⟩ := r0.lst_inv
    exact ⟨a, rfl, key (.inl (SqL.of (mask_le _ _ hx))) rr rfl rfl⟩
  · obtain ⟨rfl, rfl⟩ := rtn_some e
    obtain ⟨v, rfl, r0⟩ := r.one
    obtain ⟨a, vs, rfl, hx, rr⟩ := r0.tup_inv
    exact ⟨a, rfl, key (.inr (sqT_le hx)) rr rfl rfl⟩
  · cases e
/-! dict(xs) of a list of pairs -/
def prsD : List D → Option (List (D × D))
  | [] => some []
  | .tuple [k, v] :: r => if (kD k).isSome = true then (prsD r).map ((k, v) :: ·) else none
  | _ => none
def dDictP : List D → Option D
  | [.list ps] => (prsD ps).map fun kvs => .dict (mergeD [] kvs)
  | _ => none
abbrev rDictP (K : PySem.W.Frag) : List V → Hp → VK → Prop := fun xs H Q => ∃ (a : Addr) (ps : List Addr) (kvs : List (Key × V)), xs = [.ref a] ∧ SqL K H a (ps.map V.ref) ∧ Paired (fun p kv => SqT K H p [kV kv.1, kv.2]) ps kvs ∧
    ∀ p, H p = none → Q (.ref p) (upd H p (.dK (mergeK [] kvs)))
theorem rp_prs {P : Addr → Prop} {H : Hp} : ∀ {ds : List D} {vs : List V} {kvs : List (D × D)}, RpA K (mask P H) vs ds → prsD ds = some kvs → ∃ (ps : List Addr) (ks : List (Key × V)), vs = ps.map V.ref ∧ Paired (fun p kv => SqT K H p [kV kv.1, kv.2]) ps ks ∧ RpK K (mask P H) ks kvs
  | _, _, kvs, .nil, e => by cases e; exact ⟨[], [], rfl, .nil, .nil⟩
  | d :: ds, v :: vs, kvs, .cons a b, e => by
    unfold prsD at e
    split at e
    · rename_i he; cases he
    · rename_i k x r he
      cases he
      split at e
      · rename_i hk
        cases e2 : prsD ds with
        | none => rw [e2] at e; cases e
        | some kv2 =>
          rw [e2] at e; cases e
          obtain ⟨ps, ks, rfl, h1, h2⟩ := rp_prs b e2
          obtain ⟨t, us, rfl, ht, r2⟩ := a.tup_inv
          obtain ⟨y, z, rfl, ry, rz⟩ := r2.two
          obtain ⟨kk, hkk⟩ := Option.isSome_iff_exists.mp hk
          have ek := kD_some hkk
          subst ek
          have := ry.key
          subst this
          exact ⟨t :: ps, (kk, z) :: ks, rfl, .cons (sqT_le ht) h1, .cons rz h2⟩
      · cases e
    · cases e
theorem do_dictP : DOC K (rDictP K) dDictP := by
  intro P H xs ds d t hx e Q q
  unfold dDictP at e
  split at e
  · rename_i ps
    cases e2 : prsD ps with
    | none => rw [e2] at e; cases e
    | some kvs =>
      rw [e2] at e; cases e
      obtain ⟨v, rfl, r⟩ := hx.one
      obtain ⟨a, vs, rfl, h1, rr⟩ := r.lst_inv
      obtain ⟨pa, ks, rfl, h2, h3⟩ := rp_prs rr e2
      refine ⟨a, pa, ks, rfl, SqL.of (mask_le _ _ h1), h2, fun p hp => ?_⟩
      exact q _ _ (Grw.new hp) (.dK (.inl (mask_new (t.free hp))) ((RpK.merge h3 .nil).mono (grw_mask (Grw.new hp))))
  · cases e
theorem k_dictP {X : Cx} (hc : X.calm = true := by rfl) (hK : X.K = K := by rfl) : CallR X (.type "dict") (rDictP K) := hK ▸ call_dictP hc
/-! range as a list, as a tuple -/
def nRg1 (fa : M D) : M (List D) := bd fa fun x => match x with
  | .int j => if -(2 ^ 62) ≤ j ∧ j ≤ 1000000 then rtn (rngD 0 j.toNat) else fun _ => none
  | _ => fun _ => none
def nRg2 (fa fb : M D) : M (List D) := bd fa fun x => bd fb fun y => match x, y with
  | .int i, .int j => if -(2 ^ 62) ≤ i ∧ i < 2 ^ 62 ∧ -(2 ^ 62) ≤ j ∧ j < 2 ^ 62 ∧ j - i ≤ 1000000 then rtn (rngD i (j - i).toNat) else fun _ => none
  | _, _ => fun _ => none
def eTR (f : M (List D)) : M D := bd f fun ds => rtn (.tuple ds)
theorem rpA_rg {H : Hp} {a b : Int} : RpA K H (rgV a b) (rngD a (b - a).toNat) := by
  unfold rgV rngD
  induction (List.range (b - a).toNat) with
  | nil => exact .nil
  | cons x r ih => exact .cons (.int _) ih
variable {ta tb : TE} {fa fb : M D}
theorem rg1_some {s s' : S} {ds : List D} (e : nRg1 fa s = some (ds, s')) : ∃ j, fa s = some (.int j, s') ∧ RgOk 0 j ∧ ds = rngD 0 (j - 0).toNat := by
  obtain ⟨x, s1, e1, e⟩ := bd_some e
  split at e
  · split at e
    · rename_i j h
      obtain ⟨rfl, rfl⟩ := rtn_some e
      exact ⟨j, e1, ⟨by omega, by omega, by omega, by omega, by omega⟩, by rw [Int.sub_zero]⟩
    · cases e
  · cases e
theorem en_rg1 (h : EvE K ta fa) : EvN K (tLstRg (tRg1 ta)) (nRg1 fa) := by
  intro A hid P s σ H ds s' ok e Q q
  obtain ⟨j, e1, h1, rfl⟩ := rg1_some e
  refine h A hid P s σ H _ s' ok e1 _ fun v P1 H1 ok1 st1 r => ⟨j, r.int_inv, h1, fun p hp => ?_⟩
  exact q _ P1 H1 p ok1 st1 hp rpA_rg
theorem ev_trg1 (h : EvE K ta fa) : EvE K (tTupRg (tRg1 ta)) (eTR (nRg1 fa)) := by
  intro A hid P s σ H d s' ok e Q q
  obtain ⟨ds, s0, e, e0⟩ := bd_some e
  obtain ⟨rfl, rfl⟩ := rtn_some e0
  obtain ⟨j, e1, h1, rfl⟩ := rg1_some e
  refine h A hid P s σ H _ s' ok e1 _ fun v P1 H1 ok1 st1 r => ⟨j, r.int_inv, h1, fun p hp => ?_⟩
  exact q _ P1 _ (ok1.grw (Grw.new hp)) (st1.trans (Stp.grw (Grw.new hp))) (rp_newT ok1.trk hp rpA_rg)
theorem rg2_some {s s' : S} {ds : List D} (e : nRg2 fa fb s = some (ds, s')) : ∃ i j s1, fa s = some (.int i, s1) ∧ fb s1 = some (.int j, s') ∧ RgOk i j ∧ ds = rngD i (j - i).toNat := by
  obtain ⟨x, s1, e1, e⟩ := bd_some e
  obtain ⟨y, s2, e2, e⟩ := bd_some e
  cases x with
  | int i => cases y with
    | int j =>
      dsimp only at e
      split at e
      · rename_i h
        obtain ⟨rfl, rfl⟩ := rtn_some e
        exact ⟨i, j, s1, e1, e2, ⟨by omega, by omega, by omega, by omega, by omega⟩, rfl⟩
      · cases e
    | _ => cases e
  | _ => cases e
theorem en_rg2 (h : EvE K ta fa) (h2 : EvE K tb fb) : EvN K (tLstRg (tRg2 ta tb)) (nRg2 fa fb) := by
  intro A hid P s σ H ds s' ok e Q q
  obtain ⟨i, j, s1, e1, e2, h1, rfl⟩ := rg2_some e
  refine h A hid P s σ H _ s1 ok e1 _ fun v P1 H1 ok1 st1 r => ?_
  refine h2 A hid P1 s1 σ H1 _ s' ok1 e2 _ fun u P2 H2 ok2 st2 r2 => ⟨i, j, r.int_inv, r2.int_inv, h1, fun p hp => ?_⟩
  exact q _ P2 H2 p ok2 (st1.trans st2) hp rpA_rg
theorem ev_trg2 (h : EvE K ta fa) (h2 : EvE K tb fb) : EvE K (tTupRg (tRg2 ta tb)) (eTR (nRg2 fa fb)) := by
  intro A hid P s σ H d s' ok e Q q
  obtain ⟨ds, s0, e, e0⟩ := bd_some e
  obtain ⟨rfl, rfl⟩ := rtn_some e0
  obtain ⟨i, j, s1, e1, e2, h1, rfl⟩ := rg2_some e
  refine h A hid P s σ H _ s1 ok e1 _ fun v P1 H1 ok1 st1 r => ?_
  refine h2 A hid P1 s1 σ H1 _ s' ok1 e2 _ fun u P2 H2 ok2 st2 r2 => ⟨i, j, r.int_inv, r2.int_inv, h1, fun p hp => ?_⟩
  exact q _ P2 _ (ok2.grw (Grw.new hp)) ((st1.trans st2).trans (Stp.grw (Grw.new hp))) (rp_newT ok2.trk hp rpA_rg)
/-! x.pop(), x.pop(i) -/
theorem RpA.erase {H : Hp} : ∀ {vs : List V} {ds : List D} (n : Nat), RpA K H vs ds → RpA K H (vs.eraseIdx n) (ds.eraseIdx n)
  | _, _, _, .nil => .nil
  | _, _, 0, .cons _ t => t
  | _, _, n + 1, .cons q t => .cons q (RpA.erase n t)
def ePopI (i : Nat) (fi : M D) : M D := fun s => match s.g[i]? with
  | some (some (.lst _)) => (bd fi fun j s1 => match j, s1.g[i]? with
      | .int k, some (some (.lst ds)) => (match ixN ds.length k with
          | some n => if ds.length ≤ lim then (ds[n]?).map fun d => (d, { s1 with g := s1.g.set i (some (.lst (ds.eraseIdx n))) }) else none
          | none => none)
      | _, _ => none) s
  | _ => none
theorem ev_popI {i : Nat} {ti : TE} {fi : M D} (h : EvE K ti fi) : EvE K (tBM K "list" rPopAt (tVar i) (tCons ti tNil)) (ePopI i fi) := by
  intro A hid P s σ H d s' ok e Q q
  unfold ePopI at e
  split at e
  · rename_i ds0 hg0
    obtain ⟨j, s1, h1, e⟩ := bd_some e
    obtain ⟨a, vs0, ea, k1, _⟩ := ok.slot i _ hg0
    refine ⟨.ref a, ea, .inl ⟨rfl, vs0, SqL.of k1⟩, ?_⟩
    refine h A hid P s σ H j s1 ok h1 _ fun w P1 H1 ok1 st1 rw_ => ?_
    split at e
    · rename_i k ds hg
      split at e
      · rename_i n hn
        split at e
        · rename_i hl
          cases hd : ds[n]? with
          | none => rw [hd] at e; cases e
          | some d0 =>
            rw [hd] at e; cases e
            obtain ⟨b, vs, eb, m1, m2, m3, m4, mr⟩ := ok1.slot i _ hg
            rw [ea] at eb; cases eb
            obtain ⟨v, hv, rv⟩ := mr.get hd
            obtain ⟨ok2, st2⟩ := ok1.put_cell hg ea (mr.erase n)
            cases rw_
            obtain ⟨z1, z2, z3, z4⟩ := ixN_seq hn
            have hl' : ds.length ≤ 1000000 := hl
            exact ⟨a, vs, k, n, v, rfl, rfl, m1, by omega, by omega, by rw [mr.length]; exact z1, hv, q v P1 _ ok2 (st1.trans st2) (st2.rp rv)⟩
        · cases e
      · cases e
    · cases e
  · cases e
def ePop (i : Nat) : M D := fun s => match s.g[i]? with
  | some (some (.lst ds)) => (ds[ds.length - 1]?).map fun d => (d, { s with g := s.g.set i (some (.lst ds.dropLast)) })
  | _ => none
theorem RpA.dropLast {H : Hp} {vs : List V} {ds : List D} (h : RpA K H vs ds) : RpA K H vs.dropLast ds.dropLast := by
  rw [List.dropLast_eq_take, List.dropLast_eq_take, h.length]
  exact h.take _
theorem ev_pop {i : Nat} : EvE K (tBM0 K "list" rPop (tVar i)) (ePop i) := by
  intro A hid P s σ H d s' ok e Q q
  unfold ePop at e
  split at e
  · rename_i ds hg
    cases hd : ds[ds.length - 1]? with
    | none => rw [hd] at e; cases e
    | some d0 =>
      rw [hd] at e; cases e
      obtain ⟨a, vs, ea, m1, m2, m3, m4, mr⟩ := ok.slot i _ hg
      obtain ⟨v, hv, rv⟩ := mr.get hd
      obtain ⟨ok2, st2⟩ := ok.put_cell hg ea mr.dropLast
      exact ⟨.ref a, ea, .inl ⟨rfl, vs, SqL.of m1⟩, a, vs, v, rfl, rfl, m1, by rw [mr.length]; exact hv, q v P _ ok2 st2 (st2.rp rv)⟩
  · cases e
/-! d.get(k, x), d data with flat keys -/
def dDGetD (x y z : D) : Option D := match x with
  | .dict ds => if flatKs ds && (kD y).isSome then some ((lookD ds y).getD z) else none
  | _ => none
def eOp3 (op : D → D → D → Option D) (fa fb fc : M D) : M D := bd fa fun x => bd fb fun y => bd fc fun z => lf (op x y z)
theorem ev_dgetD {tc : TE} {fc : M D} (h : EvE K ta fa) (h' : EvE K tb fb) (h'' : EvE K tc fc) : EvE K (tDGet2 ta tb tc) (eOp3 dDGetD fa fb fc) := by
  intro A hid P s σ H d s' ok e Q q
  obtain ⟨x, s1, e1, e⟩ := bd_some e
  obtain ⟨y, s2, e2, e⟩ := bd_some e
  obtain ⟨z, s3, e3, e⟩ := bd_some e
  obtain ⟨e, rfl⟩ := lf_some e
  refine h A hid P s σ H x s1 ok e1 _ fun v P1 H1 ok1 st1 r1 => ?_
  unfold dDGetD at e
  split at e
  · split at e
    · rename_i ds hh
      rw [Bool.and_eq_true] at hh
      cases e
      obtain ⟨a0, kvs0, rfl, h0, r0⟩ := r1.dictK hh.1
      refine ⟨a0, rfl, .inl ⟨kvs0, rd_grw mask_le h0⟩, ?_⟩
      refine h' A hid P1 s1 σ H1 y s2 ok1 e2 _ fun u P2 H2 ok2 st2 r2 => ?_
      refine h'' A hid P2 s2 σ H2 z _ ok2 e3 _ fun w P3 H3 ok3 st3 r3 => ?_
      obtain ⟨a, kvs, ea, h1, r⟩ := (st3.rp (st2.rp r1)).dictK hh.1
      cases ea
      obtain ⟨k, hk⟩ := Option.isSome_iff_exists.mp hh.2
      have ek := kD_some hk
      subst ek
      have := r2.key
      subst this
      refine ⟨valV kvs k, .inl ⟨kvs, k, rd_grw mask_le h1, rfl, rfl⟩, ?_⟩
      rcases r.look (k := k) with ⟨v', d', q1, q2, q3⟩ | ⟨q1, q2⟩
      · rw [q2] at q; rw [q1]; exact q _ _ _ ok3 ((st1.trans st2).trans st3) q3
      · rw [q2] at q; rw [q1]; exact q _ _ _ ok3 ((st1.trans st2).trans st3) r3
    · cases e
  · cases e
end
section
variable {X : Cx} {K : PySem.W.Frag} {a b c e : Expr} {ta tb tc : TE} {fa fb fc : M D} {tr : TA} {fr : M (List D)} {p p2 pos pos2 apos cpos : Pos}
theorem k_listEnum (ha : DAr X [e] tr fr) (hm : X.mg "list" = none) (hm2 : X.mg "enumerate" = none) (hK : X.K = K := by rfl) (hc : X.calm = true := by rfl) (hg : Gl X "list" := by rfl) (hv : bootBuiltins "list" = some (.type "list") := by decide +kernel) (hg2 : Gl X "enumerate" := by rfl)
    (hs : starEach [.Call (.Name "enumerate" p2) [e] [] pos2] X.env = [(false, eval (.Call (.Name "enumerate" p2) [e] [] pos2) X.env)] := by rfl) (hs2 : starEach [e] X.env = [(false, eval e X.env)] := by rfl) :
    DE X (.Call (.Name "list" p) [.Call (.Name "enumerate" p2) [e] [] pos2] [] pos) (tListEnum K tr) (eLE fr) := hK ▸ ⟨pe_listEnum hc ha.p hg hm hv hg2 hm2 hs hs2, ev_listEnum ha.v⟩
theorem dn_listRg1 (ha : DE X a ta fa) (hm : X.mg "list" = none) (hm2 : X.mg "range" = none) (hc : X.calm = true := by rfl) (hg : Gl X "list" := by rfl) (hg2 : Gl X "range" := by rfl)
    (na : starEach [.Call (.Name "range" p2) [a] [] pos2] X.env = (false, eval (.Call (.Name "range" p2) [a] [] pos2) X.env) :: starEach [] X.env := by rfl) (nb : starEach [a] X.env = (false, eval a X.env) :: starEach [] X.env := by rfl) :
    DN X (.Call (.Name "list" p) [.Call (.Name "range" p2) [a] [] pos2] [] pos) (tLstRg (tRg1 ta)) (nRg1 fa) := ⟨pe_listRg hc hg hm (prg_1 hg2 hm2 ha.p nb) na, en_rg1 ha.v⟩
theorem dn_listRg2 (ha : DE X a ta fa) (hb : DE X b tb fb) (hm : X.mg "list" = none) (hm2 : X.mg "range" = none) (hc : X.calm = true := by rfl) (hg : Gl X "list" := by rfl) (hg2 : Gl X "range" := by rfl)
    (na : starEach [.Call (.Name "range" p2) [a, b] [] pos2] X.env = (false, eval (.Call (.Name "range" p2) [a, b] [] pos2) X.env) :: starEach [] X.env := by rfl) (nb : starEach [a, b] X.env = (false, eval a X.env) :: starEach [b] X.env := by rfl)
    (nc : starEach [b] X.env = (false, eval b X.env) :: starEach [] X.env := by rfl) (hp : (backTo pos2 (starEach [b] X.env)).any (·.1) = false := by rfl) :
    DN X (.Call (.Name "list" p) [.Call (.Name "range" p2) [a, b] [] pos2] [] pos) (tLstRg (tRg2 ta tb)) (nRg2 fa fb) := ⟨pe_listRg hc hg hm (prg_2 hg2 hm2 ha.p hb.p nb nc hp) na, en_rg2 ha.v hb.v⟩
theorem de_tupRg1 (ha : DE X a ta fa) (hm : X.mg "tuple" = none) (hm2 : X.mg "range" = none) (hc : X.calm = true := by rfl) (hg : Gl X "tuple" := by rfl) (hg2 : Gl X "range" := by rfl)
    (na : starEach [.Call (.Name "range" p2) [a] [] pos2] X.env = (false, eval (.Call (.Name "range" p2) [a] [] pos2) X.env) :: starEach [] X.env := by rfl) (nb : starEach [a] X.env = (false, eval a X.env) :: starEach [] X.env := by rfl) :
    DE X (.Call (.Name "tuple" p) [.Call (.Name "range" p2) [a] [] pos2] [] pos) (tTupRg (tRg1 ta)) (eTR (nRg1 fa)) := ⟨pe_tupRg hc hg hm (prg_1 hg2 hm2 ha.p nb) na, ev_trg1 ha.v⟩
theorem de_tupRg2 (ha : DE X a ta fa) (hb : DE X b tb fb) (hm : X.mg "tuple" = none) (hm2 : X.mg "range" = none) (hc : X.calm = true := by rfl) (hg : Gl X "tuple" := by rfl) (hg2 : Gl X "range" := by rfl)
    (na : starEach [.Call (.Name "range" p2) [a, b] [] pos2] X.env = (false, eval (.Call (.Name "range" p2) [a, b] [] pos2) X.env) :: starEach [] X.env := by rfl) (nb : starEach [a, b] X.env = (false, eval a X.env) :: starEach [b] X.env := by rfl)
    (nc : starEach [b] X.env = (false, eval b X.env) :: starEach [] X.env := by rfl) (hp : (backTo pos2 (starEach [b] X.env)).any (·.1) = false := by rfl) :
    DE X (.Call (.Name "tuple" p) [.Call (.Name "range" p2) [a, b] [] pos2] [] pos) (tTupRg (tRg2 ta tb)) (eTR (nRg2 fa fb)) := ⟨pe_tupRg hc hg hm (prg_2 hg2 hm2 ha.p hb.p nb nc hp) na, ev_trg2 ha.v hb.v⟩
theorem k_popI (i : Nat) {x : Str} {px : Pos} (h : DE X e ta fa) (hK : X.K = K := by rfl) (hN : X.N[i]? = some x := by rfl) (hv : Vis X.env.scope x := by first | exact Or.inl rfl | exact Or.inr (Or.inl rfl) | exact Or.inr (Or.inr rfl))
    (hd : (x == ("__debug__" : Str)) = false := by decide) (hcd : (x == ("__classdict__" : Str)) = false := by decide) (hst : starEach [e] X.env = (false, eval e X.env) :: starEach [] X.env := by rfl)
    (hbase : attributeBase (.Name x px) "pop" X.env (eval (.Name x px) X.env) = eval (.Name x px) X.env := by rfl)
    (hfew : ((backTo cpos (starEach [e] X.env)).all (fun x => !x.1) && (backToKw cpos (keywordEach [] X.env)).all (fun x => x.1.isSome) && decide ([e].length + ([] : List Keyword).length + (if ([] : List Keyword).isEmpty then 0 else 1) < 30)) = true := by rfl)
    (hline : (apos.endLine == cpos.line) = true := by rfl) (hplain : (backTo cpos (starEach [] X.env)).any (·.1) = false := by rfl) :
    DE X (.Call (.Attribute (.Name x px) "pop" apos) [e] [] cpos) (tBM K "list" rPopAt (tVar i) (tCons ta tNil)) (ePopI i fa) := hK ▸
  ⟨pe_bm PySem.F.plainAttrs_list PySem.F.slot_list_pop PySem.F.type_list_pop mt_popAt (pe_var hN hv hd hcd) (pa_cons h.p pa_nil hst) hbase hfew hline hst hplain, ev_popI h.v⟩
theorem k_pop (i : Nat) {x : Str} {px : Pos} (hK : X.K = K := by rfl) (hN : X.N[i]? = some x := by rfl) (hv : Vis X.env.scope x := by first | exact Or.inl rfl | exact Or.inr (Or.inl rfl) | exact Or.inr (Or.inr rfl))
    (hd : (x == ("__debug__" : Str)) = false := by decide) (hcd : (x == ("__classdict__" : Str)) = false := by decide)
    (hbase : attributeBase (.Name x px) "pop" X.env (eval (.Name x px) X.env) = eval (.Name x px) X.env := by rfl) (hline : (apos.endLine == cpos.line) = true := by rfl) :
    DE X (.Call (.Attribute (.Name x px) "pop" apos) [] [] cpos) (tBM0 K "list" rPop (tVar i)) (ePop i) := hK ▸
  ⟨pe_bm0 PySem.F.plainAttrs_list PySem.F.slot_list_pop PySem.F.type_list_pop mt_pop (pe_var hN hv hd hcd) hbase hline, ev_pop⟩
theorem de_dgetD (hu : X.A.units + 1 < cLine) (ha : DE X a ta fa) (hb : DE X b tb fb) (hc : DE X c tc fc)
    (h1 : attributeBase a "get" X.env (eval a X.env) = eval a X.env := by rfl) (h2 : ((backTo cpos (starEach [b, c] X.env)).all (fun x => !x.1) && (backToKw cpos (keywordEach [] X.env)).all (fun x => x.1.isSome)
    && decide (([b, c] : List Expr).length + ([] : List Keyword).length + (if ([] : List Keyword).isEmpty then 0 else 1) < 30)) = true := by rfl) (h3 : (apos.endLine == cpos.line) = true := by rfl)
    (h4 : backTo cpos (starEach [b, c] X.env) = [(false, eval b X.env), (false, eval c X.env)] := by rfl) :
    DE X (.Call (.Attribute a "get" apos) [b, c] [] cpos) (tDGet2 ta tb tc) (eOp3 dDGetD fa fb fc) := ⟨pe_dget2 hu ha.p hb.p hc.p ⟨h1, h2, h3, h4⟩, ev_dgetD ha.v hb.v hc.v⟩
end
/-! the pure side -/
section
variable {s : S} {Q : D → S → Prop}
@[simp ↓] theorem wp_eLE {f : M D} : wp (eLE (aCons f aNil)) s Q ↔ wp f s fun d s1 => ∃ ds, (d = .list ds ∨ d = .tuple ds) ∧ Q (.list (enmD ds)) s1 := by
  unfold eLE asE; simp only [wp_bd, wp_aCons, wp_aNil]
  constructor <;> intro h <;> refine wp_mono h fun d s1 q => ?_
  · cases d with
    | list ds => exact ⟨ds, .inl rfl, by simpa only [wp_rtn] using q⟩
    | tuple ds => exact ⟨ds, .inr rfl, by simpa only [wp_rtn] using q⟩
    | _ => simp only [wp_no] at q
  · obtain ⟨ds, rfl | rfl, q⟩ := q <;> simpa only [wp_rtn] using q
@[simp ↓] theorem wp_nRg1 {f : M D} {Q : List D → S → Prop} : wp (nRg1 f) s Q ↔ wp f s fun d s1 => ∃ j : Int, d = .int j ∧ (-(2 ^ 62) ≤ j ∧ j ≤ 1000000) ∧ Q (rngD 0 j.toNat) s1 := by
  unfold nRg1; simp only [wp_bd]
  constructor <;> intro h <;> refine wp_mono h fun d s1 q => ?_
  · cases d with
    | int j =>
      refine ⟨j, rfl, ?_⟩
      by_cases hj : -(2 ^ 62) ≤ j ∧ j ≤ 1000000
      · simp only [if_pos hj, wp_rtn] at q; exact ⟨hj, q⟩
      · simp only [if_neg hj, wp_no] at q
    | _ => exact (wp_no.mp q).elim
  · obtain ⟨j, rfl, hj, q⟩ := q
    simp only [if_pos hj, wp_rtn]; exact q
@[simp ↓] theorem wp_nRg2 {f g : M D} {Q : List D → S → Prop} : wp (nRg2 f g) s Q ↔ wp f s fun x s1 => wp g s1 fun y s2 => ∃ i j : Int, x = .int i ∧ y = .int j ∧ (-(2 ^ 62) ≤ i ∧ i < 2 ^ 62 ∧ -(2 ^ 62) ≤ j ∧ j < 2 ^ 62 ∧ j - i ≤ 1000000) ∧ Q (rngD i (j - i).toNat) s2 := by
  unfold nRg2; simp only [wp_bd]
  constructor <;> intro h <;> refine wp_mono h fun x s1 h => ?_ <;> refine wp_mono h fun y s2 q => ?_
  · cases x with
    | int i => cases y with
      | int j =>
        refine ⟨i, j, rfl, rfl, ?_⟩
        by_cases hj : -(2 ^ 62) ≤ i ∧ i < 2 ^ 62 ∧ -(2 ^ 62) ≤ j ∧ j < 2 ^ 62 ∧ j - i ≤ 1000000
        · simp only [if_pos hj, wp_rtn] at q; exact ⟨hj, q⟩
        · simp only [if_neg hj, wp_no] at q
      | _ => exact (wp_no.mp q).elim
    | _ => exact (wp_no.mp q).elim
  · obtain ⟨i, j, rfl, rfl, hj, q⟩ := q
    simp only [if_pos hj, wp_rtn]; exact q
@[simp ↓] theorem wp_eTR {f : M (List D)} : wp (eTR f) s Q ↔ wp f s fun ds s1 => Q (.tuple ds) s1 := by unfold eTR; simp only [wp_bd, wp_rtn]
@[simp ↓] theorem wp_eOp3 {op : D → D → D → Option D} {fa fb fc : M D} : wp (eOp3 op fa fb fc) s Q ↔ wp fa s fun x s1 => wp fb s1 fun y s2 => wp fc s2 fun z s3 => ∃ d, op x y z = some d ∧ Q d s3 := by
  unfold eOp3; simp only [wp_bd, wp_lf]
@[simp ↓] theorem wp_ePop {i : Nat} : wp (ePop i) s Q ↔ ∃ ds d, s.g[i]? = some (some (.lst ds)) ∧ ds[ds.length - 1]? = some d ∧ Q d ⟨s.g.set i (some (.lst ds.dropLast)), s.k⟩ := by
  constructor
  · rintro ⟨d, s', e, q⟩
    unfold ePop at e
    split at e
    · rename_i ds h
      cases hd : ds[ds.length - 1]? with
      | none => rw [hd] at e; cases e
      | some d0 => rw [hd] at e; cases e; exact ⟨ds, _, h, hd, q⟩
    · cases e
  · rintro ⟨ds, d, h, hd, q⟩
    refine ⟨d, _, ?_, q⟩
    unfold ePop
    simp only [h, hd]; rfl
theorem wp_ePopI {i : Nat} {fi : M D} {ds0 : List D} (h0 : s.g[i]? = some (some (.lst ds0))) : wp (ePopI i fi) s Q ↔ wp fi s fun j s1 => ∃ k ds n d, j = .int k ∧ s1.g[i]? = some (some (.lst ds)) ∧ ixN ds.length k = some n ∧ ds.length ≤ lim ∧ ds[n]? = some d ∧ Q d { s1 with g := s1.g.set i (some (.lst (ds.eraseIdx n))) } := by
  unfold ePopI wp
  simp only [h0, bd]
  constructor
  · rintro ⟨a, s', e, q⟩
    cases hf : fi s with
    | none => rw [hf] at e; cases e
    | some y =>
      obtain ⟨j, s1⟩ := y
      rw [hf] at e
      dsimp only at e
      refine ⟨j, s1, rfl, ?_⟩
      split at e
      · rename_i k ds hg
        split at e
        · rename_i n hn
          split at e
          · rename_i hl
            cases hd : ds[n]? with
            | none => rw [hd] at e; cases e
            | some d0 => rw [hd] at e; cases e; exact ⟨k, ds, n, _, rfl, hg, hn, hl, hd, q⟩
          · cases e
        · cases e
      · cases e
  · rintro ⟨j, s1, hf, k, ds, n, d, rfl, hg, hn, hl, hd, q⟩
    refine ⟨d, _, ?_, q⟩
    rw [hf]
    simp only [hg, hn, hl, if_true, hd]; rfl
end
end DL


namespace DL
open PySem PySem.Spec PyProof.Rows L2
/-! DL32: objects of the program's classes: one at a time, in a slot. -/
abbrev FSO := List Val → Dk → Option (D × Ob × Dk)
def spO (K : PySem.W.Frag) (sem : FSO) : Sp := fun vs H Q _ => ∃ (A : DA) (P : Addr → Prop) (xs : List Val) (k : Dk) (d : D) (o' : Ob) (k' : Dk) (y : OA), A.x = some y ∧ Trk P H ∧ DkOk A P H k ∧ ArgsOk K A P H vs xs ∧ sem xs k = some (d, o', k') ∧
  ∀ v H', (∀ a o, H a = some o → ¬ A.is a → H' a = some o) → DkOk A P H' k' → ObOk K y A P H' o' → Rp K (mask P H') v d → Q v H'
def ob0 (s : S) : Option Ob := match (s.g[0]? : Option (Option Val)) with
  | some (some (.obj o)) => some o
  | _ => none
def semOO (np n : Nat) (m : M Fl) : FSO := fun xs k => if xs.length = np then (match m ⟨xs.map some ++ List.replicate (n - xs.length) none, k⟩ with
  | some (.rt d, s') => (ob0 s').map fun o => (d, o, s'.k)
  | some (.nx, s') => (ob0 s').map fun o => (.none, o, s'.k)
  | _ => none) else none
theorem ob0_some {s : S} {o : Ob} (h : ob0 s = some o) : s.g[0]? = some (some (.obj o)) := by
  unfold ob0 at h
  split at h
  · cases h; assumption
  · cases h
section
variable {P : Program} {w : World} {K : PySem.W.Frag} {mg : Str → Option Value} {base : Heap}
theorem fnO_of {x qual : Str} {st : Stmt} {f : Addr} {fd : FuncData} {N ps : List Str} {k : Nat} {m : M Fl} (F : Fun K x qual st f fd) (Sc : FnScope N ps (defScope st))
    (body : ∀ (cdv : Value) (A : Around) (outer : List Env) (s : Shared) (H : Hp) (E : XK), Room k (A.deeper (envOfC qual (defScope st) s.heap.objs.size f cdv)) →
      ∃ t, DSs (cxOf CX0 P w K mg base N qual (defScope st) f cdv A outer s H E).nox (defBody st) t m) : FnOk P w K mg base CX0 (k + 1) f fd ps (spO K (semOO ps.length N.length m)) := by
  refine F.ok Sc (fun vs H Q E h => ?_) (fun cdv A outer s H vs Q E hr h => ?_)
  · obtain ⟨A, R, xs, k, d, o', k', y, _, t, dk, ar, e, _⟩ := h
    unfold semOO at e
    split at e
    · rename_i hl; rw [ar.length]; exact hl
    · cases e
  · obtain ⟨A0, R, xs, k0, d, o', k', y, hy, t, dk, ar, e, q⟩ := h
    obtain ⟨tt, hD⟩ := body cdv A outer s H E hr
    refine ⟨tt, hD.p, ?_⟩
    unfold semOO at e
    split at e
    · have ok := sok_start (N := N) t dk ar
      have done : ∀ (P' : Addr → Prop) (H' : Hp) (s' : S) (σ' : St), SOk K A0 (fun a => R a ∧ ¬ A0.is a) P' s' σ' H' → Stp (fun a => R a ∧ ¬ A0.is a) R P' H H' → ob0 s' = some o' →
          (∀ a o, H a = some o → ¬ A0.is a → H' a = some o) ∧ DkOk A0 R H' s'.k ∧ Grw (mask P' H') (mask R H') ∧ ObOk K y A0 R H' o' := fun P' H' s' σ' ok' st' ho => by
        have g : Grw (mask P' H') (mask R H') := mask_grw fun a o ha na => ⟨fun z => na (by
          by_cases hA : A0.is a
          · exact ok'.deck.rs a hA
          · exact ok'.hp a ⟨z, hA⟩), ha⟩
        refine ⟨fun a o ha na => st'.keep a o ha ?_, ⟨ok'.deck.ho, ok'.deck.hg, ok'.deck.hc, dk.rs, dk.og, dk.oc, dk.gc⟩, g, ?_⟩
        · by_cases hR : R a
          · exact .inl ⟨hR, na⟩
          · exact .inr hR
        · obtain ⟨y', h1, _, h3⟩ := ok'.slot 0 _ (ob0_some ho)
          rw [hy] at h1; cases h1
          exact h3.move g fun _ _ _ e => e
      cases hm : m ⟨xs.map some ++ List.replicate (N.length - xs.length) none, k0⟩ with
      | none => rw [hm] at e; cases e
      | some r =>
        obtain ⟨fl, s'⟩ := r
        rw [hm] at e
        refine hD.v A0 _ R _ _ H fl s' ok hm _ ?_
        cases fl with
        | nx =>
          dsimp only at e
          cases ho : ob0 s' with
          | none => rw [ho] at e; cases e
          | some o2 =>
            rw [ho] at e; cases e
            intro σ' P' H' ok' st'
            obtain ⟨h1, h2, _, h4⟩ := done P' H' s' σ' ok' st' ho
            exact q .non H' h1 h2 h4 .non
        | rt d2 =>
          dsimp only at e
          cases ho : ob0 s' with
          | none => rw [ho] at e; cases e
          | some o2 =>
            rw [ho] at e; cases e
            intro v σ' P' H' ok' st' r
            obtain ⟨h1, h2, h3, h4⟩ := done P' H' s' σ' ok' st' ho
            exact q v H' h1 h2 h4 (r.mono h3)
        | bk => cases e
        | ct => cases e
    · cases e
end
/-! ### slots with and without the object -/
def isObj : Option Val → Bool
  | some (.obj _) => true
  | _ => false
def objFree (g : List (Option Val)) : Bool := g.all fun x => !isObj x
theorem objFree_get {g : List (Option Val)} (h : objFree g = true) {i : Nat} {o : Ob} (e : g[i]? = some (some (.obj o))) : False := by
  unfold objFree at h
  have := List.all_eq_true.mp h _ (List.mem_of_getElem? e)
  cases this
section
variable {K : PySem.W.Frag} {A : DA} {hid P : Addr → Prop} {s : S} {σ : St} {H : Hp}
/-- a slot is forgotten -/
theorem SOk.drop {i : Nat} (ok : SOk K A hid P s σ H) : SOk K A hid P ⟨s.g.set i none, s.k⟩ σ H := by
  have back : ∀ (j : Nat) (w : Val), (s.g.set i none)[j]? = some (some w) → s.g[j]? = some (some w) := fun j w e => by
    rw [get_set] at e
    split at e
    · cases e
    · exact e
  exact ⟨ok.trk, ok.hp, ok.hd, by simpa using ok.len, fun j w e => ok.slot j w (back j w e), fun j l w u a e1 e2 => ok.apart j l w u a (back j w e1) (back l u e2), ok.deck⟩
/-- a slot of the object's address holds it -/
theorem SOk.putObj {i : Nat} {y : OA} {o : Ob} (ok : SOk K A hid P s σ H) (hy : A.x = some y) (hs : σ[i]? = some (some (.ref y.p))) (ho : ObOk K y A P H o) : SOk K A hid P ⟨s.g.set i (some (.obj o)), s.k⟩ σ H := by
  refine ⟨ok.trk, ok.hp, ok.hd, by simpa using ok.len, fun j w e => ?_, fun j l w u a e1 e2 c1 c2 => ?_, ok.deck⟩
  · have e : (s.g.set i (some (.obj o)))[j]? = some (some w) := e
    rw [get_set] at e
    by_cases k1 : i = j ∧ j < s.g.length
    · rw [if_pos k1] at e
      cases e
      exact ⟨y, hy, by rw [← k1.1]; exact hs, ho⟩
    · rw [if_neg k1] at e; exact ok.slot j w e
  · have back : ∀ (j : Nat) (w : Val), (s.g.set i (some (.obj o)))[j]? = some (some w) → isCell w = true → s.g[j]? = some (some w) := fun j w e c => by
      rw [get_set] at e
      split at e
      · cases e; cases c
      · exact e
    exact ok.apart j l w u a (back j w e1 c1) (back l u e2 c2) c1 c2
/-- behind a call that holds the object -/
theorem sokO_after {k' : Dk} {R : Addr → Prop} (ok : SOk K A hid P s σ H) (hf : objFree s.g = true) (hx : ∃ y, A.x = some y ∧ (∃ fs, H y.p = some (.ins y.C y.q fs)) ) (hk : ∀ a o, H a = some o → ¬ A.is a → H' a = some o) (hkt : ∀ y, A.x = some y → ∀ a, y.is a → ∃ o, H' a = some o ∧ NoT o) (dk : DkOk A R H' k') :
    SOk K A hid P { s with k := k' } σ H' ∧ Stp hid P P H H' := by
  have nA : ∀ a, ¬ P a → ¬ A.is a := fun a n z => n (ok.deck.rs a z)
  have g : Grw (mask P H) (mask P H') := mask_grw fun a o e c => ⟨c, hk a o e (nA a c)⟩
  refine ⟨⟨fun a z => ?_, ok.hp, ok.hd, ok.len, fun i v e => ?_, ok.apart, ⟨dk.ho, dk.hg, dk.hc, ok.deck.rs, dk.og, dk.oc, dk.gc⟩⟩, ⟨fun a o e c => hk a o e ?_, fun _ _ _ c => c⟩⟩
  · by_cases hA : A.is a
    · rcases hA with rfl | rfl | rfl | ⟨y, z, hb⟩
      · exact ⟨_, dk.ho, trivial⟩
      · exact ⟨_, dk.hg, trivial⟩
      · exact ⟨_, dk.hc, trivial⟩
      · exact hkt y z a hb
    · obtain ⟨o, e, n⟩ := ok.trk a z
      exact ⟨o, hk a o e hA, n⟩
  · have q := ok.slot i v e
    cases v with
    | dat d => obtain ⟨u, e5, r⟩ := q; exact ⟨u, e5, r.mono g⟩
    | deck => exact q
    | obj o => exact (objFree_get hf e).elim
    | lst ds => obtain ⟨a, vs, e5, h1, h2, h3, h4, rr⟩ := q; exact ⟨a, vs, e5, hk _ _ h1 h4, h2, h3, h4, rr.mono g⟩
    | dct tt ds =>
      obtain ⟨a, e5, h2, h3, h4, rr⟩ := q
      refine ⟨a, e5, h2, h3, h4, ?_⟩
      rcases rr with ⟨ht, ks, h1, rr⟩ | ⟨ht, ks, h1, rr⟩
      · exact .inl ⟨ht, ks, hk _ _ h1 h4, rr.mono g⟩
      · exact .inr ⟨ht, ks, hk _ _ h1 h4, rr.mono g⟩
  · rcases c with c | c
    · exact ok.hd a c
    · exact nA a c
theorem ObOk.there {y : OA} {o : Ob} (h : ObOk K y A P H o) : ∀ a, y.is a → ∃ u, H a = some u ∧ NoT u := by
  obtain ⟨fs, h1, h2, h3, -⟩ := h
  rintro a (rfl | rfl | hl)
  · exact ⟨_, h1, trivial⟩
  · exact ⟨_, h2, trivial⟩
  · clear h1 h2
    revert hl
    generalize y.ls = ls at h3
    generalize o.fs = ov at h3
    intro hl
    induction h3 with
    | nil => cases hl
    | dat _ _ ih => exact ih hl
    | lst e _ _ ih =>
      rcases List.mem_cons.mp hl with rfl | hl
      · exact ⟨_, e, trivial⟩
      · exact ih hl
theorem ArgsOk.no {vs : List V} {xs : List Val} : ∀ {vs : List V} {xs : List Val}, ArgsOk K A.no P H vs xs → ArgsOk K A P H vs xs
  | [], [], h => h
  | v :: vs, x :: xs, h => ⟨by
      have h1 := h.1
      cases x with
      | dat d => exact h1
      | deck => exact h1
      | obj o => obtain ⟨y, z, _⟩ := h1; cases z
      | lst _ => exact h1
      | dct _ _ => exact h1, ArgsOk.no (vs := vs) (xs := xs) h.2⟩
  | [], _ :: _, h => h
  | _ :: _, [], h => h
def noMutOV : OV → Bool
  | .dat d => noMut d
  | .lst ds => noMutA ds
def noMutOb (o : Ob) : Bool := o.fs.all fun p => noMutOV p.2
theorem FldsOk.tupsOnly {P' : Addr → Prop} {H' : Hp} (h : ∀ a xs, mask P H a = some (.tup xs) → mask P' H a = some (.tup xs)) {fs : List (Str × V)} {ov : List (Str × OV)} {ls : List Addr} (q : FldsOk K P H fs ov ls) (n : (ov.all fun p => noMutOV p.2) = true) : FldsOk K P' H fs ov ls := by
  induction q with
  | nil => exact .nil
  | dat r _ ih =>
    rw [List.all_cons, Bool.and_eq_true] at n
    exact .dat (r.tupsOnly h n.1) (ih n.2)
  | lst e r _ ih =>
    rw [List.all_cons, Bool.and_eq_true] at n
    exact .lst e (r.tupsOnly h n.1) (ih n.2)
end
/-! ### calls that hold the object of slot i -/
def eCallO (i : Nat) (B : List Nat) (sem : FSO) (ok : Ob → Bool) (fr : M (List AV)) : M D := fun s => match s.g[i]? with
  | some (some (.obj o0)) => if ok o0 = true then (bd fr fun avs => fun s1 => match s1.g[i]?, avs.mapM (res s1) with
    | some (some (.obj o)), some xs => if cellsB B s1 = true ∧ objFree (s1.g.set i none) = true then (match sem (.obj o :: xs) s1.k with
      | some (d, o', k') => if (B.isEmpty || (noMut d && noMutOb o')) = true then some (d, ⟨s1.g.set i (some (.obj o')), k'⟩) else none
      | none => none) else none
    | _, _ => none) s else none
  | _ => none
section
variable {K : PySem.W.Frag} {B : List Nat} {tr : TA} {fr : M (List AV)} {sem : FSO} {okf : Ob → Bool}
theorem ev_callO_end {i : Nat} {A : DA} {hid P P1 : Addr → Prop} {s1 s' : S} {σ : St} {H H1 : Hp} {y : OA} {vs : List V} {avs : List AV} {d : D} {Q : VK} (ok1 : SOk K A hid P1 s1 σ H1) (st1 : Stp hid P P1 H H1) (r1 : AVsOk K A P1 σ B H1 vs avs) (hy : A.x = some y)
    (e : (match s1.g[i]?, avs.mapM (res s1) with
    | some (some (.obj o)), some xs => if cellsB B s1 = true ∧ objFree (s1.g.set i none) = true then (match sem (.obj o :: xs) s1.k with
      | some (d, o', k') => if (B.isEmpty || (noMut d && noMutOb o')) = true then some (d, (⟨s1.g.set i (some (.obj o')), k'⟩ : S)) else none
      | none => none) else none
    | _, _ => none) = some (d, s'))
    (q : ∀ v P' H', SOk K A hid P' s' σ H' → Stp hid P P' H H' → Rp K (mask P' H') v d → Q v H') : spO K sem (.ref y.p :: vs) H1 Q E0 := by
  split at e
  · rename_i o xs hg hx
    split at e
    · rename_i hc
      obtain ⟨hc, hf⟩ := hc
      split at e
      · rename_i d' o' k' hs
        split at e
        · rename_i hm
          cases e
          obtain ⟨y1, hy1, hs1, ho1⟩ := ok1.slot i _ hg
          rw [hy] at hy1; cases hy1
          have ar := ArgsOk.no (vs := vs) (xs := xs) (avs_args ok1 r1 hx)
          have hB := cellsB_ok hc
          have nB0 : ∀ a, A.is a → Pb P1 σ B a := fun a z => ⟨ok1.deck.rs a z, fun j iB ei => by
            obtain ⟨v, hv, c⟩ := hB j iB
            have qq := ok1.slot j v hv
            cases v with
            | dat d => cases c
            | deck => cases c
            | obj o => cases c
            | lst ds => obtain ⟨b, us, e5, _, _, _, k4, _⟩ := qq; rw [ei] at e5; cases e5; exact k4 z
            | dct tt ds => obtain ⟨b, e5, _, _, k4, _⟩ := qq; rw [ei] at e5; cases e5; exact k4 z⟩
          have gB : Grw (mask P1 H1) (mask (Pb P1 σ B) H1) := mask_grw fun a u e c => ⟨fun z => c z.1, e⟩
          refine ⟨A, Pb P1 σ B, .obj o :: xs, s1.k, d, o', k', y, hy, fun a z => ok1.trk a z.1, ⟨ok1.deck.ho, ok1.deck.hg, ok1.deck.hc, nB0, ok1.deck.og, ok1.deck.oc, ok1.deck.gc⟩, ⟨⟨y, hy, rfl, ho1.move gB fun _ _ _ e => e⟩, ar⟩, hs, fun v H' hk dk ob r => ?_⟩
          obtain ⟨ok2, st2⟩ := sokO_after (ok1.drop (i := i)) hf ⟨y, hy, let ⟨fs, z, _⟩ := ho1; ⟨fs, z⟩⟩ hk (fun y2 z a hb => by rw [hy] at z; cases z; exact ob.there a hb) dk
          have hBi : ∀ j ∈ B, ∃ v, (s1.g.set i none)[j]? = some (some v) ∧ isCell v = true := fun j hj => by
            obtain ⟨v, hv, c⟩ := hB j hj
            refine ⟨v, ?_, c⟩
            rw [get_set, if_neg]
            · exact hv
            · rintro ⟨rfl, _⟩
              rw [hg] at hv; cases hv; cases c
          have fin : ObOk K y A P1 H' o' ∧ Rp K (mask P1 H') v d := by
            rw [Bool.or_eq_true] at hm
            rcases hm with hm | hm
            · have hB0 : B = [] := by simpa using hm
              subst hB0
              have g0 : Grw (mask (Pb P1 σ []) H') (mask P1 H') := mask_grw fun a o ha na => ⟨fun z => na ⟨z, fun i iB => by simp at iB⟩, ha⟩
              exact ⟨ob.move g0 fun _ _ _ e => e, r.mono g0⟩
            · rw [Bool.and_eq_true] at hm
              have sq : ∀ a xs, mask (Pb P1 σ B) H' a = some (.tup xs) → mask P1 H' a = some (.tup xs) := fun a xs hq => sq_cell ok2 hBi hq
              obtain ⟨fs, z1, z2, z3, z4, z5, z6, z7⟩ := ob
              exact ⟨⟨fs, z1, z2, z3.tupsOnly (H' := H') sq hm.2, z4, z5, z6, z7⟩, r.tupsOnly sq hm.1⟩
          have ok3 := ok2.putObj (i := i) hy hs1 fin.1
          have e3 : ((s1.g.set i none).set i (some (.obj o')) : List (Option Val)) = s1.g.set i (some (.obj o')) := by rw [List.set_set]
          have ok3 : SOk K A hid P1 ⟨(s1.g.set i none).set i (some (.obj o')), k'⟩ σ H' := ok3
          rw [e3] at ok3
          exact q v P1 H' ok3 (st1.trans st2) fin.2
        · cases e
      · cases e
    · cases e
  · cases e
theorem ev_callO {i : Nat} {t : TE} (h : EvV K B tr fr) (ht : ∀ (A : DA) (hid P : Addr → Prop) (s : S) (σ : St) (H : Hp) (Q : VK), SOk K A hid P s σ H → ∀ (y : OA) (o : Ob), A.x = some y → σ[i]? = some (some (.ref y.p)) → ObOk K y A P H o → okf o = true →
    (tr σ H fun vs H2 => spO K sem (.ref y.p :: vs) H2 Q E0) → t σ H Q) : EvE K t (eCallO i B sem okf fr) := by
  intro A hid P s σ H d s' ok e Q q
  unfold eCallO at e
  split at e
  · rename_i o0 hg0
    split at e
    · skip
      rename_i hk0
      obtain ⟨avs, s1, h1, e⟩ := bd_some e
      obtain ⟨y, hy, hs0, ho0⟩ := ok.slot i _ hg0
      refine ht A hid P s σ H Q ok y o0 hy hs0 ho0 hk0 ?_
      refine h A hid P s σ H avs s1 ok h1 _ fun vs P1 H1 ok1 st1 r1 => ?_
      exact ev_callO_end ok1 st1 r1 hy e q
    · cases e
  · cases e
end
/-- a def of the text whose first parameter is the object -/
structure FnB (P : Program) (w : World) (K : PySem.W.Frag) (mg : Str → Option Value) (base : Heap) (k : Nat) (x : Str) (ps : List Str) (sem : FSO) : Prop where
  ex : ∃ (f : Addr) (fd : FuncData), FnOk P w K mg base CX0 k f fd ps (spO K sem) ∧ mg x = some (.ref f) ∧ PySem.W.keepIn K (.ref f) = true ∧ Binds K fd ps []
/-- a method -/
structure MtB (P : Program) (w : World) (K : PySem.W.Frag) (mg : Str → Option Value) (base : Heap) (k : Nat) (c x : Str) (ps : List Str) (sem : FSO) : Prop where
  ex : ∃ (C f : Addr) (fd : FuncData), FnOk P w K mg base CX0 k f fd ps (spO K sem) ∧ PySem.W.nsIn K mainGlobals c = some (some (.ref C)) ∧ Cls K C ∧ Meth K C x f ∧ Binds K fd ps []
def okC (c m : Str) (o : Ob) : Bool := decide (o.cls = c) && (o.fs.lookup m).isNone
def okT (_ : Ob) : Bool := true
theorem FldsOk.lookNone {K : PySem.W.Frag} {P : Addr → Prop} {H : Hp} {fs : List (Str × V)} {ov : List (Str × OV)} {ls : List Addr} (h : FldsOk K P H fs ov ls) {m : Str} (e : ov.lookup m = none) : fs.lookup m = none := by
  induction h with
  | nil => rfl
  | dat _ _ ih =>
    rw [List.lookup_cons] at e ⊢
    split at e
    · cases e
    · exact ih e
  | lst _ _ _ ih =>
    rw [List.lookup_cons] at e ⊢
    split at e
    · cases e
    · exact ih e
theorem FldsOk.lookDat {K : PySem.W.Frag} {P : Addr → Prop} {H : Hp} {fs : List (Str × V)} {ov : List (Str × OV)} {ls : List Addr} (h : FldsOk K P H fs ov ls) {m : Str} {d : D} (e : ov.lookup m = some (.dat d)) : ∃ v, fs.lookup m = some v ∧ Rp K (mask P H) v d := by
  induction h with
  | nil => cases e
  | dat r _ ih =>
    rw [List.lookup_cons] at e ⊢
    split at e
    · cases e; exact ⟨_, rfl, r⟩
    · exact ih e
  | lst _ _ _ ih =>
    rw [List.lookup_cons] at e ⊢
    split at e
    · cases e
    · exact ih e
theorem FldsOk.lookLst {K : PySem.W.Frag} {P : Addr → Prop} {H : Hp} {fs : List (Str × V)} {ov : List (Str × OV)} {ls : List Addr} (h : FldsOk K P H fs ov ls) {m : Str} {ds : List D} (e : ov.lookup m = some (.lst ds)) : ∃ l vs, fs.lookup m = some (.ref l) ∧ l ∈ ls ∧ H l = some (.lst vs) ∧ RpA K (mask P H) vs ds := by
  induction h with
  | nil => cases e
  | dat r _ ih =>
    rw [List.lookup_cons] at e ⊢
    split at e
    · cases e
    · exact ih e
  | lst e2 r _ ih =>
    rw [List.lookup_cons] at e ⊢
    split at e
    · cases e; exact ⟨_, _, rfl, List.mem_cons_self .., e2, r⟩
    · obtain ⟨l, vs, h1, h2, h3⟩ := ih e
      exact ⟨l, vs, h1, List.mem_cons_of_mem _ h2, h3⟩
end DL


namespace DL
open PySem PySem.Spec PyProof.Rows L2
/-! DL33: calls with the object, its fields, its making. -/
section
variable {X : Cx} {B : List Nat} {x c m : Str} {p apos pos : Pos} {es : List Expr} {e : Expr} {te : TE} {fe : M D} {tr : TA} {fr : M (List AV)} {k : Nat} {ps : List Str} {sem : FSO}
/-- f(steps, ..) -/
theorem de_callO {K : PySem.W.Frag} (i : Nat) {y : Str} {py : Pos} (F : FnB X.prog X.w X.K X.mg X.base k x ps sem) (hr : Room k X.A) (hg : Gl X x) (ha : DV X es B tr fr) (hK : X.K = K := by rfl) (hN : X.N[i]? = some y := by rfl) (hv : Vis X.env.scope y := by first | exact Or.inl rfl | exact Or.inr (Or.inl rfl) | exact Or.inr (Or.inr rfl))
    (hd : (y == ("__debug__" : Str)) = false := by decide) (hcd : (y == ("__classdict__" : Str)) = false := by decide) (hdb : (x == ("__debug__" : Str)) = false := by decide)
    (he : starEach (.Name y py :: es) X.env = (false, eval (.Name y py) X.env) :: starEach es X.env := by rfl) (hpl : (backTo pos (starEach es X.env)).any (·.1) = false := by rfl) :
    DE X (.Call (.Name x p) (.Name y py :: es) [] pos) (tCall (spO K sem) [] E0 (tCons (tVar i) tr)) (eCallO i B sem okT fr) := by
  subst hK
  obtain ⟨f, fd, F1, hm, hk, hb⟩ := F.ex
  refine ⟨pe_call F1 hr hg hm hk hb .nil pass0 (pa_cons (pe_var hN hv hd hcd) ha.p he) hdb he hpl, ev_callO ha.v fun A hid P s σ H Q ok y o hy hs ho _ h => ⟨_, hs, ?_⟩⟩
  show tr σ H fun vs H2 => spO X.K sem ((V.ref _ :: vs) ++ []) H2 Q E0
  simpa only [List.append_nil] using h
/-- steps.m(..) -/
theorem de_methO {K : PySem.W.Frag} (i : Nat) {y : Str} {py : Pos} (F : MtB X.prog X.w X.K X.mg X.base k c m ps sem) (hr : Room k X.A) (ha : DV X (e :: es) B tr fr) (hK : X.K = K := by rfl) (hN : X.N[i]? = some y := by rfl) (hv : Vis X.env.scope y := by first | exact Or.inl rfl | exact Or.inr (Or.inl rfl) | exact Or.inr (Or.inr rfl))
    (hd : (y == ("__debug__" : Str)) = false := by decide) (hcd : (y == ("__classdict__" : Str)) = false := by decide)
    (he : starEach (e :: es) X.env = (false, eval e X.env) :: starEach es X.env := by rfl) (hpl : (backTo pos (starEach es X.env)).any (·.1) = false := by rfl) {pl : Sem Bool}
    (ht : eval (.Call (.Attribute (.Name y py) m apos) (e :: es) [] pos) X.env = (do
      let ov ← eval (.Name y py) X.env
      standAt apos.atName
      let (f, first) ← holding [ov] (getMethod ov m pl)
      callWith pos f first (backTo pos (starEach (e :: es) X.env)) (backToKw pos (keywordEach [] X.env))) := by rfl) :
    DE X (.Call (.Attribute (.Name y py) m apos) (e :: es) [] pos) (tMeth F.ex.choose m (spO K sem) [] E0 (tVar i) tr) (eCallO i B sem (okC c m) fr) := by
  subst hK
  obtain ⟨f, fd, F1, hn, hc, hm, hb⟩ := F.ex.choose_spec
  revert F1 hn hc hm hb
  generalize F.ex.choose = C
  intro F1 hn hc hm hb
  refine ⟨pe_meth (pe_var hN hv hd hcd) hc hm F1 hr hb .nil pass0 ha.p he hpl ht, ev_callO ha.v fun A hid P s σ H Q ok y o hy hs ho hok h => ⟨_, hs, ?_⟩⟩
  obtain ⟨fs, z1, z2, z3, z4, z5, z6, z7⟩ := ho
  unfold okC at hok
  rw [Bool.and_eq_true, decide_eq_true_eq] at hok
  rw [hok.1, hn] at z7
  have ec : C = y.C := by injection z7 with z7; injection z7 with z7; injection z7
  refine ⟨y.p, y.q, fs, rfl, by rw [ec]; exact z1, z3.lookNone (Option.isNone_iff_eq_none.mp hok.2), ?_⟩
  show tr σ H fun vs H2 => spO X.K sem (V.ref _ :: (vs ++ [])) H2 Q E0
  simpa only [List.append_nil] using h
/-! ### fields -/
/-- facts of a class -/
structure ClsF (K : PySem.W.Frag) (c f : Str) : Prop where
  ex : ∃ C, PySem.W.nsIn K mainGlobals c = some (some (.ref C)) ∧ Cls K C ∧ NoAttr K C f
def eFldD (c : Str) (i : Nat) (f : Str) : M D := fun s => match s.g[i]? with
  | some (some (.obj o)) => if o.cls = c then (match o.fs.lookup f with
    | some (.dat d) => some (d, s)
    | _ => none) else none
  | _ => none
theorem fld_at {K : PySem.W.Frag} {A : DA} {P : Addr → Prop} {H : Hp} {y : OA} {o : Ob} {c f : Str} (T : ClsF K c f) (ho : ObOk K y A P H o) (hc : o.cls = c) {Q : VK} {v : V} (fs : List (Str × V)) (h1 : H y.p = some (.ins y.C y.q fs)) (hv : fs.lookup f = some v) (q : Q v H) :
    ∃ a C dx fs v, V.ref y.p = .ref a ∧ H a = some (.ins C dx fs) ∧ Cls K C ∧ NoAttr K C f ∧ fs.lookup f = some v ∧ Q v H := by
  obtain ⟨C, n1, n2, n3⟩ := T.ex
  obtain ⟨fs', z1, z2, z3, z4, z5, z6, z7⟩ := ho
  rw [hc, n1] at z7
  have ec : C = y.C := by injection z7 with z7; injection z7 with z7; injection z7
  subst ec
  exact ⟨y.p, y.C, y.q, fs, v, rfl, h1, n2, n3, hv, q⟩
theorem ev_fldD {K : PySem.W.Frag} {i : Nat} {f : Str} (T : ClsF K c f) : EvE K (tFld K (tVar i) f) (eFldD c i f) := by
  intro A hid P s σ H d s' ok e Q q
  unfold eFldD at e
  split at e
  · rename_i o hg
    split at e
    · rename_i hc
      split at e
      · rename_i d0 hl
        cases e
        obtain ⟨y, hy, hs, ho⟩ := ok.slot i _ hg
        have ho' := ho
        obtain ⟨fs, z1, z2, z3, _⟩ := ho'
        obtain ⟨v, hv, rv⟩ := z3.lookDat hl
        exact ⟨_, hs, fld_at T ho hc fs z1 hv (q v P H ok Stp.refl rv)⟩
      · cases e
    · cases e
  · cases e
theorem k_fldD {K : PySem.W.Frag} (i : Nat) {y f : Str} {py : Pos} (T : ClsF K c f) (hK : X.K = K := by rfl) (hN : X.N[i]? = some y := by rfl) (hv : Vis X.env.scope y := by first | exact Or.inl rfl | exact Or.inr (Or.inl rfl) | exact Or.inr (Or.inr rfl))
    (hd : (y == ("__debug__" : Str)) = false := by decide) (hcd : (y == ("__classdict__" : Str)) = false := by decide) (hb : attributeBase (.Name y py) f X.env (eval (.Name y py) X.env) = eval (.Name y py) X.env := by rfl) :
    DE X (.Attribute (.Name y py) f pos) (tFld K (tVar i) f) (eFldD c i f) := hK ▸ ⟨pe_fld (pe_var hN hv hd hcd) hb, ev_fldD (hK ▸ T)⟩
/-- len(steps.rows), tuple(steps.rows) -/
def eFldL (c : Str) (i : Nat) (f : Str) (op : List D → Option D) : M D := fun s => match s.g[i]? with
  | some (some (.obj o)) => if o.cls = c then (match o.fs.lookup f with
    | some (.lst ds) => (op ds).map fun d => (d, s)
    | _ => none) else none
  | _ => none
def opLen (ds : List D) : Option D := some (.int ds.length)
def opTup (ds : List D) : Option D := some (.tuple ds)
theorem ev_fldL {K : PySem.W.Frag} {i : Nat} {f : Str} {op : List D → Option D} {r : List V → Hp → VK → Prop} (T : ClsF K c f)
    (hr : ∀ (P : Addr → Prop) (H : Hp) (l : Addr) (vs : List V) (ds : List D) (d : D), Trk P H → H l = some (.lst vs) → RpA K (mask P H) vs ds → op ds = some d → ∀ Q : VK, (∀ z H', Grw H H' → Rp K (mask P H') z d → Q z H') → r [.ref l] H Q) : EvE K (tCB r (tCons (tFld K (tVar i) f) tNil)) (eFldL c i f op) := by
  intro A hid P s σ H d s' ok e Q q
  unfold eFldL at e
  split at e
  · rename_i o hg
    split at e
    · rename_i hc
      split at e
      · rename_i ds hl
        cases ho2 : op ds with
        | none => rw [ho2] at e; cases e
        | some d0 =>
          rw [ho2] at e; cases e
          obtain ⟨y, hy, hs, ho⟩ := ok.slot i _ hg
          have ho' := ho
          obtain ⟨fs, z1, z2, z3, _⟩ := ho'
          obtain ⟨l, vs, hv, _, hH, rr⟩ := z3.lookLst hl
          refine ⟨_, hs, fld_at T ho hc fs z1 hv ?_⟩
          exact hr P H l vs ds d ok.trk hH rr ho2 Q fun z H' g rz => q z P H' (ok.grw g) (Stp.grw g) rz
      · cases e
    · cases e
  · cases e
theorem fl_len {K : PySem.W.Frag} (P : Addr → Prop) (H : Hp) (l : Addr) (vs : List V) (ds : List D) (d : D) (t : Trk P H) (h : H l = some (.lst vs)) (r : RpA K (mask P H) vs ds) (e : opLen ds = some d) (Q : VK) (q : ∀ z H', Grw H H' → Rp K (mask P H') z d → Q z H') : (rOrC (rLenQ K) rLenZ) [.ref l] H Q := by
  cases e
  refine .inl ⟨l, vs, rfl, .inl (SqL.of h), ?_⟩
  rw [r.length]
  exact q _ H (Grw.refl H) (.int _)
theorem fl_tup {K : PySem.W.Frag} (P : Addr → Prop) (H : Hp) (l : Addr) (vs : List V) (ds : List D) (d : D) (t : Trk P H) (h : H l = some (.lst vs)) (r : RpA K (mask P H) vs ds) (e : opTup ds = some d) (Q : VK) (q : ∀ z H', Grw H H' → Rp K (mask P H') z d → Q z H') : rTupleOf K [.ref l] H Q := by
  cases e
  exact ⟨l, vs, rfl, .inl ⟨SqL.of h, fun p hp => q _ _ (Grw.new hp) (rp_newT t hp r)⟩⟩
theorem k_fldLen {K : PySem.W.Frag} (i : Nat) {y f : Str} {py p2 : Pos} (T : ClsF K c f) (hm : X.mg "len" = none) (hK : X.K = K := by rfl) (hg : Gl X "len" := by rfl) (hN : X.N[i]? = some y := by rfl) (hv : Vis X.env.scope y := by first | exact Or.inl rfl | exact Or.inr (Or.inl rfl) | exact Or.inr (Or.inr rfl))
    (hd : (y == ("__debug__" : Str)) = false := by decide) (hcd : (y == ("__classdict__" : Str)) = false := by decide) (hb : attributeBase (.Name y py) f X.env (eval (.Name y py) X.env) = eval (.Name y py) X.env := by rfl)
    (he : starEach [.Attribute (.Name y py) f apos] X.env = (false, eval (.Attribute (.Name y py) f apos) X.env) :: starEach [] X.env := by rfl) (hpl : (backTo pos (starEach [] X.env)).any (·.1) = false := by rfl) :
    DE X (.Call (.Name "len" p2) [.Attribute (.Name y py) f apos] [] pos) (tCB (rOrC (rLenQ K) rLenZ) (tCons (tFld K (tVar i) f) tNil)) (eFldL c i f opLen) := hK ▸
  ⟨pe_callB call_lenD hg hm PySem.boot_len (pa_cons (pe_fld (pe_var hN hv hd hcd) hb) pa_nil he) (by decide) (by decide) he hpl, ev_fldL (hK ▸ T) fl_len⟩
theorem k_fldTup {K : PySem.W.Frag} (i : Nat) {y f : Str} {py p2 : Pos} (T : ClsF K c f) (hm : X.mg "tuple" = none) (hK : X.K = K := by rfl) (hg : Gl X "tuple" := by rfl) (hN : X.N[i]? = some y := by rfl) (hv : Vis X.env.scope y := by first | exact Or.inl rfl | exact Or.inr (Or.inl rfl) | exact Or.inr (Or.inr rfl))
    (hd : (y == ("__debug__" : Str)) = false := by decide) (hcd : (y == ("__classdict__" : Str)) = false := by decide) (hb : attributeBase (.Name y py) f X.env (eval (.Name y py) X.env) = eval (.Name y py) X.env := by rfl)
    (he : starEach [.Attribute (.Name y py) f apos] X.env = (false, eval (.Attribute (.Name y py) f apos) X.env) :: starEach [] X.env := by rfl) (hpl : (backTo pos (starEach [] X.env)).any (·.1) = false := by rfl) :
    DE X (.Call (.Name "tuple" p2) [.Attribute (.Name y py) f apos] [] pos) (tCB (rTupleOf K) (tCons (tFld K (tVar i) f) tNil)) (eFldL c i f opTup) := by
  subst hK
  exact ⟨pe_callTy (k_tupleOf (K := X.K)) hg hm (by decide +kernel) (pa_cons (pe_fld (pe_var hN hv hd hcd) hb) pa_nil he) (by decide) (by decide) he hpl, ev_fldL T fl_tup⟩
/-! self.rows.append(x), x a name -/
def setL : List (Str × OV) → Str → List D → List (Str × OV)
  | [], _, _ => []
  | (g, x) :: r, f, ds => if (f == g) = true then (g, .lst ds) :: r else (g, x) :: setL r f ds
theorem FldsOk.putL {K : PySem.W.Frag} {P : Addr → Prop} {H : Hp} {l : Addr} {f : Str} {vs' : List V} {ds0 ds' : List D} {fs : List (Str × V)} {ov : List (Str × OV)} {ls : List Addr} (h : FldsOk K P H fs ov ls) (nd : ls.Nodup) (g : Grw (mask P H) (mask P (upd H l (.lst vs')))) (e : ov.lookup f = some (.lst ds0)) (e2 : fs.lookup f = some (.ref l)) (r : RpA K (mask P (upd H l (.lst vs'))) vs' ds') : FldsOk K P (upd H l (.lst vs')) fs (setL ov f ds') ls := by
  induction h with
  | nil => cases e
  | @dat g0 v d fs o ls rv hr ih =>
    unfold setL
    rw [List.lookup_cons] at e e2
    split at e
    · cases e
    · rename_i hne
      rw [hne] at e2
      rw [if_neg (by rw [hne]; decide)]
      exact .dat (rv.mono g) (ih nd e e2)
  | @lst g0 l0 vs ds fs o ls hl rv hr ih =>
    have nd := List.nodup_cons.mp nd
    unfold setL
    rw [List.lookup_cons] at e e2
    split at e
    · rename_i hq
      rw [hq] at e2
      cases e2
      rw [if_pos hq]
      exact .lst upd_same r (hr.move g fun b hb u eb => by rw [upd_ne (show b ≠ l from fun z => nd.1 (z ▸ hb))]; exact eb)
    · rename_i hne
      rw [hne] at e2
      rw [if_neg (by rw [hne]; decide)]
      obtain ⟨l2, _, q1, q2, _⟩ := hr.lookLst e
      have e2' : fs.lookup f = some (.ref l) := e2
      rw [e2'] at q1; cases q1
      exact .lst (by rw [upd_ne (show l0 ≠ l from fun z => nd.1 (z ▸ q2))]; exact hl) (rv.mono g) (ih nd.2 e e2)
def sFldApp (c : Str) (i : Nat) (f : Str) (j : Nat) : M Fl := fun s => match s.g[i]?, s.g[j]? with
  | some (some (.obj o)), some (some (.dat d)) => if o.cls = c ∧ objFree (s.g.set i none) = true then (match o.fs.lookup f with
    | some (.lst ds) => if ds.length ≤ lim then some (.nx, ⟨s.g.set i (some (.obj ⟨o.cls, setL o.fs f (ds ++ [d])⟩)), s.k⟩) else none
    | _ => none) else none
  | _, _ => none
theorem es_fldApp {K : PySem.W.Frag} {i j : Nat} {f : Str} (T : ClsF K c f) : EvS K (tDrop (tBM K "list" rAppend (tFld K (tVar i) f) (tCons (tVar j) tNil))) (sFldApp c i f j) := by
  intro A hid P s σ H fl s' ok e D q
  unfold sFldApp at e
  split at e
  · rename_i o d hg hj
    split at e
    · rename_i hc
      split at e
      · rename_i ds hl
        split at e
        · rename_i hlen
          cases e
          obtain ⟨y, hy, hs, ho⟩ := ok.slot i _ hg
          obtain ⟨v, hv, rv⟩ := ok.slot j _ hj
          have ho' := ho
          obtain ⟨fs, z1, z2, z3, z4, z5, z6, z7⟩ := ho'
          obtain ⟨l, vs, hlv, hll, hH, rr⟩ := z3.lookLst hl
          have Al : A.is l := .inr (.inr (.inr ⟨y, hy, .inr (.inr hll)⟩))
          have Pl : P l := ok.deck.rs l Al
          have g : Grw (mask P H) (mask P (upd H l (.lst (vs ++ [v])))) := mask_grw fun b u e c => ⟨c, by rw [upd_ne (show b ≠ l from fun z => c (z ▸ Pl))]; exact e⟩
          refine ⟨_, hs, fld_at T ho hc.1 (Q := fun x H1 => tyV K "list" x H1 ∧ tCons (tVar j) tNil σ H1 fun xs H2 => rAppend x xs H2 fun _ H1 => D.nx σ H1) fs z1 hlv ?_⟩
          refine ⟨.inl ⟨rfl, vs, SqL.of hH⟩, v, hv, l, vs, v, rfl, rfl, hH, by rw [rr.length]; exact lim_lt hlen, ?_⟩
          have ok0 := ok.drop (i := i)
          have ok1 : SOk K A hid P ⟨s.g.set i none, s.k⟩ σ (upd H l (.lst (vs ++ [v]))) := by
            have ne1 : ∀ b, ¬ A.is b → b ≠ l := fun b n z => n (z ▸ Al)
            refine ⟨fun b z => ?_, ok0.hp, ok0.hd, ok0.len, fun k w e => ?_, ok0.apart, ?_⟩
            · by_cases hb : b = l
              · subst hb; exact ⟨_, upd_same, trivial⟩
              · obtain ⟨u, e, n⟩ := ok0.trk b z
                exact ⟨u, by rw [upd_ne hb]; exact e, n⟩
            · have qq := ok0.slot k w e
              cases w with
              | dat d => obtain ⟨u, e5, r⟩ := qq; exact ⟨u, e5, r.mono g⟩
              | deck => exact qq
              | obj o => exact (objFree_get hc.2 e).elim
              | lst es => obtain ⟨b, us, e5, k1, k2, k3, k4, r⟩ := qq; exact ⟨b, us, e5, by rw [upd_ne (ne1 b k4)]; exact k1, k2, k3, k4, r.mono g⟩
              | dct tt es =>
                obtain ⟨b, e5, k2, k3, k4, r⟩ := qq
                refine ⟨b, e5, k2, k3, k4, ?_⟩
                rcases r with ⟨ht, ks, k1, r⟩ | ⟨ht, ks, k1, r⟩
                · exact .inl ⟨ht, ks, by rw [upd_ne (ne1 b k4)]; exact k1, r.mono g⟩
                · exact .inr ⟨ht, ks, by rw [upd_ne (ne1 b k4)]; exact k1, r.mono g⟩
            · have dk := ok0.deck
              have n := z6 l hll
              exact ⟨by rw [upd_ne n.1.symm]; exact dk.ho, by rw [upd_ne n.2.1.symm]; exact dk.hg, by rw [upd_ne n.2.2.symm]; exact dk.hc, dk.rs, dk.og, dk.oc, dk.gc⟩
          have np : y.p ≠ l := ne_of z1 hH (fun z => nomatch z)
          have nq : y.q ≠ l := ne_of z2 hH (fun z => nomatch z)
          have ho2 : ObOk K y A P (upd H l (.lst (vs ++ [v]))) ⟨o.cls, setL o.fs f (ds ++ [d])⟩ :=
            ⟨fs, by rw [upd_ne np]; exact z1, by rw [upd_ne nq]; exact z2, z3.putL z5 g hl hlv ((rr.mono g).append (.cons (rv.mono g) .nil)), z4, z5, z6, z7⟩
          have ok2 := ok1.putObj (i := i) hy hs ho2
          have e3 : ((s.g.set i none).set i (some (.obj ⟨o.cls, setL o.fs f (ds ++ [d])⟩)) : List (Option Val)) = s.g.set i (some (.obj ⟨o.cls, setL o.fs f (ds ++ [d])⟩)) := by rw [List.set_set]
          have ok2 : SOk K A hid P ⟨(s.g.set i none).set i (some (.obj ⟨o.cls, setL o.fs f (ds ++ [d])⟩)), s.k⟩ σ (upd H l (.lst (vs ++ [v]))) := ok2
          rw [e3] at ok2
          refine q σ P _ ok2 ⟨fun b u e c => ?_, fun _ _ _ c => c⟩
          rw [upd_ne]
          · exact e
          · intro z
            subst z
            rcases c with c | c
            · exact ok.hd _ c Al
            · exact c Pl
        · cases e
      · cases e
    · cases e
  · cases e
theorem ds_fldApp {K : PySem.W.Frag} (i j : Nat) {y f z : Str} {py pz pe : Pos} (T : ClsF K c f) (hK : X.K = K := by rfl) (hN : X.N[i]? = some y := by rfl) (hv : Vis X.env.scope y := by first | exact Or.inl rfl | exact Or.inr (Or.inl rfl) | exact Or.inr (Or.inr rfl))
    (hd : (y == ("__debug__" : Str)) = false := by decide) (hcd : (y == ("__classdict__" : Str)) = false := by decide) (hN2 : X.N[j]? = some z := by rfl) (hv2 : Vis X.env.scope z := by first | exact Or.inl rfl | exact Or.inr (Or.inl rfl) | exact Or.inr (Or.inr rfl))
    (hd2 : (z == ("__debug__" : Str)) = false := by decide) (hcd2 : (z == ("__classdict__" : Str)) = false := by decide) (hb : attributeBase (.Name y py) f X.env (eval (.Name y py) X.env) = eval (.Name y py) X.env := by rfl)
    (hst : starEach [.Name z pz] X.env = (false, eval (.Name z pz) X.env) :: starEach [] X.env := by rfl) {pa2 : Pos}
    (hbase : attributeBase (.Attribute (.Name y py) f apos) "append" X.env (eval (.Attribute (.Name y py) f apos) X.env) = eval (.Attribute (.Name y py) f apos) X.env := by rfl)
    (hfew : ((backTo pe (starEach [.Name z pz] X.env)).all (fun x => !x.1) && (backToKw pe (keywordEach [] X.env)).all (fun x => x.1.isSome) && decide ([(.Name z pz : Expr)].length + ([] : List Keyword).length + (if ([] : List Keyword).isEmpty then 0 else 1) < 30)) = true := by rfl)
    (hline : (pa2.endLine == pe.line) = true := by rfl) (hplain : (backTo pe (starEach [] X.env)).any (·.1) = false := by rfl)
    (hs : swapsWith (.Call (.Attribute (.Attribute (.Name y py) f apos) "append" pa2) [.Name z pz] [] pe) none pos.line X.env = pure false := by rfl) :
    DS X (.Expr (.Call (.Attribute (.Attribute (.Name y py) f apos) "append" pa2) [.Name z pz] [] pe) pos) (tDrop (tBM K "list" rAppend (tFld K (tVar i) f) (tCons (tVar j) tNil))) (sFldApp c i f j) := by
  subst hK
  exact ⟨ps_expr (pe_bm PySem.F.plainAttrs_list PySem.F.slot_list_append PySem.F.type_list_append mt_append (pe_fld (pe_var hN hv hd hcd) hb) (pa_cons (pe_var hN2 hv2 hd2 hcd2) pa_nil hst) hbase hfew hline hst hplain) hs, es_fldApp T⟩
/-! ### the making of an object with one list -/
def spInit1 (C : Addr) (f : Str) : Sp := fun vs H Q _ => ∃ p dx, vs = [.ref p] ∧ H p = some (.ins C dx []) ∧ ∀ l, H l = none → Q .non (upd (upd H l (.lst [])) p (.ins C dx [(f, .ref l)]))
structure MkB (P : Program) (w : World) (K : PySem.W.Frag) (mg : Str → Option Value) (base : Heap) (k : Nat) (c f : Str) : Prop where
  ex : ∃ (C fi : Addr) (fd : FuncData), FnOk P w K mg base CX0 k fi fd ["self"] (spInit1 C f) ∧ mg c = some (.ref C) ∧ PySem.W.nsIn K mainGlobals c = some (some (.ref C)) ∧ Mk K C fi ∧ Binds K fd ["self"] []
def dropO : Option Val → Option Val
  | some (.obj _) => none
  | x => x
def dropS (s : S) : S := ⟨s.g.map dropO, s.k⟩
def withX (A : DA) (y : OA) : DA := ⟨A.o, A.g, A.c, some y⟩
def oldX (A : DA) (a : Addr) : Prop := A.is a ∧ ¬ A.no.is a
section
variable {K : PySem.W.Frag} {A : DA} {hid P : Addr → Prop} {s : S} {σ : St} {H H2 : Hp} {y : OA}
theorem withX_is {a : Addr} : (withX A y).is a ↔ A.no.is a ∨ y.is a := by
  constructor
  · rintro (h | h | h | ⟨z, h, hz⟩)
    · exact .inl (.inl h)
    · exact .inl (.inr (.inl h))
    · exact .inl (.inr (.inr (.inl h)))
    · cases h; exact .inr hz
  · rintro ((h | h | h | ⟨z, h, hz⟩) | h)
    · exact .inl h
    · exact .inr (.inl h)
    · exact .inr (.inr (.inl h))
    · cases h
    · exact .inr (.inr (.inr ⟨y, rfl, h⟩))
theorem mk_start (ok : SOk K A hid P s σ H) (hf : objFree s.g = true) (new : ∀ a, y.is a → H a = none) (g : Grw H H2) (th : ∀ a, y.is a → ∃ o, H2 a = some o ∧ NoT o) :
    SOk K (withX A y) (fun a => hid a ∨ oldX A a) (fun a => P a ∨ y.is a) s σ H2 ∧ Stp hid P (fun a => P a ∨ y.is a) H H2 := by
  have notY : ∀ a o, H a = some o → ¬ y.is a := fun a o e z => by rw [new a z] at e; cases e
  have gm : Grw (mask P H) (mask (fun a => P a ∨ y.is a) H2) := mask_grw fun a u e c => ⟨fun z => z.elim c (notY a u e), g _ _ e⟩
  have isA : ∀ a o, H a = some o → (withX A y).is a → A.no.is a := fun a o e z => (withX_is.mp z).elim (fun z => z) fun z => (notY a o e z).elim
  refine ⟨⟨fun a z => ?_, fun a z => .inl (z.elim (ok.hp a) fun z => ok.deck.rs a z.1), fun a z w => ?_, ok.len, fun i v e => ?_, ok.apart, ?_⟩, ⟨fun a o e _ => g _ _ e, fun a o e c z => z.elim c (notY a o e)⟩⟩
  · rcases z with z | z
    · obtain ⟨o, e, n⟩ := ok.trk a z; exact ⟨o, g _ _ e, n⟩
    · exact th a z
  · have hP : P a := z.elim (ok.hp a) fun z => ok.deck.rs a z.1
    obtain ⟨o, e, _⟩ := ok.trk a hP
    have w := isA a o e w
    rcases z with z | z
    · exact ok.hd a z (DA.no_is w)
    · exact z.2 w
  · have q := ok.slot i v e
    cases v with
    | dat d => obtain ⟨u, e5, r⟩ := q; exact ⟨u, e5, r.mono gm⟩
    | deck => exact q
    | obj o => exact (objFree_get hf e).elim
    | lst ds =>
      obtain ⟨a, vs, e5, h1, h2, h3, h4, rr⟩ := q
      exact ⟨a, vs, e5, g _ _ h1, .inl h2, fun z => z.elim h3 fun z => h4 z.1, fun z => h4 (DA.no_is (isA a _ h1 z)), rr.mono gm⟩
    | dct tt ds =>
      obtain ⟨a, e5, h2, h3, h4, rr⟩ := q
      obtain ⟨o, eo, _⟩ := ok.trk a h2
      refine ⟨a, e5, .inl h2, fun z => z.elim h3 fun z => h4 z.1, fun z => h4 (DA.no_is (isA a _ eo z)), ?_⟩
      rcases rr with ⟨ht, ks, h1, rr⟩ | ⟨ht, ks, h1, rr⟩
      · exact .inl ⟨ht, ks, g _ _ h1, rr.mono gm⟩
      · exact .inr ⟨ht, ks, g _ _ h1, rr.mono gm⟩
  · have d := ok.deck
    exact ⟨g _ _ d.ho, g _ _ d.hg, g _ _ d.hc, fun a z => (withX_is.mp z).imp (fun z => d.rs a (DA.no_is z)) fun z => z, d.og, d.oc, d.gc⟩
theorem mk_end {P' : Addr → Prop} {s' : S} {σ' : St} {H' : Hp} (ok : SOk K A hid P s σ H) (ok' : SOk K (withX A y) (fun a => hid a ∨ oldX A a) P' s' σ' H') : SOk K A hid P' (dropS s') σ' H' := by
  have back : ∀ (i : Nat) (v : Val), (s'.g.map dropO)[i]? = some (some v) → s'.g[i]? = some (some v) ∧ isObj (some v) = false := fun i v e => by
    rw [List.getElem?_map] at e
    cases q : s'.g[i]? with
    | none => rw [q] at e; cases e
    | some u =>
      rw [q] at e
      have e : dropO u = some v := by simpa using e
      cases u with
      | none => cases e
      | some u => cases u <;> first | cases e; exact ⟨rfl, rfl⟩ | cases e
  have isO : ∀ a, A.is a → (withX A y).is a ∨ (hid a ∨ oldX A a) := fun a z => by
    by_cases h : A.no.is a
    · exact .inl (withX_is.mpr (.inl h))
    · exact .inr (.inr ⟨z, h⟩)
  refine ⟨ok'.trk, fun a z => ok'.hp a (.inl z), ok.hd, by simpa [dropS] using ok'.len, fun i v e => ?_, fun i j v u a e1 e2 => ok'.apart i j v u a (back i v e1).1 (back j u e2).1, ?_⟩
  · obtain ⟨e1, e2⟩ := back i v e
    have q := ok'.slot i v e1
    cases v with
    | dat d => exact q
    | deck => exact q
    | obj o => cases e2
    | lst ds =>
      obtain ⟨a, vs, e5, h1, h2, h3, h4, rr⟩ := q
      exact ⟨a, vs, e5, h1, h2, fun z => h3 (.inl z), fun z => (isO a z).elim h4 h3, rr⟩
    | dct tt ds =>
      obtain ⟨a, e5, h2, h3, h4, rr⟩ := q
      exact ⟨a, e5, h2, fun z => h3 (.inl z), fun z => (isO a z).elim h4 h3, rr⟩
  · have d := ok'.deck
    exact ⟨d.ho, d.hg, d.hc, fun a z => (isO a z).elim (d.rs a) (ok'.hp a), d.og, d.oc, d.gc⟩
theorem SOk.set_obj {i : Nat} {o : Ob} (ok : SOk K A hid P s σ H) (hy : A.x = some y) (ho : ObOk K y A P H o) : SOk K A hid P ⟨s.g.set i (some (.obj o)), s.k⟩ (σ.set i (some (.ref y.p))) H := by
  have hl := ok.len
  refine ⟨ok.trk, ok.hp, ok.hd, by simpa using ok.len, fun j w e => ?_, fun j l w u a e1 e2 c1 c2 e3 e4 => ?_, ok.deck⟩
  · show SlotOk K A hid P H (σ.set i (some (.ref y.p)))[j]? w
    have e : (s.g.set i (some (.obj o)))[j]? = some (some w) := e
    rw [get_set] at e ⊢
    rw [← hl]
    split at e
    · cases e
      rw [if_pos (by assumption)]
      exact ⟨y, hy, rfl, ho⟩
    · rw [if_neg (by assumption)]
      exact ok.slot j w e
  · have e1 : (s.g.set i (some (.obj o)))[j]? = some (some w) := e1
    have e2 : (s.g.set i (some (.obj o)))[l]? = some (some u) := e2
    rw [get_set] at e1 e2 e3 e4
    rw [← hl] at e3 e4
    split at e1
    · cases e1; cases c1
    · split at e2
      · cases e2; cases c2
      · rw [if_neg (by assumption)] at e3
        rw [if_neg (by assumption)] at e4
        exact ok.apart j l w u a e1 e2 c1 c2 e3 e4
end
def mk1 (c f : Str) : Ob := ⟨c, [(f, .lst [])]⟩
def sMk (i : Nat) (o : Ob) (m : M Fl) : M Fl := fun s => if objFree s.g = true then (match m ⟨s.g.set i (some (.obj o)), s.k⟩ with
  | some (.rt d, s') => some (.rt d, dropS s')
  | _ => none) else none
def sMk3 (i j l : Nat) (o : Ob) (m : M Fl) : M Fl := fun s => if objFree s.g = true then (match m ⟨((s.g.set i (some (.obj o))).set j (some (.lst []))).set l (some (.lst [])), s.k⟩ with
  | some (.rt d, s') => some (.rt d, dropS s')
  | _ => none) else none
/-- the new object's addresses -/
theorem made_at {K : PySem.W.Frag} {A : DA} {hid P : Addr → Prop} {s : S} {σ : St} {H : Hp} {C x dx l : Addr} {c f : Str} (ok : SOk K A hid P s σ H) (hf : objFree s.g = true) (nx : H x = none) (ndx : H dx = none) (ne : dx ≠ x) (nl : upd (upd H dx (.own x)) x (.ins C dx []) l = none) (hc : PySem.W.nsIn K mainGlobals c = some (some (.ref C))) :
    ∃ y : OA, y.p = x ∧ SOk K (withX A y) (fun a => hid a ∨ oldX A a) (fun a => P a ∨ y.is a) s σ (upd (upd (upd (upd H dx (.own x)) x (.ins C dx [])) l (.lst [])) x (.ins C dx [(f, .ref l)])) ∧
      Stp hid P (fun a => P a ∨ y.is a) H (upd (upd (upd (upd H dx (.own x)) x (.ins C dx [])) l (.lst [])) x (.ins C dx [(f, .ref l)])) ∧ ObOk K y (withX A y) (fun a => P a ∨ y.is a) (upd (upd (upd (upd H dx (.own x)) x (.ins C dx [])) l (.lst [])) x (.ins C dx [(f, .ref l)])) (mk1 c f) := by
  have lx : l ≠ x := fun z => by subst z; rw [upd_same] at nl; cases nl
  have ld : l ≠ dx := fun z => by subst z; rw [upd_ne lx, upd_same] at nl; cases nl
  have nl0 : H l = none := by rw [upd_ne lx, upd_ne ld] at nl; exact nl
  have ex : (upd (upd (upd (upd H dx (.own x)) x (.ins C dx [])) l (.lst [])) x (.ins C dx [(f, .ref l)])) x = some (.ins C dx [(f, .ref l)]) := upd_same
  have ed : (upd (upd (upd (upd H dx (.own x)) x (.ins C dx [])) l (.lst [])) x (.ins C dx [(f, .ref l)])) dx = some (.own x) := by rw [upd_ne ne, upd_ne ld.symm, upd_ne ne, upd_same]
  have el : (upd (upd (upd (upd H dx (.own x)) x (.ins C dx [])) l (.lst [])) x (.ins C dx [(f, .ref l)])) l = some (.lst []) := by rw [upd_ne lx, upd_same]
  have new : ∀ a, (⟨x, dx, C, [l]⟩ : OA).is a → H a = none := by
    rintro a (rfl | rfl | h)
    · exact nx
    · exact ndx
    · rw [List.mem_singleton.mp h]; exact nl0
  have g : Grw H (upd (upd (upd (upd H dx (.own x)) x (.ins C dx [])) l (.lst [])) x (.ins C dx [(f, .ref l)])) := fun a o e => by
    rw [upd_ne (ne_of_none e nx), upd_ne (ne_of_none e nl0), upd_ne (ne_of_none e nx), upd_ne (ne_of_none e ndx)]; exact e
  obtain ⟨h1, h2⟩ := mk_start (y := ⟨x, dx, C, [l]⟩) ok hf new g (by
    rintro a (rfl | rfl | h)
    · exact ⟨_, ex, trivial⟩
    · exact ⟨_, ed, trivial⟩
    · rw [List.mem_singleton.mp h]; exact ⟨_, el, trivial⟩)
  refine ⟨⟨x, dx, C, [l]⟩, rfl, h1, h2, [(f, .ref l)], ex, ed, .lst el .nil .nil, by simp, by simp, fun a ha => ?_, hc⟩
  rw [List.mem_singleton.mp ha]
  have d := ok.deck
  show l ≠ A.o ∧ l ≠ A.g ∧ l ≠ A.c
  exact ⟨fun z => by { have := d.ho; rw [← z, nl0] at this; cases this }, fun z => by { have := d.hg; rw [← z, nl0] at this; cases this }, fun z => by { have := d.hc; rw [← z, nl0] at this; cases this }⟩
theorem es_mk {K : PySem.W.Frag} {i : Nat} {C : Addr} {f : Str} {u : TS} {m : M Fl} (hc : PySem.W.nsIn K mainGlobals c = some (some (.ref C))) (hm : EvS K u m) : EvS K (tSeq (tAsg (tMake C (spInit1 C f) [] E0 tNil) (gName i)) u) (sMk i (mk1 c f) m) := by
  intro A hid P s σ H fl s' ok e D q
  unfold sMk at e
  split at e
  · rename_i hf
    split at e
    · rename_i d s1 he
      cases e
      intro x dx nx ndx ne
      refine ⟨x, dx, rfl, upd_same, fun l hl => ⟨rfl, ?_⟩⟩
      obtain ⟨y, rfl, ok1, st1, ho⟩ := made_at (f := f) ok hf nx ndx ne hl hc
      have ok2 := ok1.set_obj (i := i) rfl ho
      refine hm _ _ _ _ _ _ _ _ ok2 he D ?_
      intro v σ' P' H' ok' st' r
      exact q v σ' P' H' (mk_end ok ok') (st1.trans ⟨fun a o e c => st'.keep a o e (c.imp .inl fun z => z), st'.vis⟩) r
    · cases e
  · cases e
theorem es_mk3 {K : PySem.W.Frag} {i j k : Nat} {C : Addr} {f : Str} {u : TS} {m : M Fl} (hc : PySem.W.nsIn K mainGlobals c = some (some (.ref C))) (hm : EvS K u m) : EvS K (tSeq (tPar3 i j k (tCons (tMake C (spInit1 C f) [] E0 tNil) (tCons (tLst tNil) (tCons (tLst tNil) tNil)))) u) (sMk3 i j k (mk1 c f) m) := by
  intro A hid P s σ H fl s' ok e D q
  unfold sMk3 at e
  split at e
  · rename_i hf
    split at e
    · rename_i d s1 he
      cases e
      intro x dx nx ndx ne
      refine ⟨x, dx, rfl, upd_same, fun l hl => ⟨rfl, ?_⟩⟩
      obtain ⟨y, rfl, ok1, st1, ho⟩ := made_at (f := f) ok hf nx ndx ne hl hc
      have ok2 := ok1.set_obj (i := i) rfl ho
      refine ⟨Nat.zero_le _, fun p1 hp1 => ⟨Nat.zero_le _, fun p2 hp2 => ⟨_, _, _, rfl, ?_⟩⟩⟩
      have ok3 := ok2.set_cell (i := j) hp1 .nil
      have ok4 := ok3.set_cell (i := k) hp2 .nil
      refine hm _ _ _ _ _ _ _ _ ok4 he D ?_
      intro v σ' P' H' ok' st' r
      refine q v σ' P' H' (mk_end ok ok') ?_ r
      have s2 := st1.trans (Stp.reserve (o := .lst []) hp1)
      have s3 := s2.trans (Stp.reserve (o := .lst []) hp2)
      exact s3.trans ⟨fun a o e c => st'.keep a o e (c.imp .inl fun z => z), st'.vis⟩
    · cases e
  · cases e
theorem xs_mk (i : Nat) {y f : Str} {py p2 pos2 : Pos} {rest : List Stmt} {mr : M Fl} (M : MkB X.prog X.w X.K X.mg X.base k c f) (hr : Room (k + 1) X.A) (hN0 : X.N.Nodup) (h : XS X rest mr) (hg : Gl X c := by rfl) (hN : X.N[i]? = some y := by rfl) (hx : Loc X.env.scope y := by first | exact Or.inl rfl | exact Or.inr rfl) (hf : X.fn y = true ∨ X.env.scope.names.lookup y = some .local := by first | exact .inl rfl | exact .inr rfl)
    (hdb : (c == ("__debug__" : Str)) = false := by decide) (hs : swapsWithSole [.Name y py] (.Call (.Name c p2) [] [] pos2) pos.line X.env = pure false := by rfl) (hw : swappedStores [.Name y py] (.Call (.Name c p2) [] [] pos2) X.env = pure none := by rfl)
    (h1 : (assignEach [.Name y py] X.env).map (·.2) = [assign (.Name y py) X.env] := by rfl) : XS X (.Assign [.Name y py] (.Call (.Name c p2) [] [] pos2) pos :: rest) (sMk i (mk1 c f) mr) := by
  obtain ⟨t, ht⟩ := h
  obtain ⟨C, fi, fd, F, hm, hc, mk, hb⟩ := M.ex
  exact ⟨_, pss_cons (ps_asg (pe_make0 mk F hr hg hm hb .nil pass0 hdb) (pg_name hN0 hN hx hf) hs hw h1) ht.p, es_mk hc ht.v⟩
theorem xs_mk3 (i j l : Nat) {y f z u : Str} {py pz pu p2 pos2 p3 p4 pt : Pos} {kt k2 pt2} {rest : List Stmt} {mr : M Fl} (M : MkB X.prog X.w X.K X.mg X.base k c f) (hr : Room (k + 1) X.A) (hN0 : X.N.Nodup) (h : XS X rest mr) (hcm : X.calm = true := by rfl) (hg : Gl X c := by rfl) (hi : X.N[i]? = some y := by rfl) (hj : X.N[j]? = some z := by rfl) (hl : X.N[l]? = some u := by rfl) (hij : i ≠ j := by decide) (hil : i ≠ l := by decide) (hjl : j ≠ l := by decide)
    (hx : X.env.scope.names.lookup y = some .local := by rfl) (hy : X.env.scope.names.lookup z = some .local := by rfl) (hz : X.env.scope.names.lookup u = some .local := by rfl) (hdb : (c == ("__debug__" : Str)) = false := by decide)
    (hst : starEach [.Call (.Name c p2) [] [] pos2, .List [] p3, .List [] p4] X.env = (false, eval (.Call (.Name c p2) [] [] pos2) X.env) :: starEach [.List [] p3, .List [] p4] X.env := by rfl) (hst2 : starEach [.List [] p3, .List [] p4] X.env = (false, eval (.List [] p3) X.env) :: starEach [.List [] p4] X.env := by rfl) (hst3 : starEach [.List [] p4] X.env = (false, eval (.List [] p4) X.env) :: starEach [] X.env := by rfl)
    (hw : swappedStores [.Tuple [.Name y py, .Name z pz, .Name u pu] kt pt] (.Tuple [.Call (.Name c p2) [] [] pos2, .List [] p3, .List [] p4] k2 pt2) X.env = pure (some [y, z, u]) := by rfl)
    (hs : swapsWithSole [.Tuple [.Name y py, .Name z pz, .Name u pu] kt pt] (.Tuple [.Call (.Name c p2) [] [] pos2, .List [] p3, .List [] p4] k2 pt2) pos.line X.env = pure false := by rfl) :
    XS X (.Assign [.Tuple [.Name y py, .Name z pz, .Name u pu] kt pt] (.Tuple [.Call (.Name c p2) [] [] pos2, .List [] p3, .List [] p4] k2 pt2) pos :: rest) (sMk3 i j l (mk1 c f) mr) := by
  obtain ⟨t, ht⟩ := h
  obtain ⟨C, fi, fd, F, hm, hc, mk, hb⟩ := M.ex
  exact ⟨_, pss_cons (ps_par3 hcm hN0 hi hj hl hij hil hjl hx hy hz (pa_cons (pe_make0 mk F hr hg hm hb .nil pass0 hdb) (pa_cons (pe_lst pa_nil) (pa_cons (pe_lst pa_nil) pa_nil hst3) hst2) hst) hw hs) ht.p, es_mk3 hc ht.v⟩
end
end DL


namespace DL
open PySem PySem.Spec PyProof.Rows L2
/-! DL34: x in a tuple of the module; a method's reading named; the wp of objects. -/
section
variable {X : Cx} {x c m : Str} {p apos pos : Pos} {es : List Expr} {e : Expr} {te : TE} {fe : M D} {K : PySem.W.Frag} {a : Addr} {u : Value} {vs : List V} {ds : List D}
structure CstT (K : PySem.W.Frag) (mg : Str → Option Value) (x : Str) (ds : List D) : Prop where
  ex : ∃ (a : Addr) (u : Value) (vs : List V), mg x = some u ∧ RelV (.ref a) u ∧ (∀ H, SqT K H a vs) ∧ ∀ H, RpA K H vs ds
theorem ev_inK {neg : Bool} (hS : ∀ H, SqT K H a vs) (hR : ∀ H, RpA K H vs ds) (ha : EvE K te fe) : EvE K (tOp (rIn K neg) te (tC (.ref a))) (eOp2 (if neg then dNotIn else dIn) fe (eC (.tuple ds))) := by
  intro A hid P s σ H d s' ok h Q q
  obtain ⟨x, s1, h1, h⟩ := bd_some h
  obtain ⟨y, s2, h2, h⟩ := bd_some h
  obtain ⟨h3, rfl⟩ := lf_some h
  obtain ⟨rfl, rfl⟩ := rtn_some h2
  refine ha A hid P s σ H x s' ok h1 _ fun v P1 H1 ok1 st1 r1 => ?_
  have key : ∀ b, dInB x (.tuple ds) = some b → flatV v = true ∧ vs.all flatV = true ∧ inV v vs = b := fun b e => by
    unfold dInB at e
    simp only at e
    split at e
    · rename_i h; cases e
      rw [Bool.and_eq_true] at h
      exact ⟨by rw [r1.flat]; exact h.1, by rw [(hR (mask P1 H1)).flat]; exact h.2, (hR (mask P1 H1)).inF r1 h.1 h.2⟩
    · cases e
  cases neg with
  | true =>
    rw [if_pos rfl] at h3
    unfold dNotIn at h3
    cases hb : dInB x (.tuple ds) with
    | none => rw [hb] at h3; cases h3
    | some b =>
      rw [hb] at h3; cases h3
      obtain ⟨k1, k2, k3⟩ := key b hb
      refine ⟨a, vs, rfl, .inr (hS _), k1, k2, ?_⟩
      rw [k3]
      exact q _ P1 H1 ok1 st1 (.bl _)
  | false =>
    rw [if_neg (by decide)] at h3
    unfold dIn at h3
    cases hb : dInB x (.tuple ds) with
    | none => rw [hb] at h3; cases h3
    | some b =>
      rw [hb] at h3; cases h3
      obtain ⟨k1, k2, k3⟩ := key b hb
      refine ⟨a, vs, rfl, .inr (hS _), k1, k2, ?_⟩
      rw [k3]
      exact q _ P1 H1 ok1 st1 (.bl _)
theorem de_inK (hm : X.mg x = some u) (r : RelV (.ref a) u) (hS : ∀ H, SqT K H a vs) (hR : ∀ H, RpA K H vs ds) (ha : DE X e te fe) (hK : X.K = K := by rfl) (hg : Gl X x := by rfl) (hd : (x == ("__debug__" : Str)) = false := by decide) (hb : behindInMarks .In (.Name x p) = false := by rfl) :
    DE X (.Compare e [.In] [.Name x p] pos) (tOp (rIn K false) te (tC (.ref a))) (eOp2 dIn fe (eC (.tuple ds))) := hK ▸
  ⟨pe_cmpR op_in_seq ha.p (pe_glob hg hm r hd) hb, ev_inK (neg := false) (hK ▸ hS) (hK ▸ hR) ha.v⟩
theorem de_notInK (hm : X.mg x = some u) (r : RelV (.ref a) u) (hS : ∀ H, SqT K H a vs) (hR : ∀ H, RpA K H vs ds) (ha : DE X e te fe) (hK : X.K = K := by rfl) (hg : Gl X x := by rfl) (hd : (x == ("__debug__" : Str)) = false := by decide) (hb : behindInMarks .NotIn (.Name x p) = false := by rfl) :
    DE X (.Compare e [.NotIn] [.Name x p] pos) (tOp (rIn K true) te (tC (.ref a))) (eOp2 dNotIn fe (eC (.tuple ds))) := hK ▸
  ⟨pe_cmpR op_notIn_seq ha.p (pe_glob hg hm r hd) hb, ev_inK (neg := true) (hK ▸ hS) (hK ▸ hR) ha.v⟩
theorem dt_inK (hm : X.mg x = some u) (r : RelV (.ref a) u) (hS : ∀ H, SqT K H a vs) (hR : ∀ H, RpA K H vs ds) (ha : DE X e te fe) (hK : X.K = K := by rfl) (hg : Gl X x := by rfl) (hd : (x == ("__debug__" : Str)) = false := by decide) (hb : behindInMarks .In (.Name x p) = false := by rfl) :
    DT X (.Compare e [.In] [.Name x p] pos) (tTest (tOp (rIn K false) te (tC (.ref a)))) (tV (eOp2 dIn fe (eC (.tuple ds)))) := hK ▸
  ⟨pt_cmpR op_in_seq ha.p (pe_glob hg hm r hd) hb, ev_tT (ev_inK (neg := false) (hK ▸ hS) (hK ▸ hR) ha.v)⟩
theorem dt_notInK (hm : X.mg x = some u) (r : RelV (.ref a) u) (hS : ∀ H, SqT K H a vs) (hR : ∀ H, RpA K H vs ds) (ha : DE X e te fe) (hK : X.K = K := by rfl) (hg : Gl X x := by rfl) (hd : (x == ("__debug__" : Str)) = false := by decide) (hb : behindInMarks .NotIn (.Name x p) = false := by rfl) :
    DT X (.Compare e [.NotIn] [.Name x p] pos) (tTest (tOp (rIn K true) te (tC (.ref a)))) (tV (eOp2 dNotIn fe (eC (.tuple ds)))) := hK ▸
  ⟨pt_cmpR op_notIn_seq ha.p (pe_glob hg hm r hd) hb, ev_tT (ev_inK (neg := true) (hK ▸ hS) (hK ▸ hR) ha.v)⟩
end
/-! ### wp -/
def fo (sem : FSO) (xs : List Val) (k : Dk) (Q : D → Ob → Dk → Prop) : Prop := ∃ d o' k', sem xs k = some (d, o', k') ∧ Q d o' k'
theorem fo_eq {sem : FSO} {xs : List Val} {k k' : Dk} {d : D} {o' : Ob} (h : sem xs k = some (d, o', k')) {Q : D → Ob → Dk → Prop} : fo sem xs k Q ↔ Q d o' k' := by
  unfold fo
  rw [h]
  constructor
  · rintro ⟨a, b, c, e, q⟩; cases e; exact q
  · exact fun q => ⟨_, _, _, rfl, q⟩
theorem eq_fo {sem : FSO} {xs : List Val} {k k' : Dk} {d : D} {o' : Ob} (h : fo sem xs k fun a b c => a = d ∧ b = o' ∧ c = k') : sem xs k = some (d, o', k') := by
  obtain ⟨_, _, _, e, rfl, rfl, rfl⟩ := h
  exact e
theorem fo_of {np n : Nat} {m : M Fl} {xs : List Val} {k : Dk} {Q : D → Ob → Dk → Prop} (hl : xs.length = np) (h : wp m ⟨xs.map some ++ List.replicate (n - xs.length) none, k⟩ fun fl s' => match fl with
    | .rt d => ∃ o, ob0 s' = some o ∧ Q d o s'.k
    | .nx => ∃ o, ob0 s' = some o ∧ Q .none o s'.k
    | _ => False) : fo (semOO np n m) xs k Q := by
  obtain ⟨fl, s', e, q⟩ := h
  unfold fo semOO
  rw [if_pos hl, e]
  cases fl with
  | rt d => obtain ⟨o, h, q⟩ := q; exact ⟨d, o, s'.k, by simp only [h, Option.map_some], q⟩
  | nx => obtain ⟨o, h, q⟩ := q; exact ⟨.none, o, s'.k, by simp only [h, Option.map_some], q⟩
  | bk => exact q.elim
  | ct => exact q.elim
section
variable {s : S} {Q : D → S → Prop} {Z : Fl → S → Prop}
@[simp ↓] theorem wp_callO {i : Nat} {B : List Nat} {sem : FSO} {okf : Ob → Bool} {fr : M (List AV)} : wp (eCallO i B sem okf fr) s Q ↔ ∃ o0, s.g[i]? = some (some (.obj o0)) ∧ okf o0 = true ∧ wp fr s fun avs s1 => ∃ o xs, s1.g[i]? = some (some (.obj o)) ∧ avs.mapM (res s1) = some xs ∧ cellsB B s1 = true ∧ objFree (s1.g.set i none) = true ∧
    fo sem (.obj o :: xs) s1.k fun d o' k' => (B.isEmpty || (noMut d && noMutOb o')) = true ∧ Q d ⟨s1.g.set i (some (.obj o')), k'⟩ := by
  constructor
  · rintro ⟨d, s', e, q⟩
    unfold eCallO at e
    split at e
    · rename_i o0 hg
      split at e
      · rename_i hk
        obtain ⟨avs, s1, h1, e⟩ := bd_some e
        refine ⟨o0, hg, hk, avs, s1, h1, ?_⟩
        split at e
        · rename_i o xs hg1 hx
          split at e
          · rename_i hc
            split at e
            · rename_i d' o' k' hs
              split at e
              · rename_i hm
                cases e
                exact ⟨o, xs, hg1, hx, hc.1, hc.2, _, _, _, hs, hm, q⟩
              · cases e
            · cases e
          · cases e
        · cases e
      · cases e
    · cases e
  · rintro ⟨o0, hg, hk, avs, s1, h1, o, xs, hg1, hx, hc1, hc2, d, o', k', hs, hm, q⟩
    refine ⟨d, _, ?_, q⟩
    unfold eCallO
    rw [hg]
    simp only [if_pos hk]
    unfold bd
    rw [h1]
    simp only [hg1, hx, hs, if_pos hm, if_pos (And.intro hc1 hc2)]
@[simp ↓] theorem wp_fldL {i : Nat} {c f : Str} {op : List D → Option D} : wp (eFldL c i f op) s Q ↔ ∃ o, s.g[i]? = some (some (.obj o)) ∧ o.cls = c ∧ ∃ ds, o.fs.lookup f = some (.lst ds) ∧ ∃ d, op ds = some d ∧ Q d s := by
  constructor
  · rintro ⟨d, s', e, q⟩
    unfold eFldL at e
    split at e
    · rename_i o hg
      split at e
      · rename_i hc
        split at e
        · rename_i ds hl
          cases ho : op ds with
          | none => rw [ho] at e; cases e
          | some d' => rw [ho] at e; cases e; exact ⟨o, hg, hc, ds, hl, d, ho, q⟩
        · cases e
      · cases e
    · cases e
  · rintro ⟨o, hg, hc, ds, hl, d, ho, q⟩
    refine ⟨d, s, ?_, q⟩
    unfold eFldL
    rw [hg]
    simp only [if_pos hc, hl, ho, Option.map_some]
@[simp ↓] theorem wp_fldD {i : Nat} {c f : Str} : wp (eFldD c i f) s Q ↔ ∃ o, s.g[i]? = some (some (.obj o)) ∧ o.cls = c ∧ ∃ d, o.fs.lookup f = some (.dat d) ∧ Q d s := by
  constructor
  · rintro ⟨d, s', e, q⟩
    unfold eFldD at e
    split at e
    · rename_i o hg
      split at e
      · rename_i hc
        split at e
        · rename_i d' hl
          cases e; exact ⟨o, hg, hc, _, hl, q⟩
        · cases e
      · cases e
    · cases e
  · rintro ⟨o, hg, hc, d, hl, q⟩
    refine ⟨d, s, ?_, q⟩
    unfold eFldD
    rw [hg]
    simp only [if_pos hc, hl]
@[simp ↓] theorem wp_fldApp {i j : Nat} {c f : Str} : wp (sFldApp c i f j) s Z ↔ ∃ o, s.g[i]? = some (some (.obj o)) ∧ ∃ d, s.g[j]? = some (some (.dat d)) ∧ o.cls = c ∧ objFree (s.g.set i none) = true ∧ ∃ ds, o.fs.lookup f = some (.lst ds) ∧ ds.length ≤ lim ∧ Z .nx ⟨s.g.set i (some (.obj ⟨o.cls, setL o.fs f (ds ++ [d])⟩)), s.k⟩ := by
  constructor
  · rintro ⟨fl, s', e, q⟩
    unfold sFldApp at e
    split at e
    · rename_i o d hg hj
      split at e
      · rename_i hc
        split at e
        · rename_i ds hl
          split at e
          · rename_i hlen
            cases e; exact ⟨o, hg, d, hj, hc.1, hc.2, ds, hl, hlen, q⟩
          · cases e
        · cases e
      · cases e
    · cases e
  · rintro ⟨o, hg, d, hj, hc, hf, ds, hl, hlen, q⟩
    refine ⟨_, _, ?_, q⟩
    unfold sFldApp
    rw [hg, hj]
    simp only [if_pos (And.intro hc hf), hl, if_pos hlen]
theorem wp_mk {i : Nat} {o : Ob} {m : M Fl} (hf : objFree s.g = true) (h : wp m ⟨s.g.set i (some (.obj o)), s.k⟩ fun fl s' => ∃ d, fl = .rt d ∧ Z (.rt d) (dropS s')) : wp (sMk i o m) s Z := by
  obtain ⟨fl, s', e, d, rfl, q⟩ := h
  refine ⟨_, _, ?_, q⟩
  unfold sMk
  rw [if_pos hf, e]
theorem wp_mk3 {i j l : Nat} {o : Ob} {m : M Fl} (hf : objFree s.g = true) (h : wp m ⟨((s.g.set i (some (.obj o))).set j (some (.lst []))).set l (some (.lst [])), s.k⟩ fun fl s' => ∃ d, fl = .rt d ∧ Z (.rt d) (dropS s')) : wp (sMk3 i j l o m) s Z := by
  obtain ⟨fl, s', e, d, rfl, q⟩ := h
  refine ⟨_, _, ?_, q⟩
  unfold sMk3
  rw [if_pos hf, e]
@[simp] theorem dropS_k : (dropS s).k = s.k := rfl
end
/-! an object of one list -/
def mkL (c f : Str) (ds : List D) : Ob := ⟨c, [(f, .lst ds)]⟩
theorem mk1_L {c f : Str} : mk1 c f = mkL c f [] := rfl
section
variable {c f g : Str} {ds es : List D}
@[simp] theorem mkL_cls : (mkL c f ds).cls = c := rfl
@[simp] theorem mkL_look : (mkL c f ds).fs.lookup f = some (.lst ds) := by
  show List.lookup f [(f, OV.lst ds)] = _
  rw [List.lookup_cons, beq_self_eq_true]
theorem mkL_none (h : (g == f) = false) : (mkL c f ds).fs.lookup g = none := by
  show List.lookup g [(f, OV.lst ds)] = _
  rw [List.lookup_cons, h]; rfl
@[simp] theorem mkL_set : (⟨(mkL c f ds).cls, setL (mkL c f ds).fs f es⟩ : Ob) = mkL c f es := by
  unfold mkL setL
  rw [if_pos (beq_self_eq_true f)]
@[simp] theorem mkL_set' : (⟨c, setL (mkL c f ds).fs f es⟩ : Ob) = mkL c f es := mkL_set
theorem okC_mkL (h : (g == f) = false) : okC c g (mkL c f ds) = true := by
  unfold okC
  rw [mkL_none h]
  simp
@[simp] theorem noMutOb_mkL : noMutOb (mkL c f ds) = noMutA ds := by
  unfold noMutOb mkL
  rw [List.all_cons, List.all_nil, Bool.and_true]; rfl
end
end DL


namespace DL
open PySem PySem.Spec PyProof.Rows L2
/-! DL35: x, y, z = C(), [], [] where a name is read in a comprehension. -/
section
variable {X : Cx} {c m : Str} {pos : Pos} {k : Nat}
theorem es_mk3T {K : PySem.W.Frag} {i j k : Nat} {C : Addr} {f : Str} {u : TS} {m : M Fl} (hc : PySem.W.nsIn K mainGlobals c = some (some (.ref C))) (hm : EvS K u m) : EvS K (tSeq (tAsg (tTup (tCons (tMake C (spInit1 C f) [] E0 tNil) (tCons (tLst tNil) (tCons (tLst tNil) tNil)))) (gTup K 3 (gCons (gName i) (gCons (gName j) (gCons (gName k) gNil))))) u) (sMk3 i j k (mk1 c f) m) := by
  intro A hid P s σ H fl s' ok e D q
  unfold sMk3 at e
  split at e
  · rename_i hf
    split at e
    · rename_i d s1 he
      cases e
      intro x dx nx ndx ne
      refine ⟨x, dx, rfl, upd_same, fun l hl => ⟨rfl, ?_⟩⟩
      obtain ⟨y, rfl, ok1, st1, ho⟩ := made_at (f := f) ok hf nx ndx ne hl hc
      have ok2 := ok1.set_obj (i := i) rfl ho
      refine ⟨Nat.zero_le _, fun p1 hp1 => ⟨Nat.zero_le _, fun p2 hp2 => ?_⟩⟩
      refine ⟨by show 3 ≤ sizeLine; decide, fun p hp => ?_⟩
      refine ⟨p, _, rfl, .inl (.inl upd_same), rfl, _, _, rfl, _, _, rfl, _, _, rfl, rfl, ?_⟩
      have ok3 := ok2.set_cell (i := j) hp1 .nil
      have ok4 := ok3.set_cell (i := k) hp2 .nil
      have gp := Grw.new (o := HO.tup [V.ref y.p, V.ref p1, V.ref p2]) hp
      have ok5 := ok4.grw gp
      refine hm _ _ _ _ _ _ _ _ ok5 he D ?_
      intro v σ' P' H' ok' st' r
      refine q v σ' P' H' (mk_end ok ok') ?_ r
      have s2 := st1.trans (Stp.reserve (o := .lst []) hp1)
      have s3 := s2.trans (Stp.reserve (o := .lst []) hp2)
      have s4 := s3.trans (Stp.grw gp)
      exact s4.trans ⟨fun a o e c => st'.keep a o e (c.imp .inl fun z => z), st'.vis⟩
    · cases e
  · cases e
theorem xs_mk3T (i j l : Nat) {y f z u : Str} {py pz pu p2 pos2 p3 p4 pt : Pos} {kt k2 pt2} {rest : List Stmt} {mr : M Fl} (M : MkB X.prog X.w X.K X.mg X.base k c f) (hr : Room (k + 1) X.A) (hN0 : X.N.Nodup) (h : XS X rest mr) (hcm : X.calm = true := by rfl) (hg : Gl X c := by rfl) (hi : X.N[i]? = some y := by rfl) (hj : X.N[j]? = some z := by rfl) (hl : X.N[l]? = some u := by rfl)
    (hx : Loc X.env.scope y := by first | exact Or.inl rfl | exact Or.inr rfl) (hy : Loc X.env.scope z := by first | exact Or.inl rfl | exact Or.inr rfl) (hz : Loc X.env.scope u := by first | exact Or.inl rfl | exact Or.inr rfl)
    (hf1 : X.fn y = true ∨ X.env.scope.names.lookup y = some .local := by first | exact .inl rfl | exact .inr rfl | assumption) (hf2 : X.fn z = true ∨ X.env.scope.names.lookup z = some .local := by first | exact .inl rfl | exact .inr rfl | assumption) (hf3 : X.fn u = true ∨ X.env.scope.names.lookup u = some .local := by first | exact .inl rfl | exact .inr rfl | assumption)
    (hdb : (c == ("__debug__" : Str)) = false := by decide)
    (hst : starEach [.Call (.Name c p2) [] [] pos2, .List [] p3, .List [] p4] X.env = (false, eval (.Call (.Name c p2) [] [] pos2) X.env) :: starEach [.List [] p3, .List [] p4] X.env := by rfl) (hst2 : starEach [.List [] p3, .List [] p4] X.env = (false, eval (.List [] p3) X.env) :: starEach [.List [] p4] X.env := by rfl) (hst3 : starEach [.List [] p4] X.env = (false, eval (.List [] p4) X.env) :: starEach [] X.env := by rfl)
    (hs : swapsWithSole [.Tuple [.Name y py, .Name z pz, .Name u pu] kt pt] (.Tuple [.Call (.Name c p2) [] [] pos2, .List [] p3, .List [] p4] k2 pt2) pos.line X.env = pure false := by rfl) (hw : swappedStores [.Tuple [.Name y py, .Name z pz, .Name u pu] kt pt] (.Tuple [.Call (.Name c p2) [] [] pos2, .List [] p3, .List [] p4] k2 pt2) X.env = pure none := by rfl)
    (h1 : (assignEach [.Tuple [.Name y py, .Name z pz, .Name u pu] kt pt] X.env).map (·.2) = [assign (.Tuple [.Name y py, .Name z pz, .Name u pu] kt pt) X.env] := by rfl)
    (q1 : (assignEach [.Name y py, .Name z pz, .Name u pu] X.env).map (·.2) = assign (.Name y py) X.env :: (assignEach [.Name z pz, .Name u pu] X.env).map (·.2) := by rfl) (q2 : (assignEach [.Name z pz, .Name u pu] X.env).map (·.2) = assign (.Name z pz) X.env :: (assignEach [.Name u pu] X.env).map (·.2) := by rfl) (q3 : (assignEach [.Name u pu] X.env).map (·.2) = assign (.Name u pu) X.env :: (assignEach [] X.env).map (·.2) := by rfl)
    (hn : (assignEach [.Name y py, .Name z pz, .Name u pu] X.env).length = 3 := by rfl) (hfi : (assignEach [.Name y py, .Name z pz, .Name u pu] X.env).findIdx? (·.1) = none := by rfl) :
    XS X (.Assign [.Tuple [.Name y py, .Name z pz, .Name u pu] kt pt] (.Tuple [.Call (.Name c p2) [] [] pos2, .List [] p3, .List [] p4] k2 pt2) pos :: rest) (sMk3 i j l (mk1 c f) mr) := by
  obtain ⟨t, ht⟩ := h
  obtain ⟨C, fi, fd, F, hm, hc, mk, hb⟩ := M.ex
  exact ⟨_, pss_cons (ps_asg (pe_tup (pa_cons (pe_make0 mk F hr hg hm hb .nil pass0 hdb) (pa_cons (pe_lst pa_nil) (pa_cons (pe_lst pa_nil) pa_nil hst3) hst2) hst)) (pg_tup hcm (pgs_cons (pg_name hN0 hi hx hf1) (pgs_cons (pg_name hN0 hj hy hf2) (pgs_cons (pg_name hN0 hl hz hf3) pgs_nil q3) q2) q1) hn hfi) hs hw h1) ht.p, es_mk3T hc ht.v⟩
end
end DL


namespace DL
open PySem PySem.Spec PyProof.Rows L2
/-! DL36: for simp: objFree, is None. -/
@[simp] theorem objFree_nil : objFree [] = true := rfl
@[simp] theorem objFree_cons {x : Option Val} {r : List (Option Val)} : objFree (x :: r) = (!DL.isObj x && objFree r) := rfl
@[simp] theorem isObj_none : DL.isObj none = false := rfl
@[simp] theorem isObj_dat {d : D} : DL.isObj (some (.dat d)) = false := rfl
@[simp] theorem isObj_lst {d : List D} : DL.isObj (some (.lst d)) = false := rfl
@[simp] theorem isObj_dct {t : Bool} {d : List (D × D)} : DL.isObj (some (.dct t d)) = false := rfl
@[simp] theorem isObj_deck : DL.isObj (some .deck) = false := rfl
@[simp] theorem ob0_obj {o : Ob} {r : List (Option Val)} {k : Dk} : ob0 ⟨some (.obj o) :: r, k⟩ = some o := rfl
@[simp] theorem dIs_nn : dIs .none .none = some (.bool true) := rfl
@[simp] theorem dIs_in {i : Int} : dIs (.int i) .none = some (.bool false) := rfl
@[simp] theorem opLen_eq {l : List D} : opLen l = some (.int l.length) := rfl
@[simp] theorem opTup_eq {l : List D} : opTup l = some (.tuple l) := rfl
@[simp] theorem setL_mkL {c f : Str} {ds es : List D} : setL (mkL c f ds).fs f es = (mkL c f es).fs := by
  unfold mkL setL
  rw [if_pos (beq_self_eq_true f)]
@[simp] theorem mkL_eta {c f : Str} {es : List D} : (⟨c, (mkL c f es).fs⟩ : Ob) = mkL c f es := rfl
end DL


namespace DL
open PySem PySem.Spec PyProof.Rows L2
/-! DL37: exceptions of own classes without fields: raise C(), a def that may raise, try. -/
def isCls (K : PySem.W.Frag) (c : Str) (cls : Value) : Prop := ∃ C, cls = .ref C ∧ PySem.W.nsIn K mainGlobals c = some (some (.ref C))
inductive RX (α : Type) where
  | ok (a : α)
  | xc (c : Str)
abbrev MX (α : Type) := S → Option (RX α × S)
def XcOk (K : PySem.W.Frag) (A : DA) (hid P : Addr → Prop) (H : Hp) (s' : S) (c : Str) (W : WX) : Prop := ∀ cls σ' P' H', isCls K c cls → SOk K A hid P' s' σ' H' → Stp hid P P' H H' → W cls none σ' H'
def ROk (K : PySem.W.Frag) (A : DA) (hid P : Addr → Prop) (H : Hp) (s' : S) (D : Ends) (W : WX) : RX Fl → Prop
  | .ok fl => FlOk K A hid P H s' D fl
  | .xc c => XcOk K A hid P H s' c W
theorem ROk.back {K : PySem.W.Frag} {A : DA} {hid P P1 : Addr → Prop} {H H1 : Hp} {s' : S} {D : Ends} {W : WX} {r : RX Fl} (h : ROk K A hid P H s' D W r) (z : Stp hid P P1 H H1) : ROk K A hid P1 H1 s' D W r := by
  cases r with
  | ok fl => exact FlOk.back h z
  | xc c => exact fun cls σ2 P2 H2 i o st => h cls σ2 P2 H2 i o (z.trans st)
def EvSX (K : PySem.W.Frag) (W : WX) (t : TS) (m : MX Fl) : Prop := ∀ (A : DA) (hid P : Addr → Prop) (s : S) (σ : St) (H : Hp) (r : RX Fl) (s' : S), SOk K A hid P s σ H → m s = some (r, s') →
  ∀ D : Ends, ROk K A hid P H s' D W r → t D σ H
def EvEX (K : PySem.W.Frag) (W : WX) (te : TE) (f : MX D) : Prop := ∀ (A : DA) (hid P : Addr → Prop) (s : S) (σ : St) (H : Hp) (r : RX D) (s' : S), SOk K A hid P s σ H → f s = some (r, s') →
  ∀ Q : VK, (match r with
    | .ok d => ∀ v P' H', SOk K A hid P' s' σ H' → Stp hid P P' H H' → Rp K (mask P' H') v d → Q v H'
    | .xc c => ∀ cls P' H', isCls K c cls → SOk K A hid P' s' σ H' → Stp hid P P' H H' → W cls none σ H') → te σ H Q
structure DSsX (X : Cx) (W : WX) (st : List Stmt) (t : TS) (m : MX Fl) : Prop where
  p : PSs X st t
  v : EvSX X.K W t m
structure DSX (X : Cx) (W : WX) (st : Stmt) (t : TS) (m : MX Fl) : Prop where
  p : PS X st t
  v : EvSX X.K W t m
structure DEX (X : Cx) (W : WX) (e : Expr) (t : TE) (m : MX D) : Prop where
  p : PE X e t
  v : EvEX X.K W t m
def xLf (m : M Fl) : MX Fl := fun s => (m s).map fun q => (.ok q.1, q.2)
def xRaise (c : Str) : MX Fl := fun s => some (.xc c, s)
def xSeq (m n : MX Fl) : MX Fl := fun s => match m s with
  | some (.ok .nx, s1) => n s1
  | r => r
def xIf (c : M Bool) (m n : MX Fl) : MX Fl := fun s => match c s with
  | some (b, s1) => if b = true then m s1 else n s1
  | none => none
def xRet (f : MX D) : MX Fl := fun s => match f s with
  | some (.ok d, s1) => some (.ok (.rt d), s1)
  | some (.xc c, s1) => some (.xc c, s1)
  | none => none
def xAsg (f : MX D) (g : D → M Unit) : MX Fl := fun s => match f s with
  | some (.ok d, s1) => (match g d s1 with
    | some (_, s2) => some (.ok .nx, s2)
    | none => none)
  | some (.xc c, s1) => some (.xc c, s1)
  | none => none
abbrev FSX := List Val → Dk → Option (RX D × Dk)
def xCall (sem : FSX) (fr : M (List AV)) : MX D := fun s => match fr s with
  | some (avs, s1) => (match avs.mapM (res s1) with
    | some xs => (match sem xs s1.k with
      | some (r, k') => some (r, { s1 with k := k' })
      | none => none)
    | none => none)
  | none => none
section
variable {K : PySem.W.Frag} {W : WX} {t u : TS} {te : TE} {m n : MX Fl} {f : MX D}
theorem ev_xlf {m : M Fl} (h : EvS K t m) : EvSX K W t (xLf m) := by
  intro A hid P s σ H r s' ok e D q
  unfold xLf at e
  cases hm : m s with
  | none => rw [hm] at e; cases e
  | some x =>
    rw [hm] at e; cases e
    exact h A hid P s σ H x.1 x.2 ok hm D q
theorem ev_xraise {C : Addr} {c : Str} (hc : PySem.W.nsIn K mainGlobals c = some (some (.ref C))) : EvSX K W (fun _ σ H => W (.ref C) none σ H) (xRaise c) := by
  intro A hid P s σ H r s' ok e D q
  cases e
  exact q _ σ P H ⟨C, rfl, hc⟩ ok Stp.refl
theorem ev_xseq (h1 : EvSX K W t m) (h2 : EvSX K W u n) : EvSX K W (tSeq t u) (xSeq m n) := by
  intro A hid P s σ H r s' ok e D q
  unfold xSeq at e
  cases hm : m s with
  | none => rw [hm] at e; cases e
  | some x =>
    obtain ⟨r1, s1⟩ := x
    rw [hm] at e
    refine h1 A hid P s σ H r1 s1 ok hm { D with nx := u D } ?_
    cases r1 with
    | xc c => cases e; exact q
    | ok fl =>
      cases fl with
      | nx =>
        intro σ1 P1 H1 ok1 st1
        exact h2 A hid P1 s1 σ1 H1 r s' ok1 e D (q.back st1)
      | rt d => cases e; exact q
      | bk => cases e; exact q
      | ct => cases e; exact q
theorem ev_xret (h : EvEX K W te f) : EvSX K W (tRet te) (xRet f) := by
  intro A hid P s σ H r s' ok e D q
  unfold xRet at e
  cases hf : f s with
  | none => rw [hf] at e; cases e
  | some x =>
    obtain ⟨r1, s1⟩ := x
    rw [hf] at e
    refine h A hid P s σ H r1 s1 ok hf _ ?_
    cases r1 with
    | ok d => cases e; exact fun v P' H' ok' st' rv => q v σ P' H' ok' st' rv
    | xc c => cases e; exact fun cls P' H' i ok' st' => q cls σ P' H' i ok' st'
theorem ev_xif {tc : TT} {g : M Bool} (hc : EvT K tc g) (h1 : EvSX K W t m) (h2 : EvSX K W u n) : EvSX K W (tIfS tc t u) (xIf g m n) := by
  intro A hid P s σ H r s' ok e D q
  unfold xIf at e
  cases hg : g s with
  | none => rw [hg] at e; cases e
  | some x =>
    obtain ⟨b, s1⟩ := x
    rw [hg] at e
    refine hc A hid P s σ H b s1 ok hg _ fun P1 H1 ok1 st1 => ?_
    cases b with
    | true => dsimp only at e; rw [if_pos rfl] at e ⊢; exact h1 A hid P1 s1 σ H1 r s' ok1 e D (q.back st1)
    | false => dsimp only at e; rw [if_neg Bool.false_ne_true] at e ⊢; exact h2 A hid P1 s1 σ H1 r s' ok1 e D (q.back st1)
theorem ev_xasg {js : List Nat} {tg : TG} {g : D → M Unit} (h : EvEX K W te f) (hg : EvG K js tg g) : EvSX K W (tAsg te tg) (xAsg f g) := by
  intro A hid P s σ H r s' ok e D q
  unfold xAsg at e
  cases hf : f s with
  | none => rw [hf] at e; cases e
  | some x =>
    obtain ⟨r1, s1⟩ := x
    rw [hf] at e
    refine h A hid P s σ H r1 s1 ok hf _ ?_
    cases r1 with
    | xc c => cases e; exact fun cls P' H' i ok' st' => q cls σ P' H' i ok' st'
    | ok d =>
      dsimp only at e
      cases hgd : g d s1 with
      | none => rw [hgd] at e; cases e
      | some y =>
        rw [hgd] at e; cases e
        intro v P1 H1 ok1 st1 rv
        exact hg A hid P1 s1 σ H1 v d _ ok1 rv hgd _ fun σ2 P2 H2 ok2 st2 _ => q σ2 P2 H2 ok2 (st1.trans st2)
/-! a call that may raise -/
def spX (K : PySem.W.Frag) (sem : FSX) : Sp := fun vs H Q E => ∃ (A : DA) (P : Addr → Prop) (xs : List Val) (k : Dk) (r : RX D) (k' : Dk), A.x = none ∧ Trk P H ∧ DkOk A P H k ∧ ArgsOk K A P H vs xs ∧ sem xs k = some (r, k') ∧
  (match r with
    | .ok d => ∀ v H', (∀ a o, H a = some o → ¬ A.is a → H' a = some o) → DkOk A P H' k' → Rp K (mask P H') v d → Q v H'
    | .xc c => ∀ cls H', isCls K c cls → (∀ a o, H a = some o → ¬ A.is a → H' a = some o) → DkOk A P H' k' → E cls none H')
def semOX (np n : Nat) (m : MX Fl) : FSX := fun xs k => if xs.length = np then (match m ⟨xs.map some ++ List.replicate (n - xs.length) none, k⟩ with
  | some (.ok (.rt d), s') => some (.ok d, s'.k)
  | some (.ok .nx, s') => some (.ok .none, s'.k)
  | some (.xc c, s') => some (.xc c, s'.k)
  | _ => none) else none
theorem ev_xcall {sem : FSX} {tr : TA} {fr : M (List AV)} (h : EvV K [] tr fr) : EvEX K W (tCallS (spX K sem) (WE W) tr) (xCall sem fr) := by
  intro A hid P s σ H r s' ok e Q q
  unfold xCall at e
  cases hf : fr s with
  | none => rw [hf] at e; cases e
  | some x =>
    obtain ⟨avs, s1⟩ := x
    rw [hf] at e
    dsimp only at e
    cases hx : avs.mapM (res s1) with
    | none => rw [hx] at e; cases e
    | some xs =>
      rw [hx] at e
      dsimp only at e
      cases hs : sem xs s1.k with
      | none => rw [hs] at e; cases e
      | some y =>
        obtain ⟨r1, k1⟩ := y
        rw [hs] at e
        cases e
        refine h A hid P s σ H avs s1 ok hf _ fun vs P1 H1 ok1 st1 r1' => ?_
        have ar := avs_args ok1 r1' hx
        have nB : ∀ a, A.no.is a → Pb P1 σ [] a := fun a z => ⟨ok1.deck.rs a (DA.no_is z), fun i iB => by simp at iB⟩
        refine ⟨A.no, Pb P1 σ [], xs, s1.k, _, _, rfl, fun a z => ok1.trk a z.1, ⟨ok1.deck.ho, ok1.deck.hg, ok1.deck.hc, nB, ok1.deck.og, ok1.deck.oc, ok1.deck.gc⟩, ar, hs, ?_⟩
        cases r with
        | ok d =>
          intro v H' hk dk rv
          obtain ⟨ok2, st2⟩ := sok_after ok1 hk dk
          exact q v P1 H' ok2 (st1.trans st2) (rv.mono (mask_grw fun a o ha na => ⟨fun z => na ⟨z, fun i iB => by simp at iB⟩, ha⟩))
        | xc c =>
          intro cls H' i hk dk
          obtain ⟨ok2, st2⟩ := sok_after ok1 hk dk
          exact q cls P1 H' i ok2 (st1.trans st2)
end
section
variable {P : Program} {w : World} {K : PySem.W.Frag} {mg : Str → Option Value} {base : Heap}
theorem fnX_of {x qual : Str} {st : Stmt} {f : Addr} {fd : FuncData} {N ps : List Str} {k : Nat} {m : MX Fl} (F : Fun K x qual st f fd) (Sc : FnScope N ps (defScope st))
    (body : ∀ (cdv : Value) (A : Around) (outer : List Env) (s : Shared) (H : Hp) (E : XK), Room k (A.deeper (envOfC qual (defScope st) s.heap.objs.size f cdv)) →
      ∃ t, DSsX (cxOf (L2.CX P w) P w K mg base N qual (defScope st) f cdv A outer s H E) (fun cls d _ H => E cls d H) (defBody st) t m) : FnOk P w K mg base (L2.CX P w) (k + 1) f fd ps (spX K (semOX ps.length N.length m)) := by
  refine F.okX Sc (fun vs H Q E h => ?_) (fun cdv A outer s H vs Q E hr h => ?_)
  · obtain ⟨A, R, xs, k, r, k', _, t, dk, ar, e, _⟩ := h
    unfold semOX at e
    split at e
    · rename_i hl; rw [ar.length]; exact hl
    · cases e
  · obtain ⟨A0, R, xs, k0, r0, k', _, t, dk, ar, e, q⟩ := h
    obtain ⟨tt, hD⟩ := body cdv A outer s H E hr
    refine ⟨tt, hD.p, ?_⟩
    unfold semOX at e
    split at e
    · have ok := sok_start (N := N) t dk ar
      have done : ∀ (P' : Addr → Prop) (H' : Hp) (s' : S) (σ' : St), SOk K A0 (fun a => R a ∧ ¬ A0.is a) P' s' σ' H' → Stp (fun a => R a ∧ ¬ A0.is a) R P' H H' →
          (∀ a o, H a = some o → ¬ A0.is a → H' a = some o) ∧ DkOk A0 R H' s'.k ∧ Grw (mask P' H') (mask R H') := fun P' H' s' σ' ok' st' => by
        refine ⟨fun a o ha na => st'.keep a o ha ?_, ⟨ok'.deck.ho, ok'.deck.hg, ok'.deck.hc, dk.rs, dk.og, dk.oc, dk.gc⟩, mask_grw fun a o ha na => ⟨fun z => na ?_, ha⟩⟩
        · by_cases hR : R a
          · exact .inl ⟨hR, na⟩
          · exact .inr hR
        · by_cases hA : A0.is a
          · exact ok'.deck.rs a hA
          · exact ok'.hp a ⟨z, hA⟩
      cases hm : m ⟨xs.map some ++ List.replicate (N.length - xs.length) none, k0⟩ with
      | none => rw [hm] at e; cases e
      | some r =>
        obtain ⟨r, s'⟩ := r
        rw [hm] at e
        refine hD.v A0 _ R _ _ H r s' ok hm _ ?_
        cases r with
        | xc c =>
          cases e
          intro cls σ' P' H' i ok' st'
          obtain ⟨h1, h2, _⟩ := done P' H' s' σ' ok' st'
          exact q cls H' i h1 h2
        | ok fl =>
          cases fl with
          | nx =>
            cases e
            intro σ' P' H' ok' st'
            obtain ⟨h1, h2, _⟩ := done P' H' s' σ' ok' st'
            exact q .non H' h1 h2 .non
          | rt d2 =>
            cases e
            intro v σ' P' H' ok' st' r
            obtain ⟨h1, h2, h3⟩ := done P' H' s' σ' ok' st'
            exact q v H' h1 h2 (r.mono h3)
          | bk => cases e
          | ct => cases e
    · cases e
end
/-- a def that may raise -/
structure FnX (P : Program) (w : World) (K : PySem.W.Frag) (mg : Str → Option Value) (base : Heap) (k : Nat) (x : Str) (ps : List Str) (kws : List (List Str × List Nat)) (sem : FSX) : Prop where
  ex : ∃ (f : Addr) (fd : FuncData), FnOk P w K mg base (L2.CX P w) k f fd ps (spX K sem) ∧ mg x = some (.ref f) ∧ PySem.W.keepIn K (.ref f) = true ∧ Binds K fd ps [] ∧
    ∀ q ∈ kws, KBinds K fd ps q.1 (gK q.2) (gK q.2)
/-- a class whose instances are raised -/
structure ExB (K : PySem.W.Frag) (mg : Str → Option Value) (c : Str) : Prop where
  ex : ∃ C, mg c = some (.ref C) ∧ PySem.W.nsIn K mainGlobals c = some (some (.ref C)) ∧ PySem.W.excIn K C [.type "ValueError", .type "Exception", .type "BaseException", .type "object"] "ValueError.__new__" = true ∧ PySem.W.keepIn K (.ref C) = true ∧ PySem.W.subIn K (.ref C) (.type "BaseException") = some true ∧ PySem.W.typeIn K (.ref C) = some (.type "type")
section
variable {X : Cx} {W : WX} {x : Str} {p pos : Pos} {e : Expr} {es : List Expr} {tr : TA} {fr : M (List AV)} {k : Nat} {ps : List Str} {kws : List (List Str × List Nat)} {sem : FSX}
/-- X() -/
theorem pmk_own0 {C : Addr} {bmB : List Value} {B newId initId : String} (F : ExcBaseFacts B newId initId bmB) (q : PySem.W.excIn X.K C bmB newId = true) (gC : X.mg x = some (.ref C))
    (kC : PySem.W.keepIn X.K (.ref C) = true) (r : Raises X (.ref C)) (hg : Gl X x) (hdb : (x == ("__debug__" : Str)) = false := by decide) : PMk X (.Call (.Name x p) [] [] pos) (fun _ H Q => Q (.ref C) none H) := by
  intro pins s σ H Q I h
  refine wpAny_Call_Name_kw (ld_glob I hg gC ?_ hdb)
  refine PySem.W.callWith_K0 I.kIn kC ?_
  show wpAny _ _ (call (.ref C) []) _ _ _
  obtain ⟨bm, N, nm, qn, bs, hdct, sn, sub, ab, col, dd, k0, k1, k2, k3, k5, mN, hC, hN, hni, T⟩ := exc_obj I.kIn q
  refine wpAny_call_exc_subT F T hC hN hni (fun h' e hm => ?_) (by show 0 ≤ sizeLine; omega)
  exact mk_of I hm r h (I.hok.gone hm.new)
theorem xs_raise {pos2 : Pos} (T : ExB X.K X.mg x) (tk : Takes X W) (hc : X.calm = true := by rfl) (hg : Gl X x := by rfl) (hdb : (x == ("__debug__" : Str)) = false := by decide) : ∃ t, DSX X W (.Raise (some (.Call (.Name x p) [] [] pos)) none pos2) t (xRaise x) := by
  obtain ⟨C, h1, h2, h3, h4, h5, h6⟩ := T.ex
  exact ⟨_, ps_raise hc tk (pmk_own0 PySem.F.excBase_ValueError h3 h1 h4 (raises_own h5 h6) hg hdb), ev_xraise h2⟩
theorem de_xcall (F : FnX X.prog X.w X.K X.mg X.base k x ps kws sem) (tk : Takes X W) (hr : Room k X.A) (hg : Gl X x) (ha : DV X (e :: es) [] tr fr) (hdb : (x == ("__debug__" : Str)) = false := by decide) (he : starEach (e :: es) X.env = (false, eval e X.env) :: starEach es X.env := by rfl)
    (hpl : (backTo pos (starEach es X.env)).any (·.1) = false := by rfl) : DEX X W (.Call (.Name x p) (e :: es) [] pos) (tCallS (spX X.K sem) (WE W) tr) (xCall sem fr) := by
  obtain ⟨f, fd, F1, hm, hk, hb, _⟩ := F.ex
  exact ⟨pe_callS F1 hr hg hm hk hb (fun σ => passAt tk σ) ha.p hdb he hpl, ev_xcall ha.v⟩
end
end DL


namespace DL
open PySem PySem.Spec PyProof.Rows L2
/-! DL38: statements that may raise, put together; try .. except C as e: return ... -/
def XSX (X : Cx) (W : WX) (sts : List Stmt) (m : MX Fl) : Prop := ∃ t, DSsX X W sts t m
def X1X (X : Cx) (W : WX) (st : Stmt) (m : MX Fl) : Prop := ∃ t, DSX X W st t m
section
variable {X : Cx} {W : WX} {st : Stmt} {rest p q : List Stmt} {m n : MX Fl} {pos : Pos} {e : Expr} {t : TS}
theorem PS.nox1 (h : PS X.nox st t) : PS X st t := ⟨fun pins s σ H D I hw =>
  wpAny_mono (h.run pins s σ H D (I.wish _) hw) (fun _ _ q => q.unwish) fun _ _ z => False.elim z⟩
theorem xx_nil : XSX X W [] (xLf sNx) := ⟨_, dss_nil.p, ev_xlf dss_nil.v⟩
theorem xx_one (h : X1X X W st m) : XSX X W [st] m := by
  obtain ⟨t, h⟩ := h
  exact ⟨t, pss_one h.p, h.v⟩
theorem xx_cons (h : X1X X W st m) (hr : XSX X W rest n) : XSX X W (st :: rest) (xSeq m n) := by
  obtain ⟨t, h⟩ := h
  obtain ⟨u, hr⟩ := hr
  exact ⟨_, pss_cons h.p hr.p, ev_xseq h.v hr.v⟩
theorem xx_lf {m : M Fl} (h : X1 X.nox st m) : X1X X W st (xLf m) := by
  obtain ⟨t, h⟩ := h
  exact ⟨t, PS.nox1 h.p, ev_xlf h.v⟩
theorem xx_lfs {m : M Fl} (h : XS X.nox rest m) : XSX X W rest (xLf m) := by
  obtain ⟨t, h⟩ := h
  exact ⟨t, h.p.nox, ev_xlf h.v⟩
theorem xx_if {c : Expr} {tc : TT} {g : M Bool} (hc : DT X c tc g) (ha : XSX X W p m) (hb : XSX X W q n) : X1X X W (.If c p q pos) (xIf g m n) := by
  obtain ⟨t, ha⟩ := ha
  obtain ⟨u, hb⟩ := hb
  exact ⟨_, ps_if hc.p ha.p hb.p, ev_xif hc.v ha.v hb.v⟩
theorem xx_ret {te : TE} {f : MX D} (h : DEX X W e te f) : X1X X W (.Return (some e) pos) (xRet f) := ⟨_, ps_ret h.p, ev_xret h.v⟩
theorem xx_raise {x : Str} {p0 pos2 : Pos} (T : ExB X.K X.mg x) (tk : Takes X W) (hc : X.calm = true := by rfl) (hg : Gl X x := by rfl) (hdb : (x == ("__debug__" : Str)) = false := by decide) : X1X X W (.Raise (some (.Call (.Name x p0) [] [] pos)) none pos2) (xRaise x) := xs_raise T tk hc hg hdb
theorem fnX_of' {P : Program} {w : World} {K : PySem.W.Frag} {mg : Str → Option Value} {base : Heap} {x qual : Str} {st : Stmt} {f : Addr} {fd : FuncData} {N ps : List Str} {k : Nat} {m : MX Fl} (F : Fun K x qual st f fd) (Sc : FnScope N ps (defScope st))
    (body : ∀ (cdv : Value) (A : Around) (outer : List Env) (s : Shared) (H : Hp) (E : XK), Room k (A.deeper (envOfC qual (defScope st) s.heap.objs.size f cdv)) → Takes (cxOf (L2.CX P w) P w K mg base N qual (defScope st) f cdv A outer s H E) (fun cls d _ H => E cls d H) →
      XSX (cxOf (L2.CX P w) P w K mg base N qual (defScope st) f cdv A outer s H E) (fun cls d _ H => E cls d H) (defBody st) m) : FnOk P w K mg base (L2.CX P w) (k + 1) f fd ps (spX K (semOX ps.length N.length m)) :=
  fnX_of F Sc fun cdv A outer s H E hr => body cdv A outer s H E hr (takes_of rfl rfl rfl rfl)
end
/-! a keyword call that may raise -/
section
variable {X : Cx} {W : WX} {x : Str} {p pos : Pos} {e : Expr} {es : List Expr} {tr : TA} {fr : M (List AV)} {k : Nat} {ps : List Str} {kws : List (List Str × List Nat)} {sem : FSX}
theorem pe_callKS0 {CX : CXT} {f : Addr} {fd : FuncData} {sp : Sp} {E : St → XK} {kw : List Keyword} {ks : List Str} {tk : TA} {g : List Value → List Value → List Value} {gV : List V → List V → List V} (F : FnOk X.prog X.w X.K X.mg X.base CX k f fd ps sp) (hr : Room k X.A) (hg : Gl X x) (hm : X.mg x = some (.ref f)) (hk : PySem.W.keepIn X.K (.ref f) = true) (hb : KBinds X.K fd ps ks g gV) (hx : ∀ σ, PassesAt CX X σ (E σ))
    (hkw : PK X kw tk) (hall : (backToKw pos (keywordEach kw X.env)).all (·.1.isSome) = true := by rfl) (hks : (backToKw pos (keywordEach kw X.env)).filterMap (·.1) = ks := by rfl)
    (hdb : (x == ("__debug__" : Str)) = false := by decide) (hpl : ((backTo pos (starEach [] X.env)).any (·.1) || (backToKw pos (keywordEach kw X.env)).any (·.1.isNone)) = false := by rfl) :
    PE X (.Call (.Name x p) [] kw pos) (tCallS sp E (fun σ H Q => tk σ H fun zs H2 => Q (gV [] zs) H2)) := by
  refine ⟨fun pins s σ H Q I h => ?_⟩
  refine wpAny_Call_Name_kw (ld_glob I hg hm ?_ hdb)
  refine PySem.W.callWith_KW0 (h₀ := X.base) I.ok.mod.kin hk hall (thn (hkw.run pos pins s σ H _ I h) fun ws s2 ⟨zs, H2, I2, rz, q2⟩ => ⟨I2.kIn, ?_⟩) hpl
  rw [hks]
  have r2 := hb.rel (vs := []) (us := []) .nil rz
  have hl : (g [] ws).length = ps.length := by rw [← r2.length]; exact F.len _ _ _ _ q2
  refine wpAny_call (codeAny_mono (F.run X.A X.stack s2 H2 ⟨[], ks.zip ws⟩ (g [] ws) (gV [] zs) Q (E σ) hr I2.env0 (hb.to s2 [] ws I2.kIn hl) r2 q2) fun r s' hq => ?_)
  cases r with
  | error e => exact hx σ pins H2 s2 e s' I2 hq
  | ok fl =>
    cases fl with
    | ret u => exact I2.after hq
    | next => exact False.elim hq
    | brk => exact False.elim hq
    | cont => exact False.elim hq
theorem ev_vperm {K : PySem.W.Frag} {B : List Nat} {pm : List Nat} (h : EvV K B tr fr) : EvV K B (fun σ H Q => tr σ H fun zs H2 => Q (gK pm [] zs) H2) (vPerm pm fr) := by
  intro A hid P s σ H xs s' ok e Q q
  obtain ⟨ys, s1, h1, e⟩ := bd_some e
  split at e
  · rename_i hp
    obtain ⟨rfl, rfl⟩ := rtn_some e
    refine h A hid P s σ H ys _ ok h1 _ fun vs P1 H1 ok1 st1 r1 => q _ P1 H1 ok1 st1 ?_
    unfold gK
    rw [if_pos ⟨rfl, by rw [r1.length]; exact hp.1⟩]
    exact r1.perm pm hp.2
  · cases e
theorem de_xcallK {kw : List Keyword} (ks : List Str) (pm : List Nat) (F : FnX X.prog X.w X.K X.mg X.base k x ps kws sem) (tk : Takes X W) (hq : (ks, pm) ∈ kws) (hr : Room k X.A) (hg : Gl X x) (ha : DVK X kw [] tr fr)
    (hall : (backToKw pos (keywordEach kw X.env)).all (·.1.isSome) = true := by rfl) (hks : (backToKw pos (keywordEach kw X.env)).filterMap (·.1) = ks := by rfl)
    (hdb : (x == ("__debug__" : Str)) = false := by decide) (hpl : ((backTo pos (starEach [] X.env)).any (·.1) || (backToKw pos (keywordEach kw X.env)).any (·.1.isNone)) = false := by rfl) :
    DEX X W (.Call (.Name x p) [] kw pos) (tCallS (spX X.K sem) (WE W) (fun σ H Q => tr σ H fun zs H2 => Q (gK pm [] zs) H2)) (xCall sem (vPerm pm fr)) := by
  obtain ⟨f, fd, F1, hm, hk, hb, hkb⟩ := F.ex
  exact ⟨pe_callKS0 F1 hr hg hm hk (hkb _ hq) (fun σ => passAt tk σ) ha.p hall hks hdb hpl, ev_xcall (ev_vperm ha.v)⟩
end
/-! ### what an except suite answers: constants that hang on the error's class alone -/
abbrev HF := Str → Option D
def HEv (K : PySem.W.Frag) (i : Nat) (te : Addr → Value → Option Addr → TE) (h : HF) : Prop := ∀ a cls c d0, isCls K c cls → h c = some d0 → ∀ A hid P s σ H, SOk K A hid P s σ H → σ[i]? = some (some (.ref a)) → ∀ Q : VK,
  (∀ v P' H', SOk K A hid P' s σ H' → Stp hid P P' H H' → Rp K (mask P' H') v d0 → Q v H') → te a cls none σ H Q
def HE (X : Cx) (i : Nat) (e : Expr) (h : HF) : Prop := ∃ te : Addr → Value → Option Addr → TE,
  (∀ a oe cls d pn, Zc cls d oe → (∃ vs, oe.data = .fields vs) → PE (X.suite a ((a, oe) :: pn)) e (te a cls d)) ∧ HEv X.K i te h
def HA (X : Cx) (i : Nat) (es : List Expr) (h : Str → Option (List D)) : Prop := ∃ te : Addr → Value → Option Addr → TA,
  (∀ a oe cls d pn, Zc cls d oe → (∃ vs, oe.data = .fields vs) → PA (X.suite a ((a, oe) :: pn)) es (te a cls d)) ∧
  ∀ a cls c ds, isCls X.K c cls → h c = some ds → ∀ A hid P s σ H, SOk X.K A hid P s σ H → σ[i]? = some (some (.ref a)) → ∀ Q : List V → Hp → Prop,
    (∀ vs P' H', SOk X.K A hid P' s σ H' → Stp hid P P' H H' → RpA X.K (mask P' H') vs ds → Q vs H') → te a cls none σ H Q
section
variable {X : Cx} {i : Nat} {e a b : Expr} {es : List Expr} {h ha hb : HF} {pos : Pos}
theorem he_str {x : Str} {j p0} : HE X i (.Constant (.str x) j p0) (fun _ => some (.str x)) := ⟨fun _ _ _ => tC (.str x), fun _ _ _ _ _ _ _ => pe_str, fun _ _ _ _ _ e _ _ P _ _ H ok _ Q q => by cases e; exact q _ P H ok Stp.refl (.str _)⟩
theorem he_bl {x : Bool} {j p0} : HE X i (.Constant (.bool x) j p0) (fun _ => some (.bool x)) := ⟨fun _ _ _ => tC (.bl x), fun _ _ _ _ _ _ _ => pe_bl, fun _ _ _ _ _ e _ _ P _ _ H ok _ Q q => by cases e; exact q _ P H ok Stp.refl (.bl _)⟩
theorem ha_nil : HA X i [] (fun _ => some []) := ⟨fun _ _ _ => tNil, fun _ _ _ _ _ _ _ => pa_nil, fun _ _ _ _ _ e _ _ P _ _ H ok _ Q q => by cases e; exact q _ P H ok Stp.refl .nil⟩
theorem ha_cons {hr : Str → Option (List D)} (h1 : HE X i e h) (h2 : HA X i es hr) (he : starEach (e :: es) X.env = (false, eval e X.env) :: starEach es X.env := by rfl) : HA X i (e :: es) (fun c => match h c, hr c with
    | some d, some ds => some (d :: ds)
    | _, _ => none) := by
  obtain ⟨t1, p1, v1⟩ := h1
  obtain ⟨t2, p2, v2⟩ := h2
  refine ⟨fun a cls d => tCons (t1 a cls d) (t2 a cls d), fun a oe cls d pn hz hf => pa_cons (p1 a oe cls d pn hz hf) (p2 a oe cls d pn hz hf) he, ?_⟩
  intro a cls c ds hc e A hid P s σ H ok hs Q q
  cases q1 : h c with
  | none => simp only [q1] at e; cases e
  | some d =>
    cases q2 : hr c with
    | none => simp only [q1, q2] at e; cases e
    | some dr =>
      simp only [q1, q2] at e
      cases e
      refine v1 a cls c d hc q1 A hid P s σ H ok hs _ fun v P1 H1 ok1 st1 r1 => ?_
      refine v2 a cls c dr hc q2 A hid P1 s σ H1 ok1 hs _ fun vs P2 H2 ok2 st2 r2 => ?_
      exact q _ P2 H2 ok2 (st1.trans st2) (.cons (st2.rp r1) r2)
/-- a class by its name: an own one or one of Python's -/
def NamV (K : PySem.W.Frag) (mg : Str → Option Value) (x : Str) (v : V) (cv : Value) : Prop := (∃ C, v = .ref C ∧ cv = .ref C ∧ mg x = some (.ref C)) ∨ (∃ n, v = .ty n ∧ cv = .type n ∧ mg x = none ∧ bootBuiltins x = some (.type n) ∧ x ≠ "__name__")
structure IsF (K : PySem.W.Frag) (mg : Str → Option Value) (x : Str) (tbl : Str → Option Bool) : Prop where
  ex : ∃ v cv, NamV K mg x v cv ∧ ∀ c b, tbl c = some b → ∃ C, PySem.W.nsIn K mainGlobals c = some (some (.ref C)) ∧ ExcC K C ∧ PySem.W.kitOne K (.ref C) cv = some b
theorem pe_namV {Y : Cx} {x : Str} {v : V} {cv : Value} {px : Pos} (h : NamV Y.K Y.mg x v cv) (hg : Gl Y x) (hd : (x == ("__debug__" : Str)) = false) : PE Y (.Name x px) (tC v) := by
  rcases h with ⟨C, rfl, rfl, hm⟩ | ⟨n, rfl, rfl, hm, hb, hn⟩
  · exact pe_glob hg hm rfl hd
  · exact pe_bltn hg hm hb rfl hn hd
theorem NamV.uniq {K : PySem.W.Frag} {mg : Str → Option Value} {x : Str} {v : V} {cv : Value} (h : NamV K mg x v cv) : ∀ u, RelV v u → u = cv := by
  rcases h with ⟨C, rfl, rfl, hm⟩ | ⟨n, rfl, rfl, hm, hb, hn⟩
  · exact fun u r => r
  · exact fun u r => r
theorem he_is {x y : Str} {tbl : Str → Option Bool} {p1 py px : Pos} (T : IsF X.K X.mg x tbl) (hm : X.mg "isinstance" = none) (hg : Gl X "isinstance" := by rfl) (hgx : Gl X x := by rfl) (hN : X.N[i]? = some y := by rfl) (hv : Vis X.env.scope y := by first | exact Or.inl rfl | exact Or.inr (Or.inl rfl) | exact Or.inr (Or.inr rfl))
    (hd : (y == ("__debug__" : Str)) = false := by decide) (hcd : (y == ("__classdict__" : Str)) = false := by decide) (hdx : (x == ("__debug__" : Str)) = false := by decide)
    (he : starEach [.Name y py, .Name x px] X.env = (false, eval (.Name y py) X.env) :: starEach [.Name x px] X.env := by rfl) (he2 : starEach [.Name x px] X.env = (false, eval (.Name x px) X.env) :: starEach [] X.env := by rfl) (hpl : (backTo pos (starEach [.Name x px] X.env)).any (·.1) = false := by rfl) :
    HE X i (.Call (.Name "isinstance" p1) [.Name y py, .Name x px] [] pos) (fun c => (tbl c).map .bool) := by
  obtain ⟨v, cv, hnv, ht⟩ := T.ex
  refine ⟨fun a cls d => fun σ H Q => ∃ D0, cls = .ref D0 ∧ d = none ∧ ExcC X.K D0 ∧ (tCB (rIsE X.K D0 a) (tCons (tVar i) (tCons (tC v) tNil))) σ H Q, fun a oe cls d pn hz hf => ⟨fun pins s σ H Q I h => ?_⟩, ?_⟩
  · obtain ⟨D0, rfl, rfl, C, h⟩ := h
    exact (pe_callB (X := X.suite a ((a, oe) :: pn)) (call_isE C hz hf) hg hm (by decide +kernel) (pa_cons (pe_var hN hv hd hcd) (pa_cons (pe_namV hnv hgx hdx) pa_nil he2) he) (by decide) (by decide) he hpl).run pins s σ H Q I h
  · intro a cls c d0 hc e A hid P s σ H ok hs Q q
    have e : (tbl c).map PyData.bool = some d0 := e
    cases hb : tbl c with
    | none => rw [hb] at e; cases e
    | some b =>
      rw [hb] at e; cases e
      obtain ⟨C, n1, x1, k1⟩ := ht c b hb
      obtain ⟨C2, rfl, n2⟩ := hc
      have eC : C2 = C := by rw [n1] at n2; injection n2 with n2; injection n2 with n2; injection n2 with n2; exact n2.symm
      subst eC
      refine ⟨C2, rfl, rfl, x1, _, hs, v, cv, b, rfl, hnv.uniq, k1, ?_⟩
      exact q _ P H ok Stp.refl (.bl b)
theorem he_lst {hr : Str → Option (List D)} (h1 : HA X i es hr) : HE X i (.List es pos) (fun c => match hr c with
    | some ds => if ds.length ≤ lim then some (.list ds) else none
    | none => none) := by
  obtain ⟨t1, p1, v1⟩ := h1
  refine ⟨fun a cls d => tLst (t1 a cls d), fun a oe cls d pn hz hf => pe_lst (p1 a oe cls d pn hz hf), ?_⟩
  intro a cls c d0 hc e A hid P s σ H ok hs Q q
  cases q1 : hr c with
  | none => simp only [q1] at e; cases e
  | some ds =>
    simp only [q1] at e
    split at e
    · rename_i hl
      cases e
      refine v1 a cls c ds hc q1 A hid P s σ H ok hs _ fun vs P1 H1 ok1 st1 r1 => ⟨by rw [r1.length]; exact lim_le hl, fun p hp => ?_⟩
      have g := Grw.new (o := HO.lst vs) hp
      exact q _ P1 _ (ok1.grw g) (st1.trans (Stp.grw g)) (rp_newL ok1.trk hp r1)
    · cases e
theorem he_if {c0 : Expr} (hc : HE X i c0 h) (h1 : HE X i a ha) (h2 : HE X i b hb) (ht : ∀ (A : Option Value) whole, isTrue c0 X.env whole = (do let v ← whole; standAt c0.pos; holding [v] (truthy v)) := by intro _ _; rfl) : HE X i (.IfExp c0 a b pos) (fun c => match h c with
    | some (.bool true) => ha c
    | some (.bool false) => hb c
    | _ => none) := by
  obtain ⟨t0, p0, v0⟩ := hc
  obtain ⟨t1, p1, v1⟩ := h1
  obtain ⟨t2, p2, v2⟩ := h2
  refine ⟨fun x cls d => tIf (tB (t0 x cls d)) (t1 x cls d) (t2 x cls d), fun x oe cls d pn hz hf => pe_ifExp (pt_val (p0 x oe cls d pn hz hf) (ht none)) (p1 x oe cls d pn hz hf) (p2 x oe cls d pn hz hf), ?_⟩
  intro x cls c d0 hc e A hid P s σ H ok hs Q q
  cases q0 : h c with
  | none => simp only [q0] at e; cases e
  | some d =>
    refine v0 x cls c d hc q0 A hid P s σ H ok hs _ fun v P1 H1 ok1 st1 r1 => ?_
    simp only [q0] at e
    split at e
    · rename_i hq
      cases hq
      cases r1
      refine ⟨_, rfl, ?_⟩
      show if true = true then _ else _
      rw [if_pos rfl]
      exact v1 x cls c d0 hc e A hid P1 s σ H1 ok1 hs _ fun v P2 H2 ok2 st2 r2 => q v P2 H2 ok2 (st1.trans st2) r2
    · rename_i hq
      cases hq
      cases r1
      refine ⟨_, rfl, ?_⟩
      show if false = true then _ else _
      rw [if_neg Bool.false_ne_true]
      exact v2 x cls c d0 hc e A hid P1 s σ H1 ok1 hs _ fun v P2 H2 ok2 st2 r2 => q v P2 H2 ok2 (st1.trans st2) r2
    · cases e
end
/-! ### try -/
/-- the clause of the class x takes the errors of the classes in cs -/
structure ClF (K : PySem.W.Frag) (mg : Str → Option Value) (x : Str) (cs : List Str) : Prop where
  ex : ∃ C, mg x = some (.ref C) ∧ ∀ c ∈ cs, ∃ D, PySem.W.nsIn K mainGlobals c = some (some (.ref D)) ∧ PySem.W.exmOne K (.ref D) (.ref C) = some true
def sTry (i : Nat) (cs : List Str) (m : MX Fl) (h : HF) : M Fl := fun s => match m s with
  | some (.ok fl, s') => some (fl, s')
  | some (.xc c, s') => if c ∈ cs ∧ i < s'.g.length then (h c).map fun d => (.rt d, ⟨s'.g.set i none, s'.k⟩) else none
  | none => none
section
variable {X : Cx} {body : List Stmt} {m : MX Fl} {h : HF} {i : Nat} {x n : Str} {cs : List Str} {e : Expr} {np pos pos' rp : Pos}
theorem x1_tryAs (T : ClF X.K X.mg x cs) (hb : ∀ (W : WX) (pn : List (Addr × Obj)) (xe : Value → Shared → Prop), Takes (X.tr pn xe) W → XSX (X.tr pn xe) W body m) (hh : HE X i e h)
    (hs : X.stack = X.env :: X.outer := by rfl) (hf : X.env.frame = some X.env.locals := by rfl) (hN : X.N.Nodup) (hi : X.N[i]? = some n := by rfl) (hln : X.env.kindOf n = some .local := by rfl) (hg : Gl X x := by rfl) (hdb : (x == ("__debug__" : Str)) = false := by decide) :
    X1 X (.Try body [.ExceptHandler (some (.Name x np)) (some n) [.Return (some e) rp] pos'] [] [] pos) (sTry i cs m h) := by
  obtain ⟨C, hm, hc⟩ := T.ex
  obtain ⟨te, pe, ve⟩ := hh
  refine ⟨_, ps_try_as (tb := fun W D σ H => ∀ pn xe, Takes (X.tr pn xe) W → ∀ t, PSs (X.tr pn xe) body t → EvSX X.K W t m → t D σ H) (ts := fun a cls d => tRet (te a cls d)) (Wout := fun _ _ _ _ => False) hs hf hN hi hln ⟨hg, hdb, .inl hm⟩ takes0
    (fun W pn xe tk _ => ?_) (fun a oe cls d pn hz hf => pss_one (ps_ret (pe a oe cls d pn hz hf))), ?_⟩
  · obtain ⟨t, ht⟩ := hb W pn xe tk
    exact ⟨fun pins s σ H D I hw => ht.p.run pins s σ H D I (hw pn xe tk t ht.p ht.v)⟩
  · intro A hid P s σ H fl s' ok e0 D q
    intro pn xe tk t _ hv
    unfold sTry at e0
    cases hms : m s with
    | none => rw [hms] at e0; cases e0
    | some r =>
      obtain ⟨r, s1⟩ := r
      rw [hms] at e0
      refine hv A hid P s σ H r s1 ok hms D ?_
      cases r with
      | ok fl1 => cases e0; exact q
      | xc c =>
        dsimp only at e0
        split at e0
        · rename_i hcs
          cases hd : h c with
          | none => rw [hd] at e0; cases e0
          | some d0 =>
            rw [hd] at e0; cases e0
            intro cls σ1 P1 H1 ic ok1 st1
            obtain ⟨D0, rfl, n2⟩ := id ic
            obtain ⟨D1, n1, m1⟩ := hc c hcs.1
            have eC : D1 = D0 := by rw [n1] at n2; injection n2 with n2; injection n2 with n2; injection n2 with n2
            subst eC
            refine ⟨true, m1, fun _ a ha => ?_, fun z => nomatch z⟩
            have ok2 := ok1.set_none (i := i) (v := some (.ref a))
            refine ve a _ c d0 ic hd A hid P1 _ _ H1 ok2 (by rw [List.getElem?_set_self (by rw [← ok1.len]; exact hcs.2)]) _ fun v P2 H2 ok3 st3 r3 => ?_
            exact q v _ P2 H2 ok3 (st1.trans st3) r3
        · cases e0
end
end DL


namespace DL
open PySem PySem.Spec PyProof.Rows L2
/-! DL39: the handlers' words; wp of what may raise. -/
def tblOf (l : List (Str × Bool)) (c : Str) : Option Bool := l.lookup c
def hStr (x : Str) : HF := fun _ => some (.str x)
def hBl (b : Bool) : HF := fun _ => some (.bool b)
def hIs (l : List (Str × Bool)) : HF := fun c => (tblOf l c).map .bool
def hNil : Str → Option (List D) := fun _ => some []
def hCons (h : HF) (hr : Str → Option (List D)) : Str → Option (List D) := fun c => match h c, hr c with
  | some d, some ds => some (d :: ds)
  | _, _ => none
def hLst (hr : Str → Option (List D)) : HF := fun c => match hr c with
  | some ds => if ds.length ≤ lim then some (.list ds) else none
  | none => none
def hIf (h ha hb : HF) : HF := fun c => match h c with
  | some (.bool true) => ha c
  | some (.bool false) => hb c
  | _ => none
section
variable {X : Cx} {i : Nat} {e a b : Expr} {es : List Expr} {h ha hb : HF} {pos : Pos}
theorem hs_str {x : Str} {j p0} : HE X i (.Constant (.str x) j p0) (hStr x) := he_str
theorem hs_bl {x : Bool} {j p0} : HE X i (.Constant (.bool x) j p0) (hBl x) := he_bl
theorem hs_nil : HA X i [] hNil := ha_nil
theorem hs_cons {hr : Str → Option (List D)} (h1 : HE X i e h) (h2 : HA X i es hr) (he : starEach (e :: es) X.env = (false, eval e X.env) :: starEach es X.env := by rfl) : HA X i (e :: es) (hCons h hr) := ha_cons h1 h2 he
theorem hs_lst {hr : Str → Option (List D)} (h1 : HA X i es hr) : HE X i (.List es pos) (hLst hr) := he_lst h1
theorem hs_if {c0 : Expr} (hc : HE X i c0 h) (h1 : HE X i a ha) (h2 : HE X i b hb) (ht : ∀ (A : Option Value) whole, isTrue c0 X.env whole = (do let v ← whole; standAt c0.pos; holding [v] (truthy v)) := by intro _ _; rfl) : HE X i (.IfExp c0 a b pos) (hIf h ha hb) := he_if hc h1 h2 ht
theorem hs_is {x y : Str} {l : List (Str × Bool)} {p1 py px : Pos} (T : IsF X.K X.mg x (tblOf l)) (hm : X.mg "isinstance" = none) (hg : Gl X "isinstance" := by rfl) (hgx : Gl X x := by rfl) (hN : X.N[i]? = some y := by rfl) (hv : Vis X.env.scope y := by first | exact Or.inl rfl | exact Or.inr (Or.inl rfl) | exact Or.inr (Or.inr rfl))
    (hd : (y == ("__debug__" : Str)) = false := by decide) (hcd : (y == ("__classdict__" : Str)) = false := by decide) (hdx : (x == ("__debug__" : Str)) = false := by decide)
    (he : starEach [.Name y py, .Name x px] X.env = (false, eval (.Name y py) X.env) :: starEach [.Name x px] X.env := by rfl) (he2 : starEach [.Name x px] X.env = (false, eval (.Name x px) X.env) :: starEach [] X.env := by rfl) (hpl : (backTo pos (starEach [.Name x px] X.env)).any (·.1) = false := by rfl) :
    HE X i (.Call (.Name "isinstance" p1) [.Name y py, .Name x px] [] pos) (hIs l) := he_is T hm hg hgx hN hv hd hcd hdx he he2 hpl
end
/-! wp -/
def fx (sem : FSX) (xs : List Val) (k : Dk) (Q : RX D → Dk → Prop) : Prop := ∃ r k', sem xs k = some (r, k') ∧ Q r k'
theorem fx_eq {sem : FSX} {xs : List Val} {k k' : Dk} {r : RX D} (h : sem xs k = some (r, k')) {Q : RX D → Dk → Prop} : fx sem xs k Q ↔ Q r k' := by
  unfold fx
  rw [h]
  constructor
  · rintro ⟨a, b, e, q⟩; cases e; exact q
  · exact fun q => ⟨_, _, rfl, q⟩
theorem eq_fx {sem : FSX} {xs : List Val} {k k' : Dk} {r : RX D} (h : fx sem xs k fun a c => a = r ∧ c = k') : sem xs k = some (r, k') := by
  obtain ⟨_, _, e, rfl, rfl⟩ := h
  exact e
theorem fx_of {np n : Nat} {m : MX Fl} {xs : List Val} {k : Dk} {Q : RX D → Dk → Prop} (hl : xs.length = np) (h : wp (α := RX Fl) m ⟨xs.map some ++ List.replicate (n - xs.length) none, k⟩ fun r s' => (∃ d, r = .ok (.rt d) ∧ Q (.ok d) s'.k) ∨ ∃ c, r = .xc c ∧ Q (.xc c) s'.k) : fx (semOX np n m) xs k Q := by
  obtain ⟨fl, s', e, q⟩ := h
  unfold fx semOX
  rw [if_pos hl, e]
  rcases q with ⟨d, rfl, q⟩ | ⟨c, rfl, q⟩
  · exact ⟨_, _, rfl, q⟩
  · exact ⟨_, _, rfl, q⟩
section
variable {s : S} {Q : RX Fl → S → Prop} {Z : Fl → S → Prop}
@[simp ↓] theorem wp_xLf {m : M Fl} : wp (α := RX Fl) (xLf m) s Q ↔ wp m s fun fl s1 => Q (.ok fl) s1 := by
  unfold wp xLf
  constructor
  · rintro ⟨a, s', e, q⟩
    cases h : m s with
    | none => rw [h] at e; cases e
    | some x => rw [h] at e; cases e; exact ⟨x.1, x.2, rfl, q⟩
  · rintro ⟨a, s', e, q⟩
    exact ⟨_, _, by rw [e]; rfl, q⟩
@[simp ↓] theorem wp_xRaise {c : Str} : wp (α := RX Fl) (xRaise c) s Q ↔ Q (.xc c) s := ⟨fun ⟨_, _, e, q⟩ => by cases e; exact q, fun q => ⟨_, _, rfl, q⟩⟩
@[simp ↓] theorem wp_xSeq {m n : MX Fl} : wp (α := RX Fl) (xSeq m n) s Q ↔ wp (α := RX Fl) m s fun r s1 => match r with
    | .ok .nx => wp (α := RX Fl) n s1 Q
    | r => Q r s1 := by
  unfold wp xSeq
  constructor
  · rintro ⟨a, s', e, q⟩
    cases h : m s with
    | none => rw [h] at e; cases e
    | some x =>
      obtain ⟨r, s1⟩ := x
      rw [h] at e
      refine ⟨r, s1, rfl, ?_⟩
      cases r with
      | xc c => cases e; exact q
      | ok fl => cases fl <;> first | exact ⟨a, s', e, q⟩ | (cases e; exact q)
  · rintro ⟨r, s1, e, q⟩
    rw [e]
    cases r with
    | xc c => exact ⟨_, _, rfl, q⟩
    | ok fl =>
      cases fl with
      | nx => obtain ⟨a, s', e2, q⟩ := q; exact ⟨a, s', e2, q⟩
      | rt d => exact ⟨_, _, rfl, q⟩
      | bk => exact ⟨_, _, rfl, q⟩
      | ct => exact ⟨_, _, rfl, q⟩
@[simp ↓] theorem wp_xIf {c : M Bool} {m n : MX Fl} : wp (α := RX Fl) (xIf c m n) s Q ↔ wp c s fun b s1 => if b = true then wp (α := RX Fl) m s1 Q else wp (α := RX Fl) n s1 Q := by
  unfold wp xIf
  constructor
  · rintro ⟨a, s', e, q⟩
    cases h : c s with
    | none => rw [h] at e; cases e
    | some x =>
      obtain ⟨b, s1⟩ := x
      rw [h] at e
      refine ⟨b, s1, rfl, ?_⟩
      cases b
      · exact ⟨a, s', e, q⟩
      · exact ⟨a, s', e, q⟩
  · rintro ⟨b, s1, e, q⟩
    rw [e]
    cases b
    · obtain ⟨a, s', e2, q⟩ := q; exact ⟨a, s', e2, q⟩
    · obtain ⟨a, s', e2, q⟩ := q; exact ⟨a, s', e2, q⟩
@[simp ↓] theorem wp_xRet {f : MX D} : wp (α := RX Fl) (xRet f) s Q ↔ wp (α := RX D) f s fun r s1 => match r with
    | .ok d => Q (.ok (.rt d)) s1
    | .xc c => Q (.xc c) s1 := by
  unfold wp xRet
  constructor
  · rintro ⟨a, s', e, q⟩
    cases h : f s with
    | none => rw [h] at e; cases e
    | some x =>
      obtain ⟨r, s1⟩ := x
      rw [h] at e
      cases r with
      | ok d => cases e; exact ⟨_, _, rfl, q⟩
      | xc c => cases e; exact ⟨_, _, rfl, q⟩
  · rintro ⟨r, s1, e, q⟩
    rw [e]
    cases r with
    | ok d => exact ⟨_, _, rfl, q⟩
    | xc c => exact ⟨_, _, rfl, q⟩
@[simp ↓] theorem wp_xCall {sem : FSX} {fr : M (List AV)} {Q : RX D → S → Prop} : wp (α := RX D) (xCall sem fr) s Q ↔ wp fr s fun avs s1 => ∃ xs, avs.mapM (res s1) = some xs ∧ fx sem xs s1.k fun r k' => Q r ⟨s1.g, k'⟩ := by
  unfold wp xCall fx
  constructor
  · rintro ⟨a, s', e, q⟩
    cases h : fr s with
    | none => rw [h] at e; cases e
    | some x =>
      obtain ⟨avs, s1⟩ := x
      rw [h] at e
      dsimp only at e
      refine ⟨avs, s1, rfl, ?_⟩
      cases hx : avs.mapM (res s1) with
      | none => rw [hx] at e; cases e
      | some xs =>
        rw [hx] at e
        dsimp only at e
        cases hs : sem xs s1.k with
        | none => rw [hs] at e; cases e
        | some y =>
          obtain ⟨r, k'⟩ := y
          rw [hs] at e
          cases e
          exact ⟨xs, hx, _, _, hs, q⟩
  · rintro ⟨avs, s1, e, xs, hx, r, k', hs, q⟩
    rw [e]
    dsimp only
    rw [hx]
    dsimp only
    rw [hs]
    exact ⟨_, _, rfl, q⟩
@[simp ↓] theorem wp_sTry {i : Nat} {cs : List Str} {m : MX Fl} {h : HF} : wp (sTry i cs m h) s Z ↔ wp (α := RX Fl) m s fun r s1 => match r with
    | .ok fl => Z fl s1
    | .xc c => (c ∈ cs ∧ i < s1.g.length) ∧ ∃ d, h c = some d ∧ Z (.rt d) ⟨s1.g.set i none, s1.k⟩ := by
  unfold wp sTry
  constructor
  · rintro ⟨a, s', e, q⟩
    cases hm : m s with
    | none => rw [hm] at e; cases e
    | some x =>
      obtain ⟨r, s1⟩ := x
      rw [hm] at e
      refine ⟨r, s1, rfl, ?_⟩
      cases r with
      | ok fl => cases e; exact q
      | xc c =>
        dsimp only at e ⊢
        split at e
        · rename_i hc
          cases hd : h c with
          | none => rw [hd] at e; cases e
          | some d => rw [hd] at e; cases e; exact ⟨hc, d, rfl, q⟩
        · cases e
  · rintro ⟨r, s1, e, q⟩
    rw [e]
    cases r with
    | ok fl => exact ⟨_, _, rfl, q⟩
    | xc c =>
      obtain ⟨hc, d, hd, q⟩ := q
      refine ⟨.rt d, _, ?_, q⟩
      dsimp only
      rw [if_pos hc, hd]; rfl
end
end DL


namespace DL
open PySem PySem.Spec PyProof.Rows L2
/-! DL40: a raising def where it does not raise; raising calls in displays and assignments; except C: with a suite of its own. -/
/-- the call, where it does not raise -/
def eCallX (sem : FSX) (fr : M (List AV)) : M D := fun s => match xCall sem fr s with
  | some (.ok d, s') => some (d, s')
  | _ => none
section
variable {X : Cx} {x : Str} {p pos : Pos} {e : Expr} {es : List Expr} {tr : TA} {fr : M (List AV)} {k : Nat} {ps : List Str} {kws : List (List Str × List Nat)} {sem : FSX} {K : PySem.W.Frag}
theorem pass_x : ∀ σ, PassesAt (L2.CX X.prog X.w) X σ (fun _ _ _ => False) := fun σ pins H s e s' I c => by
  obtain ⟨_, _, _, _, _, _, _, _, _, _, _, _, z⟩ := c
  exact z.elim
theorem ev_callX {tr : TA} (h : EvV K [] tr fr) : EvE K (tCallS (spX K sem) (fun _ _ _ _ => False) tr) (eCallX sem fr) := by
  intro A hid P s σ H d s' ok e Q q
  have hx := ev_xcall (W := fun _ _ _ _ => False) (sem := sem) h
  unfold eCallX at e
  split at e
  · rename_i d' s1 hc
    cases e
    exact hx A hid P s σ H (.ok d) s' ok hc Q q
  · cases e
theorem de_callX (F : FnX X.prog X.w X.K X.mg X.base k x ps kws sem) (hr : Room k X.A) (hg : Gl X x) (ha : DV X (e :: es) [] tr fr) (hK : X.K = K := by rfl) (hdb : (x == ("__debug__" : Str)) = false := by decide) (he : starEach (e :: es) X.env = (false, eval e X.env) :: starEach es X.env := by rfl)
    (hpl : (backTo pos (starEach es X.env)).any (·.1) = false := by rfl) : DE X (.Call (.Name x p) (e :: es) [] pos) (tCallS (spX K sem) (fun _ _ _ _ => False) tr) (eCallX sem fr) := by
  subst hK
  obtain ⟨f, fd, F1, hm, hk, hb, _⟩ := F.ex
  exact ⟨pe_callS F1 hr hg hm hk hb pass_x ha.p hdb he hpl, ev_callX ha.v⟩
theorem de_callXK {kw : List Keyword} (ks : List Str) (pm : List Nat) (F : FnX X.prog X.w X.K X.mg X.base k x ps kws sem) (hq : (ks, pm) ∈ kws) (hr : Room k X.A) (hg : Gl X x) (ha : DVK X kw [] tr fr) (hK : X.K = K := by rfl)
    (hall : (backToKw pos (keywordEach kw X.env)).all (·.1.isSome) = true := by rfl) (hks : (backToKw pos (keywordEach kw X.env)).filterMap (·.1) = ks := by rfl)
    (hdb : (x == ("__debug__" : Str)) = false := by decide) (hpl : ((backTo pos (starEach [] X.env)).any (·.1) || (backToKw pos (keywordEach kw X.env)).any (·.1.isNone)) = false := by rfl) :
    DE X (.Call (.Name x p) [] kw pos) (tCallS (spX K sem) (fun _ _ _ _ => False) (fun σ H Q => tr σ H fun zs H2 => Q (gK pm [] zs) H2)) (eCallX sem (vPerm pm fr)) := by
  subst hK
  obtain ⟨f, fd, F1, hm, hk, hb, hkb⟩ := F.ex
  exact ⟨pe_callKS0 F1 hr hg hm hk (hkb _ hq) pass_x ha.p hall hks hdb hpl, ev_callX (ev_vperm ha.v)⟩
end
/-! arguments that may raise -/
def xE (f : M D) : MX D := fun s => (f s).map fun q => (.ok q.1, q.2)
def xaNil : MX (List D) := fun s => some (.ok [], s)
def xaCons (f : MX D) (fr : MX (List D)) : MX (List D) := fun s => match f s with
  | some (.ok d, s1) => (match fr s1 with
    | some (.ok ds, s2) => some (.ok (d :: ds), s2)
    | some (.xc c, s2) => some (.xc c, s2)
    | none => none)
  | some (.xc c, s1) => some (.xc c, s1)
  | none => none
def xLst (fr : MX (List D)) : MX D := fun s => match fr s with
  | some (.ok ds, s1) => if ds.length ≤ lim then some (.ok (.list ds), s1) else none
  | some (.xc c, s1) => some (.xc c, s1)
  | none => none
def EvAX (K : PySem.W.Frag) (W : WX) (ta : TA) (f : MX (List D)) : Prop := ∀ (A : DA) (hid P : Addr → Prop) (s : S) (σ : St) (H : Hp) (r : RX (List D)) (s' : S), SOk K A hid P s σ H → f s = some (r, s') →
  ∀ Q : List V → Hp → Prop, (match r with
    | .ok ds => ∀ vs P' H', SOk K A hid P' s' σ H' → Stp hid P P' H H' → RpA K (mask P' H') vs ds → Q vs H'
    | .xc c => ∀ cls P' H', isCls K c cls → SOk K A hid P' s' σ H' → Stp hid P P' H H' → W cls none σ H') → ta σ H Q
structure DAX (X : Cx) (W : WX) (es : List Expr) (t : TA) (m : MX (List D)) : Prop where
  p : PA X es t
  v : EvAX X.K W t m
section
variable {X : Cx} {W : WX} {e : Expr} {es : List Expr} {te : TE} {tr : TA} {f : M D} {fx_ : MX D} {frx : MX (List D)} {pos : Pos} {K : PySem.W.Frag}
theorem dex_e (h : DE X e te f) : DEX X W e te (xE f) := ⟨h.p, by
  intro A hid P s σ H r s' ok e Q q
  unfold xE at e
  cases hm : f s with
  | none => rw [hm] at e; cases e
  | some x =>
    rw [hm] at e; cases e
    exact h.v A hid P s σ H x.1 x.2 ok hm Q q⟩
theorem dax_nil : DAX X W [] tNil xaNil := ⟨pa_nil, by
  intro A hid P s σ H r s' ok e Q q
  cases e
  exact q [] P H ok Stp.refl .nil⟩
theorem dax_cons (h1 : DEX X W e te fx_) (h2 : DAX X W es tr frx) (he : starEach (e :: es) X.env = (false, eval e X.env) :: starEach es X.env := by rfl) : DAX X W (e :: es) (tCons te tr) (xaCons fx_ frx) := ⟨pa_cons h1.p h2.p he, by
  intro A hid P s σ H r s' ok e Q q
  unfold xaCons at e
  cases hf : fx_ s with
  | none => rw [hf] at e; cases e
  | some x =>
    obtain ⟨r1, s1⟩ := x
    rw [hf] at e
    refine h1.v A hid P s σ H r1 s1 ok hf _ ?_
    cases r1 with
    | xc c => cases e; exact q
    | ok d =>
      dsimp only at e
      intro v P1 H1 ok1 st1 rv
      cases hr : frx s1 with
      | none => rw [hr] at e; cases e
      | some y =>
        obtain ⟨r2, s2⟩ := y
        rw [hr] at e
        refine h2.v A hid P1 s1 σ H1 r2 s2 ok1 hr _ ?_
        cases r2 with
        | xc c => cases e; exact fun cls P2 H2 i o st => q cls P2 H2 i o (st1.trans st)
        | ok ds => cases e; exact fun vs P2 H2 o st rr => q _ P2 H2 o (st1.trans st) (.cons (st.rp rv) rr)⟩
theorem dex_lst (h : DAX X W es tr frx) : DEX X W (.List es pos) (tLst tr) (xLst frx) := ⟨pe_lst h.p, by
  intro A hid P s σ H r s' ok e Q q
  unfold xLst at e
  cases hr : frx s with
  | none => rw [hr] at e; cases e
  | some y =>
    obtain ⟨r2, s2⟩ := y
    rw [hr] at e
    refine h.v A hid P s σ H r2 s2 ok hr _ ?_
    cases r2 with
    | xc c => cases e; exact q
    | ok ds =>
      dsimp only at e
      split at e
      · rename_i hl
        cases e
        intro vs P1 H1 ok1 st1 rr
        refine ⟨by rw [rr.length]; exact lim_le hl, fun p hp => ?_⟩
        have g := Grw.new (o := HO.lst vs) hp
        exact q _ P1 _ (ok1.grw g) (st1.trans (Stp.grw g)) (rp_newL ok1.trk hp rr)
      · cases e⟩
theorem xx_asg {tg : Expr} {js : List Nat} {g : TG} {fg : D → M Unit} (h : DEX X W e te fx_) (hg : DG X tg js g fg) (hs : swapsWithSole [tg] e pos.line X.env = pure false := by rfl) (hw : swappedStores [tg] e X.env = pure none := by rfl)
    (h1 : (assignEach [tg] X.env).map (·.2) = [assign tg X.env] := by rfl) : X1X X W (.Assign [tg] e pos) (xAsg fx_ fg) := ⟨_, ps_asg h.p hg.p hs hw h1, ev_xasg h.v hg.v⟩
end
/-! except C: suite -/
def sTryO (cs : List Str) (m : MX Fl) (ms : M Fl) : M Fl := fun s => match m s with
  | some (.ok fl, s') => some (fl, s')
  | some (.xc c, s') => if c ∈ cs then ms s' else none
  | none => none
section
variable {X : Cx} {body suite : List Stmt} {b₀ : Stmt} {m : MX Fl} {ms : M Fl} {x : Str} {cs : List Str} {np pos pos' : Pos}
theorem x1_tryOnly (T : ClF X.K X.mg x cs) (hb : ∀ (W : WX) (pn : List (Addr × Obj)) (xe : Value → Shared → Prop), Takes (X.tr pn xe) W → XSX (X.tr pn xe) W body m) (hh : ∀ (a : Addr) (pn : List (Addr × Obj)), XS (X.suite a pn) (b₀ :: suite) ms)
    (hs : X.stack = X.env :: X.outer := by rfl) (hf : X.env.frame = some X.env.locals := by rfl) (hg : Gl X x := by rfl) (hdb : (x == ("__debug__" : Str)) = false := by decide) :
    X1 X (.Try body [.ExceptHandler (some (.Name x np)) none (b₀ :: suite) pos'] [] [] pos) (sTryO cs m ms) := by
  obtain ⟨C, hm, hc⟩ := T.ex
  refine ⟨_, ps_try_only (tb := fun W D σ H => ∀ pn xe, Takes (X.tr pn xe) W → ∀ t, PSs (X.tr pn xe) body t → EvSX X.K W t m → t D σ H) (ts := fun a cls d D σ H => ∀ pn t, PSs (X.suite a pn) (b₀ :: suite) t → EvS X.K t ms → t D σ H) (Wout := fun _ _ _ _ => False) hs hf ⟨hg, hdb, .inl hm⟩ takes0
    (fun W pn xe tk _ => ?_) (fun a oe cls d pn hz hf => ?_), ?_⟩
  · obtain ⟨t, ht⟩ := hb W pn xe tk
    exact ⟨fun pins s σ H D I hw => ht.p.run pins s σ H D I (hw pn xe tk t ht.p ht.v)⟩
  · obtain ⟨t, ht⟩ := hh a ((a, oe) :: pn)
    exact ⟨fun pins s σ H D I hw => ht.p.run pins s σ H D I (hw _ t ht.p ht.v)⟩
  · intro A hid P s σ H fl s' ok e0 D q
    intro pn xe tk t _ hv
    unfold sTryO at e0
    cases hms : m s with
    | none => rw [hms] at e0; cases e0
    | some r =>
      obtain ⟨r, s1⟩ := r
      rw [hms] at e0
      refine hv A hid P s σ H r s1 ok hms D ?_
      cases r with
      | ok fl1 => cases e0; exact q
      | xc c =>
        dsimp only at e0
        split at e0
        · rename_i hcs
          intro cls σ1 P1 H1 ic ok1 st1
          obtain ⟨D0, rfl, n2⟩ := id ic
          obtain ⟨D1, n1, m1⟩ := hc c hcs
          have eC : D1 = D0 := by rw [n1] at n2; injection n2 with n2; injection n2 with n2; injection n2 with n2
          subst eC
          refine ⟨true, m1, fun _ a ha pn2 t2 _ hv2 => ?_, fun z => nomatch z⟩
          exact hv2 A hid P1 s1 σ1 H1 fl s' ok1 e0 D (q.back st1)
        · cases e0
end
/-! wp -/
section
variable {s : S} {Z : Fl → S → Prop}
@[simp ↓] theorem wp_sTryO {cs : List Str} {m : MX Fl} {ms : M Fl} : wp (sTryO cs m ms) s Z ↔ wp (α := RX Fl) m s fun r s1 => match r with
    | .ok fl => Z fl s1
    | .xc c => c ∈ cs ∧ wp ms s1 Z := by
  unfold wp sTryO
  constructor
  · rintro ⟨a, s', e, q⟩
    cases hm : m s with
    | none => rw [hm] at e; cases e
    | some x =>
      obtain ⟨r, s1⟩ := x
      rw [hm] at e
      refine ⟨r, s1, rfl, ?_⟩
      cases r with
      | ok fl => cases e; exact q
      | xc c =>
        dsimp only at e ⊢
        split at e
        · rename_i hc; exact ⟨hc, a, s', e, q⟩
        · cases e
  · rintro ⟨r, s1, e, q⟩
    rw [e]
    cases r with
    | ok fl => exact ⟨_, _, rfl, q⟩
    | xc c =>
      obtain ⟨hc, a, s', e2, q⟩ := q
      refine ⟨a, s', ?_, q⟩
      dsimp only
      rw [if_pos hc]; exact e2
@[simp ↓] theorem wp_xAsg {f : MX D} {g : D → M Unit} {Q : RX Fl → S → Prop} : wp (α := RX Fl) (xAsg f g) s Q ↔ wp (α := RX D) f s fun r s1 => match r with
    | .ok d => wp (g d) s1 fun _ s2 => Q (.ok .nx) s2
    | .xc c => Q (.xc c) s1 := by
  unfold wp xAsg
  constructor
  · rintro ⟨a, s', e, q⟩
    cases h : f s with
    | none => rw [h] at e; cases e
    | some x =>
      obtain ⟨r, s1⟩ := x
      rw [h] at e
      refine ⟨r, s1, rfl, ?_⟩
      cases r with
      | xc c => cases e; exact q
      | ok d =>
        dsimp only at e
        cases hg : g d s1 with
        | none => rw [hg] at e; cases e
        | some y => rw [hg] at e; cases e; exact ⟨y.1, y.2, hg, q⟩
  · rintro ⟨r, s1, e, q⟩
    rw [e]
    cases r with
    | xc c => exact ⟨_, _, rfl, q⟩
    | ok d =>
      obtain ⟨u, s2, e2, q⟩ := q
      refine ⟨_, _, ?_, q⟩
      dsimp only
      rw [e2]
end
end DL


namespace DL
open PySem PySem.Spec PyProof.Rows L2
/-! DL41: wp of DL40. -/
section
variable {s : S}
@[simp ↓] theorem wp_callX {sem : FSX} {fr : M (List AV)} {Q : D → S → Prop} : wp (eCallX sem fr) s Q ↔ wp fr s fun avs s1 => ∃ xs, avs.mapM (res s1) = some xs ∧ fx sem xs s1.k fun r k' => ∃ d, r = .ok d ∧ Q d ⟨s1.g, k'⟩ := by
  have h := wp_xCall (s := s) (sem := sem) (fr := fr) (Q := fun r s1 => ∃ d, r = .ok d ∧ Q d s1)
  rw [← h]
  unfold wp eCallX
  constructor
  · rintro ⟨a, s', e, q⟩
    split at e
    · rename_i d s1 hc
      cases e
      exact ⟨_, _, hc, _, rfl, q⟩
    · cases e
  · rintro ⟨r, s1, e, d, rfl, q⟩
    exact ⟨d, s1, by rw [e], q⟩
@[simp ↓] theorem wp_xE {f : M D} {Q : RX D → S → Prop} : wp (α := RX D) (xE f) s Q ↔ wp f s fun d s1 => Q (.ok d) s1 := by
  unfold wp xE
  constructor
  · rintro ⟨a, s', e, q⟩
    cases h : f s with
    | none => rw [h] at e; cases e
    | some x => rw [h] at e; cases e; exact ⟨x.1, x.2, rfl, q⟩
  · rintro ⟨a, s', e, q⟩
    exact ⟨_, _, by rw [e]; rfl, q⟩
@[simp ↓] theorem wp_xaNil {Q : RX (List D) → S → Prop} : wp (α := RX (List D)) xaNil s Q ↔ Q (.ok []) s := ⟨fun ⟨_, _, e, q⟩ => by cases e; exact q, fun q => ⟨_, _, rfl, q⟩⟩
@[simp ↓] theorem wp_xaCons {f : MX D} {fr : MX (List D)} {Q : RX (List D) → S → Prop} : wp (α := RX (List D)) (xaCons f fr) s Q ↔ wp (α := RX D) f s fun r s1 => match r with
    | .ok d => wp (α := RX (List D)) fr s1 fun r2 s2 => (match r2 with
      | .ok ds => Q (.ok (d :: ds)) s2
      | .xc c => Q (.xc c) s2)
    | .xc c => Q (.xc c) s1 := by
  unfold wp xaCons
  constructor
  · rintro ⟨a, s', e, q⟩
    cases h : f s with
    | none => rw [h] at e; cases e
    | some x =>
      obtain ⟨r, s1⟩ := x
      rw [h] at e
      refine ⟨r, s1, rfl, ?_⟩
      cases r with
      | xc c => cases e; exact q
      | ok d =>
        dsimp only at e
        cases hr : fr s1 with
        | none => rw [hr] at e; cases e
        | some y =>
          obtain ⟨r2, s2⟩ := y
          rw [hr] at e
          refine ⟨r2, s2, rfl, ?_⟩
          cases r2 with
          | ok ds => cases e; exact q
          | xc c => cases e; exact q
  · rintro ⟨r, s1, e, q⟩
    rw [e]
    cases r with
    | xc c => exact ⟨_, _, rfl, q⟩
    | ok d =>
      obtain ⟨r2, s2, e2, q⟩ := q
      dsimp only
      rw [e2]
      cases r2 with
      | ok ds => exact ⟨_, _, rfl, q⟩
      | xc c => exact ⟨_, _, rfl, q⟩
@[simp ↓] theorem wp_xLst {fr : MX (List D)} {Q : RX D → S → Prop} : wp (α := RX D) (xLst fr) s Q ↔ wp (α := RX (List D)) fr s fun r s1 => match r with
    | .ok ds => ds.length ≤ lim ∧ Q (.ok (.list ds)) s1
    | .xc c => Q (.xc c) s1 := by
  unfold wp xLst
  constructor
  · rintro ⟨a, s', e, q⟩
    cases h : fr s with
    | none => rw [h] at e; cases e
    | some x =>
      obtain ⟨r, s1⟩ := x
      rw [h] at e
      refine ⟨r, s1, rfl, ?_⟩
      cases r with
      | xc c => cases e; exact q
      | ok ds =>
        dsimp only at e ⊢
        split at e
        · rename_i hl; cases e; exact ⟨hl, q⟩
        · cases e
  · rintro ⟨r, s1, e, q⟩
    rw [e]
    cases r with
    | xc c => exact ⟨_, _, rfl, q⟩
    | ok ds =>
      obtain ⟨hl, q⟩ := q
      exact ⟨_, _, by dsimp only; rw [if_pos hl], q⟩
end
end DL


namespace DL
open PySem PySem.Spec PyProof.Rows L2
/-! DL42: dict cells: made, changed. -/
def DRep (K : PySem.W.Frag) (H : Hp) (o : HO) (t : Bool) (ds : List (D × D)) : Prop := (t = false ∧ ∃ ks, o = .dK ks ∧ RpK K H ks ds) ∨ (t = true ∧ ∃ ks, o = .dT ks ∧ RpT K H ks ds)
theorem DRep.noT {K : PySem.W.Frag} {H : Hp} {o : HO} {t : Bool} {ds : List (D × D)} (r : DRep K H o t ds) : NoT o := by
  rcases r with ⟨_, ks, rfl, _⟩ | ⟨_, ks, rfl, _⟩ <;> exact trivial
theorem DRep.mono {K : PySem.W.Frag} {H H' : Hp} {o : HO} {t : Bool} {ds : List (D × D)} (r : DRep K H o t ds) (g : Grw H H') : DRep K H' o t ds := by
  rcases r with ⟨ht, ks, h1, r⟩ | ⟨ht, ks, h1, r⟩
  · exact .inl ⟨ht, ks, h1, r.mono g⟩
  · exact .inr ⟨ht, ks, h1, r.mono g⟩
theorem DRep.at {K : PySem.W.Frag} {H G : Hp} {o : HO} {t : Bool} {ds : List (D × D)} {a : Addr} (r : DRep K H o t ds) (h : G a = some o) : (t = false ∧ ∃ ks, G a = some (.dK ks) ∧ RpK K H ks ds) ∨ t = true ∧ ∃ ks, G a = some (.dT ks) ∧ RpT K H ks ds := by
  rcases r with ⟨ht, ks, rfl, r⟩ | ⟨ht, ks, rfl, r⟩
  · exact .inl ⟨ht, ks, h, r⟩
  · exact .inr ⟨ht, ks, h, r⟩
section
variable {K : PySem.W.Frag} {A : DA} {hid P : Addr → Prop} {s : S} {σ : St} {H : Hp}
/-- a slot becomes a dict cell: the dict that was just laid at p -/
theorem SOk.set_dct {i : Nat} {p : Addr} {o : HO} {t : Bool} {ds : List (D × D)} (ok : SOk K A hid P s σ H) (hp : H p = none) (r : DRep K (mask P H) o t ds) :
    SOk K A hid (fun a => P a ∨ a = p) { s with g := s.g.set i (some (.dct t ds)) } (σ.set i (some (.ref p))) (upd H p o) := by
  have ok1 : SOk K A hid (fun a => P a ∨ a = p) s σ (upd H p o) := ok.reserve hp r.noT
  have hl := ok.len
  have g : Grw (mask P H) (mask (fun a => P a ∨ a = p) (upd H p o)) := mask_grw fun a u e c => ⟨fun z => z.elim c fun z => ne_of_none e hp z, by rw [upd_ne (ne_of_none e hp)]; exact e⟩
  have cellNe : ∀ (j : Nat) (w : Val) (a : Addr), s.g[j]? = some (some w) → isCell w = true → σ[j]? = some (some (.ref a)) → a ≠ p := fun j w a e c e3 z => by
    subst z
    have q := ok.slot j w e
    cases w with
    | dat d => cases c
    | deck => cases c
    | obj o => cases c
    | lst es =>
      obtain ⟨b, us, e5, h1, _⟩ := q
      rw [e3] at e5; cases e5
      rw [hp] at h1; cases h1
    | dct tt es =>
      obtain ⟨b, e5, _, _, _, h1⟩ := q
      rw [e3] at e5; cases e5
      rcases h1 with ⟨_, _, h1, _⟩ | ⟨_, _, h1, _⟩ <;> (rw [hp] at h1; cases h1)
  refine ⟨ok1.trk, ok1.hp, ok1.hd, by simpa using ok.len, fun j w e => ?_, fun j l w u a e1 e2 c1 c2 e3 e4 => ?_, ok1.deck⟩
  · show SlotOk K A hid _ _ (σ.set i (some (.ref p)))[j]? w
    have e : (s.g.set i (some (.dct t ds)))[j]? = some (some w) := e
    rw [get_set] at e ⊢
    rw [← hl]
    split at e
    · cases e
      rw [if_pos (by assumption)]
      exact ⟨p, rfl, .inr rfl, fun z => ok.free hp (ok.hp _ z), fun z => ok.free hp (ok.deck.rs _ z), (r.mono g).at upd_same⟩
    · rw [if_neg (by assumption)]
      exact ok1.slot j w e
  · have e1 : (s.g.set i (some (.dct t ds)))[j]? = some (some w) := e1
    have e2 : (s.g.set i (some (.dct t ds)))[l]? = some (some u) := e2
    rw [get_set] at e1 e2 e3 e4
    rw [← hl] at e3 e4
    by_cases k1 : i = j ∧ j < s.g.length
    · rw [if_pos k1] at e1 e3
      cases e3
      by_cases k2 : i = l ∧ l < s.g.length
      · exact k1.1.symm.trans k2.1
      · rw [if_neg k2] at e2 e4
        exact absurd rfl (cellNe l u _ e2 c2 e4)
    · rw [if_neg k1] at e1 e3
      by_cases k2 : i = l ∧ l < s.g.length
      · rw [if_pos k2] at e2 e4
        cases e4
        exact absurd rfl (cellNe j w _ e1 c1 e3)
      · rw [if_neg k2] at e2 e4
        exact ok.apart j l w u a e1 e2 c1 c2 e3 e4
/-- a dict cell is changed -/
theorem SOk.put_dct {i : Nat} {a : Addr} {o' : HO} {t t' : Bool} {ds ds' : List (D × D)} (ok : SOk K A hid P s σ H) (hi : s.g[i]? = some (some (.dct t ds))) (ha : σ[i]? = some (some (.ref a))) (r : DRep K (mask P H) o' t' ds') :
    SOk K A hid P { s with g := s.g.set i (some (.dct t' ds')) } σ (upd H a o') ∧ Stp hid P P H (upd H a o') := by
  obtain ⟨b, e, h2, h3, h4, _⟩ := ok.slot i _ hi
  rw [ha] at e; cases e
  have hil : i < s.g.length := (List.getElem?_eq_some_iff.mp hi).1
  have g : Grw (mask P H) (mask P (upd H a o')) := mask_grw fun b u e c => ⟨c, by rw [upd_ne (show b ≠ a from fun z => c (by rw [z]; exact h2))]; exact e⟩
  have nA : ∀ b, A.is b → b ≠ a := fun b z w => h4 (w ▸ z)
  have oth : ∀ (j : Nat) (w : Val) (b : Addr), j ≠ i → s.g[j]? = some (some w) → isCell w = true → σ[j]? = some (some (.ref b)) → b ≠ a := fun j w b hj e c e3 z => by
    subst z
    exact hj (ok.apart j i w _ _ e hi c rfl e3 ha)
  refine ⟨⟨fun b z => ?_, ok.hp, ok.hd, by simpa using ok.len, fun j w e => ?_, fun j l w u b e1 e2 c1 c2 e3 e4 => ?_, ?_⟩, ⟨fun b o e c => ?_, fun _ _ _ c => c⟩⟩
  · by_cases hb : b = a
    · subst hb; exact ⟨_, upd_same, r.noT⟩
    · obtain ⟨o, e, n⟩ := ok.trk b z
      exact ⟨o, by rw [upd_ne hb]; exact e, n⟩
  · show SlotOk K A hid P (upd H a o') σ[j]? w
    have e : (s.g.set i (some (.dct t' ds')))[j]? = some (some w) := e
    rw [get_set] at e
    by_cases k1 : i = j ∧ j < s.g.length
    · rw [if_pos k1] at e
      cases e
      exact ⟨a, by rw [← k1.1]; exact ha, h2, h3, h4, (r.mono g).at upd_same⟩
    · rw [if_neg k1] at e
      have hj : j ≠ i := fun z => k1 ⟨z.symm, by rw [z]; exact hil⟩
      have q := ok.slot j w e
      cases w with
      | dat d => obtain ⟨u, e5, r⟩ := q; exact ⟨u, e5, r.mono g⟩
      | lst es => obtain ⟨b, us, e5, k1, k2, k3, k4, r⟩ := q; exact ⟨b, us, e5, by rw [upd_ne (oth j _ b hj e rfl e5)]; exact k1, k2, k3, k4, r.mono g⟩
      | dct tt es =>
        obtain ⟨b, e5, k2, k3, k4, r⟩ := q
        refine ⟨b, e5, k2, k3, k4, ?_⟩
        rcases r with ⟨ht, ks, k1, r⟩ | ⟨ht, ks, k1, r⟩
        · exact .inl ⟨ht, ks, by rw [upd_ne (oth j _ b hj e rfl e5)]; exact k1, r.mono g⟩
        · exact .inr ⟨ht, ks, by rw [upd_ne (oth j _ b hj e rfl e5)]; exact k1, r.mono g⟩
      | deck => exact q
      | obj o =>
        obtain ⟨y, h1, h2, h3⟩ := q
        exact ⟨y, h1, h2, h3.move g fun b hb u e => by rw [upd_ne (nA b (.inr (.inr (.inr ⟨y, h1, hb⟩))))]; exact e⟩
  · have e1 : (s.g.set i (some (.dct t' ds')))[j]? = some (some w) := e1
    have e2 : (s.g.set i (some (.dct t' ds')))[l]? = some (some u) := e2
    rw [get_set] at e1 e2
    have back : ∀ (j : Nat) (w : Val), (if i = j ∧ j < s.g.length then some (some (Val.dct t' ds')) else s.g[j]?) = some (some w) → isCell w = true → ∃ w', s.g[j]? = some (some w') ∧ isCell w' = true := fun j w e c => by
      by_cases k : i = j ∧ j < s.g.length
      · exact ⟨_, by rw [← k.1]; exact hi, rfl⟩
      · rw [if_neg k] at e; exact ⟨w, e, c⟩
    obtain ⟨w', f1, g1⟩ := back j w e1 c1
    obtain ⟨u', f2, g2⟩ := back l u e2 c2
    exact ok.apart j l w' u' b f1 f2 g1 g2 e3 e4
  · have d := ok.deck
    exact ⟨by rw [upd_ne (nA _ (.inl rfl))]; exact d.ho, by rw [upd_ne (nA _ (.inr (.inl rfl)))]; exact d.hg, by rw [upd_ne (nA _ (.inr (.inr (.inl rfl))))]; exact d.hc, d.rs, d.og, d.oc, d.gc⟩
  · rw [upd_ne]
    · exact e
    · intro z
      subst z
      rcases c with c | c
      · exact h3 c
      · exact c h2
end
/-! x = {} -/
def sNewD (i : Nat) (t : Bool) : M Fl := fun s => some (.nx, { s with g := s.g.set i (some (.dct t [])) })
section
variable {X : Cx} {pos p0 : Pos} {K : PySem.W.Frag}
theorem es_newK {i : Nat} : EvS K (tAsg tDNewK (gName i)) (sNewD i false) := by
  intro A hid P s σ H fl s' ok e D q
  cases e
  intro p hp
  exact q _ _ _ (ok.set_dct hp (.inl ⟨rfl, [], rfl, .nil⟩)) (Stp.reserve hp)
theorem es_newT {i : Nat} : EvS K (tAsg tDNewT (gName i)) (sNewD i true) := by
  intro A hid P s σ H fl s' ok e D q
  cases e
  intro p hp
  exact q _ _ _ (ok.set_dct hp (.inr ⟨rfl, [], rfl, .nil⟩)) (Stp.reserve hp)
end
end DL


namespace DL
open PySem PySem.Spec PyProof.Rows L2
/-! DL43: dicts with tuples as keys, as data; x[k] = v on a dict cell. -/
abbrev tupD (k : List Key) : D := .tuple (k.map keyD)
def kTs : List D → Option (List Key)
  | [] => some []
  | d :: r => match kD d, kTs r with
    | some k, some ks => some (k :: ks)
    | _, _ => none
def kT : D → Option (List Key)
  | .tuple ds => kTs ds
  | _ => none
theorem kTs_map : ∀ k : List Key, kTs (k.map keyD) = some k
  | [] => rfl
  | x :: r => by rw [List.map_cons]; unfold kTs; rw [kD_keyD, kTs_map r]
theorem kT_tupD (k : List Key) : kT (tupD k) = some k := kTs_map k
theorem kTs_some : ∀ {ds : List D} {k : List Key}, kTs ds = some k → ds = k.map keyD
  | [], k, h => by cases h; rfl
  | d :: r, k, h => by
    unfold kTs at h
    cases h1 : kD d with
    | none => simp only [h1] at h; cases h
    | some a =>
      cases h2 : kTs r with
      | none => simp only [h1, h2] at h; cases h
      | some b =>
        simp only [h1, h2] at h
        cases h
        rw [kD_some h1, kTs_some h2]; rfl
theorem kT_some {d : D} {k : List Key} (h : kT d = some k) : d = tupD k := by
  cases d with
  | tuple ds => unfold tupD; rw [kTs_some h]
  | _ => cases h
theorem RpA.keys {K : PySem.W.Frag} {H : Hp} : ∀ {vs : List V} {k : List Key}, RpA K H vs (k.map keyD) → vs = k.map kV
  | [], [], _ => rfl
  | [], _ :: _, h => by cases h
  | v :: vs, [], h => by cases h
  | v :: vs, x :: r, h => by
    cases h with
    | cons a b => rw [List.map_cons, a.key, RpA.keys b]
/-- a tuple of keys stands tracked -/
theorem Rp.tkey {K : PySem.W.Frag} {P : Addr → Prop} {H : Hp} {v : V} {k : List Key} (h : Rp K (mask P H) v (tupD k)) : ∃ b, v = .ref b ∧ ¬ P b ∧ H b = some (.tup (k.map kV)) := by
  cases h with
  | @tup a vs _ e r =>
    obtain ⟨n, e⟩ := mask_some.mp e
    exact ⟨a, rfl, n, by rw [← r.keys]; exact e⟩
def sameT (a b : D) : Bool := (kT a).isSome && decide (kT a = kT b)
theorem sameT_key (a b : List Key) : sameT (tupD a) (tupD b) = decide (a = b) := by
  unfold sameT
  rw [kT_tupD, kT_tupD]
  by_cases h : a = b <;> simp [h]
def lookT (ds : List (D × D)) (y : D) : Option D := (ds.find? fun p => sameT p.1 y).map (·.2)
theorem RpT.look {K : PySem.W.Frag} {H : Hp} {k : List Key} : ∀ {kvs : List (List Key × V)} {ds : List (D × D)}, RpT K H kvs ds → (∃ v d, valV kvs k = some v ∧ lookT ds (tupD k) = some d ∧ Rp K H v d) ∨ (valV kvs k = none ∧ lookT ds (tupD k) = none)
  | _, _, .nil => .inr ⟨rfl, rfl⟩
  | (k', v) :: r, (_, d) :: ds, .cons h t => by
    by_cases e : k' = k
    · subst e
      refine .inl ⟨v, d, by rw [valV_pos rfl], ?_, h⟩
      unfold lookT
      rw [List.find?_cons_of_pos (by show sameT (tupD k') (tupD k') = true; rw [sameT_key]; simp)]
      rfl
    · have e2 : lookT ((tupD k', d) :: ds) (tupD k) = lookT ds (tupD k) := by
        unfold lookT
        rw [List.find?_cons_of_neg (by show ¬ sameT (tupD k') (tupD k) = true; rw [sameT_key]; simp [e])]
      rw [valV_neg (show ¬ (k', v).1 = k from e), e2]
      exact RpT.look t
def putT (ds : List (D × D)) (k v : D) : List (D × D) := if (ds.any fun p => sameT p.1 k) = true then ds.map (fun p => if sameT p.1 k = true then (p.1, v) else p) else ds ++ [(k, v)]
theorem RpT.anyk {K : PySem.W.Frag} {H : Hp} {k : List Key} : ∀ {kvs : List (List Key × V)} {ds : List (D × D)}, RpT K H kvs ds → (kvs.any fun kv => decide (kv.1 = k)) = ds.any fun p => sameT p.1 (tupD k)
  | _, _, .nil => rfl
  | _, _, .cons h t => by rw [List.any_cons, List.any_cons, sameT_key, RpT.anyk t]
theorem RpT.app {K : PySem.W.Frag} {H : Hp} {k : List Key} {v : V} {d : D} (hv : Rp K H v d) : ∀ {kvs : List (List Key × V)} {ds : List (D × D)}, RpT K H kvs ds → RpT K H (kvs ++ [(k, v)]) (ds ++ [(tupD k, d)])
  | _, _, .nil => .cons hv .nil
  | _, _, .cons h t => .cons h (RpT.app hv t)
theorem RpT.upd {K : PySem.W.Frag} {H : Hp} {k : List Key} {v : V} {d : D} (hv : Rp K H v d) : ∀ {kvs : List (List Key × V)} {ds : List (D × D)}, RpT K H kvs ds →
    RpT K H (kvs.map fun kv => if kv.1 = k then (kv.1, v) else kv) (ds.map fun p => if sameT p.1 (tupD k) = true then (p.1, d) else p)
  | _, _, .nil => .nil
  | (k', u) :: r, (_, e) :: ds, .cons h t => by
    rw [List.map_cons, List.map_cons]
    have e1 : (if sameT (tupD k', e).1 (tupD k) = true then ((tupD k', e).1, d) else (tupD k', e)) = (tupD k', if k' = k then d else e) := by
      show (if sameT (tupD k') (tupD k) = true then _ else _) = _
      rw [sameT_key]
      by_cases q : k' = k <;> simp [q]
    have e2 : (if (k', u).1 = k then ((k', u).1, v) else (k', u)) = (k', if k' = k then v else u) := by
      by_cases q : k' = k <;> simp [q]
    rw [e1, e2]
    refine .cons ?_ (RpT.upd hv t)
    by_cases q : k' = k
    · rw [if_pos q, if_pos q]; exact hv
    · rw [if_neg q, if_neg q]; exact h
theorem RpT.put {K : PySem.W.Frag} {H : Hp} {k : List Key} {v : V} {d : D} {kvs : List (List Key × V)} {ds : List (D × D)} (r : RpT K H kvs ds) (hv : Rp K H v d) : RpT K H (putK kvs k v) (putT ds (tupD k) d) := by
  unfold putK putT
  rw [r.anyk (k := k)]
  split
  · exact r.upd hv
  · exact r.app hv
theorem RpT.length {K : PySem.W.Frag} {H : Hp} : ∀ {kvs : List (List Key × V)} {ds : List (D × D)}, RpT K H kvs ds → kvs.length = ds.length
  | _, _, .nil => rfl
  | _, _, .cons _ t => by rw [List.length_cons, List.length_cons, RpT.length t]
/-! x[k] = v -/
def putU (t : Bool) (ds : List (D × D)) (j d : D) : Option (List (D × D)) := if t = true then (kT j).map fun _ => putT ds j d else (kD j).map fun _ => putD ds j d
def gPutD (i : Nat) (fi : M D) (d : D) : M Unit := fun s => match s.g[i]? with
  | some (some (.dct _ _)) => bd fi (fun j s1 => match s1.g[i]? with
      | some (some (.dct t ds)) => if ds.length ≤ lim then (match putU t ds j d with
          | some ds' => some ((), { s1 with g := s1.g.set i (some (.dct t ds')) })
          | none => none) else none
      | _ => none) s
  | _ => none
section
variable {X : Cx} {K : PySem.W.Frag} {ti : TE} {fi : M D}
theorem eg_putD {i : Nat} (h : EvE K ti fi) : EvG K [] (gSub (tVar i) ti rSetD) (gPutD i fi) := by
  intro A hid P s σ H v d s' ok r e Q q
  unfold gPutD at e
  split at e
  · rename_i t0 ds0 hg0
    obtain ⟨j, s1, h1, e⟩ := bd_some e
    obtain ⟨a, ea, _⟩ := ok.slot i _ hg0
    refine ⟨.ref a, ea, ?_⟩
    refine h A hid P s σ H j s1 ok h1 _ fun w P1 H1 ok1 st1 rw_ => ?_
    split at e
    · rename_i t ds hg
      split at e
      · rename_i hl
        split at e
        · rename_i ds' hp
          cases e
          obtain ⟨b, eb, m2, m3, m4, mr⟩ := ok1.slot i _ hg
          rw [ea] at eb; cases eb
          rcases mr with ⟨ht, ks, m1, mr⟩ | ⟨ht, ks, m1, mr⟩
          · subst ht
            unfold putU at hp
            rw [if_neg (by decide)] at hp
            cases hk : kD j with
            | none => rw [hk] at hp; cases hp
            | some k =>
              rw [hk] at hp; cases hp
              obtain rfl := kD_some hk
              obtain ⟨ok2, st2⟩ := ok1.put_dct (o' := .dK (putK ks k v)) (t' := false) hg ea (.inl ⟨rfl, _, rfl, mr.put (st1.rp r)⟩)
              exact ⟨a, _, rfl, by rw [rw_.key]; exact DPut.k m1 (by rw [mr.length]; exact lim_lt hl), q σ P1 _ ok2 (st1.trans st2) OutSame.refl⟩
          · subst ht
            unfold putU at hp
            rw [if_pos rfl] at hp
            cases hk : kT j with
            | none => rw [hk] at hp; cases hp
            | some k =>
              rw [hk] at hp; cases hp
              obtain rfl := kT_some hk
              obtain ⟨c, rfl, _, hc⟩ := rw_.tkey
              obtain ⟨ok2, st2⟩ := ok1.put_dct (o' := .dT (putK ks k v)) (t' := true) hg ea (.inr ⟨rfl, _, rfl, mr.put (st1.rp r)⟩)
              exact ⟨a, _, rfl, DPut.t m1 hc (by rw [mr.length]; exact lim_lt hl), q σ P1 _ ok2 (st1.trans st2) OutSame.refl⟩
        · cases e
      · cases e
    · cases e
  · cases e
theorem dg_putD (i : Nat) {x : Str} {px pos : Pos} {e : Expr} (hu : X.A.units + 1 < cLine) (h : DE X e ti fi) (hN : X.N[i]? = some x := by rfl) (hv : Vis X.env.scope x := by first | exact Or.inl rfl | exact Or.inr (Or.inl rfl) | exact Or.inr (Or.inr rfl))
    (hd : (x == ("__debug__" : Str)) = false := by decide) (hcd : (x == ("__classdict__" : Str)) = false := by decide)
    (ha : ∀ v, assign (.Subscript (.Name x px) e pos) X.env v = (do
      let ov ← holding [v] (eval (.Name x px) X.env)
      let iv ← holding [v, ov] (eval e X.env)
      standAt pos
      holding [v, ov, iv] (setItem ov iv v)
      release [v, ov, iv] []) := by intro _; rfl) : DG X (.Subscript (.Name x px) e pos) [] (gSub (tVar i) ti rSetD) (gPutD i fi) :=
  ⟨pg_sub (pe_var hN hv hd hcd) h.p (set_dict hu) ha, eg_putD h.v⟩
end
end DL


namespace DL
open PySem PySem.Spec PyProof.Rows L2
/-! DL44: a dict cell looked at: k in x, x[k]. -/
def lookU (t : Bool) (ds : List (D × D)) (j : D) : Option (Option D) := if t = true then (kT j).map fun _ => lookT ds j else (kD j).map fun _ => lookD ds j
section
variable {K : PySem.W.Frag} {A : DA} {hid P : Addr → Prop} {s : S} {σ : St} {H : Hp}
theorem SOk.getD {i : Nat} {t : Bool} {ds : List (D × D)} {w : V} {j : D} {o : Option D} (ok : SOk K A hid P s σ H) (hg : s.g[i]? = some (some (.dct t ds))) (r : Rp K (mask P H) w j) (e : lookU t ds j = some o) :
    ∃ a ov, σ[i]? = some (some (.ref a)) ∧ DGet H a w ov ∧ ov.isSome = o.isSome ∧ ∀ d, o = some d → ∃ v, ov = some v ∧ Rp K (mask P H) v d := by
  obtain ⟨a, ea, m2, m3, m4, mr⟩ := ok.slot i _ hg
  rcases mr with ⟨ht, ks, m1, mr⟩ | ⟨ht, ks, m1, mr⟩
  · subst ht
    unfold lookU at e
    rw [if_neg (by decide)] at e
    cases hk : kD j with
    | none => rw [hk] at e; cases e
    | some k =>
      rw [hk] at e; cases e
      obtain rfl := kD_some hk
      refine ⟨a, valV ks k, ea, by rw [r.key]; exact DGet.k m1, ?_⟩
      rcases mr.look (k := k) with ⟨v', d', q1, q2, q3⟩ | ⟨q1, q2⟩
      · rw [q1, q2]; exact ⟨rfl, fun d hd => by cases hd; exact ⟨v', rfl, q3⟩⟩
      · rw [q1, q2]; exact ⟨rfl, fun d hd => by cases hd⟩
  · subst ht
    unfold lookU at e
    rw [if_pos rfl] at e
    cases hk : kT j with
    | none => rw [hk] at e; cases e
    | some k =>
      rw [hk] at e; cases e
      obtain rfl := kT_some hk
      obtain ⟨c, rfl, _, hc⟩ := r.tkey
      refine ⟨a, valV ks k, ea, DGet.t m1 hc, ?_⟩
      rcases mr.look (k := k) with ⟨v', d', q1, q2, q3⟩ | ⟨q1, q2⟩
      · rw [q1, q2]; exact ⟨rfl, fun d hd => by cases hd; exact ⟨v', rfl, q3⟩⟩
      · rw [q1, q2]; exact ⟨rfl, fun d hd => by cases hd⟩
end
def eInD (neg : Bool) (fb : M D) (i : Nat) : M D := bd fb fun y => fun s1 => match s1.g[i]? with
  | some (some (.dct t ds)) => (lookU t ds y).map fun o => (.bool (if neg = true then !o.isSome else o.isSome), s1)
  | _ => none
def eGetD (i : Nat) (fb : M D) : M D := fun s => match s.g[i]? with
  | some (some (.dct _ _)) => bd fb (fun y s1 => match s1.g[i]? with
    | some (some (.dct t ds)) => (match lookU t ds y with
      | some (some d) => some (d, s1)
      | _ => none)
    | _ => none) s
  | _ => none
section
variable {X : Cx} {K : PySem.W.Frag} {tb : TE} {fb : M D} {i : Nat} {b : Expr} {pos : Pos}
theorem ev_inD (h : EvE K tb fb) : EvE K (tDIn tb (tVar i)) (eInD false fb i) := by
  intro A hid P s σ H d s' ok e Q q
  obtain ⟨y, s1, h1, e⟩ := bd_some e
  refine h A hid P s σ H y s1 ok h1 _ fun w P1 H1 ok1 st1 r1 => ?_
  split at e
  · rename_i t ds hg
    cases hl : lookU t ds y with
    | none => rw [hl] at e; cases e
    | some o =>
      rw [hl] at e; cases e
      obtain ⟨a, ov, ea, g, z, _⟩ := ok1.getD hg r1 hl
      refine ⟨_, ea, a, ov, rfl, g, ?_⟩
      rw [z]
      exact q _ P1 H1 ok1 st1 (.bl _)
  · cases e
theorem ev_notInD (h : EvE K tb fb) : EvE K (tDNotIn tb (tVar i)) (eInD true fb i) := by
  intro A hid P s σ H d s' ok e Q q
  obtain ⟨y, s1, h1, e⟩ := bd_some e
  refine h A hid P s σ H y s1 ok h1 _ fun w P1 H1 ok1 st1 r1 => ?_
  split at e
  · rename_i t ds hg
    cases hl : lookU t ds y with
    | none => rw [hl] at e; cases e
    | some o =>
      rw [hl] at e; cases e
      obtain ⟨a, ov, ea, g, z, _⟩ := ok1.getD hg r1 hl
      refine ⟨_, ea, a, ov, rfl, g, ?_⟩
      rw [z]
      exact q _ P1 H1 ok1 st1 (.bl _)
  · cases e
theorem ev_getD (h : EvE K tb fb) : EvE K (tDGet (tVar i) tb) (eGetD i fb) := by
  intro A hid P s σ H d s' ok e Q q
  unfold eGetD at e
  split at e
  · rename_i t0 ds0 hg0
    obtain ⟨y, s1, h1, e⟩ := bd_some e
    obtain ⟨a0, ea0, _⟩ := ok.slot i _ hg0
    refine ⟨_, ea0, h A hid P s σ H y s1 ok h1 _ fun w P1 H1 ok1 st1 r1 => ?_⟩
    split at e
    · rename_i t ds hg
      split at e
      · rename_i d' hl
        cases e
        obtain ⟨a, ov, ea, g, z, hd⟩ := ok1.getD hg r1 hl
        rw [ea0] at ea; cases ea
        obtain ⟨v, rfl, rv⟩ := hd _ rfl
        exact ⟨a0, v, rfl, g, q v P1 H1 ok1 st1 rv⟩
      · cases e
    · cases e
  · cases e
theorem de_inD (i : Nat) {x : Str} {px : Pos} (hu : X.A.units + 1 < cLine) (h : DE X b tb fb) (hN : X.N[i]? = some x := by rfl) (hv : Vis X.env.scope x := by first | exact Or.inl rfl | exact Or.inr (Or.inl rfl) | exact Or.inr (Or.inr rfl)) (hd : (x == ("__debug__" : Str)) = false := by decide) (hcd : (x == ("__classdict__" : Str)) = false := by decide) (hm : behindInMarks .In (.Name x px) = false := by rfl) : DE X (.Compare b [.In] [.Name x px] pos) (tDIn tb (tVar i)) (eInD false fb i) :=
  ⟨pe_cmp (pc_din hu h.p (pe_var hN hv hd hcd)) hm, ev_inD h.v⟩
theorem de_notInD (i : Nat) {x : Str} {px : Pos} (hu : X.A.units + 1 < cLine) (h : DE X b tb fb) (hN : X.N[i]? = some x := by rfl) (hv : Vis X.env.scope x := by first | exact Or.inl rfl | exact Or.inr (Or.inl rfl) | exact Or.inr (Or.inr rfl)) (hd : (x == ("__debug__" : Str)) = false := by decide) (hcd : (x == ("__classdict__" : Str)) = false := by decide) (hm : behindInMarks .NotIn (.Name x px) = false := by rfl) : DE X (.Compare b [.NotIn] [.Name x px] pos) (tDNotIn tb (tVar i)) (eInD true fb i) :=
  ⟨pe_cmp (pc_dnotin hu h.p (pe_var hN hv hd hcd)) hm, ev_notInD h.v⟩
theorem dt_inD (i : Nat) {x : Str} {px : Pos} (hu : X.A.units + 1 < cLine) (h : DE X b tb fb) (hN : X.N[i]? = some x := by rfl) (hv : Vis X.env.scope x := by first | exact Or.inl rfl | exact Or.inr (Or.inl rfl) | exact Or.inr (Or.inr rfl)) (hd : (x == ("__debug__" : Str)) = false := by decide) (hcd : (x == ("__classdict__" : Str)) = false := by decide) (hm : behindInMarks .In (.Name x px) = false := by rfl) : DT X (.Compare b [.In] [.Name x px] pos) (tB (tDIn tb (tVar i))) (tV (eInD false fb i)) :=
  ⟨pt_cmp (pc_din hu h.p (pe_var hN hv hd hcd)) hm, ev_tV (ev_inD h.v)⟩
theorem dt_notInD (i : Nat) {x : Str} {px : Pos} (hu : X.A.units + 1 < cLine) (h : DE X b tb fb) (hN : X.N[i]? = some x := by rfl) (hv : Vis X.env.scope x := by first | exact Or.inl rfl | exact Or.inr (Or.inl rfl) | exact Or.inr (Or.inr rfl)) (hd : (x == ("__debug__" : Str)) = false := by decide) (hcd : (x == ("__classdict__" : Str)) = false := by decide) (hm : behindInMarks .NotIn (.Name x px) = false := by rfl) : DT X (.Compare b [.NotIn] [.Name x px] pos) (tB (tDNotIn tb (tVar i))) (tV (eInD true fb i)) :=
  ⟨pt_cmp (pc_dnotin hu h.p (pe_var hN hv hd hcd)) hm, ev_tV (ev_notInD h.v)⟩
theorem de_getD (i : Nat) {x : Str} {px : Pos} (hu : X.A.units + 1 < cLine) (h : DE X b tb fb) (hN : X.N[i]? = some x := by rfl) (hv : Vis X.env.scope x := by first | exact Or.inl rfl | exact Or.inr (Or.inl rfl) | exact Or.inr (Or.inr rfl)) (hd : (x == ("__debug__" : Str)) = false := by decide) (hcd : (x == ("__classdict__" : Str)) = false := by decide) (hs : NoSl b := by exact fun _ _ => rfl) : DE X (.Subscript (.Name x px) b pos) (tDGet (tVar i) tb) (eGetD i fb) :=
  ⟨pe_dget hu (pe_var hN hv hd hcd) h.p hs, ev_getD h.v⟩
theorem ds_newK (i : Nat) {x : Str} {px p0 : Pos} (hN0 : X.N.Nodup) (hN : X.N[i]? = some x := by rfl) (hx : Loc X.env.scope x := by first | exact Or.inl rfl | exact Or.inr rfl) (hf : X.fn x = true ∨ X.env.scope.names.lookup x = some .local := by first | exact .inl rfl | exact .inr rfl)
    (hs : swapsWithSole [.Name x px] (.Dict [] [] p0) pos.line X.env = pure false := by rfl) (hw : swappedStores [.Name x px] (.Dict [] [] p0) X.env = pure none := by rfl) (h1 : (assignEach [.Name x px] X.env).map (·.2) = [assign (.Name x px) X.env] := by rfl) :
    DS X (.Assign [.Name x px] (.Dict [] [] p0) pos) (tAsg tDNewK (gName i)) (sNewD i false) := ⟨ps_asg pe_dnewK (pg_name hN0 hN hx hf) hs hw h1, es_newK⟩
theorem ds_newT (i : Nat) {x : Str} {px p0 : Pos} (hN0 : X.N.Nodup) (hN : X.N[i]? = some x := by rfl) (hx : Loc X.env.scope x := by first | exact Or.inl rfl | exact Or.inr rfl) (hf : X.fn x = true ∨ X.env.scope.names.lookup x = some .local := by first | exact .inl rfl | exact .inr rfl)
    (hs : swapsWithSole [.Name x px] (.Dict [] [] p0) pos.line X.env = pure false := by rfl) (hw : swappedStores [.Name x px] (.Dict [] [] p0) X.env = pure none := by rfl) (h1 : (assignEach [.Name x px] X.env).map (·.2) = [assign (.Name x px) X.env] := by rfl) :
    DS X (.Assign [.Name x px] (.Dict [] [] p0) pos) (tAsg tDNewT (gName i)) (sNewD i true) := ⟨ps_asg pe_dnewT (pg_name hN0 hN hx hf) hs hw h1, es_newT⟩
end
end DL


namespace DL
open PySem PySem.Spec PyProof.Rows L2
/-! DL45: wp of dict cells. -/
section
variable {s : S}
@[simp ↓] theorem wp_sNewD {i : Nat} {t : Bool} {Z : Fl → S → Prop} : wp (sNewD i t) s Z ↔ Z .nx ⟨s.g.set i (some (.dct t [])), s.k⟩ := ⟨fun ⟨_, _, e, q⟩ => by cases e; exact q, fun q => ⟨_, _, rfl, q⟩⟩
@[simp ↓] theorem wp_eInD {neg : Bool} {fb : M D} {i : Nat} {Q : D → S → Prop} : wp (eInD neg fb i) s Q ↔ wp fb s fun y s1 => ∃ t ds o, s1.g[i]? = some (some (.dct t ds)) ∧ lookU t ds y = some o ∧ Q (.bool (if neg = true then !o.isSome else o.isSome)) s1 := by
  unfold eInD
  rw [wp_bd]
  constructor <;> intro h <;> refine wp_mono h fun y s1 q => ?_
  · obtain ⟨d, s2, e, q⟩ := q
    dsimp only at e
    split at e
    · rename_i t ds hg
      cases hl : lookU t ds y with
      | none => rw [hl] at e; cases e
      | some o => rw [hl] at e; cases e; exact ⟨t, ds, o, hg, hl, q⟩
    · cases e
  · obtain ⟨t, ds, o, hg, hl, q⟩ := q
    refine ⟨_, s1, ?_, q⟩
    simp only [hg, hl, Option.map_some]
end
end DL


namespace DL
open PySem PySem.Spec PyProof.Rows L2
/-! DL46: sorted(set(x)), x a list of ints, any number of them. -/
section
variable {P : Program} {w : World} {A : Around} {E : Value → Shared → Prop} {s : Shared}
abbrev setO0 (w : World) : Obj := { cls := .type "set", dict := none, data := .set #[] 0 (.fresh 0 0 (!w.params.followText "set-order")) }
/-- set(xs), xs a list of ints -/
theorem call_setLI {l : Addr} {items : Array Value} (ns : List Int) {Q : Value → Shared → Prop} (hh : A.handled = none) (hl : s.heap.IsList l items) (hit : IntsAre items.toList ns) (hb : ns.length + 1 < scanBound)
    (h : ∀ (h' : Heap) (tk c : Nat), SetR w h' s.heap.objs.size (fun j => decide (j ∈ ns)) c → c ≤ ns.length → (∀ b o, s.heap.get? b = some o → h'.get? b = some o) → Q (.ref s.heap.objs.size) { s with heap := h', toks := tk }) :
    wpAny (model P w) A (call (.type "set") [.ref l]) Q E s := by
  have zsz : items.size = ns.length := by
    have q := IntsAre.length hit
    rw [Array.length_toList] at q
    exact q
  obtain ⟨c0, tl, hmro⟩ := F.called_set.mro
  have hmade := F.called_set.made
  have hsub := F.called_set.sub
  refine wpAny_call (codeAny_of_tree ?_)
  show wpAny _ _ (callAny (.type "set") _) _ _ _
  refine wpAny_pure ⟨Code.quiet_builtin _ (by decide +kernel), codeAny_builtin F.entry_type_call ?_⟩
  rw [Around.under_plain (weight_type_call_type "set" [.ref l] []) rfl]
  have g1 := F.called_set.notType
  have g2 := F.called_set.canCreate
  have g3 := F.typeCall_set_1 (.ref l)
  repeat (any_goals (first | assumption | wp_step))
  refine codeAny_mono (code_set_led1 (.ref l) (E := E) (Q₁ := fun obj s₁ => obj = .ref s.heap.objs.size ∧ s₁ = { s with heap := s.heap.push (setO0 w) }) ⟨rfl, rfl⟩) fun r s₁ hr => ?_
  cases r with
  | error e => exact hr
  | ok fl =>
    cases fl with
    | ret obj =>
      obtain ⟨rfl, rfl⟩ := hr
      have kS : (s.heap.push (setO0 w)).get? s.heap.objs.size = some (setO0 w) := Heap.get?_push_size _ rfl
      have kT : Shared.TypeIs { s with heap := s.heap.push (setO0 w) } (.ref s.heap.objs.size) "set" := ⟨_, kS, rfl⟩
      have k1 := F.called_set.init.lookup
      have k2 := F.called_set.init.bind (.ref s.heap.objs.size)
      repeat (any_goals (first | assumption | wp_step))
      refine codeAny_mono (codeAny_call_builtin (R := wants (fun r s₂ => r = .none ∧ ∃ h' tk c, s₂ = { s with heap := h', toks := tk } ∧ SetR w h' s.heap.objs.size (fun j => decide (j ∈ ns)) c ∧ c ≤ ns.length ∧
          (∀ b o, s.heap.get? b = some o → h'.get? b = some o)) E) F.called_set.init.plain F.entry_set_init (check_set_init_1 kT ?_)) fun r₂ s₂ hr₂ => ?_
      · obtain ⟨ol, hol, hcl, nl, hdl⟩ := hl
        obtain ⟨ocls, odict, odata, oslots⟩ := ol
        simp only at hcl hdl
        subst hcl; subst hdl
        have holS : (s.heap.push (setO0 w)).get? l = some { cls := .type "list", dict := odict, data := .seq items nl, slots := oslots } := Heap.get?_push_of_some _ hol
        have q1 := F.sub_list_set
        have q2 := F.sub_list_frozenset
        have q3 : (Value.type "list" == Value.type "dict") = false := by decide
        have q4 : (s.heap.push (setO0 w)).IsList l items := ⟨_, holS, rfl, nl, rfl⟩
        unfold Builtin.«set.__init__» noKeywords Builtin.Frozenset.updateFrom
        generalize hPI : pyIter = PI
        wp_walk
        subst hPI
        refine wpAny_pyIter_list q4 ?_
        refine wpAny_bind (wpAny_runValue ?_)
        have hlS : l < s.heap.objs.size := Heap.lt_size hol
        have hh3 : A.in1.in1.in1.handled = none := by simp [hh]
        have nI : l ≠ (s.heap.push (setO0 w)).objs.size := by
          rw [Heap.size_push]; exact Nat.ne_of_lt (Nat.lt_succ_of_lt hlS)
        have nf : s.heap.objs.size ∉ [(s.heap.push (setO0 w)).objs.size, l] := by
          rw [Heap.size_push]; simp only [List.mem_cons, List.mem_singleton, List.not_mem_nil, or_false, not_or]
          exact ⟨Nat.ne_of_lt (Nat.lt_succ_self _), Nat.ne_of_gt hlS⟩
        have hv : ∀ (i : Nat) (v : Value), items[i]? = some v → ∃ k t, ns[i]? = some k ∧ v = .int k t := fun i v hv => by
          have hi : i < ns.length := by rw [← zsz]; exact (Array.getElem?_eq_some_iff.mp hv).1
          obtain ⟨t, e⟩ := PyProof.Rows.IntsAre.int_at hit i v (by rw [Array.getElem?_toList]; exact hv)
          refine ⟨ns[i], t, List.getElem?_eq_getElem hi, ?_⟩
          rw [e, List.getD_eq_getElem?_getD, List.getElem?_eq_getElem hi] <;> rfl
        refine set_update_ints ((Walks.list hh3 _ l nI items).toS) s.heap.objs.size
          nf ns zsz hb hv (items.size - 0) 0 _ (by omega) (Nat.zero_le _)
          ⟨⟨_, Heap.get?_push_size _ rfl, rfl, rfl⟩, (q4.push _)⟩ ?hA ?hB
        case hA =>
          have hget : ((s.heap.push (setO0 w)).push { cls := .type "list_iterator", data := .fields #[.ref l, .int 0 0] }).get? s.heap.objs.size = some (setO0 w) := Heap.get?_push_of_some _ kS
          exact ⟨0, Nat.le_refl 0, setR_new_at hget⟩
        case hB =>
          intro s' c' hm hc' hS'
          obtain ⟨h', g2, d', tk', os'⟩ := s'
          have eg : g2 = s.gens := hm.gens
          have ed : d' = s.drawn := hm.drawn
          have eo : os' = s.os := hm.os
          subst eg; subst ed; subst eo
          show wpAny _ _ _ _ _ _
          refine wpAny_pure ?_
          show wpAny _ _ (ret Value.none) _ _ _
          rw [zsz] at hc'
          refine wpAny_pure ⟨rfl, h', tk', c', rfl, hS', hc', fun b o e => ?_⟩
          have z0 : b < s.heap.objs.size := Heap.lt_size e
          have z1 : b ≠ s.heap.objs.size := Nat.ne_of_lt z0
          have z2 : b ≠ (s.heap.push (setO0 w)).objs.size := by
            rw [Heap.size_push]; exact Nat.ne_of_lt (Nat.lt_succ_of_lt z0)
          exact hm.heap b o (by simp only [List.mem_cons, List.mem_singleton, List.not_mem_nil, or_false, not_or]; exact ⟨z1, z2⟩) (Heap.get?_push_of_some _ (Heap.get?_push_of_some _ e))
      · cases r₂ with
        | error e => exact hr₂
        | ok fl₂ =>
          cases fl₂ with
          | ret r =>
            obtain ⟨rfl, h', tk, c', rfl, hS', hc', hk'⟩ := hr₂
            repeat (any_goals (first | assumption | wp_step))
            exact h _ _ _ hS' hc' hk'
          | _ => exact hr₂.elim
    | _ => exact hr.elim
/-- sorted(s), s a set of ints, any number of them -/
theorem sorted_setA {a : Addr} {S : Int → Bool} {n : Nat} {Q : Value → Shared → Prop} (R : SetR w s.heap a S n) (hh : A.handled = none) (hz : n ≤ sizeLine)
    (hQ : ∀ s' p (out : Array Value) (c : Nat) (ns : List Int), (∀ b o, s.heap.get? b = some o → s'.heap.get? b = some o) → s'.gens = s.gens → s'.os = s.os → s.heap.objs.size ≤ p →
      s'.heap.get? p = some (seqObj "list" out c) → IntsAre out.toList ns → ns.Pairwise (· < ·) → (∀ k, k ∈ ns ↔ S k = true) → ns.length = n → Q (.ref p) s') :
    wpAny (model P w) A (call (.builtin "sorted") [.ref a]) Q E s := by
  obtain ⟨o, es, ep, t, ho, hex, hd, g, nd, hm, hb, hf, hn, hr, hl⟩ := R
  refine Calls.call_function_entry kind_sorted plain_sorted entry_sorted (args_sorted1 _) ?_
  unfold Builtin.«sorted»
  refine wpAny_bind (m := checkCount "sorted" 1 1 _) (wpAny_pure ?_)
  refine wpAny_bind (collect_set (A := A.in1) hh ⟨o, ho, hex.1, hd⟩ hf hb hr hl fun s1 vs k1 kz kg ko pm => ?_)
  have vl : vs.length = n := by rw [pm.length_eq, List.length_map, Array.length_toList]; exact hn
  have vI : IntsAre vs (vs.map Builtin.Re.reRawOf) := ints_of vs fun v hv => by
    obtain ⟨e, he, q⟩ := List.mem_map.mp (pm.mem_iff.mp hv)
    obtain ⟨k, tk, h1, _⟩ := g e he
    exact ⟨k, tk, by rw [← q]; exact h1⟩
  have vp : (vs.map Builtin.Re.reRawOf).Perm (es.toList.map keyOf) := by
    have q := pm.map Builtin.Re.reRawOf
    rw [List.map_map] at q
    exact q
  refine wpAny_bind (wpAny_newList ?_ (by rw [vl]; exact hz))
  have hoL : (s1.heap.push (seqObj "list" vs.toArray 0)).get? s1.heap.objs.size = some (seqObj "list" vs.toArray 0) := Heap.get?_push_size _ rfl
  refine wpAny_bind (wpAny_holding (wpAny_call_entry slot_list_sort ⟨_, hoL, rfl⟩ entry_list_sort (SrtO.list_sort_ord SrtO.swo_int hoL (by rw [vl]; exact hz) (fun h2 => SrtO.ints_sortable vI h2) fun out o1 o2 => ⟨_, rfl, ?_⟩) (args_list_sort _)))
  obtain ⟨i1, i2, i3⟩ := SrtO.ints_out vI o1 o2
  obtain ⟨c, hc⟩ := sortedHeap_at (vs := vs) (out := out.toArray) hoL
  have pn : (out.map SrtO.iv).Perm (es.toList.map keyOf) := i2.trans vp
  refine wpAny_pure ⟨_, rfl, hQ _ s1.heap.objs.size out.toArray c (out.map SrtO.iv) (fun b u e => ?_) kg ko kz hc (by simpa using i1) (lt_of_le_nodup _ i3 (pn.nodup_iff.mpr nd)) (fun k => by rw [pn.mem_iff, ← hm k]) ?_⟩
  · have q := k1 b u e
    have hlt := Heap.lt_size q
    show (sortedHeap (s1.heap.push (seqObj "list" vs.toArray 0)) s1.heap.objs.size vs out.toArray).get? b = some u
    rw [sortedHeap_old (Nat.ne_of_lt hlt) (by rw [size_push']; exact Nat.lt_succ_of_lt hlt)]
    exact Heap.get?_push_of_some _ q
  · rw [pn.length_eq, List.length_map, Array.length_toList]; exact hn
end
section
variable {X : Cx} {e : Expr} {te : TE} {f : M D} {K : PySem.W.Frag}
/-- sorted(set(e)), e a list of ints -/
def tSrtSet (K : PySem.W.Frag) (te : TE) : TE := fun σ H Q => te σ H fun x H1 => ∃ (l : Addr) (ns : List Int), x = .ref l ∧ SqL K H1 l (ns.map V.int) ∧ ns.length ≤ 4000 ∧
  ∀ (ks : List Int) (p : Addr), ks.Pairwise (· < ·) → (∀ k, k ∈ ks ↔ k ∈ ns) → H1 p = none → Q (.ref p) (upd H1 p (.lst (ks.map V.int)))
theorem pe_srtSet {p p2 q pos : Pos} (hg : Gl X "sorted") (hm : X.mg "sorted" = none) (hg2 : Gl X "set") (hm2 : X.mg "set" = none) (ha : PE X e te) (hc : X.calm = true := by rfl)
    (na : starEach [e] X.env = (false, eval e X.env) :: starEach [] X.env := by rfl) : PE X (.Call (.Name "sorted" p) [.Call (.Name "set" p2) [e] [] q] [] pos) (tSrtSet X.K te) := by
  refine ⟨fun pins s σ H Q I h => ?_⟩
  refine Call_ (ld_blt I hg hm (show bootBuiltins "sorted" = some (.builtin "sorted") by decide +kernel) ?_)
  refine PyProof.Rows.callWith_builtin1 (PyProof.Rows.args_cons ?_ rfl) rfl rfl
  refine Call_ (ld_blt I hg2 hm2 boot_set ?_)
  refine PyProof.Rows.callWith_type1 (PyProof.Rows.args_cons (thn (ha.run pins s σ H _ I h) fun v s1 ⟨x, H1, I1, r1, q1⟩ => PyProof.Rows.args_nil ?_) na) na rfl
  obtain ⟨l, ns, rfl, hq, hl, q1⟩ := q1
  cases r1
  obtain ⟨its, r, pl, hz⟩ := I1.list hq
  refine call_setLI ns (I1.ok.hd hc) pl.isList (by simpa using RZ.intsAre_vals r) (by unfold scanBound; omega) fun h' tk c hS hc' hk => ?_
  refine PyProof.Rows.args_nil ?_
  have I2 : Inv X pins σ H1 { s1 with heap := h', toks := tk } := I1.kept hk
  refine sorted_setA hS (I2.ok.hd hc) (by rw [sizeLine_eq]; omega) fun s' p out c ns' k g o hp hg hi hs hm hl' => ?_
  have hlen : (ns'.map V.int).length ≤ sizeLine := by rw [List.length_map, hl', sizeLine_eq]; omega
  have hn : H1 p = none := I2.hok.fresh hp
  have J : Inv X pins σ (upd H1 p (.lst (ns'.map V.int))) { ({ s1 with heap := h', toks := tk } : Shared) with heap := s'.heap, gens := s'.gens, drawn := s'.drawn, toks := s'.toks } :=
    I2.call (ch := []) (Un.laid k hp hn) (I2.hok.laid k hp ⟨hlen, out.toList, c, vals_of_ints hi, hg⟩) (by rw [g]; exact I2.bare) (fun _ z => nomatch z)
  have e : s' = { ({ s1 with heap := h', toks := tk } : Shared) with heap := s'.heap, gens := s'.gens, drawn := s'.drawn, toks := s'.toks } := by
    cases s'
    cases s1
    cases o
    rfl
  rw [e]
  exact ⟨.ref p, _, J, rfl, q1 ns' p hs (fun k => by rw [hm k, decide_eq_true_eq]) hn⟩
/-- the ints, each once, ascending -/
def dedI : List Int → List Int
  | [] => []
  | n :: r => if n ∈ dedI r then dedI r else n :: dedI r
theorem dedI_mem {k : Int} : ∀ {l : List Int}, k ∈ dedI l ↔ k ∈ l
  | [] => Iff.rfl
  | n :: r => by
    unfold dedI
    by_cases h : n ∈ dedI r
    · rw [if_pos h, dedI_mem, List.mem_cons]
      exact ⟨.inr, fun z => z.elim (fun e => by rw [e]; exact dedI_mem.mp h) id⟩
    · rw [if_neg h, List.mem_cons, List.mem_cons, dedI_mem]
theorem dedI_nodup : ∀ l : List Int, (dedI l).Nodup
  | [] => List.nodup_nil
  | n :: r => by
    unfold dedI
    by_cases h : n ∈ dedI r
    · rw [if_pos h]; exact dedI_nodup r
    · rw [if_neg h]; exact List.nodup_cons.mpr ⟨h, dedI_nodup r⟩
def ssI (l : List Int) : List Int := srtI (dedI l)
theorem ssI_mem {k : Int} {l : List Int} : k ∈ ssI l ↔ k ∈ l := by rw [ssI, (srtI_perm _).mem_iff, dedI_mem]
theorem ssI_lt (l : List Int) : (ssI l).Pairwise (· < ·) := lt_of_le_nodup _ (srtI_sorted _) ((srtI_perm _).nodup_iff.mpr (dedI_nodup l))
/-- two strictly ascending lists of the same members are one -/
theorem asc_one : ∀ {a b : List Int}, a.Pairwise (· < ·) → b.Pairwise (· < ·) → (∀ k, k ∈ a ↔ k ∈ b) → a = b
  | [], [], _, _, _ => rfl
  | [], y :: b, _, _, h => absurd ((h y).mpr List.mem_cons_self) (by simp)
  | x :: a, [], _, _, h => absurd ((h x).mp List.mem_cons_self) (by simp)
  | x :: a, y :: b, ha, hb, h => by
    rw [List.pairwise_cons] at ha hb
    have e : x = y := by
      rcases List.mem_cons.mp ((h x).mp List.mem_cons_self) with e | h1
      · exact e
      · rcases List.mem_cons.mp ((h y).mpr List.mem_cons_self) with e | h2
        · exact e.symm
        · have := ha.1 y h2; have := hb.1 x h1; omega
    subst e
    rw [asc_one ha.2 hb.2 fun k => ⟨fun z => ?_, fun z => ?_⟩]
    · rcases List.mem_cons.mp ((h k).mp (List.mem_cons_of_mem _ z)) with e | z'
      · have := ha.1 k z; omega
      · exact z'
    · rcases List.mem_cons.mp ((h k).mpr (List.mem_cons_of_mem _ z)) with e | z'
      · have := hb.1 k z; omega
      · exact z'
def dSrtSet : D → Option D
  | .list ds => if ds.length ≤ 4000 then (nsD ds).map fun ns => .list ((ssI ns).map PyData.int) else none
  | _ => none
theorem nsD_len : ∀ {ds : List D} {ns : List Int}, nsD ds = some ns → ns.length = ds.length
  | [], ns, h => by cases h; rfl
  | d :: r, ns, h => by
    cases d <;> simp [nsD] at h
    obtain ⟨a, e, rfl⟩ := h
    simp [nsD_len e]
theorem ev_srtSet (h : EvE K te f) : EvE K (tSrtSet K te) (eOp1 dSrtSet f) := by
  intro A hid P s σ H d s' ok e Q q
  obtain ⟨x, s1, e1, e⟩ := bd_some e
  refine h A hid P s σ H x s1 ok e1 _ fun v P1 H1 ok1 st1 r1 => ?_
  obtain ⟨e, rfl⟩ := lf_some e
  cases x with
  | list ds =>
    simp only [dSrtSet] at e
    by_cases hl : ds.length ≤ 4000
    · rw [if_pos hl] at e
      cases hb : nsD ds with
      | none => rw [hb] at e; cases e
      | some ns =>
        rw [hb] at e; cases e
        obtain ⟨a, vs, rfl, h1, rr⟩ := r1.lst_inv
        have := rr.nums hb
        subst this
        refine ⟨a, ns, rfl, SqL.of (mask_le _ _ h1), by rw [nsD_len hb]; exact hl, fun ks p k1 k2 hp => ?_⟩
        have ek : ks = ssI ns := asc_one k1 (ssI_lt ns) fun k => by rw [k2, ssI_mem]
        rw [ek]
        exact q _ P1 _ (ok1.grw (Grw.new hp)) (st1.trans (Stp.grw (Grw.new hp))) (rp_newL ok1.trk hp (RpA.ints _))
    · rw [if_neg hl] at e; cases e
  | _ => cases e
theorem k_srtSet {p p2 q pos : Pos} (hm : X.mg "sorted" = none) (hm2 : X.mg "set" = none) (h : DE X e te f) (hK : X.K = K := by rfl) (hg : Gl X "sorted" := by rfl) (hg2 : Gl X "set" := by rfl) (hc : X.calm = true := by rfl)
    (na : starEach [e] X.env = (false, eval e X.env) :: starEach [] X.env := by rfl) : DE X (.Call (.Name "sorted" p) [.Call (.Name "set" p2) [e] [] q] [] pos) (tSrtSet K te) (eOp1 dSrtSet f) := by
  subst hK; exact ⟨pe_srtSet hg hm hg2 hm2 h.p hc na, ev_srtSet h.v⟩
end
end DL


namespace DL
open PySem PySem.Spec PyProof.Rows L2
/-! PT1: lots and patterns as plain Lean. -/
theorem dEq_refl {d : D} (h : SeqAt.shaped d = true) : dEq d d = some (.bool true) := by
  cases d with
  | str x => simp [dEq]
  | _ => rw [dEq_sh h h (fun _ z => nomatch z), SeqAt.eqv_refl _ (SeqAt.canLay_of_shaped h)]
theorem dNe_refl {d : D} (h : SeqAt.shaped d = true) : dNe d d = some (.bool false) := by
  cases d with
  | str x => simp [dNe]
  | _ => rw [dNe_sh h h (fun _ z => nomatch z), SeqAt.eqv_refl _ (SeqAt.canLay_of_shaped h)]; rfl
def ltD : D → D → Bool
  | .int i, .int j => decide (i < j)
  | _, _ => false
/-- the item at i is a number below m, and above the one ahead -/
def goodAt (l : List D) (m : Int) (i : Nat) : Bool := isI (l.getD i .none) 0 (m - 1) && (i == 0 || ltD (l.getD (i - 1) .none) (l.getD i .none))
def isLotD (v : D) (m : Int) : Bool := match v with
  | .tuple l => (List.range l.length).all (goodAt l m)
  | _ => false
theorem lot_no {l : List D} {m : Int} {i : Nat} (hi : i < l.length) (h : goodAt l m i = false) : isLotD (.tuple l) m = false := by
  unfold isLotD
  rw [List.all_eq_false]
  exact ⟨i, List.mem_range.mpr hi, by simp [h]⟩
theorem lot_yes {l : List D} {m : Int} (h : ∀ i, i < l.length → goodAt l m i = true) : isLotD (.tuple l) m = true := by
  unfold isLotD
  rw [List.all_eq_true]
  exact fun i hi => h i (List.mem_range.mp hi)
theorem lot_split {l : List D} {m : Int} : isLotD (.tuple l) m = (l.all (fun d => isI d 0 (m - 1)) && ((List.range (l.length - 1)).all fun k => ltD (l.getD k .none) (l.getD (k + 1) .none))) := by
  unfold isLotD
  rw [Bool.eq_iff_iff, Bool.and_eq_true, List.all_eq_true, List.all_eq_true, List.all_eq_true]
  constructor
  · intro h
    refine ⟨fun d hd => ?_, fun k hk => ?_⟩
    · obtain ⟨i, hi, rfl⟩ := List.mem_iff_getElem.mp hd
      have := h i (List.mem_range.mpr hi)
      simp only [goodAt, Bool.and_eq_true] at this
      have e : l.getD i .none = l[i] := by simp [List.getD_eq_getElem?_getD, hi]
      rw [e] at this
      exact this.1
    · have hk := List.mem_range.mp hk
      have := h (k + 1) (List.mem_range.mpr (by omega))
      simp only [goodAt, Bool.and_eq_true, Bool.or_eq_true] at this
      rcases this.2 with z | z
      · simp at z
      · exact z
  · rintro ⟨h1, h2⟩ i hi
    have hi := List.mem_range.mp hi
    have e : l.getD i .none = l[i] := by simp [List.getD_eq_getElem?_getD, hi]
    simp only [goodAt, Bool.and_eq_true, Bool.or_eq_true]
    refine ⟨by rw [e]; exact h1 _ (List.getElem_mem hi), ?_⟩
    by_cases h0 : i = 0
    · exact .inl (by simp [h0])
    · refine .inr ?_
      have := h2 (i - 1) (List.mem_range.mpr (by omega))
      rw [show i - 1 + 1 = i by omega] at this
      exact this
theorem rng_mem {a : Int} {n : Nat} {x : D} (h : x ∈ rngD a n) : ∃ j, j < n ∧ x = .int (a + (j : Nat)) := by
  simp only [rngD, List.mem_map] at h
  obtain ⟨j, hj, rfl⟩ := h
  exact ⟨j, List.mem_range.mp hj, rfl⟩
/-- what is wrong with a value that is to be a pattern -/
def patErr : D → D
  | .tuple [a, b] => if isI a 0 8 = true then (match b with
    | .tuple ls => if ls.length ≤ 8 then (match (List.range ls.length).find? (fun i => !isLotD (ls.getD i .none) (match a with | .int m => m | _ => 0)) with
      | some i => .tuple [.int (i : Nat), .str "lot"]
      | none => .none) else .tuple [.none, .str "ends"]
    | _ => .tuple [.none, .str "ends"]) else .tuple [.none, .str "inputs"]
  | _ => .tuple [.none, .str "pattern"]
theorem patErr_small (v : D) : sz (patErr v) ≤ 200 ∧ (patErr v).depth ≤ 1 := by
  have s1 : sz (.tuple [.none, .str "ends"]) ≤ 200 := by decide +kernel
  have s2 : sz (.tuple [.none, .str "inputs"]) ≤ 200 := by decide +kernel
  have s3 : sz (.tuple [.none, .str "pattern"]) ≤ 200 := by decide +kernel
  unfold patErr
  split
  · split
    · split
      · split
        · rename_i hl
          split
          · rename_i i e
            have := List.mem_range.mp (List.mem_of_find?_eq_some e)
            have z : ∀ i, i < 8 → sz (.tuple [.int (i : Nat), .str "lot"]) ≤ 200 ∧ PyData.depth (.tuple [.int (i : Nat), .str "lot"]) ≤ 1 := by decide +kernel
            exact z i (by omega)
          · exact ⟨by decide +kernel, by decide +kernel⟩
        · exact ⟨s1, by decide +kernel⟩
      · exact ⟨s1, by decide +kernel⟩
    · exact ⟨s2, by decide +kernel⟩
  · exact ⟨s3, by decide +kernel⟩
/-! ### patterns -/
def lotD (l : List Nat) : D := .tuple (intsD l)
def lotsD (ls : List (List Nat)) : List D := ls.map lotD
def patD (n : Nat) (ls : List (List Nat)) : D := .tuple [.int (n : Nat), .tuple (lotsD ls)]
theorem lotsD_len {ls : List (List Nat)} : (lotsD ls).length = ls.length := by simp [lotsD]
/-- the numbers of a lot, ascending, below n -/
def LotOk (n : Nat) (l : List Nat) : Prop := l = (List.range n).filter fun u => decide (u ∈ l)
theorem lotOk_of {n : Nat} {l : List Nat} (p : Nat → Bool) (h : l = (List.range n).filter p) : LotOk n l := by
  unfold LotOk
  refine h.trans (List.filter_congr fun u hu => ?_)
  rw [h, Bool.eq_iff_iff, decide_eq_true_eq, List.mem_filter]
  exact ⟨fun z => ⟨hu, z⟩, fun z => z.2⟩
theorem LotOk.lt {n : Nat} {l : List Nat} (h : LotOk n l) {u : Nat} (hu : u ∈ l) : u < n := by
  rw [h] at hu
  exact List.mem_range.mp (List.mem_filter.mp hu).1
theorem LotOk.len {n : Nat} {l : List Nat} (h : LotOk n l) : l.length ≤ n := by
  rw [h]
  exact Nat.le_trans (List.length_filter_le _ _) (by simp)
theorem LotOk.asc {n : Nat} {l : List Nat} (h : LotOk n l) : l.Pairwise (· < ·) := by
  rw [h]; exact List.Pairwise.filter _ List.pairwise_lt_range
structure PatOk (n : Nat) (ls : List (List Nat)) : Prop where
  n8 : n ≤ 8
  l8 : ls.length ≤ 8
  ok : ∀ l ∈ ls, LotOk n l
theorem lotD_isLot {n : Nat} {l : List Nat} (h : LotOk n l) : isLotD (lotD l) (n : Nat) = true := by
  refine lot_yes fun i hi => ?_
  rw [intsD_len] at hi
  have g : ∀ j, j < l.length → (intsD l).getD j .none = .int ((l.getD j 0 : Nat) : Int) := fun j hj => by simp [intsD, List.getD_eq_getElem?_getD, List.getElem?_map, hj]
  have hm : ∀ j, (hj : j < l.length) → l.getD j 0 < n := fun j hj => by
    rw [List.getD_eq_getElem?_getD, List.getElem?_eq_getElem hj]; exact h.lt (List.getElem_mem hj)
  unfold goodAt
  rw [g i hi, Bool.and_eq_true]
  refine ⟨by have := hm i hi; simp only [isI, Bool.and_eq_true, decide_eq_true_eq]; omega, ?_⟩
  by_cases h0 : i = 0
  · simp [h0]
  · rw [g (i - 1) (by omega), Bool.or_eq_true]
    refine .inr ?_
    have := List.pairwise_iff_getElem.mp h.asc (i - 1) i (by omega) hi (by omega)
    simp only [ltD, decide_eq_true_eq]
    rw [List.getD_eq_getElem?_getD, List.getD_eq_getElem?_getD, List.getElem?_eq_getElem hi, List.getElem?_eq_getElem (show i - 1 < l.length by omega)]
    simpa using this
theorem patErr_pat {n : Nat} {ls : List (List Nat)} (h : PatOk n ls) : patErr (patD n ls) = .none := by
  have h1 : isI (.int (n : Nat)) 0 8 = true := by have := h.n8; simp only [isI, Bool.and_eq_true, decide_eq_true_eq]; omega
  unfold patErr patD
  simp only [h1, if_true, lotsD_len, h.l8]
  have e : (List.range ls.length).find? (fun i => !isLotD ((lotsD ls).getD i .none) (n : Nat)) = none := by
    rw [List.find?_eq_none]
    intro i hi
    have hi := List.mem_range.mp hi
    have : (lotsD ls).getD i .none = lotD ls[i] := by simp [lotsD, List.getD_eq_getElem?_getD, List.getElem?_map, hi]
    rw [this, lotD_isLot (h.ok _ (List.getElem_mem hi))]
    simp
  rw [e]
/-! sizes -/
theorem lot_sz {l : List Nat} (h : ∀ u ∈ l, u < 1024) : sz (lotD l) ≤ 14 * l.length + 4 ∧ (lotD l).depth ≤ 1 ∧ gv (lotD l) = true := by
  have a : ∀ d ∈ intsD l, sz d ≤ 12 ∧ d.depth ≤ 0 := fun d hd => by
    obtain ⟨u, hu, rfl⟩ := List.mem_map.mp hd
    exact ⟨sz_nat (h u hu), by simp [PyData.depth]⟩
  have s := szA_le_of (n := 12) fun d hd => (a d hd).1
  have p := depthA_le_of (n := 0) fun d hd => (a d hd).2
  rw [intsD_len] at s
  refine ⟨by unfold lotD; rw [sz_tup]; omega, by unfold lotD; rw [dp_tup]; omega, ?_⟩
  unfold lotD
  rw [gv]
  refine gvA_of fun d hd => ?_
  obtain ⟨u, hu, rfl⟩ := List.mem_map.mp hd
  have := h u hu
  have e : (1024 : Nat) ≤ 2 ^ 150 := by decide
  simp only [gv, decide_eq_true_eq]
  omega
theorem lots_sz {ls : List (List Nat)} (hn : ∀ l ∈ ls, l.length ≤ 8 ∧ ∀ u ∈ l, u < 1024) : szA (lotsD ls) ≤ 118 * ls.length ∧ PyData.depthAll (lotsD ls) ≤ 1 ∧ gvA (lotsD ls) = true := by
  have a : ∀ d ∈ lotsD ls, sz d ≤ 116 ∧ d.depth ≤ 1 ∧ gv d = true := fun d hd => by
    obtain ⟨l, hl, rfl⟩ := List.mem_map.mp hd
    obtain ⟨h1, h2⟩ := hn l hl
    obtain ⟨b1, b2, b3⟩ := lot_sz h2
    exact ⟨by omega, b2, b3⟩
  have s := szA_le_of (n := 116) fun d hd => (a d hd).1
  have p := depthA_le_of (n := 1) fun d hd => (a d hd).2.1
  rw [lotsD_len] at s
  exact ⟨by omega, p, gvA_of fun d hd => (a d hd).2.2⟩
theorem PatOk.small {n : Nat} {ls : List (List Nat)} (h : PatOk n ls) : ∀ l ∈ ls, l.length ≤ 8 ∧ ∀ u ∈ l, u < 1024 := fun l hl => ⟨Nat.le_trans (h.ok l hl).len h.n8, fun u hu => by have := (h.ok l hl).lt hu; have := h.n8; omega⟩
theorem pat_sz {n : Nat} {ls : List (List Nat)} (h1 : n < 1024) (h2 : ls.length ≤ 8) (hn : ∀ l ∈ ls, l.length ≤ 8 ∧ ∀ u ∈ l, u < 1024) : sz (patD n ls) ≤ 1000 ∧ (patD n ls).depth ≤ 3 ∧ gv (patD n ls) = true := by
  obtain ⟨a, b, c⟩ := lots_sz hn
  have z := sz_nat h1
  unfold patD
  refine ⟨?_, ?_, ?_⟩
  · simp only [sz_tup, szA]; omega
  · simp only [dp_tup, PyData.depthAll, PyData.depth]; omega
  · have e : (1024 : Nat) ≤ 2 ^ 150 := by decide
    simp only [gv, gvA, c, Bool.and_true, decide_eq_true_eq]; omega
theorem gv_shp {d : D} (hg : gv d = true) (hd : d.depth ≤ 40) : SeqAt.shaped d = true := by
  unfold SeqAt.shaped
  rw [gv_lay hg, Bool.true_and, decide_eq_true_eq]
  omega
/-! ### the marks exchanged -/
def turnL (n : Nat) (ls : List (List Nat)) : List (List Nat) := (List.range n).map fun u => (List.range ls.length).filter fun e => decide (u ∈ ls.getD e [])
theorem turn_ok {n : Nat} {ls : List (List Nat)} (h : PatOk n ls) : PatOk ls.length (turnL n ls) := by
  refine ⟨h.l8, by simpa [turnL] using h.n8, fun l hl => ?_⟩
  obtain ⟨u, _, rfl⟩ := List.mem_map.mp hl
  exact lotOk_of _ rfl
theorem turn_turn {n : Nat} {ls : List (List Nat)} (h : PatOk n ls) : turnL ls.length (turnL n ls) = ls := by
  refine List.ext_getElem (by simp [turnL]) fun e h1 h2 => ?_
  have e1 : (turnL ls.length (turnL n ls))[e] = (List.range n).filter fun u => decide (e ∈ (turnL n ls).getD u []) := by simp [turnL]
  rw [e1]
  have k := h.ok _ (List.getElem_mem h2)
  refine Eq.trans (List.filter_congr fun u hu => ?_) k.symm
  have hu := List.mem_range.mp hu
  have e2 : (turnL n ls).getD u [] = (List.range ls.length).filter fun e => decide (u ∈ ls.getD e []) := by simp [turnL, List.getD_eq_getElem?_getD, hu]
  rw [e2, Bool.eq_iff_iff, decide_eq_true_eq, decide_eq_true_eq, List.mem_filter, List.mem_range]
  simp [List.getD_eq_getElem?_getD, h2]
/-! ### one pattern fed to another -/
def fedL (n : Nat) (ls ms : List (List Nat)) : List (List Nat) := ms.map fun l => (List.range n).filter fun u => l.any fun o => decide (u ∈ ls.getD o [])
theorem fed_same {n : Nat} {ls : List (List Nat)} (h : PatOk n ls) {l : List Nat} (hl : ∀ o ∈ l, o < ls.length) :
    ssI ((l.map fun o => (ls.getD o []).map fun u => ((u : Nat) : Int)).flatten) = ((List.range n).filter fun u => l.any fun o => decide (u ∈ ls.getD o [])).map fun u => ((u : Nat) : Int) := by
  refine asc_one (ssI_lt _) ?_ fun k => ?_
  · rw [List.pairwise_map]
    exact List.Pairwise.imp (fun h => by omega) (List.Pairwise.filter _ List.pairwise_lt_range)
  · rw [ssI_mem, List.mem_flatten]
    constructor
    · rintro ⟨x, hx, hk⟩
      obtain ⟨o, ho, rfl⟩ := List.mem_map.mp hx
      obtain ⟨u, hu, rfl⟩ := List.mem_map.mp hk
      refine List.mem_map.mpr ⟨u, List.mem_filter.mpr ⟨List.mem_range.mpr ?_, List.any_eq_true.mpr ⟨o, ho, decide_eq_true hu⟩⟩, rfl⟩
      have ho' := hl o ho
      rw [List.getD_eq_getElem?_getD, List.getElem?_eq_getElem ho'] at hu
      exact (h.ok _ (List.getElem_mem ho')).lt hu
    · intro hk
      obtain ⟨u, hu, rfl⟩ := List.mem_map.mp hk
      obtain ⟨_, hu⟩ := List.mem_filter.mp hu
      obtain ⟨o, ho, hu⟩ := List.any_eq_true.mp hu
      exact ⟨_, List.mem_map.mpr ⟨o, ho, rfl⟩, List.mem_map.mpr ⟨u, of_decide_eq_true hu, rfl⟩⟩
theorem fed_ok2 {n : Nat} {ls ms : List (List Nat)} (h : PatOk n ls) (h8 : ms.length ≤ 8) : PatOk n (fedL n ls ms) := by
  refine ⟨h.n8, by simpa [fedL] using h8, fun l hl => ?_⟩
  obtain ⟨u, _, rfl⟩ := List.mem_map.mp hl
  exact lotOk_of _ rfl
end DL


namespace DL
open PySem PySem.Spec PyProof.Rows L2
/-! PT2: drawn lots, and what the operations on lots come to. -/
/-- the numbers below n that a draw takes -/
theorem lc_pick {own : List Nat} {asg : D → M Unit} {t : M Bool} {e : M D} {n : Nat} {st : Dk → S} {k : Dk} {Q : List D → S → Prop} (hk : DkV k) (hn : n ≤ 1000)
    (step : ∀ i k, DkV k → i < n → wp (asg (.int (i : Nat))) (st k) fun _ s1 => wp t s1 fun b s2 => if b = true then wp e s2 fun d s3 => d = .int (i : Nat) ∧ ∃ k', DkV k' ∧ wipeS s3 own = st k' else ∃ k', DkV k' ∧ wipeS s2 own = st k')
    (h : ∀ q k', DkV k' → Q (intsD ((List.range n).filter q)) (st k')) : wp (lcLoop own asg t e (rngD 0 n) []) (st k) Q := by
  refine wp_lc (fun r acc s => ∃ (i : Nat) (q : Nat → Bool) (k' : Dk), r = (rngD 0 n).drop i ∧ i ≤ n ∧ acc = intsD ((List.range i).filter q) ∧ DkV k' ∧ s = st k') (fun x r acc s hI => ?_) (fun acc s hI => ?_) _ _ _ ⟨0, fun _ => true, k, rfl, Nat.zero_le _, rfl, hk, rfl⟩
  · obtain ⟨i, q, k1, hr, hi, rfl, hv, rfl⟩ := hI
    obtain ⟨hi, rfl, rfl⟩ := rng_drop hr.symm
    rw [Int.zero_add]
    refine wp_mono (step i k1 hv hi) fun _ s1 z => wp_mono z fun b s2 z => ?_
    have fl : ∀ b : Bool, (List.range (i + 1)).filter (fun u => if u = i then b else q u) = (List.range i).filter q ++ (if b = true then [i] else []) := fun b => by
      rw [List.range_succ, List.filter_append]
      congr 1
      · refine List.filter_congr fun u hu => ?_
        have := List.mem_range.mp hu
        rw [if_neg (by omega)]
      · cases b <;> simp
    cases b with
    | true =>
      simp only [if_true] at z ⊢
      refine wp_mono z fun d s3 ⟨hd, k2, hv2, hw⟩ => ?_
      subst hd
      refine ⟨?_, i + 1, fun u => if u = i then true else q u, k2, rfl, by omega, ?_, hv2, hw⟩
      · rw [intsD_len]
        have := List.length_filter_le q (List.range i)
        rw [List.length_range] at this
        show _ ≤ 1000000; omega
      · rw [fl true]; simp [intsD]
    | false =>
      simp only [Bool.false_eq_true, if_false] at z ⊢
      obtain ⟨k2, hv2, hw⟩ := z
      refine ⟨i + 1, fun u => if u = i then false else q u, k2, rfl, by omega, ?_, hv2, hw⟩
      rw [fl false]; simp
  · obtain ⟨i, q, k1, hr, hi, rfl, hv, rfl⟩ := hI
    have := rng_nil hr.symm
    obtain rfl : i = n := by omega
    exact h q k1 hv
theorem lotsD_get {ls : List (List Nat)} {i : Nat} (h : i < ls.length) : atI (lotsD ls) (i : Int) = some (lotD (ls.getD i [])) := by
  rw [atI_at (by rw [lotsD_len]; exact h)]
  simp [lotsD, List.getD_eq_getElem?_getD, h]
theorem lotsD_snoc {ls : List (List Nat)} {l : List Nat} : lotsD ls ++ [lotD l] = lotsD (ls ++ [l]) := by simp [lotsD]
theorem inD_lot {u : Nat} {l : List Nat} : inD (.int (u : Nat)) (intsD l) = decide (u ∈ l) := by
  unfold inD intsD
  rw [List.any_map, Bool.eq_iff_iff, List.any_eq_true, decide_eq_true_eq]
  constructor
  · rintro ⟨x, hx, e⟩
    simp [PyData.eqv] at e
    obtain rfl : x = u := by omega
    exact hx
  · intro h
    exact ⟨u, h, by simp [PyData.eqv]⟩
theorem flat_ints {l : List Nat} : (intsD l).all flatD = true := by simp [intsD, flatD]
@[simp] theorem dIn_lot {u : Nat} {l : List Nat} : dIn (.int (u : Nat)) (lotD l) = some (.bool (decide (u ∈ l))) := by
  unfold lotD
  rw [dInI flat_ints, inD_lot]
theorem filter_ints {n : Nat} {p : D → Bool} {q : Nat → Bool} (h : ∀ i, i < n → p (.int (i : Nat)) = q i) : (rngD 0 n).filter p = intsD ((List.range n).filter q) := by
  unfold rngD intsD
  rw [List.filter_map]
  simp only [Int.zero_add]
  congr 1
  refine List.filter_congr fun i hi => h i (List.mem_range.mp hi)
theorem enm_mem {ls : List D} {x : D} (h : x ∈ enmD ls) : ∃ i, ∃ h : i < ls.length, x = .tuple [.int (i : Nat), ls[i]] := by
  simp only [enmD, List.mem_map] at h
  obtain ⟨i, hi, rfl⟩ := h
  have hi := List.mem_range.mp hi
  exact ⟨i, hi, by simp [List.getD_eq_getElem?_getD, hi]⟩
theorem enm_eq {ls : List D} : enmD ls = (List.range ls.length).map fun i => .tuple [.int (i : Nat), ls.getD i .none] := rfl
end DL


namespace DL
open PySem PySem.Spec PyProof.Rows L2
/-! RW8: words of growth, corners, points of boxes. -/
def wordD (x : Iv) : D := if x = (0, 0) then .str "same" else if 0 ≤ x.1 then .str "up" else if x.2 ≤ 0 then .str "down" else .none
theorem wordD_flat (x : Iv) : flatD (wordD x) = true := by
  unfold wordD; split
  · rfl
  · split
    · rfl
    · split <;> rfl
theorem eqv_none {d : D} : PyData.eqv d .none = isNone d := by
  cases d <;> simp [PyData.eqv, isNone]
theorem dIn_none {ds : List D} (h : ds.all flatD = true) : dIn .none (.tuple ds) = some (.bool (ds.any isNone)) := by
  unfold dIn dInB
  simp only [h, flatD, Bool.and_self, if_true, Option.map_some, inD, eqv_none]
theorem dEq_iv0 {x : Iv} : dEq (ivD x) (.tuple [.int 0, .int 0]) = some (.bool (decide (x = (0, 0)))) := by
  unfold ivD
  rw [dEq_sh (by simp [SeqAt.shaped, PyData.canLay0, PyData.canLayAll0, PyData.depth, PyData.depthAll]) (by simp [SeqAt.shaped, PyData.canLay0, PyData.canLayAll0, PyData.depth, PyData.depthAll]) (fun _ z => by cases z)]
  simp only [PyData.eqv, PyData.eqvAll, Bool.and_true]
  congr 2
  obtain ⟨a, b⟩ := x
  rw [Bool.eq_iff_iff]
  simp
def wordsL (n : Nat) (b : List Iv) (a : List Rs) (i : Nat) : List D := (List.range n).map fun u => wordD ((rrS u b a).getD i (0, 0))
theorem wordsL_flat {n : Nat} {b : List Iv} {a : List Rs} {i : Nat} : (wordsL n b a i).all flatD = true := by
  rw [List.all_eq_true]
  intro d hd
  simp only [wordsL, List.mem_map] at hd
  obtain ⟨u, _, rfl⟩ := hd
  exact wordD_flat _
def noWord (n : Nat) (b : List Iv) (a : List Rs) (i : Nat) : Bool := (wordsL n b a i).any isNone
def isDown : D → Bool
  | .str x => x == "down"
  | _ => false
def cornS (n : Nat) (b : List Iv) (a : List Rs) (i : Nat) : List Int := (List.range n).map fun u => if isDown (wordD ((rrS u b a).getD i (0, 0))) = true then (b.getD u (0, 0)).2 else (b.getD u (0, 0)).1
theorem cornS_at {n u : Nat} {b : List Iv} {a : List Rs} {i : Nat} (hu : u < n) : (cornS n b a i).getD u 0 = if isDown (wordD ((rrS u b a).getD i (0, 0))) = true then (b.getD u (0, 0)).2 else (b.getD u (0, 0)).1 := by
  rw [getD_here (by simpa [cornS] using hu)]
  simp [cornS]
theorem corn_in {n : Nat} {b : List Iv} {a : List Rs} {i : Nat} (hb : BOk n b) : inBox (cornS n b a i) b := by
  refine ⟨by simp [cornS, hb.len], fun u hu => ?_⟩
  have hu : u < n := by rw [hb.len] at hu; exact hu
  have := hb.ord u hu
  rw [cornS_at hu]
  unfold inIv
  split <;> omega
theorem sumN_nonneg {n : Nat} {g : Nat → Int} (h : ∀ u, u < n → 0 ≤ g u) : 0 ≤ sumN n g := by
  induction n with
  | zero => exact Int.le_refl _
  | succ n ih => rw [sumN]; have := ih fun u hu => h u (by omega); have := h n (by omega); omega
/-- no point of the box has a lesser value than the corner -/
theorem corn_least {n : Nat} {b : List Iv} {a : List Rs} {i : Nat} {p : List Int} (hb : BOk n b) (ho : okFrom n 0 a) (hi : i < a.length) (hp : inBox p b) (hw : noWord n b a i = false) : (valsS (cornS n b a i) a).getD i 0 ≤ (valsS p a).getD i 0 := by
  have hs := slp_sum (p := p) (m := cornS n b a i) ho hi
  have hn : 0 ≤ sumN n fun u => (slpS u p (cornS n b a i) a).getD i 0 * (p.getD u 0 - (cornS n b a i).getD u 0) := by
    refine sumN_nonneg fun u hu => ?_
    have h1 := slp_in (u := u) hb.len hp (corn_in (i := i) (a := a) hb) ho hi
    have h2 := hp.2 u (by rw [hb.len]; exact hu)
    have h3 : isNone (wordD ((rrS u b a).getD i (0, 0))) = false := by
      have : ∀ d ∈ wordsL n b a i, isNone d = false := by
        intro d hd
        have := List.any_eq_false.mp hw d hd
        simpa using this
      exact this _ (by simp only [wordsL, List.mem_map, List.mem_range]; exact ⟨u, hu, rfl⟩)
    rw [cornS_at hu]
    unfold inIv at h1 h2
    generalize (rrS u b a).getD i (0, 0) = r at h1 h3 ⊢
    generalize (slpS u p (cornS n b a i) a).getD i 0 = s at h1 ⊢
    unfold wordD at h3 ⊢
    by_cases c1 : r = (0, 0)
    · subst c1
      have : s = 0 := by simp at h1; omega
      subst this; simp
    · rw [if_neg c1] at h3 ⊢
      by_cases c2 : 0 ≤ r.1
      · rw [if_pos c2]
        have e : isDown (.str "up") = false := by simp [isDown]
        rw [e, if_neg (by simp)]
        exact Int.mul_nonneg (by omega) (by omega)
      · rw [if_neg c2] at h3 ⊢
        by_cases c3 : r.2 ≤ 0
        · rw [if_pos c3]
          have e : isDown (.str "down") = true := by simp [isDown]
          rw [e, if_pos rfl]
          exact Int.mul_nonneg_of_nonpos_of_nonpos (by omega) (by omega)
        · rw [if_neg c3] at h3; simp [isNone] at h3
  omega
/-- one more at an input -/
def upAt (p : List Int) (u : Nat) : List Int := p.set u (p.getD u 0 + 1)
theorem upAt_at {p : List Int} {u v : Nat} (hu : u < p.length) : (upAt p u).getD v 0 = p.getD v 0 + dlt u v := by
  unfold upAt dlt
  simp only [List.getD_eq_getElem?_getD, List.getElem?_set]
  by_cases h : u = v
  · subst h; simp [hu]
  · simp [h]
theorem up_in {n u : Nat} {b : List Iv} {p : List Int} (hb : BOk n b) (hp : inBox p b) (hu : u < n) (h : p.getD u 0 < (b.getD u (0, 0)).2) : inBox (upAt p u) b := by
  have hl := hp.1
  have hbl := hb.len
  refine ⟨by simp [upAt, hl], fun v hv => ?_⟩
  rw [upAt_at (by omega)]
  have := hp.2 v hv
  unfold inIv at this ⊢
  unfold dlt
  split
  · rename_i e; subst e; omega
  · omega
def isUp : D → Bool
  | .str x => x == "up" || x == "same"
  | _ => false
theorem up_grows {n u : Nat} {b : List Iv} {a : List Rs} {i : Nat} {p : List Int} (hb : BOk n b) (ho : okFrom n 0 a) (hi : i < a.length) (hp : inBox p b) (hu : u < n) (h : p.getD u 0 < (b.getD u (0, 0)).2)
    (hw : isUp (wordD ((rrS u b a).getD i (0, 0))) = true) : (valsS p a).getD i 0 ≤ (valsS (upAt p u) a).getD i 0 := by
  have hl := hp.1
  have hbl := hb.len
  have hs := slp_sum (p := upAt p u) (m := p) ho hi
  rw [sumN_congr (h := fun v => dlt u v * (slpS v (upAt p u) p a).getD i 0) fun v _ => by
    rw [upAt_at (by omega), show p.getD v 0 + dlt u v - p.getD v 0 = dlt u v by omega, Int.mul_comm], sumN_dlt hu] at hs
  have h1 := slp_in (u := u) hb.len (up_in hb hp hu h) hp ho hi
  unfold inIv at h1
  generalize (rrS u b a).getD i (0, 0) = r at h1 hw
  unfold wordD at hw
  have : 0 ≤ r.1 := by
    by_cases c1 : r = (0, 0)
    · subst c1; simp
    · rw [if_neg c1] at hw
      by_cases c2 : 0 ≤ r.1
      · exact c2
      · rw [if_neg c2] at hw
        by_cases c3 : r.2 ≤ 0
        · rw [if_pos c3] at hw; simp [isUp] at hw
        · rw [if_neg c3] at hw; simp [isUp] at hw
  omega
/-! how many points -/
def wN (b : List Iv) (k : Nat) : Int := (b.getD k (0, 0)).2 + 1 - (b.getD k (0, 0)).1
def prodT (b : List Iv) : Nat → Int
  | 0 => 1
  | j + 1 => prodT b j * wN b j
theorem wN_pos {n k : Nat} {b : List Iv} (hb : BOk n b) (hk : k < n) : 1 ≤ wN b k := by have := hb.ord k hk; unfold wN; omega
theorem prodT_pos {n : Nat} {b : List Iv} (hb : BOk n b) : ∀ {j : Nat}, j ≤ n → 1 ≤ prodT b j
  | 0, _ => Int.le_refl _
  | j + 1, h => by
    have h1 := prodT_pos hb (show j ≤ n by omega)
    have h2 := wN_pos hb (show j < n by omega)
    have := Int.mul_le_mul h1 h2 (by omega) (by omega)
    rw [prodT]; omega
theorem prodT_mono {n : Nat} {b : List Iv} (hb : BOk n b) {i : Nat} : ∀ {j : Nat}, i ≤ j → j ≤ n → prodT b i ≤ prodT b j
  | 0, h, _ => by have : i = 0 := by omega
                  subst this; exact Int.le_refl _
  | j + 1, h, hn => by
    by_cases e : i = j + 1
    · subst e; exact Int.le_refl _
    · have h1 := prodT_mono hb (show i ≤ j by omega) (by omega)
      have h0 := prodT_pos hb (show j ≤ n by omega)
      have h2 := wN_pos hb (show j < n by omega)
      have : prodT b j * 1 ≤ prodT b j * wN b j := Int.mul_le_mul_of_nonneg_left h2 (by omega)
      rw [prodT]; omega
theorem prodT_mg {n : Nat} {b : List Iv} (hb : BOk n b) : ∀ {j : Nat}, j ≤ n → mg (1 + 72 * j) (prodT b j)
  | 0, _ => by unfold mg prodT; decide
  | j + 1, h => by
    have h1 := prodT_mg hb (show j ≤ n by omega)
    have h2 : mg 72 (wN b j) := by
      have hm := hb.mg j (by omega)
      have h3 := mg_sub (mg_add hm.2 (show mg 70 1 by unfold mg; decide)) (mg_mono hm.1 (show 70 ≤ 71 by decide))
      exact h3
    have := mg_mul h1 h2
    rw [prodT]
    exact mg_mono this (by omega)
def ptsD (P : List (List Int)) : List D := P.map fun p => .tuple (numsD p)
def wordT : D → D
  | .tuple [.int p, .int q] => wordD (p, q)
  | y => y
theorem dEq_word {x : Iv} : dEq (wordD x) (.str "down") = some (.bool (isDown (wordD x))) := by
  have h0 : dEq .none (.str "down") = some (.bool false) := by
    rw [dEq_sh rfl (by decide +kernel) (fun _ z => by cases z)]
    simp [PyData.eqv]
  unfold wordD
  split
  · simp [isDown]
  · split
    · simp [isDown]
    · split
      · simp [isDown]
      · rw [h0]; rfl
theorem dIn_word {x : Iv} : dIn (wordD x) (.tuple [.str "up", .str "same"]) = some (.bool (isUp (wordD x))) := by
  have h0 : dIn .none (.tuple [.str "up", .str "same"]) = some (.bool false) := by
    rw [dIn_none rfl]; rfl
  unfold wordD
  split
  · simp [isUp]
  · split
    · simp [isUp]
    · split
      · simp [isUp]
      · rw [h0]; rfl
theorem dIn_words {n : Nat} {b : List Iv} {a : List Rs} {i : Nat} : dIn .none (.tuple (wordsL n b a i)) = some (.bool (noWord n b a i)) := dIn_none wordsL_flat
end DL


namespace DL
open PySem PySem.Spec PyProof.Rows L2
/-! RW9: degrees and sizes; points; what may be shown of long numbers. -/
def Rs.msr (l : Nat) (f : List Nat) : Rs → Nat
  | .inp _ => 1
  | .set _ => l
  | .neg i => f.getD i 0
  | .add i j => max (f.getD i 0) (f.getD j 0)
  | .sub i j => max (f.getD i 0) (f.getD j 0)
  | .mul i j => f.getD i 0 + f.getD j 0
def msS (l : Nat) (a : List Rs) : List Nat := runS (Rs.msr l) a []
theorem msS_len {l : Nat} {a : List Rs} : (msS l a).length = a.length := by unfold msS; rw [runS_len]; simp
theorem ms_at {n l : Nat} {a : List Rs} (ho : okFrom n 0 a) {i : Nat} (hi : i < a.length) : (msS l a).getD i 0 = Rs.msr l (msS l a) a[i] := by
  refine runS_at (n := n) (fun l l' s m ok h => ?_) ho hi
  cases s with
  | inp k => rfl
  | set c => rfl
  | neg i => simp only [Rs.msr]; rw [h i ok]
  | add i j => simp only [Rs.msr]; rw [h i ok.1, h j ok.2]
  | sub i j => simp only [Rs.msr]; rw [h i ok.1, h j ok.2]
  | mul i j => simp only [Rs.msr]; rw [h i ok.1, h j ok.2]
theorem ms_le {n l : Nat} {a : List Rs} (hl : l ≤ 1) (ho : okFrom n 0 a) : ∀ {i : Nat}, i < a.length → (msS l a).getD i 0 ≤ 2 ^ i := by
  intro i
  induction i using Nat.strongRecOn with
  | ind i ih =>
    intro hi
    have ok := ok_at ho hi
    rw [ms_at ho hi]
    have p1 : 1 ≤ 2 ^ i := Nat.pow_pos (by decide)
    have low : ∀ j, j < i → (msS l a).getD j 0 + (msS l a).getD j 0 ≤ 2 ^ i := fun j hj => by
      have h1 := ih j hj (by omega)
      have h2 : 2 ^ (j + 1) ≤ 2 ^ i := Nat.pow_le_pow_right (by decide) (by omega)
      rw [Nat.pow_succ] at h2; omega
    cases hs : a[i] with
    | inp k => exact p1
    | set c => exact Nat.le_trans hl p1
    | neg j => rw [hs] at ok; have := low j ok; simp only [Rs.msr]; omega
    | add j k => rw [hs] at ok; have := low j ok.1; have := low k ok.2; simp only [Rs.msr]; omega
    | sub j k => rw [hs] at ok; have := low j ok.1; have := low k ok.2; simp only [Rs.msr]; omega
    | mul j k => rw [hs] at ok; have := low j ok.1; have := low k ok.2; simp only [Rs.msr]; omega
/-- a list of data that all are small -/
theorem szA_le {B : Nat} : ∀ {l : List D}, (∀ d ∈ l, sz d ≤ B ∧ d.depth = 0) → szA l ≤ l.length * (B + 2) ∧ PyData.depthAll l = 0
  | [], _ => ⟨by simp [szA], by simp [PyData.depthAll]⟩
  | x :: r, h => by
    obtain ⟨h1, h2⟩ := szA_le (l := r) fun d hd => h d (List.mem_cons_of_mem _ hd)
    obtain ⟨h3, h4⟩ := h x (List.mem_cons_self ..)
    refine ⟨?_, ?_⟩
    · rw [szA, List.length_cons, Nat.succ_mul]; omega
    · rw [PyData.depthAll, h2, h4]; rfl
theorem gd_ints {l : List Nat} {E N : Nat} (hE : E ≤ 14000) (hN : l.length ≤ N) (h : ∀ i, i < l.length → l.getD i 0 < 2 ^ (E + 1)) : sz (.tuple (intsD l)) ≤ N * (E + 5) + 4 ∧ PyData.depth (.tuple (intsD l)) = 1 := by
  have q : ∀ d ∈ intsD l, sz d ≤ E + 3 ∧ d.depth = 0 := fun d hd => by
    simp only [intsD, List.mem_map] at hd
    obtain ⟨x, hx, rfl⟩ := hd
    obtain ⟨i, hi, e⟩ := List.getElem_of_mem hx
    have hh := h i hi
    rw [List.getD_eq_getElem?_getD, List.getElem?_eq_getElem hi, Option.getD_some, e] at hh
    exact ⟨sz_intB (n := E + 1) (by omega) (by omega) (by simpa using hh), rfl⟩
  obtain ⟨h1, h2⟩ := szA_le q
  refine ⟨?_, by rw [dp_tup, h2]⟩
  rw [sz_tup, show E + 5 = E + 3 + 2 from rfl]
  rw [intsD_len] at h1
  have := Nat.mul_le_mul_right (E + 3 + 2) hN
  omega
theorem gd_nums {l : List Int} {E N : Nat} (hE : E ≤ 14000) (hN : l.length ≤ N) (h : ∀ i, i < l.length → mg (E + 1) (l.getD i 0)) : sz (.tuple (numsD l)) ≤ N * (E + 5) + 4 ∧ PyData.depth (.tuple (numsD l)) = 1 := by
  have q : ∀ d ∈ numsD l, sz d ≤ E + 3 ∧ d.depth = 0 := fun d hd => by
    simp only [numsD, List.mem_map] at hd
    obtain ⟨x, hx, rfl⟩ := hd
    obtain ⟨i, hi, e⟩ := List.getElem_of_mem hx
    have hh := h i hi
    rw [List.getD_eq_getElem?_getD, List.getElem?_eq_getElem hi, Option.getD_some, e] at hh
    exact ⟨sz_intB (n := E + 1) (by omega) (by omega) hh, rfl⟩
  obtain ⟨h1, h2⟩ := szA_le q
  refine ⟨?_, by rw [dp_tup, h2]⟩
  rw [sz_tup, show E + 5 = E + 3 + 2 from rfl]
  rw [numsD_len] at h1
  have := Nat.mul_le_mul_right (E + 3 + 2) hN
  omega
/-- is a point of n numbers -/
def isPt (n : Nat) : D → Bool
  | .tuple l => decide (l.length = n) && l.all fun x => isI x (-100000000000000000000) 100000000000000000000
  | _ => false
end DL


namespace Lw
open PySem PySem.Spec PyProof.Rows L2 DL
/-! the text of law_k52_patterns_judged, by its defs (printed by gen.py) -/
def topS (i : Nat) : Stmt := PySem.Challenge.pw_rowsback_k52_patterns_judged.main.body.getD i (.Pass ⟨0, 0, 0, 0⟩)
abbrev s_p_is_integer : Stmt := topS 6
abbrev n_p_is_integer : List Str := ["value", "least", "most"]
theorem sc_p_is_integer : FnScope n_p_is_integer ["value", "least", "most"] (defScope s_p_is_integer) := ⟨rfl, rfl, rfl, by decide +kernel, rfl, by decide +kernel, by decide +kernel⟩
abbrev s_p_is_lot : Stmt := topS 8
abbrev n_p_is_lot : List Str := ["value", "many", "index", "own"]
theorem sc_p_is_lot : FnScope n_p_is_lot ["value", "many"] (defScope s_p_is_lot) := ⟨rfl, rfl, rfl, by decide +kernel, rfl, by decide +kernel, by decide +kernel⟩
abbrev s_p_pattern_error : Stmt := topS 9
abbrev n_p_pattern_error : List Str := ["value", "index", "lot"]
theorem sc_p_pattern_error : FnScope n_p_pattern_error ["value"] (defScope s_p_pattern_error) := ⟨rfl, rfl, rfl, by decide +kernel, rfl, by decide +kernel, by decide +kernel⟩
abbrev s_p_turned_pattern : Stmt := topS 10
abbrev n_p_turned_pattern : List Str := ["pattern", "many", "lots", "found", "unknown", "end", "lot"]
theorem sc_p_turned_pattern : FnScope n_p_turned_pattern ["pattern"] (defScope s_p_turned_pattern) := ⟨rfl, rfl, rfl, by decide +kernel, rfl, by decide +kernel, by decide +kernel⟩
abbrev s_p_fed_pattern : Stmt := topS 11
abbrev n_p_fed_pattern : List Str := ["one", "other", "found", "lot", "inner", "own", "unknown"]
theorem sc_p_fed_pattern : FnScope n_p_fed_pattern ["one", "other"] (defScope s_p_fed_pattern) := ⟨rfl, rfl, rfl, by decide +kernel, rfl, by decide +kernel, by decide +kernel⟩
abbrev s_l_deck : Stmt := topS 13
abbrev n_l_deck : List Str := ["_law_script", "_law_cells", "_law_cell"]
theorem sc_l_deck : FnScope n_l_deck ["_law_script"] (defScope s_l_deck) := ⟨rfl, rfl, rfl, by decide +kernel, rfl, by decide +kernel, by decide +kernel⟩
abbrev s_l_draw : Stmt := topS 14
abbrev n_l_draw : List Str := ["_law_deck_here", "_law_many", "_law_rest", "_law_cell", "_law_mixed"]
theorem sc_l_draw : FnScope n_l_draw ["_law_deck_here", "_law_many"] (defScope s_l_draw) := ⟨rfl, rfl, rfl, by decide +kernel, rfl, by decide +kernel, by decide +kernel⟩
abbrev s_l_one : Stmt := topS 15
abbrev n_l_one : List Str := ["_law_deck_here", "_law_items"]
theorem sc_l_one : FnScope n_l_one ["_law_deck_here", "_law_items"] (defScope s_l_one) := ⟨rfl, rfl, rfl, by decide +kernel, rfl, by decide +kernel, by decide +kernel⟩
abbrev s_l_odd : Stmt := topS 16
abbrev n_l_odd : List Str := ["_law_deck_here", "_law_some"]
theorem sc_l_odd : FnScope n_l_odd ["_law_deck_here"] (defScope s_l_odd) := ⟨rfl, rfl, rfl, by decide +kernel, rfl, by decide +kernel, by decide +kernel⟩
abbrev s_l_bent : Stmt := topS 17
abbrev n_l_bent : List Str := ["_law_deck_here", "_law_value", "_law_deep", "_law_at", "_law_near", "_law_some"]
theorem sc_l_bent : FnScope n_l_bent ["_law_deck_here", "_law_value", "_law_deep"] (defScope s_l_bent) := ⟨rfl, rfl, rfl, by decide +kernel, rfl, by decide +kernel, by decide +kernel⟩
abbrev s_l_whole : Stmt := topS 18
abbrev n_l_whole : List Str := ["_law_value", "_law_least", "_law_most"]
theorem sc_l_whole : FnScope n_l_whole ["_law_value", "_law_least", "_law_most"] (defScope s_l_whole) := ⟨rfl, rfl, rfl, by decide +kernel, rfl, by decide +kernel, by decide +kernel⟩
abbrev s_l_is_lot : Stmt := topS 19
abbrev n_l_is_lot : List Str := ["_law_value", "_law_many", "_law_own", "_law_k"]
theorem sc_l_is_lot : FnScope n_l_is_lot ["_law_value", "_law_many"] (defScope s_l_is_lot) := ⟨rfl, rfl, rfl, by decide +kernel, rfl, by decide +kernel, by decide +kernel⟩
abbrev s_l_pattern : Stmt := topS 20
abbrev n_l_pattern : List Str := ["_law_deck_here", "_law_most", "_law_many", "_law_wide", "_law_lots", "_law_end", "_law_unknown"]
theorem sc_l_pattern : FnScope n_l_pattern ["_law_deck_here", "_law_most"] (defScope s_l_pattern) := ⟨rfl, rfl, rfl, by decide +kernel, rfl, by decide +kernel, by decide +kernel⟩
abbrev s_l_pattern_error : Stmt := topS 21
abbrev n_l_pattern_error : List Str := ["_law_value", "_law_wrong", "_law_k"]
theorem sc_l_pattern_error : FnScope n_l_pattern_error ["_law_value"] (defScope s_l_pattern_error) := ⟨rfl, rfl, rfl, by decide +kernel, rfl, by decide +kernel, by decide +kernel⟩
abbrev s_l_fed : Stmt := topS 22
abbrev n_l_fed : List Str := ["_law_one_here", "_law_other", "_law_found"]
theorem sc_l_fed : FnScope n_l_fed ["_law_one_here", "_law_other"] (defScope s_l_fed) := ⟨rfl, rfl, rfl, by decide +kernel, rfl, by decide +kernel, by decide +kernel⟩
abbrev s_l_fed_due : Stmt := topS 23
abbrev n_l_fed_due : List Str := ["_law_one_here", "_law_other", "_law_found", "_law_lot", "_law_own", "_law_number"]
theorem sc_l_fed_due : FnScope n_l_fed_due ["_law_one_here", "_law_other"] (defScope s_l_fed_due) := ⟨rfl, rfl, rfl, by decide +kernel, rfl, by decide +kernel, by decide +kernel⟩
abbrev s_p_law : Stmt := topS 24
abbrev n_p_law : List Str := ["_law_script", "_law_deck_here", "_law_turn", "_law_one_here", "_law_other", "_law_lots", "_law_many", "_law_some", "_law_value", "_law_shown", "_law_marks", "_law_end", "_law_turned", "_law_due", "_law_k", "_law_own", "_law_unknown"]
theorem sc_p_law : FnScope n_p_law ["_law_script"] (defScope s_p_law) := ⟨rfl, rfl, rfl, by decide +kernel, rfl, by decide +kernel, by decide +kernel⟩
/-- what the top has written -/
structure Txt (K : PySem.W.Frag) (mg : Str → Option Value) : Prop where
  f_p_is_integer : ∃ (f : Addr) (fd : FuncData), Fun K "is_integer" "is_integer" s_p_is_integer f fd ∧ mg "is_integer" = some (.ref f)
  f_p_is_lot : ∃ (f : Addr) (fd : FuncData), Fun K "is_lot" "is_lot" s_p_is_lot f fd ∧ mg "is_lot" = some (.ref f)
  f_p_pattern_error : ∃ (f : Addr) (fd : FuncData), Fun K "pattern_error" "pattern_error" s_p_pattern_error f fd ∧ mg "pattern_error" = some (.ref f)
  f_p_turned_pattern : ∃ (f : Addr) (fd : FuncData), Fun K "turned_pattern" "turned_pattern" s_p_turned_pattern f fd ∧ mg "turned_pattern" = some (.ref f)
  f_p_fed_pattern : ∃ (f : Addr) (fd : FuncData), Fun K "fed_pattern" "fed_pattern" s_p_fed_pattern f fd ∧ mg "fed_pattern" = some (.ref f)
  f_l_deck : ∃ (f : Addr) (fd : FuncData), Fun K "_law_deck" "_law_deck" s_l_deck f fd ∧ mg "_law_deck" = some (.ref f)
  f_l_draw : ∃ (f : Addr) (fd : FuncData), Fun K "_law_draw" "_law_draw" s_l_draw f fd ∧ mg "_law_draw" = some (.ref f)
  f_l_one : ∃ (f : Addr) (fd : FuncData), Fun K "_law_one" "_law_one" s_l_one f fd ∧ mg "_law_one" = some (.ref f)
  f_l_odd : ∃ (f : Addr) (fd : FuncData), Fun K "_law_odd" "_law_odd" s_l_odd f fd ∧ mg "_law_odd" = some (.ref f)
  f_l_bent : ∃ (f : Addr) (fd : FuncData), Fun K "_law_bent" "_law_bent" s_l_bent f fd ∧ mg "_law_bent" = some (.ref f)
  f_l_whole : ∃ (f : Addr) (fd : FuncData), Fun K "_law_whole" "_law_whole" s_l_whole f fd ∧ mg "_law_whole" = some (.ref f)
  f_l_is_lot : ∃ (f : Addr) (fd : FuncData), Fun K "_law_is_lot" "_law_is_lot" s_l_is_lot f fd ∧ mg "_law_is_lot" = some (.ref f)
  f_l_pattern : ∃ (f : Addr) (fd : FuncData), Fun K "_law_pattern" "_law_pattern" s_l_pattern f fd ∧ mg "_law_pattern" = some (.ref f)
  f_l_pattern_error : ∃ (f : Addr) (fd : FuncData), Fun K "_law_pattern_error" "_law_pattern_error" s_l_pattern_error f fd ∧ mg "_law_pattern_error" = some (.ref f)
  f_l_fed : ∃ (f : Addr) (fd : FuncData), Fun K "_law_fed" "_law_fed" s_l_fed f fd ∧ mg "_law_fed" = some (.ref f)
  f_l_fed_due : ∃ (f : Addr) (fd : FuncData), Fun K "_law_fed_due" "_law_fed_due" s_l_fed_due f fd ∧ mg "_law_fed_due" = some (.ref f)
  f_p_law : ∃ (f : Addr) (fd : FuncData), Fun K "law" "law" s_p_law f fd ∧ mg "law" = some (.ref f)
  e_Unfit : ExB K mg "Unfit"
  l_Unfit : ClF K mg "Unfit" ["Unfit"]
  zd : NoDig K
  b_abs : mg "abs" = none
  b_bool : mg "bool" = none
  b_enumerate : mg "enumerate" = none
  b_int : mg "int" = none
  b_isinstance : mg "isinstance" = none
  b_len : mg "len" = none
  b_list : mg "list" = none
  b_range : mg "range" = none
  b_repr : mg "repr" = none
  b_set : mg "set" = none
  b_sorted : mg "sorted" = none
  b_str : mg "str" = none
  b_tuple : mg "tuple" = none
  c_MAX_INPUTS : ∃ (v : V) (u : Value), mg "MAX_INPUTS" = some u ∧ RelV v u ∧ ∀ H : Hp, Rp K H v (.int 8)
  c_MAX_ENDS : ∃ (v : V) (u : Value), mg "MAX_ENDS" = some u ∧ RelV v u ∧ ∀ H : Hp, Rp K H v (.int 8)
theorem canLay_ints : ∀ ns : List Int, PyData.canLayAll0 (ns.map PyData.int) = true
  | [] => rfl
  | n :: r => by rw [List.map_cons, PyData.canLayAll0, canLay_ints r]; rfl
theorem depth_ints : ∀ ns : List Int, PyData.depthAll (ns.map PyData.int) ≤ 1
  | [] => by simp [PyData.depthAll]
  | n :: r => by
    have := depth_ints r
    rw [List.map_cons, PyData.depthAll]
    simp only [PyData.depth]
    omega
theorem shaped_ints (ns : List Int) : SeqAt.shaped (.list (ns.map PyData.int)) = true := by
  unfold SeqAt.shaped
  have := depth_ints ns
  rw [Bool.and_eq_true, decide_eq_true_eq]
  refine ⟨by rw [PyData.canLay0]; exact canLay_ints ns, ?_⟩
  rw [PyData.depth]; omega
theorem dp_ints {K : PySem.W.Frag} {H : Hp} : ∀ ns : List Int, DpAll K H (ns.map V.int) (ns.map PyData.int)
  | [] => .nil
  | n :: r => .cons (.int n) (dp_ints r)
theorem ixN0 {α : Type} (x : α) (l : List α) : ixN (x :: l).length 0 = some 0 := by
  unfold ixN
  rw [if_pos (by decide), if_pos (by simp)]; rfl
section
variable {P : Program} {w : World} {K : PySem.W.Frag} {mg : Str → Option Value} {base : Heap}
set_option maxHeartbeats 8000000 in
theorem ok_draw {f : Addr} {fd : FuncData} {k : Nat} (F : Fun K "_law_draw" "_law_draw" s_l_draw f fd) (m1 : mg "int" = none) (m2 : mg "len" = none) : FnOk P w K mg base CX0 (k + 1) f fd ["_law_deck_here", "_law_many"] (spD K drawSem) := by
  refine F.ok sc_l_draw (fun vs H Q E h => ?_) (fun cdv A outer s H vs Q E hr h => ?_)
  · obtain ⟨A, R, xs, k, d, k', hx, t, dk, ar, e, _⟩ := h
    unfold drawSem at e
    split at e
    · exact ar.length
    · cases e
  · obtain ⟨A0, R, xs, k0, d, k', hx, t, dk, ar, e, q⟩ := h
    unfold drawSem at e
    split at e
    · rename_i m
      split at e
      · rename_i hm
        match vs, ar with
        | [v0, v1], ar =>
          obtain ⟨rfl, rv, _⟩ := ar
          obtain rfl : v1 = .int m := Rp.int_inv rv
          refine ⟨_, pss_cons (ps_if (pt_cmpR (op_neD hr.units) (pe_ix ix_list (pv 0) pe_int (fun _ _ => rfl)) (pe_lst pa_nil) (nomark _))
            (pss_cons (ps_set (i := 2) sc_l_draw.nd rfl (Or.inl rfl) (pe_ix ix_list (pe_ix ix_list (pv 0) pe_int (fun _ _ => rfl)) pe_int (fun _ _ => rfl)))
            (pss_cons (ps_asg (pe_op op_fdivW (pv 2) (pv 1)) (pg_sub (pe_ix ix_list (pv 0) pe_int (fun _ _ => rfl)) pe_int set_list))
            (pss_cons (ps_if (pt_cmpR op_eq (pe_ix ix_list (pe_ix ix_list (pv 0) pe_int (fun _ _ => rfl)) pe_int (fun _ _ => rfl)) pe_int (nomark _))
              (pss_one (ps_expr (pe_bm PySem.F.plainAttrs_list PySem.F.slot_list_pop PySem.F.type_list_pop mt_popAt (pe_ix ix_list (pv 0) pe_int (fun _ _ => rfl)) (pa_cons pe_int pa_nil)))) pss_nil)
            (pss_one (ps_ret (pe_op op_modN (pe_callTy call_int1 (by rfl) m1 (by decide +kernel) (pa_cons (pv 2) pa_nil)) (pv 1))))))) pss_nil)
            (pss_cons (ps_asg (pe_op op_add (pe_ix ix_list (pv 0) pe_int (fun _ _ => rfl)) pe_int) (pg_sub (pv 0) pe_int set_list))
            (pss_cons (ps_set (i := 3) sc_l_draw.nd rfl (Or.inl rfl) (pe_ix ix_list (pe_ix ix_list (pv 0) pe_int (fun _ _ => rfl))
              (pe_op op_modN (pe_callTy call_int1 (by rfl) m1 (by decide +kernel) (pa_cons (pe_ix ix_list (pv 0) pe_int (fun _ _ => rfl)) pa_nil)) (pe_callB call_len_seq (by rfl) m2 (by decide +kernel) (pa_cons (pe_ix ix_list (pv 0) pe_int (fun _ _ => rfl)) pa_nil))) (fun _ _ => rfl)))
            (pss_cons (ps_set (i := 4) sc_l_draw.nd rfl (Or.inl rfl) (pe_op op_modN (pe_callTy call_int1 (by rfl) m1 (by decide +kernel) (pa_cons (pe_op op_add
                (pe_op op_modN (pe_callTy call_int1 (by rfl) m1 (by decide +kernel) (pa_cons (pv 3) pa_nil)) pe_int) (pe_op op_mul pe_int (pe_ix ix_list (pv 0) pe_int (fun _ _ => rfl)))) pa_nil)) pe_int))
            (pss_cons (ps_set (i := 4) sc_l_draw.nd rfl (Or.inl rfl) (pe_op op_modN (pe_callTy call_int1 (by rfl) m1 (by decide +kernel) (pa_cons (pe_op op_add
                (pe_op op_mul (pv 4) (pv 4)) (pe_op op_mul pe_int (pe_ix ix_list (pv 0) pe_int (fun _ _ => rfl)))) pa_nil)) pe_int))
            (pss_one (ps_ret (pe_op op_modN (pe_op op_fdivW (pe_op op_modN (pe_callTy call_int1 (by rfl) m1 (by decide +kernel) (pa_cons (pe_op op_mul (pv 4) (pv 4)) pa_nil)) pe_int) pe_int) (pv 1)))))))), ?_⟩
          have hne : ∀ (p : Addr) (hp : H p = none) (Q' : VK), Q' (.bl (!PyData.eqv (.list (k0.great.map PyData.int)) (.list []))) (upd H p (.lst [])) → rNeD K (.ref A0.g) (.ref p) (upd H p (.lst [])) Q' := fun p hp Q' h =>
            ⟨_, _, .lst (SqL.of (Grw.new hp _ _ dk.hg)) (dp_ints k0.great), .lst (SqL.of upd_same) .nil, shaped_ints _, rfl, h⟩
          refine ⟨.ref A0.o, rfl, A0.o, _, 0, .ref A0.g, rfl, rfl, SqL.of dk.ho, rfl, Nat.zero_le _, fun p hp => hne p hp _ ?_⟩
          have gr : Grw H (upd H p (.lst [])) := Grw.new hp
          have dk1 := dk.grw gr
          unfold Dk.drw at e
          cases hg : k0.great with
          | cons g r =>
            rw [hg] at e
            cases e
            have hG1 : (upd H p (.lst [])) A0.g = some (.lst ((g :: r).map V.int)) := by rw [← hg]; exact dk1.hg
            refine ⟨true, rfl, iteT ?_⟩
            -- rest = deck[0][0]
            refine ⟨.ref A0.o, rfl, A0.o, _, 0, .ref A0.g, rfl, rfl, SqL.of dk1.ho, rfl, A0.g, _, 0, .int g, rfl, rfl, SqL.of hG1, atI_nat (j := 0) rfl, ?_⟩
            -- deck[0][0] = rest // many
            have hm30 : m.natAbs < 2 ^ 30 := Nat.lt_of_lt_of_le (m := 1000000000) (by omega) (by decide)
            have hdv : CDivW g m := wide_div hm.1 hm30 (by decide) (by decide)
            refine ⟨.int g, rfl, .int m, rfl, g, m, rfl, rfl, hdv, ?_⟩
            refine ⟨.ref A0.o, rfl, A0.o, _, 0, .ref A0.g, rfl, rfl, SqL.of dk1.ho, rfl, A0.g, _, 0, 0, rfl, rfl, hG1, ixN0 _ _, ?_⟩
            have dk2 : DkOk A0 R (upd (upd H p (.lst [])) A0.g (.lst ((g / m :: r).map V.int))) { k0 with great := g / m :: r } := dk1.putG
            have kp2 : ∀ a o, H a = some o → ¬ A0.is a → (upd (upd H p (.lst [])) A0.g (.lst ((g / m :: r).map V.int))) a = some o := fun a o h n => keepG (.inr (.inl rfl)) a o (gr a o h) n
            refine ⟨.ref A0.o, rfl, A0.o, _, 0, .ref A0.g, rfl, rfl, SqL.of dk2.ho, rfl, A0.g, _, 0, .int (g / m), rfl, rfl, SqL.of dk2.hg, atI_nat (j := 0) rfl, rfl, _, rfl, ?_⟩
            have hmod : ∀ (H' : Hp) (gs : List Int), (∀ a o, H a = some o → ¬ A0.is a → H' a = some o) → DkOk A0 R H' { k0 with great := gs } → gs = (if g / m = 0 then r else g / m :: r) →
                tRet (tOp (rI (fun _ j => j ≠ 0) fun i j => .int (i.fmod j)) (tCB rInt1 (tCons (tVar 2) tNil)) (tVar 1)) { nx := fun _ H' => Q .non H', rt := Q } [some (.ref A0.o), some (.int m), some (.int g), none, none] H' := by
              intro H' gs k1 k2 k3
              refine ⟨.int g, rfl, .inl ⟨g, rfl, .int m, rfl, g, m, rfl, rfl, by omega, ?_⟩⟩
              subst k3
              exact q _ H' k1 k2 (.int _)
            by_cases hz : g / m = 0
            · have hz' : decide ((V.int (g / m)) = V.int 0) = true := by rw [hz]; rfl
              rw [hz']
              refine iteT ?_
              refine ⟨.ref A0.o, rfl, A0.o, _, 0, .ref A0.g, rfl, rfl, SqL.of dk2.ho, rfl, .inl ⟨rfl, _, SqL.of dk2.hg⟩, A0.g, _, 0, 0, .int (g / m), rfl, rfl, dk2.hg, by decide, by decide, ?_, rfl, ?_⟩
              · exact (ixN_seq (show ixN ((g / m :: r).map V.int).length 0 = some 0 from ixN0 _ _)).1
              · have dk3 : DkOk A0 R (upd (upd (upd H p (.lst [])) A0.g (.lst ((g / m :: r).map V.int))) A0.g (.lst (r.map V.int))) { k0 with great := r } := by
                  have h := DkOk.putG (gs := r) dk2
                  exact h
                exact hmod _ r (fun a o h n => keepG (.inr (.inl rfl)) a o (kp2 a o h n) n) dk3 (by rw [if_pos hz])
            · have hz' : decide ((V.int (g / m)) = V.int 0) = false := decide_eq_false fun z => hz (by injection z)
              rw [hz']
              refine iteF ?_
              exact hmod _ (g / m :: r) kp2 dk2 (by rw [if_neg hz])
          | nil =>
            rw [hg] at e
            simp only at e
            refine ⟨false, rfl, iteF ?_⟩
            -- deck[2] = deck[2] + 1
            refine ⟨.ref A0.o, rfl, A0.o, _, 2, .int k0.n, rfl, rfl, SqL.of dk1.ho, rfl, k0.n, 1, rfl, rfl, ?_⟩
            refine ⟨.ref A0.o, rfl, A0.o, _, 2, 2, rfl, rfl, dk1.ho, rfl, ?_⟩
            have dk2 : DkOk A0 R (upd (upd H p (.lst [])) A0.o (.lst [.ref A0.g, .ref A0.c, .int (k0.n + 1)])) { k0 with n := k0.n + 1 } := dk1.putN
            have kp2 : ∀ a o, H a = some o → ¬ A0.is a → (upd (upd H p (.lst [])) A0.o (.lst [.ref A0.g, .ref A0.c, .int (k0.n + 1)])) a = some o := fun a o h n => keepG (.inl rfl) a o (gr a o h) n
            cases hc : k0.cells[((k0.n + 1).fmod (k0.cells.length : Int)).toNat]? with
            | none => rw [hc] at e; cases e
            | some c =>
              rw [hc] at e
              cases e
              have hl : 0 < k0.cells.length := by
                have := (List.getElem?_eq_some_iff.mp hc).1
                omega
              have hb := fmod_lt (a := k0.n + 1) (m := (k0.cells.length : Int)) (by omega)
              -- cell
              refine ⟨.ref A0.o, rfl, A0.o, _, 1, .ref A0.c, rfl, rfl, SqL.of dk2.ho, rfl, .ref A0.o, rfl, A0.o, _, 2, .int (k0.n + 1), rfl, rfl, SqL.of dk2.ho, rfl, .inl ⟨k0.n + 1, rfl, .ref A0.o, rfl, A0.o, _, 1, .ref A0.c, rfl, rfl, SqL.of dk2.ho, rfl, A0.c, _, rfl, .inl (SqL.of dk2.hc), ?_⟩⟩
              refine ⟨k0.n + 1, ((k0.cells.map V.int).length : Int), rfl, rfl, by rw [List.length_map]; omega, ?_⟩
              refine ⟨A0.c, _, (k0.n + 1).fmod ((k0.cells.map V.int).length : Int), .int c, rfl, rfl, SqL.of dk2.hc, ?_, ?_⟩
              · rw [List.length_map]
                have h1 : ((((k0.n + 1).fmod (k0.cells.length : Int)).toNat : Nat) : Int) = (k0.n + 1).fmod (k0.cells.length : Int) := by omega
                have h2 := atI_nat (xs := k0.cells.map V.int) (j := ((k0.n + 1).fmod (k0.cells.length : Int)).toNat) (v := .int c) (by rw [List.getElem?_map, hc]; rfl)
                rw [h1] at h2
                exact h2
              -- mixed
              refine ⟨.int c, rfl, .inl ⟨c, rfl, c, 4294966297, rfl, rfl, (show (4294966297 : Int) ≠ 0 by decide), .ref A0.o, rfl, A0.o, _, 2, .int (k0.n + 1), rfl, rfl, SqL.of dk2.ho, rfl, 1640531527, k0.n + 1, rfl, rfl, .inl ⟨by decide, by decide⟩, _, _, rfl, rfl, .inl ⟨_, rfl, _, 4294966297, rfl, rfl, (show (4294966297 : Int) ≠ 0 by decide), ?_⟩⟩⟩
              have ha := fmod_lt (a := c.fmod 4294966297 + 1640531527 * (k0.n + 1)) (m := 4294966297) (by decide)
              have hbb := fmod_lt (a := (c.fmod 4294966297 + 1640531527 * (k0.n + 1)).fmod 4294966297 * (c.fmod 4294966297 + 1640531527 * (k0.n + 1)).fmod 4294966297 + 122949823 * (k0.n + 1)) (m := 4294966237) (by decide)
              refine ⟨_, rfl, _, rfl, _, _, rfl, rfl, .inl ⟨by omega, by omega⟩, .ref A0.o, rfl, A0.o, _, 2, .int (k0.n + 1), rfl, rfl, SqL.of dk2.ho, rfl, 122949823, k0.n + 1, rfl, rfl, .inl ⟨by decide, by decide⟩, _, _, rfl, rfl, .inl ⟨_, rfl, _, 4294966237, rfl, rfl, (show (4294966237 : Int) ≠ 0 by decide), ?_⟩⟩
              refine ⟨_, rfl, _, rfl, _, _, rfl, rfl, .inl ⟨by omega, by omega⟩, .inl ⟨_, rfl, _, 4294966187, rfl, rfl, (show (4294966187 : Int) ≠ 0 by decide), _, 1024, rfl, rfl, ⟨by decide, by decide⟩, .int m, rfl, _, m, rfl, rfl, by omega, ?_⟩⟩
              exact q _ _ kp2 (by have h := dk2; rw [hg] at h; exact h) (.int _)
      · cases e
    · cases e
end
/-- some ints -/
def Ints (xs : List V) : Prop := ∃ ns : List Int, xs = ns.map V.int
theorem Ints.nil : Ints [] := ⟨[], rfl⟩
theorem Ints.snoc {xs : List V} {i : Int} (h : Ints xs) : Ints (xs ++ [.int i]) := by
  obtain ⟨ns, rfl⟩ := h
  exact ⟨ns ++ [i], by simp⟩
theorem Ints.get {xs : List V} {i : Nat} {v : V} (h : Ints xs) (e : xs[i]? = some v) : ∃ n, v = .int n := by
  obtain ⟨ns, rfl⟩ := h
  rw [List.getElem?_map] at e
  cases q : ns[i]? with
  | none => rw [q] at e; cases e
  | some n => rw [q] at e; cases e; exact ⟨n, rfl⟩
theorem sz1 {n : Nat} (h : n ≤ 100000) : n < sizeLine := by rw [sizeLine_eq]; omega
theorem back_none {H H' : Hp} {p : Addr} (g : Grw H H') (h : H' p = none) : H p = none := by
  cases q : H p with
  | none => rfl
  | some o => rw [g p o q] at h; cases h
section
variable {P : Program} {w : World} {K : PySem.W.Frag} {mg : Str → Option Value} {base : Heap}
set_option maxHeartbeats 8000000 in
theorem ok_deck {f : Addr} {fd : FuncData} {k : Nat} (F : Fun K "_law_deck" "_law_deck" s_l_deck f fd) (m1 : mg "abs" = none) (m2 : mg "len" = none) : FnOk P w K mg base CX0 (k + 1) f fd ["_law_script"] (spDeck K) := by
  refine F.ok sc_l_deck (fun vs H Q E h => ?_) (fun cdv A outer s H vs Q E hr h => ?_)
  · obtain ⟨a, ns, rfl, _⟩ := h
    rfl
  · obtain ⟨a, ns, rfl, hS, hl, q⟩ := h
    refine ⟨_, pss_cons (ps_setLc (i := 1) (own := [("_law_cell", 2)]) (g := gName 2) (tt := tYes) rfl sc_l_deck.nd rfl rfl (sw_true rfl rfl rfl (by decide +kernel)) (pi_list (pe_slice sl_list (pv 0) po_none (po_some pe_int)))
        (blkOk_by (own := [("_law_cell", 2)]) (N := n_l_deck) (sc := defScope s_l_deck) (by decide +kernel)) (fun _ _ _ _ _ => pg_name (i := 2) sc_l_deck.nd rfl (Or.inl rfl)) (fun _ _ _ _ _ => pts_nil) (fun _ _ _ _ _ => pe_callB call_abs (by rfl) m1 (by decide +kernel) (pa_cons (pv 2) pa_nil)))
      (pss_one (ps_ret (pe_lst (pa_cons (pe_lc (own := [("_law_cell", 2)]) (g := gName 2) rfl sc_l_deck.nd (pi_list (pv 1)) (blkOk_by (own := [("_law_cell", 2)]) (N := n_l_deck) (sc := defScope s_l_deck) (by decide +kernel))
          (fun _ _ _ _ _ => pg_name (i := 2) sc_l_deck.nd rfl (Or.inl rfl)) (fun _ _ _ _ _ => pts_one (pt_cmpR op_ge (pv 2) (pe_op op_pow pe_int pe_int) (nomark _))) (fun _ _ _ _ _ => pv 2))
        (pa_cons (pe_op op_cat (pv 1) (pe_lst (pa_cons (pe_op op_add pe_int (pe_callB call_len_seq (by rfl) m2 (by decide +kernel) (pa_cons (pv 1) pa_nil))) pa_nil))) (pa_cons pe_int pa_nil)))))), ?_⟩
    have cutI : Ints (cutV (ns.map V.int) none (some 63)) := by
      unfold cutV
      exact ⟨_, by rw [← List.map_drop, ← List.map_take]⟩
    have cutL : (cutV (ns.map V.int) none (some 63)).length ≤ 1000 := Nat.le_trans (cutV_length _ _ _) (by rw [List.length_map]; exact hl)
    refine ⟨.ref a, rfl, 63, rfl, a, ns.map V.int, rfl, hS, fun c hc => ?_⟩
    revert cutI cutL
    generalize cutV (ns.map V.int) none (some 63) = cs
    intro cutI cutL
    have g1 : Grw H (upd H c (.lst cs)) := Grw.new hc
    refine ⟨c, rfl, ⟨cs, SqL.of upd_same⟩, fun d hd => lc_list (K := K) (a := c) (xs := cs) (fun i H' => Grw (upd H c (.lst cs)) H' ∧ ∃ xs, H' d = some (.lst xs) ∧ Ints xs ∧ xs.length = i) ⟨Grw.new hd, [], upd_same, .nil, rfl⟩
      (fun i H' _ p => SqL.of (p.1 c _ upd_same)) (fun i x H' hx p => ?_) (fun H' p => ?_)⟩
    · obtain ⟨p1, xs, p2, p3, p4⟩ := p
      obtain ⟨n, rfl⟩ := cutI.get hx
      have hi : i < cs.length := (List.getElem?_eq_some_iff.mp hx).1
      refine ⟨rfl, .int n, rfl, n, rfl, xs, p2, sz1 (by omega), ?_⟩
      refine ⟨fun b o e => ?_, _, upd_same, p3.snoc, by simp [p4]⟩
      rw [upd_ne (ne_of_none e hd)]
      exact p1 b o e
    · obtain ⟨p1, xs, p2, p3, p4⟩ := p
      have hxl : xs.length ≤ 1000 := by omega
      have gH : Grw H H' := g1.trans p1
      have dH : H d = none := by
        cases q : H d with
        | none => rfl
        | some o => rw [g1 d o q] at hd; cases hd
      -- the greats
      refine ⟨.ref d, rfl, d, rfl, ⟨xs, SqL.of p2⟩, fun g hg => lc_list (K := K) (a := d) (xs := xs) (fun i H2 => Grw H' H2 ∧ ∃ ys, H2 g = some (.lst ys) ∧ Ints ys ∧ ys.length ≤ i) ⟨Grw.new hg, [], upd_same, .nil, Nat.le_refl _⟩
        (fun i H2 _ p => SqL.of (p.1 d _ p2)) (fun i x H2 hx p => ?_) (fun H2 p => ?_)⟩
      · obtain ⟨r1, ys, r2, r3, r4⟩ := p
        obtain ⟨n, rfl⟩ := p3.get hx
        have hi : i < xs.length := (List.getElem?_eq_some_iff.mp hx).1
        refine ⟨rfl, .int n, rfl, 10, 18, rfl, rfl, ⟨by decide, by decide, by decide⟩, n, _, rfl, rfl, _, rfl, ?_⟩
        cases hb : decide ((10 : Int) ^ (18 : Int).toNat ≤ n) with
        | true =>
          refine iteT ⟨.int n, rfl, ys, r2, sz1 (by omega), fun b o e => ?_, _, upd_same, r3.snoc, by simp [r4]⟩
          rw [upd_ne (ne_of_none e hg)]
          exact r1 b o e
        | false => exact iteF ⟨r1, ys, r2, r3, by omega⟩
      · obtain ⟨r1, ys, r2, r3, r4⟩ := p
        obtain ⟨gs, rfl⟩ := r3
        obtain ⟨csn, rfl⟩ := p3
        have d2 : H2 d = some (.lst (csn.map V.int)) := r1 d _ p2
        have gH2 : Grw H H2 := gH.trans r1
        refine ⟨.ref d, rfl, .ref d, rfl, d, _, rfl, .inl (SqL.of d2), 11246, _, rfl, rfl, (show 1 ≤ sizeLine by rw [sizeLine_eq]; decide), fun e he => ?_⟩
        have d3 := Grw.new (o := .lst [.int (11246 + ((csn.map V.int).length : Int))]) he d _ d2
        refine ⟨d, e, csn.map V.int, _, rfl, rfl, d3, upd_same, (by rw [sizeLine_eq]; simp only [List.length_cons, List.length_nil]; omega), fun o ho => ?_⟩
        refine ⟨(show 3 ≤ sizeLine by rw [sizeLine_eq]; decide), fun z hz => ?_⟩
        have k0 : H2 g = some (.lst (gs.map V.int)) := r2
        have ge : Grw H2 (upd H2 e (.lst [.int (11246 + ((csn.map V.int).length : Int))])) := Grw.new he
        have go := Grw.new (o := .lst (csn.map V.int ++ [.int (11246 + ((csn.map V.int).length : Int))])) ho
        have gz := Grw.new (o := .lst [.ref g, .ref o, .int 0]) hz
        have gAll := gH2.trans (ge.trans (go.trans gz))
        have hgo := go _ _ (ge _ _ k0)
        have hoo : upd (upd H2 e (.lst [.int (11246 + ((csn.map V.int).length : Int))])) o (.lst (csn.map V.int ++ [.int (11246 + ((csn.map V.int).length : Int))])) o = _ := upd_same
        refine q ⟨z, g, o, none⟩ ⟨gs, csn ++ [11246 + ((csn.map V.int).length : Int)], 0⟩ _ rfl gAll ⟨upd_same, gz _ _ hgo, ?_, fun b h => h, ?_, ?_, ?_⟩ ?_ ?_
        · rw [List.map_append]
          exact gz _ _ hoo
        · exact fun w => by
            have w : z = g := w
            rw [w, hgo] at hz; cases hz
        · exact fun w => by
            have w : z = o := w
            rw [w, hoo] at hz; cases hz
        · exact fun w => by
            have w : g = o := w
            rw [← w, ge _ _ k0] at ho; cases ho
        · rintro b (w | w | w | ⟨y, w, _⟩)
          · have w : b = z := w
            rw [w]; exact back_none (gH2.trans (ge.trans go)) hz
          · have w : b = g := w
            rw [w]; exact back_none gH hg
          · have w : b = o := w
            rw [w]; exact back_none (gH2.trans ge) ho
          · cases w
        · exact fun w => by
            have w : csn ++ [11246 + ((csn.map V.int).length : Int)] = [] := w
            simp at w
end
section
variable {P : Program} {w : World} {K : PySem.W.Frag} {mg : Str → Option Value} {base : Heap}
def m_p_is_integer : M Fl :=
  (sRet (eAnd (eIsi "int" (eVar 0)) (eAnd (eNot (eIsi "bool" (eVar 0))) (eChain dLe dLe (eVar 1) (eVar 0) (eVar 2)))))
def sem_p_is_integer : FS := semOf (List.length (["value", "least", "most"] : List Str)) (List.length n_p_is_integer) m_p_is_integer
theorem fd_p_is_integer (T : Txt K mg) : FnD P w K mg base 1 "is_integer" ["value", "least", "most"] [] sem_p_is_integer := by
  obtain ⟨f, fd, F, hm⟩ := T.f_p_is_integer
  refine ⟨f, fd, fnD_of (m := m_p_is_integer) F sc_p_is_integer (fun cdv A outer s H E hr => ?_), hm, F.kp, ?_, ?_⟩
  · show XS _ _ _
    refine xs_one ?_
    · exact x_lf (ds_ret (de_and (k_isi (K := K) "int" (by decide) (by rfl) T.b_isinstance (by decide +kernel) (de_var 0) (by rfl) T.b_int (by decide +kernel)) (de_and (de_not (k_isi (K := K) "bool" (by decide) (by rfl) T.b_isinstance (by decide +kernel) (de_var 0) (by rfl) T.b_bool (by decide +kernel))) (de_one (de_chain op_le op_le do_le do_le (de_var 1) (de_var 0) (de_var 2))))))
  · exact F.binds (ps := ["value", "least", "most"]) fun _ _ _ _ _ _ us hl => match us, hl with | [_, _, _], _ => rfl
  · exact fun q hq => by simp at hq
def m_p_is_lot : M Fl :=
  (sSeq (sIf (tNotM (tV (eIsi "tuple" (eVar 0))))
      (sRet (eC (.bool false)))
      sNx)
    (sSeq (sFor (asE (aCons (eVar 0) aNil)) (gTp 2 (gCn (gN 2) (gCn (gN 3) gNl)))
      (sIf (tOrM (tNotM (tV (eCallB [] sem_p_is_integer (vDat (eVar 3) (vDat (eC (.int 0)) (vDat (eOp2 dSub (eVar 1) (eC (.int 1))) vNil)))))) (tAndM (tV (eOp2 dGt (eVar 2) (eC (.int 0)))) (tV (eOp2 dGe (eOp2 dIx (eVar 0) (eOp2 dSub (eVar 2) (eC (.int 1)))) (eVar 3)))))
          (sRet (eC (.bool false)))
          sNx))
    (sRet (eC (.bool true)))))
def sem_p_is_lot : FS := semOf (List.length (["value", "many"] : List Str)) (List.length n_p_is_lot) m_p_is_lot
theorem fd_p_is_lot (T : Txt K mg) : FnD P w K mg base 2 "is_lot" ["value", "many"] [] sem_p_is_lot := by
  obtain ⟨f, fd, F, hm⟩ := T.f_p_is_lot
  refine ⟨f, fd, fnD_of (m := m_p_is_lot) F sc_p_is_lot (fun cdv A outer s H E hr => ?_), hm, F.kp, ?_, ?_⟩
  · show XS _ _ _
    refine xs_cons ?_ ?_
    · refine x_if (dt_not (dt_val (k_isi (K := K) "tuple" (by decide) (by rfl) T.b_isinstance (by decide +kernel) (de_var 0) (by rfl) T.b_tuple (by decide +kernel)))) ?_ ?_
      · refine xs_one ?_
        · exact x_lf (ds_ret de_bl)
      · exact xs_nil
    refine xs_cons ?_ ?_
    · refine x_for (k_enum (K := K) (by rfl) T.b_enumerate (da_cons (de_var 0) da_nil)) (k_gtup (K := K) (dgs_cons (dg_name 2 sc_p_is_lot.nd) (dgs_cons (dg_name 3 sc_p_is_lot.nd) dgs_nil))) ?_
      · refine xs_one ?_
        · refine x_if (DW.pt (dw_or (dt_not (dt_val (k_call (K := K) (B := []) (fd_p_is_integer T) (hr.mono (by omega)) (by rfl) (dv_dat (de_var 3) (dv_dat de_int (dv_dat (de_bin op_sub do_sub (de_var 1) de_int) dv_nil)))))) (dw_or1 (DW.pt (dw_and (dt_cmp op_gt do_gt (de_var 2) de_int (nomark _)) (dw_and1 (dt_cmp op_ge do_ge (k_ix (K := K) (de_var 0) (de_bin op_sub do_sub (de_var 2) de_int)) (de_var 3) (nomark _)))))))) ?_ ?_
          · refine xs_one ?_
            · exact x_lf (ds_ret de_bl)
          · exact xs_nil
    refine xs_one ?_
    · exact x_lf (ds_ret de_bl)
  · exact F.binds (ps := ["value", "many"]) fun _ _ _ _ _ _ us hl => match us, hl with | [_, _], _ => rfl
  · exact fun q hq => by simp at hq
def m_p_pattern_error : M Fl :=
  (sSeq (sIf (tOrM (tNotM (tV (eIsi "tuple" (eVar 0)))) (tV (eOp2 dNe (eCB dLen (aCons (eVar 0) aNil)) (eC (.int 2)))))
      (sRet (eTup (aCons (eC .none) (aCons (eC (.str "pattern")) aNil))))
      sNx)
    (sSeq (sIf (tNotM (tV (eCallB [] sem_p_is_integer (vDat (eOp2 dIx (eVar 0) (eC (.int 0))) (vDat (eC (.int 0)) (vDat (eC (.int 8)) vNil))))))
      (sRet (eTup (aCons (eC .none) (aCons (eC (.str "inputs")) aNil))))
      sNx)
    (sSeq (sIf (tOrM (tNotM (tV (eIsi "tuple" (eOp2 dIx (eVar 0) (eC (.int 1)))))) (tV (eOp2 dGt (eCB dLen (aCons (eOp2 dIx (eVar 0) (eC (.int 1))) aNil)) (eC (.int 8)))))
      (sRet (eTup (aCons (eC .none) (aCons (eC (.str "ends")) aNil))))
      sNx)
    (sSeq (sFor (asE (aCons (eOp2 dIx (eVar 0) (eC (.int 1))) aNil)) (gTp 2 (gCn (gN 1) (gCn (gN 2) gNl)))
      (sIf (tNotM (tV (eCallB [] sem_p_is_lot (vDat (eVar 2) (vDat (eOp2 dIx (eVar 0) (eC (.int 0))) vNil)))))
          (sRet (eTup (aCons (eVar 1) (aCons (eC (.str "lot")) aNil))))
          sNx))
    (sRet (eC .none))))))
def sem_p_pattern_error : FS := semOf (List.length (["value"] : List Str)) (List.length n_p_pattern_error) m_p_pattern_error
theorem fd_p_pattern_error (T : Txt K mg) : FnD P w K mg base 3 "pattern_error" ["value"] [(["value"], [0])] sem_p_pattern_error := by
  obtain ⟨f, fd, F, hm⟩ := T.f_p_pattern_error
  obtain ⟨v_MAX_ENDS, u_MAX_ENDS, h_MAX_ENDS⟩ := T.c_MAX_ENDS
  obtain ⟨v_MAX_INPUTS, u_MAX_INPUTS, h_MAX_INPUTS⟩ := T.c_MAX_INPUTS
  refine ⟨f, fd, fnD_of (m := m_p_pattern_error) F sc_p_pattern_error (fun cdv A outer s H E hr => ?_), hm, F.kp, ?_, ?_⟩
  · show XS _ _ _
    refine xs_cons ?_ ?_
    · refine x_if (DW.pt (dw_or (dt_not (dt_val (k_isi (K := K) "tuple" (by decide) (by rfl) T.b_isinstance (by decide +kernel) (de_var 0) (by rfl) T.b_tuple (by decide +kernel)))) (dw_or1 (dt_cmp (k_ne (K := K) hr.units) do_ne (de_B (k_len (K := K)) do_len (by rfl) T.b_len (by decide +kernel) (da_cons (de_var 0) da_nil)) de_int (nomark _))))) ?_ ?_
      · refine xs_one ?_
        · exact x_lf (ds_ret (de_tup (da_cons de_non (da_cons de_str da_nil))))
      · exact xs_nil
    refine xs_cons ?_ ?_
    · refine x_if (dt_not (dt_val (k_call (K := K) (B := []) (fd_p_is_integer T) (hr.mono (by omega)) (by rfl) (dv_dat (k_ix (K := K) (de_var 0) de_int) (dv_dat de_int (dv_dat (de_glob (by rfl) h_MAX_INPUTS.1 h_MAX_INPUTS.2.1 h_MAX_INPUTS.2.2) dv_nil)))))) ?_ ?_
      · refine xs_one ?_
        · exact x_lf (ds_ret (de_tup (da_cons de_non (da_cons de_str da_nil))))
      · exact xs_nil
    refine xs_cons ?_ ?_
    · refine x_if (DW.pt (dw_or (dt_not (dt_val (k_isi (K := K) "tuple" (by decide) (by rfl) T.b_isinstance (by decide +kernel) (k_ix (K := K) (de_var 0) de_int) (by rfl) T.b_tuple (by decide +kernel)))) (dw_or1 (dt_cmp op_gt do_gt (de_B (k_len (K := K)) do_len (by rfl) T.b_len (by decide +kernel) (da_cons (k_ix (K := K) (de_var 0) de_int) da_nil)) (de_glob (by rfl) h_MAX_ENDS.1 h_MAX_ENDS.2.1 h_MAX_ENDS.2.2) (nomark _))))) ?_ ?_
      · refine xs_one ?_
        · exact x_lf (ds_ret (de_tup (da_cons de_non (da_cons de_str da_nil))))
      · exact xs_nil
    refine xs_cons ?_ ?_
    · refine x_for (k_enum (K := K) (by rfl) T.b_enumerate (da_cons (k_ix (K := K) (de_var 0) de_int) da_nil)) (k_gtup (K := K) (dgs_cons (dg_name 1 sc_p_pattern_error.nd) (dgs_cons (dg_name 2 sc_p_pattern_error.nd) dgs_nil))) ?_
      · refine xs_one ?_
        · refine x_if (dt_not (dt_val (k_call (K := K) (B := []) (fd_p_is_lot T) (hr.mono (by omega)) (by rfl) (dv_dat (de_var 2) (dv_dat (k_ix (K := K) (de_var 0) de_int) dv_nil))))) ?_ ?_
          · refine xs_one ?_
            · exact x_lf (ds_ret (de_tup (da_cons (de_var 1) (da_cons de_str da_nil))))
          · exact xs_nil
    refine xs_one ?_
    · exact x_lf (ds_ret de_non)
  · exact F.binds (ps := ["value"]) fun _ _ _ _ _ _ us hl => match us, hl with | [_], _ => rfl
  · exact fun q hq => by
      simp only [List.mem_cons, List.mem_nil_iff, or_false] at hq
      subst hq
      exact F.kbinds (by decide) fun _ _ _ _ _ _ ws hl => match ws, hl with | [_], _ => rfl
def m_p_turned_pattern : M Fl :=
  (sSeq (sAsg (eVar 0) (gTp 2 (gCn (gN 1) (gCn (gN 2) gNl))))
    (sSeq (sNew 3 (nLst aNil))
    (sSeq (sFor (rg1 (aCons (eVar 1) aNil)) (gN 4)
      (sApp 3 (eCB dTupleOf (aCons (eL (nLc [5, 6] (asE (aCons (eVar 2) aNil)) (gTp 2 (gCn (gN 5) (gCn (gN 6) gNl))) (tV (eOp2 dIn (eVar 4) (eVar 6))) (eVar 5))) aNil))))
    (sRet (eTup (aCons (eCB dLen (aCons (eVar 2) aNil)) (aCons (eCB dTupleOf (aCons (eGive 3) aNil)) aNil)))))))
def sem_p_turned_pattern : FS := semOf (List.length (["pattern"] : List Str)) (List.length n_p_turned_pattern) m_p_turned_pattern
theorem fd_p_turned_pattern (T : Txt K mg) : FnD P w K mg base 1 "turned_pattern" ["pattern"] [(["pattern"], [0])] sem_p_turned_pattern := by
  obtain ⟨f, fd, F, hm⟩ := T.f_p_turned_pattern
  refine ⟨f, fd, fnD_of (m := m_p_turned_pattern) F sc_p_turned_pattern (fun cdv A outer s H E hr => ?_), hm, F.kp, ?_, ?_⟩
  · show XS _ _ _
    refine xs_cons ?_ ?_
    · exact x_lf (ds_asg (de_var 0) (k_gtup (K := K) (dgs_cons (dg_name 1 sc_p_turned_pattern.nd) (dgs_cons (dg_name 2 sc_p_turned_pattern.nd) dgs_nil))))
    refine xs_cons ?_ ?_
    · exact x_lf (ds_new 3 (dn_lst da_nil) sc_p_turned_pattern.nd)
    refine xs_cons ?_ ?_
    · refine x_for (di_rg1 (by rfl) T.b_range (da_cons (de_var 1) da_nil)) (dg_name 4 sc_p_turned_pattern.nd) ?_
      · refine xs_one ?_
        · exact x_lf (ds_append 3 (de_Ty (k_tupleOf (K := K)) do_tupleOf (by rfl) T.b_tuple (by decide +kernel) (da_cons (DN.de (dn_lc (own := [("end", 5), ("lot", 6)]) rfl sc_p_turned_pattern.nd (k_enum (K := K) (by rfl) T.b_enumerate (da_cons (de_var 2) da_nil)) (blkOk_by (own := [("end", 5), ("lot", 6)]) (N := n_p_turned_pattern) (sc := defScope s_p_turned_pattern) (by decide +kernel)) (fun _ _ _ _ _ => (k_gtup (K := K) (dgs_cons (dg_name 5 sc_p_turned_pattern.nd) (dgs_cons (dg_name 6 sc_p_turned_pattern.nd) dgs_nil)))) (by decide) (fun _ _ _ _ _ => (dts_one (dt_cmp (k_in (K := K)) do_in (de_var 4) (de_var 6) (by rfl)))) (fun _ _ _ _ _ => (de_var 5)))) da_nil)))
    refine xs_one ?_
    · exact x_lf (ds_ret (de_tup (da_cons (de_B (k_len (K := K)) do_len (by rfl) T.b_len (by decide +kernel) (da_cons (de_var 2) da_nil)) (da_cons (de_Ty (k_tupleOf (K := K)) do_tupleOf (by rfl) T.b_tuple (by decide +kernel) (da_cons (de_give 3) da_nil)) da_nil))))
  · exact F.binds (ps := ["pattern"]) fun _ _ _ _ _ _ us hl => match us, hl with | [_], _ => rfl
  · exact fun q hq => by
      simp only [List.mem_cons, List.mem_nil_iff, or_false] at hq
      subst hq
      exact F.kbinds (by decide) fun _ _ _ _ _ _ ws hl => match ws, hl with | [_], _ => rfl
def m_p_fed_pattern : MX Fl :=
  (xSeq (xIf (tV (eOp2 dNe (eCB dLen (aCons (eOp2 dIx (eVar 0) (eC (.int 1))) aNil)) (eOp2 dIx (eVar 1) (eC (.int 0)))))
      (xRaise "Unfit")
      (xLf sNx))
    (xLf (sSeq (sNew 2 (nLst aNil))
    (sSeq (sFor (asQ (eOp2 dIx (eVar 1) (eC (.int 1)))) (gN 3)
      (sSeq (sAsg (eL (nLc [5] (asQ (eVar 3)) (gN 5) (rtn true) (eOp2 dIx (eOp2 dIx (eVar 0) (eC (.int 1))) (eVar 5)))) (gN 4))
        (sApp 2 (eCB dTupleOf (aCons (eL (nLc [6] (rg1 (aCons (eOp2 dIx (eVar 0) (eC (.int 0))) aNil)) (gN 6) (tV (eOp2 dNe (eL (nLc [5] (asQ (eVar 4)) (gN 5) (tV (eOp2 dIn (eVar 6) (eVar 5))) (eC (.int 1)))) (eL (nLst aNil)))) (eVar 6))) aNil)))))
    (sRet (eTup (aCons (eOp2 dIx (eVar 0) (eC (.int 0))) (aCons (eCB dTupleOf (aCons (eGive 2) aNil)) aNil))))))))
def sem_p_fed_pattern : FSX := semOX (List.length (["one", "other"] : List Str)) (List.length n_p_fed_pattern) m_p_fed_pattern
theorem fd_p_fed_pattern (T : Txt K mg) : FnX P w K mg base 1 "fed_pattern" ["one", "other"] [(["other", "one"], [1, 0])] sem_p_fed_pattern := by
  obtain ⟨f, fd, F, hm⟩ := T.f_p_fed_pattern
  refine ⟨f, fd, fnX_of' (m := m_p_fed_pattern) F sc_p_fed_pattern (fun cdv A outer s H E hr tk => ?_), hm, F.kp, ?_, ?_⟩
  · show XSX _ _ _ _
    refine xx_cons ?_ ?_
    · refine xx_if (dt_cmp (k_ne (K := K) hr.units) do_ne (de_B (k_len (K := K)) do_len (by rfl) T.b_len (by decide +kernel) (da_cons (k_ix (K := K) (de_var 0) de_int) da_nil)) (k_ix (K := K) (de_var 1) de_int) (nomark _)) ?_ ?_
      · refine xx_one ?_
        · exact xx_raise T.e_Unfit tk
      · refine xx_lfs ?_
        exact xs_nil
    refine xx_lfs ?_
    refine xs_cons ?_ ?_
    · exact x_lf (ds_new 2 (dn_lst da_nil) sc_p_fed_pattern.nd)
    refine xs_cons ?_ ?_
    · refine x_for (k_seq (K := K) (k_ix (K := K) (de_var 1) de_int)) (dg_name 3 sc_p_fed_pattern.nd) ?_
      · refine xs_cons ?_ ?_
        · exact x_lf (ds_asg (DN.de (dn_lc (own := [("own", 5)]) rfl sc_p_fed_pattern.nd (k_seq (K := K) (de_var 3)) (blkOk_by (own := [("own", 5)]) (N := n_p_fed_pattern) (sc := defScope s_p_fed_pattern) (by decide +kernel)) (fun _ _ _ _ _ => (dg_name 5 sc_p_fed_pattern.nd)) (by decide) (fun _ _ _ _ _ => dts_nil) (fun _ _ _ _ _ => (k_ix (K := K) (k_ix (K := K) (de_var 0) de_int) (de_var 5))))) (dg_name 4 sc_p_fed_pattern.nd))
        refine xs_one ?_
        · exact x_lf (ds_append 2 (de_Ty (k_tupleOf (K := K)) do_tupleOf (by rfl) T.b_tuple (by decide +kernel) (da_cons (DN.de (dn_lc (own := [("unknown", 6)]) rfl sc_p_fed_pattern.nd (di_rg1 (by rfl) T.b_range (da_cons (k_ix (K := K) (de_var 0) de_int) da_nil)) (blkOk_by (own := [("unknown", 6)]) (N := n_p_fed_pattern) (sc := defScope s_p_fed_pattern) (by decide +kernel)) (fun _ _ _ _ _ => (dg_name 6 sc_p_fed_pattern.nd)) (by decide) (fun _ _ _ _ _ => (dts_one (dt_cmp (k_ne (K := K) hr.units) do_ne (DN.de (dn_lc (own := [("own", 5)]) rfl sc_p_fed_pattern.nd (k_seq (K := K) (de_var 4)) (blkOk_by (own := [("own", 5)]) (N := n_p_fed_pattern) (sc := ({ kind := PySem.ScopeKind.function, names := [ (PySem.Str.ofString ".0", PySem.NameKind.local), (PySem.Str.ofString "unknown", PySem.NameKind.cell), (PySem.Str.ofString "inner", PySem.NameKind.cell)], isGenerator := false, isCoroutine := false, more := [] : PySem.Scope })) (by decide +kernel)) (fun _ _ _ _ _ => (dg_name 5 sc_p_fed_pattern.nd)) (by decide) (fun _ _ _ _ _ => (dts_one (dt_cmp (k_in (K := K)) do_in (de_var 6) (de_var 5) (by rfl)))) (fun _ _ _ _ _ => de_int))) (DN.de (dn_lst da_nil)) (nomark _)))) (fun _ _ _ _ _ => (de_var 6)))) da_nil)))
    refine xs_one ?_
    · exact x_lf (ds_ret (de_tup (da_cons (k_ix (K := K) (de_var 0) de_int) (da_cons (de_Ty (k_tupleOf (K := K)) do_tupleOf (by rfl) T.b_tuple (by decide +kernel) (da_cons (de_give 2) da_nil)) da_nil))))
  · exact F.binds (ps := ["one", "other"]) fun _ _ _ _ _ _ us hl => match us, hl with | [_, _], _ => rfl
  · exact fun q hq => by
      simp only [List.mem_cons, List.mem_nil_iff, or_false] at hq
      subst hq
      exact F.kbinds (by decide) fun _ _ _ _ _ _ ws hl => match ws, hl with | [_, _], _ => rfl
theorem fd_l_draw (T : Txt K mg) : FnD P w K mg base 1 "_law_draw" ["_law_deck_here", "_law_many"] [] drawSem := by
  obtain ⟨f, fd, F, hm⟩ := T.f_l_draw
  exact ⟨f, fd, ok_draw F T.b_int T.b_len, hm, F.kp, F.binds (ps := ["_law_deck_here", "_law_many"]) fun _ _ _ _ _ _ us hl => match us, hl with | [_, _], _ => rfl, fun q hq => by simp at hq
⟩
abbrev sem_l_draw : FS := drawSem
def m_l_one : M Fl :=
  (sRet (eOp2 dIx (eVar 1) (eCallB [] sem_l_draw (vDeck 0 (vDat (eCB dLen (aCons (eVar 1) aNil)) vNil)))))
def sem_l_one : FS := semOf (List.length (["_law_deck_here", "_law_items"] : List Str)) (List.length n_l_one) m_l_one
theorem fd_l_one (T : Txt K mg) : FnD P w K mg base 2 "_law_one" ["_law_deck_here", "_law_items"] [] sem_l_one := by
  obtain ⟨f, fd, F, hm⟩ := T.f_l_one
  refine ⟨f, fd, fnD_of (m := m_l_one) F sc_l_one (fun cdv A outer s H E hr => ?_), hm, F.kp, ?_, ?_⟩
  · show XS _ _ _
    refine xs_one ?_
    · exact x_lf (ds_ret (k_ix (K := K) (de_var 1) (k_call (K := K) (B := []) (fd_l_draw T) (hr.mono (by omega)) (by rfl) (dv_deck 0 (dv_dat (de_B (k_len (K := K)) do_len (by rfl) T.b_len (by decide +kernel) (da_cons (de_var 1) da_nil)) dv_nil)))))
  · exact F.binds (ps := ["_law_deck_here", "_law_items"]) fun _ _ _ _ _ _ us hl => match us, hl with | [_, _], _ => rfl
  · exact fun q hq => by simp at hq
def m_l_odd : M Fl :=
  (sSeq (sAsg (eL (nLst (aCons (eC .none) (aCons (eC (.bool true)) (aCons (eC (.bool false)) (aCons (eC (.int 0)) (aCons (eC (.int 1)) (aCons (eC (.int 2)) (aCons (eOp1 dNeg (eC (.int 1))) (aCons (eOp2 dPow (eC (.int 10)) (eC (.int 30))) (aCons (eC (.str "")) (aCons (eC (.str "0")) (aCons (eC (.str "in")) (aCons (eTup aNil) (aCons (eL (nLst aNil)) (aCons (eC (.dict [])) (aCons (eTup (aCons (eC (.int 0)) aNil)) (aCons (eTup (aCons (eC (.int 1)) aNil)) (aCons (eTup (aCons (eC (.int 0)) (aCons (eC (.int 1)) aNil))) (aCons (eTup (aCons (eC (.bool true)) (aCons (eC (.int 0)) aNil))) (aCons (eL (nLst (aCons (eC (.int 0)) aNil))) aNil))))))))))))))))))))) (gN 1))
    (sSeq (sAsg (eOp2 dAdd (eVar 1) (eL (nLst (aCons (eTup (aCons (eC (.str "in")) (aCons (eC (.int 0)) aNil))) (aCons (eTup (aCons (eC (.str "set")) (aCons (eC (.int 1)) aNil))) (aCons (eTup (aCons (eC (.str "neg")) (aCons (eC (.int 0)) aNil))) (aCons (eTup (aCons (eC (.str "+")) (aCons (eC (.int 0)) (aCons (eC (.int 0)) aNil)))) (aCons (eTup (aCons (eC (.str "*")) (aCons (eC (.int 0)) aNil))) (aCons (eTup (aCons (eC (.str "in")) (aCons (eC (.bool true)) aNil))) (aCons (eTup (aCons (eC (.str "+")) (aCons (eC (.int 0)) (aCons (eOp1 dNeg (eC (.int 1))) aNil)))) (aCons (eTup (aCons (eC (.str "/")) (aCons (eC (.int 0)) (aCons (eC (.int 0)) aNil)))) aNil))))))))))) (gN 1))
    (sRet (eCallB [] sem_l_one (vDeck 0 (vDat (eOp2 dAdd (eVar 1) (eL (nLst (aCons (eTup (aCons (eC .none) aNil)) (aCons (eTup (aCons (eOp1 dNeg (eC (.int 1))) aNil)) (aCons (eTup (aCons (eC (.int 1)) (aCons (eTup (aCons (eTup (aCons (eC (.str "in")) (aCons (eC (.int 0)) aNil))) aNil)) (aCons (eTup (aCons (eC (.int 0)) aNil)) aNil)))) (aCons (eTup (aCons (eC (.int 0)) (aCons (eTup aNil) (aCons (eTup aNil) aNil)))) (aCons (eTup (aCons (eTup (aCons (eC (.int 0)) aNil)) (aCons (eC (.int 1)) aNil))) (aCons (eTup (aCons (eC (.str "in")) aNil)) (aCons (eC (.int 64)) (aCons (eC (.int 65)) aNil))))))))))) vNil))))))
def sem_l_odd : FS := semOf (List.length (["_law_deck_here"] : List Str)) (List.length n_l_odd) m_l_odd
theorem fd_l_odd (T : Txt K mg) : FnD P w K mg base 3 "_law_odd" ["_law_deck_here"] [] sem_l_odd := by
  obtain ⟨f, fd, F, hm⟩ := T.f_l_odd
  refine ⟨f, fd, fnD_of (m := m_l_odd) F sc_l_odd (fun cdv A outer s H E hr => ?_), hm, F.kp, ?_, ?_⟩
  · show XS _ _ _
    refine xs_cons ?_ ?_
    · exact x_lf (ds_asg (DN.de (dn_lst (da_cons de_non (da_cons de_bl (da_cons de_bl (da_cons de_int (da_cons de_int (da_cons de_int (da_cons (de_neg de_int) (da_cons (de_bin op_pow do_pow de_int de_int) (da_cons de_str (da_cons de_str (da_cons de_str (da_cons (de_tup da_nil) (da_cons (DN.de (dn_lst da_nil)) (da_cons de_dnew (da_cons (de_tup (da_cons de_int da_nil)) (da_cons (de_tup (da_cons de_int da_nil)) (da_cons (de_tup (da_cons de_int (da_cons de_int da_nil))) (da_cons (de_tup (da_cons de_bl (da_cons de_int da_nil))) (da_cons (DN.de (dn_lst (da_cons de_int da_nil))) da_nil))))))))))))))))))))) (dg_name 1 sc_l_odd.nd))
    refine xs_cons ?_ ?_
    · exact x_lf (ds_asg (de_bin (k_add (K := K)) do_add (de_var 1) (DN.de (dn_lst (da_cons (de_tup (da_cons de_str (da_cons de_int da_nil))) (da_cons (de_tup (da_cons de_str (da_cons de_int da_nil))) (da_cons (de_tup (da_cons de_str (da_cons de_int da_nil))) (da_cons (de_tup (da_cons de_str (da_cons de_int (da_cons de_int da_nil)))) (da_cons (de_tup (da_cons de_str (da_cons de_int da_nil))) (da_cons (de_tup (da_cons de_str (da_cons de_bl da_nil))) (da_cons (de_tup (da_cons de_str (da_cons de_int (da_cons (de_neg de_int) da_nil)))) (da_cons (de_tup (da_cons de_str (da_cons de_int (da_cons de_int da_nil)))) da_nil))))))))))) (dg_name 1 sc_l_odd.nd))
    refine xs_one ?_
    · exact x_lf (ds_ret (k_call (K := K) (B := []) (fd_l_one T) (hr.mono (by omega)) (by rfl) (dv_deck 0 (dv_dat (de_bin (k_add (K := K)) do_add (de_var 1) (DN.de (dn_lst (da_cons (de_tup (da_cons de_non da_nil)) (da_cons (de_tup (da_cons (de_neg de_int) da_nil)) (da_cons (de_tup (da_cons de_int (da_cons (de_tup (da_cons (de_tup (da_cons de_str (da_cons de_int da_nil))) da_nil)) (da_cons (de_tup (da_cons de_int da_nil)) da_nil)))) (da_cons (de_tup (da_cons de_int (da_cons (de_tup da_nil) (da_cons (de_tup da_nil) da_nil)))) (da_cons (de_tup (da_cons (de_tup (da_cons de_int da_nil)) (da_cons de_int da_nil))) (da_cons (de_tup (da_cons de_str da_nil)) (da_cons de_int (da_cons de_int da_nil))))))))))) dv_nil))))
  · exact F.binds (ps := ["_law_deck_here"]) fun _ _ _ _ _ _ us hl => match us, hl with | [_], _ => rfl
  · exact fun q hq => by simp at hq
def m_l_bent (rc : FS) : M Fl :=
  (sSeq (sIf (tAndM (tV (eIsi "tuple" (eVar 1))) (tAndM (tV (eOp2 dNe (eVar 1) (eTup aNil))) (tAndM (tV (eOp2 dGt (eVar 2) (eC (.int 0)))) (tV (eOp2 dGt (eCallB [] sem_l_draw (vDeck 0 (vDat (eC (.int 4)) vNil))) (eC (.int 0)))))))
      (sSeq (sAsg (eCallB [] sem_l_draw (vDeck 0 (vDat (eCB dLen (aCons (eVar 1) aNil)) vNil))) (gN 3))
        (sRet (eOp2 dAdd (eOp2 dAdd (eSl (eVar 1) oN (oS (eVar 3))) (eTup (aCons (eCallB [] rc (vDeck 0 (vDat (eOp2 dIx (eVar 1) (eVar 3)) (vDat (eOp2 dSub (eVar 2) (eC (.int 1))) vNil)))) aNil))) (eSl (eVar 1) (oS (eOp2 dAdd (eVar 3) (eC (.int 1)))) oN))))
      sNx)
    (sSeq (sIf (tNotM (tV (eIsi "tuple" (eVar 1))))
      (sSeq (sAsg (eIf (tV (eIsi "int" (eVar 1))) (eL (nLst (aCons (eOp2 dAdd (eVar 1) (eC (.int 1))) (aCons (eOp2 dSub (eVar 1) (eC (.int 1))) (aCons (eOp2 dSub (eC (.int 0)) (eVar 1)) (aCons (eCB dBool (aCons (eVar 1) aNil)) (aCons (eCB dStr (aCons (eVar 1) aNil)) aNil))))))) (eL (nLst aNil))) (gN 4))
        (sRet (eCallB [] sem_l_one (vDeck 0 (vDat (eOp2 dAdd (eVar 4) (eL (nLst (aCons (eCallB [] sem_l_odd (vDeck 0 vNil)) (aCons (eCallB [] sem_l_odd (vDeck 0 vNil)) aNil))))) vNil)))))
      sNx)
    (sSeq (sAsg (eCallB [] sem_l_draw (vDeck 0 (vDat (eOp2 dAdd (eCB dLen (aCons (eVar 1) aNil)) (eC (.int 1))) vNil))) (gN 3))
    (sSeq (sAsg (eL (nLst (aCons (eCallB [] sem_l_odd (vDeck 0 vNil)) (aCons (eSl (eVar 1) (oS (eC (.int 1))) oN) (aCons (eSl (eVar 1) oN (oS (eOp1 dNeg (eC (.int 1))))) (aCons (eOp1 dRev (eVar 1)) (aCons (eCB dListOf (aCons (eVar 1) aNil)) (aCons (eOp2 dAdd (eVar 1) (eSl (eVar 1) (oS (eOp1 dNeg (eC (.int 1)))) oN)) aNil)))))))) (gN 5))
    (sRet (eCallB [] sem_l_one (vDeck 0 (vDat (eOp2 dAdd (eVar 5) (eL (nLst (aCons (eOp2 dAdd (eOp2 dAdd (eSl (eVar 1) oN (oS (eVar 3))) (eTup (aCons (eCallB [] sem_l_odd (vDeck 0 vNil)) aNil))) (eSl (eVar 1) (oS (eVar 3)) oN)) (aCons (eOp2 dAdd (eSl (eVar 1) oN (oS (eVar 3))) (eSl (eVar 1) (oS (eOp2 dAdd (eVar 3) (eC (.int 1)))) oN)) aNil))))) vNil))))))))
def sem_l_bent : Nat → FS
  | 0 => semNo
  | n + 1 => semOf (List.length (["_law_deck_here", "_law_value", "_law_deep"] : List Str)) (List.length n_l_bent) (m_l_bent (sem_l_bent n))
theorem fd_l_bent (T : Txt K mg) (n : Nat) : FnD P w K mg base (3 + n) "_law_bent" ["_law_deck_here", "_law_value", "_law_deep"] [] (sem_l_bent n) := by
  induction n with
  | zero =>
    obtain ⟨f, fd, F, hm⟩ := T.f_l_bent
    exact ⟨f, fd, fnD_no, hm, F.kp, F.binds (ps := ["_law_deck_here", "_law_value", "_law_deep"]) fun _ _ _ _ _ _ us hl => match us, hl with | [_, _, _], _ => rfl, fun q hq => by simp at hq
⟩
  | succ n ih =>
    obtain ⟨f, fd, F, hm⟩ := T.f_l_bent
    refine ⟨f, fd, fnD_of (k := 3 + n) (m := m_l_bent (sem_l_bent n)) F sc_l_bent (fun cdv A outer s H E hr => ?_), hm, F.kp, ?_, ?_⟩
    · show XS _ _ _
      refine xs_cons ?_ ?_
      · refine x_if (DW.pt (dw_and (dt_val (k_isi (K := K) "tuple" (by decide) (by rfl) T.b_isinstance (by decide +kernel) (de_var 1) (by rfl) T.b_tuple (by decide +kernel))) (dw_and (dt_cmp (k_ne (K := K) hr.units) do_ne (de_var 1) (de_tup da_nil) (nomark _)) (dw_and (dt_cmp op_gt do_gt (de_var 2) de_int (nomark _)) (dw_and1 (dt_cmp op_gt do_gt (k_call (K := K) (B := []) (fd_l_draw T) (hr.mono (by omega)) (by rfl) (dv_deck 0 (dv_dat de_int dv_nil))) de_int (nomark _))))))) ?_ ?_
        · refine xs_cons ?_ ?_
          · exact x_lf (ds_asg (k_call (K := K) (B := []) (fd_l_draw T) (hr.mono (by omega)) (by rfl) (dv_deck 0 (dv_dat (de_B (k_len (K := K)) do_len (by rfl) T.b_len (by decide +kernel) (da_cons (de_var 1) da_nil)) dv_nil))) (dg_name 3 sc_l_bent.nd))
          refine xs_one ?_
          · exact x_lf (ds_ret (de_bin (k_add (K := K)) do_add (de_bin (k_add (K := K)) do_add (k_sl (K := K) (de_var 1) do_none (do_some (de_var 3))) (de_tup (da_cons (k_call (K := K) (B := []) ih (hr.mono (by omega)) (by rfl) (dv_deck 0 (dv_dat (k_ix (K := K) (de_var 1) (de_var 3)) (dv_dat (de_bin op_sub do_sub (de_var 2) de_int) dv_nil)))) da_nil))) (k_sl (K := K) (de_var 1) (do_some (de_bin (k_add (K := K)) do_add (de_var 3) de_int)) do_none)))
        · exact xs_nil
      refine xs_cons ?_ ?_
      · refine x_if (dt_not (dt_val (k_isi (K := K) "tuple" (by decide) (by rfl) T.b_isinstance (by decide +kernel) (de_var 1) (by rfl) T.b_tuple (by decide +kernel)))) ?_ ?_
        · refine xs_cons ?_ ?_
          · exact x_lf (ds_asg (de_if (dt_val (k_isi (K := K) "int" (by decide) (by rfl) T.b_isinstance (by decide +kernel) (de_var 1) (by rfl) T.b_int (by decide +kernel))) (DN.de (dn_lst (da_cons (de_bin (k_add (K := K)) do_add (de_var 1) de_int) (da_cons (de_bin op_sub do_sub (de_var 1) de_int) (da_cons (de_bin op_sub do_sub de_int (de_var 1)) (da_cons (de_Ty call_bool1 do_bool (by rfl) T.b_bool (by decide +kernel) (da_cons (de_var 1) da_nil)) (da_cons (de_Ty call_str_int do_str (by rfl) T.b_str (by decide +kernel) (da_cons (de_var 1) da_nil)) da_nil))))))) (DN.de (dn_lst da_nil))) (dg_name 4 sc_l_bent.nd))
          refine xs_one ?_
          · exact x_lf (ds_ret (k_call (K := K) (B := []) (fd_l_one T) (hr.mono (by omega)) (by rfl) (dv_deck 0 (dv_dat (de_bin (k_add (K := K)) do_add (de_var 4) (DN.de (dn_lst (da_cons (k_call (K := K) (B := []) (fd_l_odd T) (hr.mono (by omega)) (by rfl) (dv_deck 0 dv_nil)) (da_cons (k_call (K := K) (B := []) (fd_l_odd T) (hr.mono (by omega)) (by rfl) (dv_deck 0 dv_nil)) da_nil))))) dv_nil))))
        · exact xs_nil
      refine xs_cons ?_ ?_
      · exact x_lf (ds_asg (k_call (K := K) (B := []) (fd_l_draw T) (hr.mono (by omega)) (by rfl) (dv_deck 0 (dv_dat (de_bin (k_add (K := K)) do_add (de_B (k_len (K := K)) do_len (by rfl) T.b_len (by decide +kernel) (da_cons (de_var 1) da_nil)) de_int) dv_nil))) (dg_name 3 sc_l_bent.nd))
      refine xs_cons ?_ ?_
      · exact x_lf (ds_asg (DN.de (dn_lst (da_cons (k_call (K := K) (B := []) (fd_l_odd T) (hr.mono (by omega)) (by rfl) (dv_deck 0 dv_nil)) (da_cons (k_sl (K := K) (de_var 1) (do_some de_int) do_none) (da_cons (k_sl (K := K) (de_var 1) do_none (do_some (de_neg de_int))) (da_cons (k_rev (K := K) (de_var 1)) (da_cons (de_Ty (k_listOf (K := K)) do_listOf (by rfl) T.b_list (by decide +kernel) (da_cons (de_var 1) da_nil)) (da_cons (de_bin (k_add (K := K)) do_add (de_var 1) (k_sl (K := K) (de_var 1) (do_some (de_neg de_int)) do_none)) da_nil)))))))) (dg_name 5 sc_l_bent.nd))
      refine xs_one ?_
      · exact x_lf (ds_ret (k_call (K := K) (B := []) (fd_l_one T) (hr.mono (by omega)) (by rfl) (dv_deck 0 (dv_dat (de_bin (k_add (K := K)) do_add (de_var 5) (DN.de (dn_lst (da_cons (de_bin (k_add (K := K)) do_add (de_bin (k_add (K := K)) do_add (k_sl (K := K) (de_var 1) do_none (do_some (de_var 3))) (de_tup (da_cons (k_call (K := K) (B := []) (fd_l_odd T) (hr.mono (by omega)) (by rfl) (dv_deck 0 dv_nil)) da_nil))) (k_sl (K := K) (de_var 1) (do_some (de_var 3)) do_none)) (da_cons (de_bin (k_add (K := K)) do_add (k_sl (K := K) (de_var 1) do_none (do_some (de_var 3))) (k_sl (K := K) (de_var 1) (do_some (de_bin (k_add (K := K)) do_add (de_var 3) de_int)) do_none)) da_nil))))) dv_nil))))
    · exact F.binds (ps := ["_law_deck_here", "_law_value", "_law_deep"]) fun _ _ _ _ _ _ us hl => match us, hl with | [_, _, _], _ => rfl
    · exact fun q hq => by simp at hq
def m_l_whole : M Fl :=
  (sRet (eAnd (eIsi "int" (eVar 0)) (eAnd (eNot (eIsi "bool" (eVar 0))) (eChain dLe dLe (eVar 1) (eVar 0) (eVar 2)))))
def sem_l_whole : FS := semOf (List.length (["_law_value", "_law_least", "_law_most"] : List Str)) (List.length n_l_whole) m_l_whole
theorem fd_l_whole (T : Txt K mg) : FnD P w K mg base 1 "_law_whole" ["_law_value", "_law_least", "_law_most"] [] sem_l_whole := by
  obtain ⟨f, fd, F, hm⟩ := T.f_l_whole
  refine ⟨f, fd, fnD_of (m := m_l_whole) F sc_l_whole (fun cdv A outer s H E hr => ?_), hm, F.kp, ?_, ?_⟩
  · show XS _ _ _
    refine xs_one ?_
    · exact x_lf (ds_ret (de_and (k_isi (K := K) "int" (by decide) (by rfl) T.b_isinstance (by decide +kernel) (de_var 0) (by rfl) T.b_int (by decide +kernel)) (de_and (de_not (k_isi (K := K) "bool" (by decide) (by rfl) T.b_isinstance (by decide +kernel) (de_var 0) (by rfl) T.b_bool (by decide +kernel))) (de_one (de_chain op_le op_le do_le do_le (de_var 1) (de_var 0) (de_var 2))))))
  · exact F.binds (ps := ["_law_value", "_law_least", "_law_most"]) fun _ _ _ _ _ _ us hl => match us, hl with | [_, _, _], _ => rfl
  · exact fun q hq => by simp at hq
def m_l_is_lot : M Fl :=
  (sSeq (sIf (tOrM (tNotM (tV (eIsi "tuple" (eVar 0)))) (tV (eOp2 dNe (eL (nLc [2] (asQ (eVar 0)) (gN 2) (tNotM (tV (eCallB [] sem_l_whole (vDat (eVar 2) (vDat (eC (.int 0)) (vDat (eOp2 dSub (eVar 1) (eC (.int 1))) vNil)))))) (eC (.int 1)))) (eL (nLst aNil)))))
      (sRet (eC (.bool false)))
      sNx)
    (sRet (eOp2 dEq (eL (nLc [3] (rgW (aCons (eC (.int 1)) (aCons (eCB dLen (aCons (eVar 0) aNil)) aNil))) (gN 3) (tV (eOp2 dGe (eOp2 dIx (eVar 0) (eOp2 dSub (eVar 3) (eC (.int 1)))) (eOp2 dIx (eVar 0) (eVar 3)))) (eVar 3))) (eL (nLst aNil)))))
def sem_l_is_lot : FS := semOf (List.length (["_law_value", "_law_many"] : List Str)) (List.length n_l_is_lot) m_l_is_lot
theorem fd_l_is_lot (T : Txt K mg) : FnD P w K mg base 2 "_law_is_lot" ["_law_value", "_law_many"] [] sem_l_is_lot := by
  obtain ⟨f, fd, F, hm⟩ := T.f_l_is_lot
  refine ⟨f, fd, fnD_of (m := m_l_is_lot) F sc_l_is_lot (fun cdv A outer s H E hr => ?_), hm, F.kp, ?_, ?_⟩
  · show XS _ _ _
    refine xs_cons ?_ ?_
    · refine x_if (DW.pt (dw_or (dt_not (dt_val (k_isi (K := K) "tuple" (by decide) (by rfl) T.b_isinstance (by decide +kernel) (de_var 0) (by rfl) T.b_tuple (by decide +kernel)))) (dw_or1 (dt_cmp (k_ne (K := K) hr.units) do_ne (DN.de (dn_lc (own := [("_law_own", 2)]) rfl sc_l_is_lot.nd (k_seq (K := K) (de_var 0)) (blkOk_by (own := [("_law_own", 2)]) (N := n_l_is_lot) (sc := defScope s_l_is_lot) (by decide +kernel)) (fun _ _ _ _ _ => (dg_name 2 sc_l_is_lot.nd)) (by decide) (fun _ _ _ _ _ => (dts_one (dt_not (dt_val (k_call (K := K) (B := []) (fd_l_whole T) (hr.mono (by omega)) (by rfl) (dv_dat (de_var 2) (dv_dat de_int (dv_dat (de_bin op_sub do_sub (de_var 1) de_int) dv_nil)))))))) (fun _ _ _ _ _ => de_int))) (DN.de (dn_lst da_nil)) (nomark _))))) ?_ ?_
      · refine xs_one ?_
        · exact x_lf (ds_ret de_bl)
      · exact xs_nil
    refine xs_one ?_
    · exact x_lf (ds_ret (de_cmp (k_eq (K := K) hr.units) do_eq (DN.de (dn_lc (own := [("_law_k", 3)]) rfl sc_l_is_lot.nd (k_rgW (by rfl) T.b_range (da_cons de_int (da_cons (de_B (k_len (K := K)) do_len (by rfl) T.b_len (by decide +kernel) (da_cons (de_var 0) da_nil)) da_nil))) (blkOk_by (own := [("_law_k", 3)]) (N := n_l_is_lot) (sc := defScope s_l_is_lot) (by decide +kernel)) (fun _ _ _ _ _ => (dg_name 3 sc_l_is_lot.nd)) (by decide) (fun _ _ _ _ _ => (dts_one (dt_cmp op_ge do_ge (k_ix (K := K) (de_var 0) (de_bin op_sub do_sub (de_var 3) de_int)) (k_ix (K := K) (de_var 0) (de_var 3)) (nomark _)))) (fun _ _ _ _ _ => (de_var 3)))) (DN.de (dn_lst da_nil)) (nomark _)))
  · exact F.binds (ps := ["_law_value", "_law_many"]) fun _ _ _ _ _ _ us hl => match us, hl with | [_, _], _ => rfl
  · exact fun q hq => by simp at hq
def m_l_pattern : M Fl :=
  (sSeq (sAsg (eTup (aCons (eCallB [] sem_l_draw (vDeck 0 (vDat (eOp2 dAdd (eVar 1) (eC (.int 1))) vNil))) (aCons (eCallB [] sem_l_one (vDeck 0 (vDat (eL (nLst (aCons (eC (.int 2)) (aCons (eC (.int 2)) (aCons (eC (.int 3)) (aCons (eC (.int 5)) aNil)))))) vNil))) aNil))) (gTp 2 (gCn (gN 2) (gCn (gN 3) gNl))))
    (sSeq (sNew 4 (nLst aNil))
    (sSeq (sFor (rg1 (aCons (eCallB [] sem_l_draw (vDeck 0 (vDat (eOp2 dAdd (eVar 1) (eC (.int 1))) vNil))) aNil)) (gN 5)
      (sApp 4 (eCB dTupleOf (aCons (eL (nLc [6] (rg1 (aCons (eVar 2) aNil)) (gN 6) (tV (eOp2 dEq (eCallB [] sem_l_draw (vDeck 0 (vDat (eVar 3) vNil))) (eC (.int 0)))) (eVar 6))) aNil))))
    (sRet (eTup (aCons (eVar 2) (aCons (eCB dTupleOf (aCons (eGive 4) aNil)) aNil)))))))
def sem_l_pattern : FS := semOf (List.length (["_law_deck_here", "_law_most"] : List Str)) (List.length n_l_pattern) m_l_pattern
theorem fd_l_pattern (T : Txt K mg) : FnD P w K mg base 3 "_law_pattern" ["_law_deck_here", "_law_most"] [] sem_l_pattern := by
  obtain ⟨f, fd, F, hm⟩ := T.f_l_pattern
  refine ⟨f, fd, fnD_of (m := m_l_pattern) F sc_l_pattern (fun cdv A outer s H E hr => ?_), hm, F.kp, ?_, ?_⟩
  · show XS _ _ _
    refine xs_cons ?_ ?_
    · exact x_lf (ds_asg (de_tup (da_cons (k_call (K := K) (B := []) (fd_l_draw T) (hr.mono (by omega)) (by rfl) (dv_deck 0 (dv_dat (de_bin (k_add (K := K)) do_add (de_var 1) de_int) dv_nil))) (da_cons (k_call (K := K) (B := []) (fd_l_one T) (hr.mono (by omega)) (by rfl) (dv_deck 0 (dv_dat (DN.de (dn_lst (da_cons de_int (da_cons de_int (da_cons de_int (da_cons de_int da_nil)))))) dv_nil))) da_nil))) (k_gtup (K := K) (dgs_cons (dg_name 2 sc_l_pattern.nd) (dgs_cons (dg_name 3 sc_l_pattern.nd) dgs_nil))))
    refine xs_cons ?_ ?_
    · exact x_lf (ds_new 4 (dn_lst da_nil) sc_l_pattern.nd)
    refine xs_cons ?_ ?_
    · refine x_for (di_rg1 (by rfl) T.b_range (da_cons (k_call (K := K) (B := []) (fd_l_draw T) (hr.mono (by omega)) (by rfl) (dv_deck 0 (dv_dat (de_bin (k_add (K := K)) do_add (de_var 1) de_int) dv_nil))) da_nil)) (dg_name 5 sc_l_pattern.nd) ?_
      · refine xs_one ?_
        · exact x_lf (ds_append 4 (de_Ty (k_tupleOf (K := K)) do_tupleOf (by rfl) T.b_tuple (by decide +kernel) (da_cons (DN.de (dn_lc (own := [("_law_unknown", 6)]) rfl sc_l_pattern.nd (di_rg1 (by rfl) T.b_range (da_cons (de_var 2) da_nil)) (blkOk_by (own := [("_law_unknown", 6)]) (N := n_l_pattern) (sc := defScope s_l_pattern) (by decide +kernel)) (fun _ _ _ _ _ => (dg_name 6 sc_l_pattern.nd)) (by decide) (fun _ _ _ _ _ => (dts_one (dt_cmp (k_eq (K := K) hr.units) do_eq (k_call (K := K) (B := []) (fd_l_draw T) (hr.mono (by omega)) (by rfl) (dv_deck 0 (dv_dat (de_var 3) dv_nil))) de_int (nomark _)))) (fun _ _ _ _ _ => (de_var 6)))) da_nil)))
    refine xs_one ?_
    · exact x_lf (ds_ret (de_tup (da_cons (de_var 2) (da_cons (de_Ty (k_tupleOf (K := K)) do_tupleOf (by rfl) T.b_tuple (by decide +kernel) (da_cons (de_give 4) da_nil)) da_nil))))
  · exact F.binds (ps := ["_law_deck_here", "_law_most"]) fun _ _ _ _ _ _ us hl => match us, hl with | [_, _], _ => rfl
  · exact fun q hq => by simp at hq
def m_l_pattern_error : M Fl :=
  (sSeq (sIf (tOrM (tNotM (tV (eIsi "tuple" (eVar 0)))) (tV (eOp2 dNe (eCB dLen (aCons (eVar 0) aNil)) (eC (.int 2)))))
      (sRet (eTup (aCons (eC .none) (aCons (eC (.str "pattern")) aNil))))
      sNx)
    (sSeq (sIf (tNotM (tV (eCallB [] sem_l_whole (vDat (eOp2 dIx (eVar 0) (eC (.int 0))) (vDat (eC (.int 0)) (vDat (eC (.int 8)) vNil))))))
      (sRet (eTup (aCons (eC .none) (aCons (eC (.str "inputs")) aNil))))
      sNx)
    (sSeq (sIf (tOrM (tNotM (tV (eIsi "tuple" (eOp2 dIx (eVar 0) (eC (.int 1)))))) (tV (eOp2 dGt (eCB dLen (aCons (eOp2 dIx (eVar 0) (eC (.int 1))) aNil)) (eC (.int 8)))))
      (sRet (eTup (aCons (eC .none) (aCons (eC (.str "ends")) aNil))))
      sNx)
    (sSeq (sAsg (eL (nLc [2] (rg1 (aCons (eCB dLen (aCons (eOp2 dIx (eVar 0) (eC (.int 1))) aNil)) aNil)) (gN 2) (tNotM (tV (eCallB [] sem_l_is_lot (vDat (eOp2 dIx (eOp2 dIx (eVar 0) (eC (.int 1))) (eVar 2)) (vDat (eOp2 dIx (eVar 0) (eC (.int 0))) vNil))))) (eVar 2))) (gN 1))
    (sRet (eIf (tV (eOp2 dNe (eVar 1) (eL (nLst aNil)))) (eTup (aCons (eOp2 dIx (eVar 1) (eC (.int 0))) (aCons (eC (.str "lot")) aNil))) (eC .none)))))))
def sem_l_pattern_error : FS := semOf (List.length (["_law_value"] : List Str)) (List.length n_l_pattern_error) m_l_pattern_error
theorem fd_l_pattern_error (T : Txt K mg) : FnD P w K mg base 3 "_law_pattern_error" ["_law_value"] [] sem_l_pattern_error := by
  obtain ⟨f, fd, F, hm⟩ := T.f_l_pattern_error
  refine ⟨f, fd, fnD_of (m := m_l_pattern_error) F sc_l_pattern_error (fun cdv A outer s H E hr => ?_), hm, F.kp, ?_, ?_⟩
  · show XS _ _ _
    refine xs_cons ?_ ?_
    · refine x_if (DW.pt (dw_or (dt_not (dt_val (k_isi (K := K) "tuple" (by decide) (by rfl) T.b_isinstance (by decide +kernel) (de_var 0) (by rfl) T.b_tuple (by decide +kernel)))) (dw_or1 (dt_cmp (k_ne (K := K) hr.units) do_ne (de_B (k_len (K := K)) do_len (by rfl) T.b_len (by decide +kernel) (da_cons (de_var 0) da_nil)) de_int (nomark _))))) ?_ ?_
      · refine xs_one ?_
        · exact x_lf (ds_ret (de_tup (da_cons de_non (da_cons de_str da_nil))))
      · exact xs_nil
    refine xs_cons ?_ ?_
    · refine x_if (dt_not (dt_val (k_call (K := K) (B := []) (fd_l_whole T) (hr.mono (by omega)) (by rfl) (dv_dat (k_ix (K := K) (de_var 0) de_int) (dv_dat de_int (dv_dat de_int dv_nil)))))) ?_ ?_
      · refine xs_one ?_
        · exact x_lf (ds_ret (de_tup (da_cons de_non (da_cons de_str da_nil))))
      · exact xs_nil
    refine xs_cons ?_ ?_
    · refine x_if (DW.pt (dw_or (dt_not (dt_val (k_isi (K := K) "tuple" (by decide) (by rfl) T.b_isinstance (by decide +kernel) (k_ix (K := K) (de_var 0) de_int) (by rfl) T.b_tuple (by decide +kernel)))) (dw_or1 (dt_cmp op_gt do_gt (de_B (k_len (K := K)) do_len (by rfl) T.b_len (by decide +kernel) (da_cons (k_ix (K := K) (de_var 0) de_int) da_nil)) de_int (nomark _))))) ?_ ?_
      · refine xs_one ?_
        · exact x_lf (ds_ret (de_tup (da_cons de_non (da_cons de_str da_nil))))
      · exact xs_nil
    refine xs_cons ?_ ?_
    · exact x_lf (ds_lcD 1 (own := [("_law_k", 2)]) rfl sc_l_pattern_error.nd (di_rg1 (by rfl) T.b_range (da_cons (de_B (k_len (K := K)) do_len (by rfl) T.b_len (by decide +kernel) (da_cons (k_ix (K := K) (de_var 0) de_int) da_nil)) da_nil)) (blkOk_by (own := [("_law_k", 2)]) (N := n_l_pattern_error) (sc := defScope s_l_pattern_error) (by decide +kernel)) (fun _ _ _ _ _ => (dg_name 2 sc_l_pattern_error.nd)) (by decide) (fun _ _ _ _ _ => (dts_one (dt_not (dt_val (k_call (K := K) (B := []) (fd_l_is_lot T) (hr.mono (by omega)) (by rfl) (dv_dat (k_ix (K := K) (k_ix (K := K) (de_var 0) de_int) (de_var 2)) (dv_dat (k_ix (K := K) (de_var 0) de_int) dv_nil))))))) (fun _ _ _ _ _ => (de_var 2)) (sw_true rfl rfl rfl (by decide +kernel)))
    refine xs_one ?_
    · exact x_lf (ds_ret (de_if (dt_cmp (k_ne (K := K) hr.units) do_ne (de_var 1) (DN.de (dn_lst da_nil)) (nomark _)) (de_tup (da_cons (k_ix (K := K) (de_var 1) de_int) (da_cons de_str da_nil))) de_non))
  · exact F.binds (ps := ["_law_value"]) fun _ _ _ _ _ _ us hl => match us, hl with | [_], _ => rfl
  · exact fun q hq => by simp at hq
def m_l_fed : M Fl :=
  (sSeq (sTryO ["Unfit"] (xAsg (xLst (xaCons (xE (eC (.str "ok"))) (xaCons (xCall sem_p_fed_pattern (vDat (eVar 0) (vDat (eVar 1) vNil))) xaNil))) (gN 2))
      (sAsg (eL (nLst (aCons (eC (.str "unfit")) aNil))) (gN 2)))
    (sRet (eVar 2)))
def sem_l_fed : FS := semOf (List.length (["_law_one_here", "_law_other"] : List Str)) (List.length n_l_fed) m_l_fed
theorem fd_l_fed (T : Txt K mg) : FnD P w K mg base 2 "_law_fed" ["_law_one_here", "_law_other"] [] sem_l_fed := by
  obtain ⟨f, fd, F, hm⟩ := T.f_l_fed
  refine ⟨f, fd, fnD_of (m := m_l_fed) F sc_l_fed (fun cdv A outer s H E hr => ?_), hm, F.kp, ?_, ?_⟩
  · show XS _ _ _
    refine xs_cons ?_ ?_
    · refine x1_tryOnly (cs := ["Unfit"]) T.l_Unfit (fun W pn xe tk => ?_) (fun _ pn => ?_)
      · show XSX _ _ _ _
        refine xx_one ?_
        · exact xx_asg (dex_lst (dax_cons (dex_e de_str) (dax_cons (de_xcall (fd_p_fed_pattern T) tk (hr.mono (by omega)) (by rfl) (dv_dat (de_var 0) (dv_dat (de_var 1) dv_nil))) dax_nil))) (dg_name 2 sc_l_fed.nd)
      · show XS _ _ _
        refine xs_one ?_
        · exact x_lf (ds_asg (DN.de (dn_lst (da_cons de_str da_nil))) (dg_name 2 sc_l_fed.nd))
    refine xs_one ?_
    · exact x_lf (ds_ret (de_var 2))
  · exact F.binds (ps := ["_law_one_here", "_law_other"]) fun _ _ _ _ _ _ us hl => match us, hl with | [_, _], _ => rfl
  · exact fun q hq => by simp at hq
def m_l_fed_due : M Fl :=
  (sSeq (sIf (tV (eOp2 dNe (eCB dLen (aCons (eOp2 dIx (eVar 0) (eC (.int 1))) aNil)) (eOp2 dIx (eVar 1) (eC (.int 0)))))
      (sRet (eL (nLst (aCons (eC (.str "unfit")) aNil))))
      sNx)
    (sSeq (sNew 2 (nLst aNil))
    (sSeq (sFor (asQ (eOp2 dIx (eVar 1) (eC (.int 1)))) (gN 3)
      (sSeq (sAsg (eL (nLst aNil)) (gN 4))
        (sSeq (sFor (asQ (eVar 3)) (gN 5)
          (sAsg (eOp2 dAdd (eVar 4) (eCB dListOf (aCons (eOp2 dIx (eOp2 dIx (eVar 0) (eC (.int 1))) (eVar 5)) aNil))) (gN 4)))
        (sApp 2 (eCB dTupleOf (aCons (eOp1 dSrtSet (eVar 4)) aNil))))))
    (sRet (eL (nLst (aCons (eC (.str "ok")) (aCons (eTup (aCons (eOp2 dIx (eVar 0) (eC (.int 0))) (aCons (eCB dTupleOf (aCons (eGive 2) aNil)) aNil))) aNil))))))))
def sem_l_fed_due : FS := semOf (List.length (["_law_one_here", "_law_other"] : List Str)) (List.length n_l_fed_due) m_l_fed_due
theorem fd_l_fed_due (T : Txt K mg) : FnD P w K mg base 1 "_law_fed_due" ["_law_one_here", "_law_other"] [] sem_l_fed_due := by
  obtain ⟨f, fd, F, hm⟩ := T.f_l_fed_due
  refine ⟨f, fd, fnD_of (m := m_l_fed_due) F sc_l_fed_due (fun cdv A outer s H E hr => ?_), hm, F.kp, ?_, ?_⟩
  · show XS _ _ _
    refine xs_cons ?_ ?_
    · refine x_if (dt_cmp (k_ne (K := K) hr.units) do_ne (de_B (k_len (K := K)) do_len (by rfl) T.b_len (by decide +kernel) (da_cons (k_ix (K := K) (de_var 0) de_int) da_nil)) (k_ix (K := K) (de_var 1) de_int) (nomark _)) ?_ ?_
      · refine xs_one ?_
        · exact x_lf (ds_ret (DN.de (dn_lst (da_cons de_str da_nil))))
      · exact xs_nil
    refine xs_cons ?_ ?_
    · exact x_lf (ds_new 2 (dn_lst da_nil) sc_l_fed_due.nd)
    refine xs_cons ?_ ?_
    · refine x_for (k_seq (K := K) (k_ix (K := K) (de_var 1) de_int)) (dg_name 3 sc_l_fed_due.nd) ?_
      · refine xs_cons ?_ ?_
        · exact x_lf (ds_asg (DN.de (dn_lst da_nil)) (dg_name 4 sc_l_fed_due.nd))
        refine xs_cons ?_ ?_
        · refine x_for (k_seq (K := K) (de_var 3)) (dg_name 5 sc_l_fed_due.nd) ?_
          · refine xs_one ?_
            · exact x_lf (ds_asg (de_bin (k_add (K := K)) do_add (de_var 4) (de_Ty (k_listOf (K := K)) do_listOf (by rfl) T.b_list (by decide +kernel) (da_cons (k_ix (K := K) (k_ix (K := K) (de_var 0) de_int) (de_var 5)) da_nil))) (dg_name 4 sc_l_fed_due.nd))
        refine xs_one ?_
        · exact x_lf (ds_append 2 (de_Ty (k_tupleOf (K := K)) do_tupleOf (by rfl) T.b_tuple (by decide +kernel) (da_cons (k_srtSet (K := K) T.b_sorted T.b_set (de_var 4)) da_nil)))
    refine xs_one ?_
    · exact x_lf (ds_ret (DN.de (dn_lst (da_cons de_str (da_cons (de_tup (da_cons (k_ix (K := K) (de_var 0) de_int) (da_cons (de_Ty (k_tupleOf (K := K)) do_tupleOf (by rfl) T.b_tuple (by decide +kernel) (da_cons (de_give 2) da_nil)) da_nil))) da_nil)))))
  · exact F.binds (ps := ["_law_one_here", "_law_other"]) fun _ _ _ _ _ _ us hl => match us, hl with | [_, _], _ => rfl
  · exact fun q hq => by simp at hq
def law_1 : M Fl :=
  (sAsg (eTup (aCons (eCallB [] sem_l_pattern (vDeck 1 (vDat (eC (.int 8)) vNil))) (aCons (eCallB [] sem_l_pattern (vDeck 1 (vDat (eC (.int 8)) vNil))) aNil))) (gTp 2 (gCn (gN 3) (gCn (gN 4) gNl))))
def law_2 : M Fl :=
  (sAsg (eL (nLc [14] (rg1 (aCons (eC (.int 4)) aNil)) (gN 14) (rtn true) (eCB dTupleOf (aCons (eL (nLc [15] (rg1 (aCons (eCB dLen (aCons (eOp2 dIx (eVar 3) (eC (.int 1))) aNil)) aNil)) (gN 15) (tV (eOp2 dEq (eCallB [] sem_l_draw (vDeck 1 (vDat (eC (.int 2)) vNil))) (eC (.int 0)))) (eVar 15))) aNil)))) (gN 5))
def law_3 : M Fl :=
  (sAsg (eTup (aCons (eCB dLen (aCons (eOp2 dIx (eVar 3) (eC (.int 1))) aNil)) (aCons (eCB dTupleOf (aCons (eVar 5) aNil)) aNil))) (gN 4))
def law_4 : M Fl :=
  (sIf (tV (eOp2 dEq (eCallB [] sem_l_draw (vDeck 1 (vDat (eC (.int 2)) vNil))) (eC (.int 0))))
        (sSeq law_2
          law_3)
        sNx)
def law_5 : M Fl :=
  (sAsg (eVar 3) (gTp 2 (gCn (gN 6) (gCn (gN 5) gNl))))
def law_6 : M Fl :=
  (sAsg (eL (nLst (aCons (eVar 3) (aCons (eTup (aCons (eVar 6) (aCons (eOp2 dMul (eVar 5) (eC (.int 3))) aNil))) (aCons (eTup (aCons (eVar 6) (aCons (eOp2 dAdd (eSl (eVar 5) oN (oS (eC (.int 8)))) (eTup (aCons (eTup aNil) aNil))) aNil))) (aCons (eTup (aCons (eC (.int 9)) (aCons (eVar 5) aNil))) (aCons (eTup (aCons (eOp2 dSub (eVar 6) (eC (.int 1))) (aCons (eVar 5) aNil))) (aCons (eCB dListOf (aCons (eVar 3) aNil)) aNil)))))))) (gN 7))
def law_7 : M Fl :=
  (sAsg (eOp2 dAdd (eVar 7) (eL (nLst (aCons (eTup (aCons (eVar 6) (aCons (eCB dListOf (aCons (eVar 5) aNil)) aNil))) (aCons (eTup (aCons (eC (.bool true)) (aCons (eTup aNil) aNil))) (aCons (eTup (aCons (eC (.int 0)) (aCons (eTup aNil) aNil))) (aCons (eTup (aCons (eC (.int 8)) (aCons (eTup (aCons (eTup (aCons (eC (.int 0)) (aCons (eC (.int 7)) aNil))) aNil)) aNil))) (aCons (eTup (aCons (eC (.int 2)) (aCons (eTup (aCons (eTup (aCons (eC (.int 0)) (aCons (eC (.int 0)) aNil))) aNil)) aNil))) (aCons (eTup (aCons (eC (.int 2)) (aCons (eTup (aCons (eTup (aCons (eC (.int 1)) (aCons (eC (.int 0)) aNil))) aNil)) aNil))) (aCons (eC .none) aNil)))))))))) (gN 7))
def law_8 : M Fl :=
  (sAsg (eOp2 dAdd (eVar 7) (eL (nLst (aCons (eTup (aCons (eC (.int 2)) (aCons (eTup (aCons (eTup (aCons (eC (.int 0)) (aCons (eC (.bool true)) aNil))) aNil)) aNil))) (aCons (eTup aNil) aNil))))) (gN 7))
def law_9 : M Fl :=
  (sAsg (eCB dRepr (aCons (eVar 8) aNil)) (gN 9))
def law_10 : M Fl :=
  (sRet (eC (.bool false)))
def law_11 : M Fl :=
  (sIf (tOrM (tV (eOp2 dNe (eCB dRepr (aCons (eCallB [] sem_p_pattern_error (vDat (eVar 8) vNil)) aNil)) (eCB dRepr (aCons (eCallB [] sem_l_pattern_error (vDat (eVar 8) vNil)) aNil)))) (tV (eOp2 dNe (eCB dRepr (aCons (eVar 8) aNil)) (eVar 9))))
            law_10
            sNx)
def law_12 : M Fl :=
  (sFor (asQ (eOp2 dAdd (eOp2 dAdd (eVar 7) (eL (nLc [14] (rg1 (aCons (eC (.int 6)) aNil)) (gN 14) (rtn true) (eCallB [] (sem_l_bent 4) (vDeck 1 (vDat (eVar 3) (vDat (eC (.int 3)) vNil))))))) (eL (nLst (aCons (eCallB [] sem_l_odd (vDeck 1 vNil)) aNil))))) (gN 8)
        (sSeq law_9
          law_11))
def law_13 : M Fl :=
  (sNew 10 (nLst aNil))
def law_14 : M Fl :=
  (sExt 10 (eL (nLc [16] (asQ (eOp2 dIx (eVar 5) (eVar 11))) (gN 16) (rtn true) (eTup (aCons (eVar 11) (aCons (eVar 16) aNil))))))
def law_15 : M Fl :=
  (sFor (rg1 (aCons (eCB dLen (aCons (eVar 5) aNil)) aNil)) (gN 11)
        law_14)
def law_16 : M Fl :=
  (sAsg (eCallB [] sem_p_turned_pattern (vDat (eVar 3) vNil)) (gN 12))
def law_17 : M Fl :=
  (sAsg (eL (nLc [15] (rg1 (aCons (eVar 6) aNil)) (gN 15) (rtn true) (eCB dTupleOf (aCons (eL (nLc [11, 16] (asQ (eGive 10)) (gTp 2 (gCn (gN 11) (gCn (gN 16) gNl))) (tV (eOp2 dEq (eVar 16) (eVar 15))) (eVar 11))) aNil)))) (gN 13))
def law_18 : M Fl :=
  (sRet (eC (.bool false)))
def law_19 : M Fl :=
  (sIf (tOrM (tV (eOp2 dNe (eCB dRepr (aCons (eVar 12) aNil)) (eCB dRepr (aCons (eTup (aCons (eCB dLen (aCons (eVar 5) aNil)) (aCons (eCB dTupleOf (aCons (eVar 13) aNil)) aNil))) aNil)))) (tV (eOp2 dNe (eCallB [] sem_p_turned_pattern (vPerm [0] (vDat (eVar 12) vNil))) (eVar 3))))
        law_18
        sNx)
def law_20 : M Fl :=
  (sRet (eC (.bool false)))
def law_21 : M Fl :=
  (sIf (tV (eOp2 dIsNot (eCallB [] sem_p_pattern_error (vPerm [0] (vDat (eVar 3) vNil))) (eC .none)))
        law_20
        sNx)
def law_22 : M Fl :=
  (sRet (eC (.bool false)))
def law_23 : M Fl :=
  (sIf (tAndM (tV (eOp2 dEq (eCB dLen (aCons (eVar 5) aNil)) (eOp2 dIx (eVar 4) (eC (.int 0))))) (tV (eOp2 dNe (eCB dRepr (aCons (eCallX sem_p_fed_pattern (vPerm [1, 0] (vDat (eVar 4) (vDat (eVar 3) vNil)))) aNil)) (eCB dRepr (aCons (eCallX sem_p_fed_pattern (vDat (eVar 3) (vDat (eVar 4) vNil))) aNil)))))
        law_22
        sNx)
def law_24 : M Fl :=
  (sAsg (eCB dRepr (aCons (eL (nLst (aCons (eVar 3) (aCons (eVar 4) aNil)))) aNil)) (gN 9))
def law_25 : M Fl :=
  (sRet (eC (.bool false)))
def law_26 : M Fl :=
  (sIf (tOrM (tV (eOp2 dNe (eCB dRepr (aCons (eCallB [] sem_l_fed (vDat (eVar 3) (vDat (eVar 4) vNil))) aNil)) (eCB dRepr (aCons (eCallB [] sem_l_fed_due (vDat (eVar 3) (vDat (eVar 4) vNil))) aNil)))) (tV (eOp2 dNe (eCB dRepr (aCons (eL (nLst (aCons (eVar 3) (aCons (eVar 4) aNil)))) aNil)) (eVar 9))))
        law_25
        sNx)
def law_27 : M Fl :=
  (sRet (eC (.bool false)))
def law_28 : M Fl :=
  (sIf (tV (eOp2 dNe (eCB dRepr (aCons (eCallB [] sem_l_fed (vDat (eVar 4) (vDat (eVar 3) vNil))) aNil)) (eCB dRepr (aCons (eCallB [] sem_l_fed_due (vDat (eVar 4) (vDat (eVar 3) vNil))) aNil))))
        law_27
        sNx)
def law_29 : M Fl :=
  (sFor (rg1 (aCons (eC (.int 10)) aNil)) (gN 2)
    (sSeq law_1
      (sSeq law_4
      (sSeq law_5
      (sSeq law_6
      (sSeq law_7
      (sSeq law_8
      (sSeq law_12
      (sSeq law_13
      (sSeq law_15
      (sSeq law_16
      (sSeq law_17
      (sSeq law_19
      (sSeq law_21
      (sSeq law_23
      (sSeq law_24
      (sSeq law_26
      law_28)))))))))))))))))
def law_30 : M Fl :=
  (sRet (eC (.bool true)))
def m_law : M Fl :=
  (sSeq law_29
  law_30)
theorem ds_law (T : Txt K mg) {f : Addr} {cdv : Value} {A : Around} {outer : List Env} {s : Shared} {H : Hp} {E : XK} (hG : (A.deeper (envOfC "law" (defScope s_p_law) s.heap.objs.size f cdv)).guards = some []) (hr : Room 7 (A.deeper (envOfC "law" (defScope s_p_law) s.heap.objs.size f cdv))) :
    ∃ t, DSs (cxOf CX0 P w K mg base n_p_law "law" (defScope s_p_law) f cdv A outer s H E).nox ((defBody s_p_law).drop 1) t m_law := by
  show XS _ _ _
  refine xs_cons ?_ ?_
  · refine x_for (di_rg1 (by rfl) T.b_range (da_cons de_int da_nil)) (dg_name 2 sc_p_law.nd) ?_
    · refine xs_cons ?_ ?_
      · exact x_lf (ds_asg (de_tup (da_cons (k_call (K := K) (B := []) (fd_l_pattern T) (hr.mono (by omega)) (by rfl) (dv_deck 1 (dv_dat de_int dv_nil))) (da_cons (k_call (K := K) (B := []) (fd_l_pattern T) (hr.mono (by omega)) (by rfl) (dv_deck 1 (dv_dat de_int dv_nil))) da_nil))) (k_gtup (K := K) (dgs_cons (dg_name 3 sc_p_law.nd) (dgs_cons (dg_name 4 sc_p_law.nd) dgs_nil))))
      refine xs_cons ?_ ?_
      · refine x_if (dt_cmp (k_eq (K := K) hr.units) do_eq (k_call (K := K) (B := []) (fd_l_draw T) (hr.mono (by omega)) (by rfl) (dv_deck 1 (dv_dat de_int dv_nil))) de_int (nomark _)) ?_ ?_
        · refine xs_cons ?_ ?_
          · exact x_lf (ds_lcD 5 (own := [("_law_k", 14)]) rfl sc_p_law.nd (di_rg1 (by rfl) T.b_range (da_cons de_int da_nil)) (blkOk_by (own := [("_law_k", 14)]) (N := n_p_law) (sc := defScope s_p_law) (by decide +kernel)) (fun _ _ _ _ _ => (dg_name 14 sc_p_law.nd)) (by decide) (fun _ _ _ _ _ => dts_nil) (fun _ _ _ _ _ => (de_Ty (k_tupleOf (K := K)) do_tupleOf (by rfl) T.b_tuple (by decide +kernel) (da_cons (DN.de (dn_lc (own := [("_law_own", 15)]) rfl sc_p_law.nd (di_rg1 (by rfl) T.b_range (da_cons (de_B (k_len (K := K)) do_len (by rfl) T.b_len (by decide +kernel) (da_cons (k_ix (K := K) (de_var 3) de_int) da_nil)) da_nil)) (blkOk_by (own := [("_law_own", 15)]) (N := n_p_law) (sc := ({ kind := PySem.ScopeKind.function, names := [ (PySem.Str.ofString ".0", PySem.NameKind.local), (PySem.Str.ofString "_law_k", PySem.NameKind.local), (PySem.Str.ofString "tuple", PySem.NameKind.globalImplicit), (PySem.Str.ofString "range", PySem.NameKind.globalImplicit), (PySem.Str.ofString "len", PySem.NameKind.globalImplicit), (PySem.Str.ofString "_law_deck_here", PySem.NameKind.cell), (PySem.Str.ofString "_law_one_here", PySem.NameKind.cell)], isGenerator := false, isCoroutine := false, more := [] : PySem.Scope })) (by decide +kernel)) (fun _ _ _ _ _ => (dg_name 15 sc_p_law.nd)) (by decide) (fun _ _ _ _ _ => (dts_one (dt_cmp (k_eq (K := K) hr.units) do_eq (k_call (K := K) (B := []) (fd_l_draw T) (hr.mono (by omega)) (by rfl) (dv_deck 1 (dv_dat de_int dv_nil))) de_int (nomark _)))) (fun _ _ _ _ _ => (de_var 15)))) da_nil))) (sw_true rfl rfl rfl (by decide +kernel)))
          refine xs_one ?_
          · exact x_lf (ds_asg (de_tup (da_cons (de_B (k_len (K := K)) do_len (by rfl) T.b_len (by decide +kernel) (da_cons (k_ix (K := K) (de_var 3) de_int) da_nil)) (da_cons (de_Ty (k_tupleOf (K := K)) do_tupleOf (by rfl) T.b_tuple (by decide +kernel) (da_cons (de_var 5) da_nil)) da_nil))) (dg_name 4 sc_p_law.nd))
        · exact xs_nil
      refine xs_cons ?_ ?_
      · exact x_lf (ds_asg (de_var 3) (k_gtup (K := K) (dgs_cons (dg_name 6 sc_p_law.nd) (dgs_cons (dg_name 5 sc_p_law.nd) dgs_nil))))
      refine xs_cons ?_ ?_
      · exact x_lf (ds_asg (DN.de (dn_lst (da_cons (de_var 3) (da_cons (de_tup (da_cons (de_var 6) (da_cons (de_bin (k_mul (K := K)) do_mul (de_var 5) de_int) da_nil))) (da_cons (de_tup (da_cons (de_var 6) (da_cons (de_bin (k_add (K := K)) do_add (k_sl (K := K) (de_var 5) do_none (do_some de_int)) (de_tup (da_cons (de_tup da_nil) da_nil))) da_nil))) (da_cons (de_tup (da_cons de_int (da_cons (de_var 5) da_nil))) (da_cons (de_tup (da_cons (de_bin op_sub do_sub (de_var 6) de_int) (da_cons (de_var 5) da_nil))) (da_cons (de_Ty (k_listOf (K := K)) do_listOf (by rfl) T.b_list (by decide +kernel) (da_cons (de_var 3) da_nil)) da_nil)))))))) (dg_name 7 sc_p_law.nd))
      refine xs_cons ?_ ?_
      · exact x_lf (ds_asg (de_bin (k_add (K := K)) do_add (de_var 7) (DN.de (dn_lst (da_cons (de_tup (da_cons (de_var 6) (da_cons (de_Ty (k_listOf (K := K)) do_listOf (by rfl) T.b_list (by decide +kernel) (da_cons (de_var 5) da_nil)) da_nil))) (da_cons (de_tup (da_cons de_bl (da_cons (de_tup da_nil) da_nil))) (da_cons (de_tup (da_cons de_int (da_cons (de_tup da_nil) da_nil))) (da_cons (de_tup (da_cons de_int (da_cons (de_tup (da_cons (de_tup (da_cons de_int (da_cons de_int da_nil))) da_nil)) da_nil))) (da_cons (de_tup (da_cons de_int (da_cons (de_tup (da_cons (de_tup (da_cons de_int (da_cons de_int da_nil))) da_nil)) da_nil))) (da_cons (de_tup (da_cons de_int (da_cons (de_tup (da_cons (de_tup (da_cons de_int (da_cons de_int da_nil))) da_nil)) da_nil))) (da_cons de_non da_nil)))))))))) (dg_name 7 sc_p_law.nd))
      refine xs_cons ?_ ?_
      · exact x_lf (ds_asg (de_bin (k_add (K := K)) do_add (de_var 7) (DN.de (dn_lst (da_cons (de_tup (da_cons de_int (da_cons (de_tup (da_cons (de_tup (da_cons de_int (da_cons de_bl da_nil))) da_nil)) da_nil))) (da_cons (de_tup da_nil) da_nil))))) (dg_name 7 sc_p_law.nd))
      refine xs_cons ?_ ?_
      · refine x_for (k_seq (K := K) (de_bin (k_add (K := K)) do_add (de_bin (k_add (K := K)) do_add (de_var 7) (DN.de (dn_lc (own := [("_law_k", 14)]) rfl sc_p_law.nd (di_rg1 (by rfl) T.b_range (da_cons de_int da_nil)) (blkOk_by (own := [("_law_k", 14)]) (N := n_p_law) (sc := defScope s_p_law) (by decide +kernel)) (fun _ _ _ _ _ => (dg_name 14 sc_p_law.nd)) (by decide) (fun _ _ _ _ _ => dts_nil) (fun _ _ _ _ _ => (k_call (K := K) (B := []) (fd_l_bent T 4) (hr.mono (by omega)) (by rfl) (dv_deck 1 (dv_dat (de_var 3) (dv_dat de_int dv_nil)))))))) (DN.de (dn_lst (da_cons (k_call (K := K) (B := []) (fd_l_odd T) (hr.mono (by omega)) (by rfl) (dv_deck 1 dv_nil)) da_nil))))) (dg_name 8 sc_p_law.nd) ?_
        · refine xs_cons ?_ ?_
          · exact x_lf (ds_asg (de_B (k_repr (K := K) T.zd hG hr.u100) do_repr (by rfl) T.b_repr (by decide +kernel) (da_cons (de_var 8) da_nil)) (dg_name 9 sc_p_law.nd))
          refine xs_one ?_
          · refine x_if (DW.pt (dw_or (dt_cmp (k_ne (K := K) hr.units) do_ne (de_B (k_repr (K := K) T.zd hG hr.u100) do_repr (by rfl) T.b_repr (by decide +kernel) (da_cons (k_call (K := K) (B := []) (fd_p_pattern_error T) (hr.mono (by omega)) (by rfl) (dv_dat (de_var 8) dv_nil)) da_nil)) (de_B (k_repr (K := K) T.zd hG hr.u100) do_repr (by rfl) T.b_repr (by decide +kernel) (da_cons (k_call (K := K) (B := []) (fd_l_pattern_error T) (hr.mono (by omega)) (by rfl) (dv_dat (de_var 8) dv_nil)) da_nil)) (nomark _)) (dw_or1 (dt_cmp (k_ne (K := K) hr.units) do_ne (de_B (k_repr (K := K) T.zd hG hr.u100) do_repr (by rfl) T.b_repr (by decide +kernel) (da_cons (de_var 8) da_nil)) (de_var 9) (nomark _))))) ?_ ?_
            · refine xs_one ?_
              · exact x_lf (ds_ret de_bl)
            · exact xs_nil
      refine xs_cons ?_ ?_
      · exact x_lf (ds_new 10 (dn_lst da_nil) sc_p_law.nd)
      refine xs_cons ?_ ?_
      · refine x_for (di_rg1 (by rfl) T.b_range (da_cons (de_B (k_len (K := K)) do_len (by rfl) T.b_len (by decide +kernel) (da_cons (de_var 5) da_nil)) da_nil)) (dg_name 11 sc_p_law.nd) ?_
        · refine xs_one ?_
          · exact x_lf (ds_extend 10 (DN.de (dn_lc (own := [("_law_unknown", 16)]) rfl sc_p_law.nd (k_seq (K := K) (k_ix (K := K) (de_var 5) (de_var 11))) (blkOk_by (own := [("_law_unknown", 16)]) (N := n_p_law) (sc := defScope s_p_law) (by decide +kernel)) (fun _ _ _ _ _ => (dg_name 16 sc_p_law.nd)) (by decide) (fun _ _ _ _ _ => dts_nil) (fun _ _ _ _ _ => (de_tup (da_cons (de_var 11) (da_cons (de_var 16) da_nil)))))))
      refine xs_cons ?_ ?_
      · exact x_lf (ds_asg (k_call (K := K) (B := []) (fd_p_turned_pattern T) (hr.mono (by omega)) (by rfl) (dv_dat (de_var 3) dv_nil)) (dg_name 12 sc_p_law.nd))
      refine xs_cons ?_ ?_
      · exact x_lf (ds_lcD 13 (own := [("_law_own", 15)]) rfl sc_p_law.nd (di_rg1 (by rfl) T.b_range (da_cons (de_var 6) da_nil)) (blkOk_by (own := [("_law_own", 15)]) (N := n_p_law) (sc := defScope s_p_law) (by decide +kernel)) (fun _ _ _ _ _ => (dg_name 15 sc_p_law.nd)) (by decide) (fun _ _ _ _ _ => dts_nil) (fun _ _ _ _ _ => (de_Ty (k_tupleOf (K := K)) do_tupleOf (by rfl) T.b_tuple (by decide +kernel) (da_cons (DN.de (dn_lc (own := [("_law_end", 11), ("_law_unknown", 16)]) rfl sc_p_law.nd (k_seq (K := K) (de_give 10)) (blkOk_by (own := [("_law_end", 11), ("_law_unknown", 16)]) (N := n_p_law) (sc := ({ kind := PySem.ScopeKind.function, names := [ (PySem.Str.ofString ".0", PySem.NameKind.local), (PySem.Str.ofString "_law_own", PySem.NameKind.cell), (PySem.Str.ofString "tuple", PySem.NameKind.globalImplicit), (PySem.Str.ofString "_law_marks", PySem.NameKind.cell)], isGenerator := false, isCoroutine := false, more := [] : PySem.Scope })) (by decide +kernel)) (fun _ _ _ _ _ => (k_gtup (K := K) (dgs_cons (dg_name 11 sc_p_law.nd) (dgs_cons (dg_name 16 sc_p_law.nd) dgs_nil)))) (by decide) (fun _ _ _ _ _ => (dts_one (dt_cmp (k_eq (K := K) hr.units) do_eq (de_var 16) (de_var 15) (nomark _)))) (fun _ _ _ _ _ => (de_var 11)))) da_nil))) (sw_true rfl rfl rfl (by decide +kernel)))
      refine xs_cons ?_ ?_
      · refine x_if (DW.pt (dw_or (dt_cmp (k_ne (K := K) hr.units) do_ne (de_B (k_repr (K := K) T.zd hG hr.u100) do_repr (by rfl) T.b_repr (by decide +kernel) (da_cons (de_var 12) da_nil)) (de_B (k_repr (K := K) T.zd hG hr.u100) do_repr (by rfl) T.b_repr (by decide +kernel) (da_cons (de_tup (da_cons (de_B (k_len (K := K)) do_len (by rfl) T.b_len (by decide +kernel) (da_cons (de_var 5) da_nil)) (da_cons (de_Ty (k_tupleOf (K := K)) do_tupleOf (by rfl) T.b_tuple (by decide +kernel) (da_cons (de_var 13) da_nil)) da_nil))) da_nil)) (nomark _)) (dw_or1 (dt_cmp (k_ne (K := K) hr.units) do_ne (k_callK (K := K) (B := []) ["pattern"] [0] (fd_p_turned_pattern T) (by simp) (hr.mono (by omega)) (by rfl) (dk_dat (de_var 12) dk_nil)) (de_var 3) (nomark _))))) ?_ ?_
        · refine xs_one ?_
          · exact x_lf (ds_ret de_bl)
        · exact xs_nil
      refine xs_cons ?_ ?_
      · refine x_if (dt_cmp op_notN do_isNot (k_callK (K := K) (B := []) ["value"] [0] (fd_p_pattern_error T) (by simp) (hr.mono (by omega)) (by rfl) (dk_dat (de_var 3) dk_nil)) de_non (nomark _)) ?_ ?_
        · refine xs_one ?_
          · exact x_lf (ds_ret de_bl)
        · exact xs_nil
      refine xs_cons ?_ ?_
      · refine x_if (DW.pt (dw_and (dt_cmp (k_eq (K := K) hr.units) do_eq (de_B (k_len (K := K)) do_len (by rfl) T.b_len (by decide +kernel) (da_cons (de_var 5) da_nil)) (k_ix (K := K) (de_var 4) de_int) (nomark _)) (dw_and1 (dt_cmp (k_ne (K := K) hr.units) do_ne (de_B (k_repr (K := K) T.zd hG hr.u100) do_repr (by rfl) T.b_repr (by decide +kernel) (da_cons (de_callXK (K := K) ["other", "one"] [1, 0] (fd_p_fed_pattern T) (by simp) (hr.mono (by omega)) (by rfl) (dk_dat (de_var 4) (dk_dat (de_var 3) dk_nil))) da_nil)) (de_B (k_repr (K := K) T.zd hG hr.u100) do_repr (by rfl) T.b_repr (by decide +kernel) (da_cons (de_callX (K := K) (fd_p_fed_pattern T) (hr.mono (by omega)) (by rfl) (dv_dat (de_var 3) (dv_dat (de_var 4) dv_nil))) da_nil)) (nomark _))))) ?_ ?_
        · refine xs_one ?_
          · exact x_lf (ds_ret de_bl)
        · exact xs_nil
      refine xs_cons ?_ ?_
      · exact x_lf (ds_asg (de_B (k_repr (K := K) T.zd hG hr.u100) do_repr (by rfl) T.b_repr (by decide +kernel) (da_cons (DN.de (dn_lst (da_cons (de_var 3) (da_cons (de_var 4) da_nil)))) da_nil)) (dg_name 9 sc_p_law.nd))
      refine xs_cons ?_ ?_
      · refine x_if (DW.pt (dw_or (dt_cmp (k_ne (K := K) hr.units) do_ne (de_B (k_repr (K := K) T.zd hG hr.u100) do_repr (by rfl) T.b_repr (by decide +kernel) (da_cons (k_call (K := K) (B := []) (fd_l_fed T) (hr.mono (by omega)) (by rfl) (dv_dat (de_var 3) (dv_dat (de_var 4) dv_nil))) da_nil)) (de_B (k_repr (K := K) T.zd hG hr.u100) do_repr (by rfl) T.b_repr (by decide +kernel) (da_cons (k_call (K := K) (B := []) (fd_l_fed_due T) (hr.mono (by omega)) (by rfl) (dv_dat (de_var 3) (dv_dat (de_var 4) dv_nil))) da_nil)) (nomark _)) (dw_or1 (dt_cmp (k_ne (K := K) hr.units) do_ne (de_B (k_repr (K := K) T.zd hG hr.u100) do_repr (by rfl) T.b_repr (by decide +kernel) (da_cons (DN.de (dn_lst (da_cons (de_var 3) (da_cons (de_var 4) da_nil)))) da_nil)) (de_var 9) (nomark _))))) ?_ ?_
        · refine xs_one ?_
          · exact x_lf (ds_ret de_bl)
        · exact xs_nil
      refine xs_one ?_
      · refine x_if (dt_cmp (k_ne (K := K) hr.units) do_ne (de_B (k_repr (K := K) T.zd hG hr.u100) do_repr (by rfl) T.b_repr (by decide +kernel) (da_cons (k_call (K := K) (B := []) (fd_l_fed T) (hr.mono (by omega)) (by rfl) (dv_dat (de_var 4) (dv_dat (de_var 3) dv_nil))) da_nil)) (de_B (k_repr (K := K) T.zd hG hr.u100) do_repr (by rfl) T.b_repr (by decide +kernel) (da_cons (k_call (K := K) (B := []) (fd_l_fed_due T) (hr.mono (by omega)) (by rfl) (dv_dat (de_var 4) (dv_dat (de_var 3) dv_nil))) da_nil)) (nomark _)) ?_ ?_
        · refine xs_one ?_
          · exact x_lf (ds_ret de_bl)
        · exact xs_nil
  refine xs_one ?_
  · exact x_lf (ds_ret de_bl)
abbrev lvLaw : Nat := 7
end
end Lw


namespace Lw
open PySem PySem.Spec PyProof.Rows L2 DL
theorem fp_one {l : List D} {k : Dk} {Q : D → Dk → Prop} (hk : DkV k) (h0 : l ≠ []) (h1 : l.length < 1000000000) (h : ∀ d k', d ∈ l → DkV k' → Q d k') : fp sem_l_one [.deck, .dat (.list l)] k Q := by
  refine fp_of rfl ?_
  unfold m_l_one
  simp
  have hp : 0 < l.length := List.length_pos_iff.mpr h0
  refine fp_draw hk (by omega) (by omega) fun r k' h2 h3 hv => ?_
  simp
  exact ⟨_, atI_int h2 h3, h _ _ (List.getElem_mem _) hv⟩
theorem sem_isint (v : D) (a b : Int) (k : Dk) : sem_p_is_integer [.dat v, .dat (.int a), .dat (.int b)] k = some (.bool (isI v a b), k) := by
  refine eq_fp (fp_of rfl ?_)
  unfold m_p_is_integer
  simp
  cases v <;> simp [isI] <;> omega
@[simp ↓] theorem fp_isint {v : D} {a b : Int} {k : Dk} {Q : D → Dk → Prop} : fp sem_p_is_integer [.dat v, .dat (.int a), .dat (.int b)] k Q ↔ Q (.bool (isI v a b)) k := fp_eq (sem_isint v a b k)
theorem whole_same : m_l_whole = m_p_is_integer := rfl
theorem sem_whole (v : D) (a b : Int) (k : Dk) : sem_l_whole [.dat v, .dat (.int a), .dat (.int b)] k = some (.bool (isI v a b), k) := sem_isint v a b k
@[simp ↓] theorem fp_whole {v : D} {a b : Int} {k : Dk} {Q : D → Dk → Prop} : fp sem_l_whole [.dat v, .dat (.int a), .dat (.int b)] k Q ↔ Q (.bool (isI v a b)) k := fp_eq (sem_whole v a b k)
theorem fp_odd {k : Dk} {Q : D → Dk → Prop} (hk : DkV k) (h : ∀ d k', sz d ≤ 200 → d.depth ≤ 4 → DkV k' → Q d k') : fp sem_l_odd [.deck] k Q := by
  refine fp_of rfl ?_
  unfold m_l_odd
  simp [lim]
  refine fp_one hk (by simp) (by decide) fun d k' hd hv => ?_
  obtain ⟨h1, h2⟩ := odd_small d hd
  exact h d k' h1 h2 hv
def bentHead (rc : FS) : M Fl :=
  (sIf (tAndM (tV (eIsi "tuple" (eVar 1))) (tAndM (tV (eOp2 dNe (eVar 1) (eTup aNil))) (tAndM (tV (eOp2 dGt (eVar 2) (eC (.int 0)))) (tV (eOp2 dGt (eCallB [] sem_l_draw (vDeck 0 (vDat (eC (.int 4)) vNil))) (eC (.int 0)))))))
      (sSeq (sAsg (eCallB [] sem_l_draw (vDeck 0 (vDat (eCB dLen (aCons (eVar 1) aNil)) vNil))) (gN 3))
        (sRet (eOp2 dAdd (eOp2 dAdd (eSl (eVar 1) oN (oS (eVar 3))) (eTup (aCons (eCallB [] rc (vDeck 0 (vDat (eOp2 dIx (eVar 1) (eVar 3)) (vDat (eOp2 dSub (eVar 2) (eC (.int 1))) vNil)))) aNil))) (eSl (eVar 1) (oS (eOp2 dAdd (eVar 3) (eC (.int 1)))) oN))))
      sNx)
def bentB : M Fl :=
  (sIf (tNotM (tV (eIsi "tuple" (eVar 1))))
      (sSeq (sAsg (eIf (tV (eIsi "int" (eVar 1))) (eL (nLst (aCons (eOp2 dAdd (eVar 1) (eC (.int 1))) (aCons (eOp2 dSub (eVar 1) (eC (.int 1))) (aCons (eOp2 dSub (eC (.int 0)) (eVar 1)) (aCons (eCB dBool (aCons (eVar 1) aNil)) (aCons (eCB dStr (aCons (eVar 1) aNil)) aNil))))))) (eL (nLst aNil))) (gN 4))
        (sRet (eCallB [] sem_l_one (vDeck 0 (vDat (eOp2 dAdd (eVar 4) (eL (nLst (aCons (eCallB [] sem_l_odd (vDeck 0 vNil)) (aCons (eCallB [] sem_l_odd (vDeck 0 vNil)) aNil))))) vNil)))))
      sNx)
def bentC : M Fl :=
  (sSeq (sAsg (eCallB [] sem_l_draw (vDeck 0 (vDat (eOp2 dAdd (eCB dLen (aCons (eVar 1) aNil)) (eC (.int 1))) vNil))) (gN 3))
    (sSeq (sAsg (eL (nLst (aCons (eCallB [] sem_l_odd (vDeck 0 vNil)) (aCons (eSl (eVar 1) (oS (eC (.int 1))) oN) (aCons (eSl (eVar 1) oN (oS (eOp1 dNeg (eC (.int 1))))) (aCons (eOp1 dRev (eVar 1)) (aCons (eCB dListOf (aCons (eVar 1) aNil)) (aCons (eOp2 dAdd (eVar 1) (eSl (eVar 1) (oS (eOp1 dNeg (eC (.int 1)))) oN)) aNil)))))))) (gN 5))
    (sRet (eCallB [] sem_l_one (vDeck 0 (vDat (eOp2 dAdd (eVar 5) (eL (nLst (aCons (eOp2 dAdd (eOp2 dAdd (eSl (eVar 1) oN (oS (eVar 3))) (eTup (aCons (eCallB [] sem_l_odd (vDeck 0 vNil)) aNil))) (eSl (eVar 1) (oS (eVar 3)) oN)) (aCons (eOp2 dAdd (eSl (eVar 1) oN (oS (eVar 3))) (eSl (eVar 1) (oS (eOp2 dAdd (eVar 3) (eC (.int 1)))) oN)) aNil))))) vNil))))))
theorem bent_eq (rc : FS) : m_l_bent rc = sSeq (bentHead rc) (sSeq bentB bentC) := rfl
theorem bent_rest {v : D} {n p : Nat} {k : Dk} {dp : D} {Q : D → Dk → Prop} (hk : DkV k) (hg : gv v = true) (hs : sz v ≤ n) (hd : v.depth ≤ p) (hn : n ≤ 100000) (h : ∀ d k', Bnt n p 0 d → DkV k' → Q d k') :
    wp (sSeq bentB bentC) ⟨[some .deck, some (.dat v), some (.dat dp), none, none, none], k⟩ fun fl s' => ∃ d, fl = .rt d ∧ Q d s'.k := by
  unfold bentB
  cases v with
  | int i =>
    have hi : i.natAbs < 2 ^ 150 := by simpa [gv] using hg
    have hl := lg_lt (n := 150) (by decide) hi
    simp [lim, show i.natAbs.log2 < 1920 by omega]
    refine fp_odd hk fun d1 k1 a1 a2 hv1 => fp_odd hv1 fun d2 k2 b1 b2 hv2 => ?_
    refine fp_one hv2 (by simp) (by simp) fun d k3 hd hv3 => h d k3 ?_ hv3
    have p2 : (2 : Nat) ^ 151 = 2 ^ 150 + 2 ^ 150 := by decide
    have p1 : (1 : Nat) ≤ 2 ^ 150 := by decide
    simp at hd
    unfold Bnt
    rcases hd with rfl | rfl | rfl | rfl | rfl | rfl | rfl
    · have := sz_smallInt (i := i + 1) (by omega); simp only [PyData.depth]; omega
    · have := sz_smallInt (i := i - 1) (by omega); simp only [PyData.depth]; omega
    · have := sz_smallInt (i := -i) (by omega); simp only [PyData.depth]; omega
    · simp only [PyData.depth, sz]; omega
    · have := sz_text hi
      rw [show (toString i : String) = i.repr from rfl] at this
      simp only [PyData.depth]; omega
    · omega
    · omega
  | tuple l =>
    unfold bentC
    simp
    rw [sz_tup] at hs
    rw [dp_tup] at hd
    have hll := szA_len l
    have hz := fun lo hi => szA_cut l lo hi
    have hdd := fun lo hi => depthA_cut l lo hi
    have hcl := fun lo hi => cutG_len l lo hi
    refine fp_draw hk (by omega) (by omega) fun q k1 q0 q1 hv1 => fp_odd hv1 fun d1 k2 a1 a2 hv2 => ?_
    have c1 := hcl (some (-1)) none
    have c2 := hcl none (some q)
    have c3 := hcl (some q) none
    have c4 := hcl (some (q + 1)) none
    refine ⟨by show _ ≤ 1000000; omega, by decide, q, rfl, fp_odd hv2 fun d2 k3 b1 b2 hv3 => ⟨by decide, by show _ ≤ 1000000; omega, q, rfl, by show _ ≤ 1000000; omega, q, rfl, _, dAdd_int, q + 1, rfl, by show _ ≤ 1000000; omega, by decide, by decide, ?_⟩⟩
    refine fp_one hv3 (by simp) (by simp) fun d k4 hm hv4 => h d k4 ?_ hv4
    have z1 := hz (some 1) none
    have z2 := hz none (some (-1))
    have z3 := hz (some (-1)) none
    have z4 := hz none (some q)
    have z5 := hz (some q) none
    have z6 := hz (some (q + 1)) none
    have e1 := hdd (some 1) none
    have e2 := hdd none (some (-1))
    have e3 := hdd (some (-1)) none
    have e4 := hdd none (some q)
    have e5 := hdd (some q) none
    have e6 := hdd (some (q + 1)) none
    have r1 := szA_rev l
    have r2 := depthA_rev l
    simp at hm
    unfold Bnt
    rcases hm with rfl | rfl | rfl | rfl | rfl | rfl | rfl | rfl
    · omega
    · rw [sz_tup, dp_tup]; omega
    · rw [sz_tup, dp_tup]; omega
    · rw [sz_tup, dp_tup]; omega
    · rw [sz_lst, dp_lst]; omega
    · rw [sz_tup, dp_tup, szA_app, depthA_app]; omega
    · rw [sz_tup, dp_tup, szA_app, depthA_app, szA, PyData.depthAll]; omega
    · rw [sz_tup, dp_tup, szA_app, depthA_app]; omega
  | none =>
    simp [lim]
    refine fp_odd hk fun d1 k1 a1 a2 hv1 => fp_odd hv1 fun d2 k2 b1 b2 hv2 => ?_
    refine fp_one hv2 (by simp) (by simp) fun d k3 hd hv3 => h d k3 ?_ hv3
    simp at hd
    unfold Bnt
    rcases hd with rfl | rfl <;> omega
  | str x =>
    simp [lim]
    refine fp_odd hk fun d1 k1 a1 a2 hv1 => fp_odd hv1 fun d2 k2 b1 b2 hv2 => ?_
    refine fp_one hv2 (by simp) (by simp) fun d k3 hd hv3 => h d k3 ?_ hv3
    simp at hd
    unfold Bnt
    rcases hd with rfl | rfl <;> omega
  | bool _ => simp [gv] at hg
  | list _ => simp [gv] at hg
  | dict _ => simp [gv] at hg
theorem fp_bent (p : Nat) (hp : p ≤ 40) : ∀ (m : Nat) (v : D) (n : Nat) (k : Dk) (Q : D → Dk → Prop), DkV k → gv v = true → sz v ≤ n → v.depth ≤ p → n ≤ 100000 → (∀ d k', Bnt n p m d → DkV k' → Q d k') → fp (sem_l_bent (m + 1)) [.deck, .dat v, .dat (.int m)] k Q := by
  intro m
  induction m with
  | zero =>
    intro v n k Q hk hg hs hd hn h
    refine fp_of rfl ?_
    rw [bent_eq]
    have key := bent_rest (dp := .int 0) hk hg hs hd hn h
    unfold bentHead
    generalize sSeq bentB bentC = R at key ⊢
    simp
    cases v with
    | tuple l =>
      rw [dNe_nilT (gv_shaped hg hd hp)]
      simp
      exact ⟨Classical.em _, key⟩
    | _ => simp; exact key
  | succ m ih =>
    intro v n k Q hk hg hs hd hn h
    refine fp_of rfl ?_
    rw [bent_eq]
    have key := fun k' (hk' : DkV k') => bent_rest (dp := .int ((m + 1 : Nat) : Int)) hk' hg hs hd hn fun d k' hb => h d k' (hb.from0 (m + 1))
    unfold bentHead
    generalize sSeq bentB bentC = R at key ⊢
    simp
    cases v with
    | tuple l =>
      rw [dNe_nilT (gv_shaped hg hd hp)]
      simp
      have key : ∀ (k' : Dk), DkV k' → wp R ⟨[some Val.deck, some (Val.dat (PyData.tuple l)), some (Val.dat (PyData.int ((m : Int) + 1))), none, none, none], k'⟩ fun fl s' => ∃ d, fl = Fl.rt d ∧ Q d s'.k := key
      by_cases hl : l = []
      · exact .inl ⟨hl, key k hk⟩
      · refine .inr ⟨hl, fp_draw hk (by decide) (by decide) fun q k1 q0 q1 hv1 => ⟨_, dGt_int, ?_⟩⟩
        by_cases hq : 0 < q
        · refine .inr ⟨by simp [hq], ?_⟩
          have hlp : 0 < l.length := List.length_pos_iff.mpr hl
          rw [sz_tup] at hs
          rw [dp_tup] at hd
          have hll := szA_len l
          refine fp_draw hv1 (by omega) (by omega) fun i k2 i0 i1 hv2 => ⟨i, rfl, _, atI_int i0 i1, ?_⟩
          have hmem : l[i.toNat]'(by omega) ∈ l := List.getElem_mem _
          have hgl : gvA l = true := by simpa [gv] using hg
          have hsm := szA_mem hmem
          have hdm := depthA_mem hmem
          refine ih _ n k2 _ hv2 (gvA_mem hgl hmem) (by omega) (by omega) hn fun d k3 hb hv3 => ?_
          have c1 := cutG_len l none (some i)
          have c2 := cutG_len l (some (i + 1)) none
          refine ⟨by decide, by show _ ≤ 1000000; omega, _, dAdd_int, i + 1, rfl, by show _ ≤ 1000000; omega, h _ _ ?_ hv3⟩
          have z := szA_split l i.toNat
          have e4 := depthA_cut l none (some i)
          have e5 := depthA_cut l (some (i + 1)) none
          rw [cutG_to i0] at e4 ⊢
          rw [cutG_from (show 0 ≤ i + 1 by omega), show (i + 1).toNat = i.toNat + 1 by omega] at e5 ⊢
          unfold Bnt at hb ⊢
          rw [sz_tup, dp_tup, szA_app, depthA_app, szA, PyData.depthAll]
          have : (m + 1 + 2) * n = (m + 2) * n + n := by rw [show m + 1 + 2 = (m + 2) + 1 by omega, Nat.succ_mul]
          omega
        · exact .inl ⟨by simp [hq], key k1 hv1⟩
    | _ => simp; exact key k hk
def loI (l : List D) (m : Int) (k : Dk) (r : List D) (s : S) : Prop := ∃ (i : Nat) (o2 o3 : Option Val), r = (enmD l).drop i ∧ (∀ j, j < i → goodAt l m j = true) ∧ s = ⟨[some (.dat (.tuple l)), some (.dat (.int m)), o2, o3], k⟩
theorem sem_islot (v : D) (m : Int) (k : Dk) : sem_p_is_lot [.dat v, .dat (.int m)] k = some (.bool (isLotD v m), k) := by
  refine eq_fp (fp_of rfl ?_)
  unfold m_p_is_lot
  cases v with
  | tuple l =>
    simp
    refine wp_loop (loI l m k) (fun x r s hI => ?_) (fun s hI => ?_) _ _ ⟨0, none, none, rfl, fun j hj => by omega, rfl⟩
    · obtain ⟨i, o2, o3, hr, hg, rfl⟩ := hI
      obtain ⟨hi, rfl, rfl⟩ := enm_drop hr.symm
      have e : l.getD i .none = l[i] := by simp [List.getD_eq_getElem?_getD, hi]
      simp
      by_cases h1 : isI l[i] 0 (m - 1) = true
      · rw [h1]
        simp
        obtain ⟨a, ha, -⟩ := isI_int h1
        by_cases h0 : i = 0
        · subst h0
          refine .inl ⟨rfl, 1, _, _, rfl, fun j hj => ?_, rfl⟩
          obtain rfl : j = 0 := by omega
          unfold goodAt
          rw [e, h1]; rfl
        · refine .inr ⟨by omega, ?_⟩
          have hp := hg (i - 1) (by omega)
          simp only [goodAt, Bool.and_eq_true] at hp
          obtain ⟨b, hb, -⟩ := isI_int hp.1
          have hb' : l[i - 1]'(by omega) = .int b := by
            rw [List.getD_eq_getElem?_getD, List.getElem?_eq_getElem (show i - 1 < l.length by omega)] at hb
            simpa using hb
          have e1 : atI l ((i : Int) - 1) = some (.int b) := by
            have := atI_at (l := l) (i := i - 1) (by omega)
            rw [hb'] at this
            rwa [show (((i - 1 : Nat)) : Int) = (i : Int) - 1 by omega] at this
          have gd : goodAt l m i = decide (b < a) := by
            unfold goodAt
            rw [e, h1, hb, ha]
            have : (i == 0) = false := by simp [h0]
            rw [this]; rfl
          rw [e1, ha]
          simp
          by_cases hab : b < a
          · refine .inl ⟨hab, i + 1, _, _, rfl, fun j hj => ?_, rfl⟩
            by_cases hji : j = i
            · subst hji; rw [gd]; simpa using hab
            · exact hg j (by omega)
          · refine .inr ⟨by omega, ?_⟩
            exact lot_no hi (by rw [gd]; simpa using hab)
      · have h1 : isI l[i] 0 (m - 1) = false := by simpa using h1
        rw [h1]
        simp
        exact lot_no hi (by unfold goodAt; rw [e, h1]; rfl)
    · obtain ⟨i, o2, o3, hr, hg, rfl⟩ := hI
      have := enm_nil hr.symm
      simp
      exact lot_yes fun j hj => hg j (by omega)
  | _ => simp [isLotD]
@[simp ↓] theorem fp_islot {v : D} {m : Int} {k : Dk} {Q : D → Dk → Prop} : fp sem_p_is_lot [.dat v, .dat (.int m)] k Q ↔ Q (.bool (isLotD v m)) k := fp_eq (sem_islot v m k)
theorem sem_llot (v : D) (m : Int) (k : Dk) (hl : ∀ l, v = .tuple l → l.length ≤ 1000000) : sem_l_is_lot [.dat v, .dat (.int m)] k = some (.bool (isLotD v m), k) := by
  refine eq_fp (fp_of rfl ?_)
  unfold m_l_is_lot
  cases v with
  | tuple l =>
    have hl := hl l rfl
    simp
    refine wp_lc_fm (fun d => !isI d 0 (m - 1)) (fun _ => .int 1) (fun x hx => ?_) hl ?_
    · simp
    · rw [dNe_ones]
      simp only [Bool.not_not]
      by_cases h1 : (l.all fun d => isI d 0 (m - 1)) = true
      · rw [h1]
        simp [lim]
        have hI : ∀ i, i < l.length → ∃ a : Int, l.getD i .none = .int a := fun i hi => by
          have := List.all_eq_true.mp h1 (l[i]) (List.getElem_mem hi)
          obtain ⟨a, ha, -⟩ := isI_int this
          exact ⟨a, by rw [List.getD_eq_getElem?_getD, List.getElem?_eq_getElem hi]; exact ha⟩
        refine wp_lc_fm (fun d => match d with
          | .int i => !ltD (l.getD (i - 1).toNat .none) (l.getD i.toNat .none)
          | _ => false) (fun d => d) (fun x hx => ?_) (by rw [rng_len]; show _ ≤ 1000000; omega) ?_
        · obtain ⟨j, hj, rfl⟩ := rng_mem hx
          have hj2 : j + 1 < l.length := by omega
          obtain ⟨a, ha⟩ := hI j (by omega)
          obtain ⟨b, hb⟩ := hI (j + 1) hj2
          have e1 : atI l (1 + (j : Int) - 1) = some (.int a) := by
            have := atI_at (l := l) (i := j) (by omega)
            rw [show 1 + (j : Int) - 1 = j by omega, this]
            rw [List.getD_eq_getElem?_getD, List.getElem?_eq_getElem (show j < l.length by omega)] at ha
            simpa using ha
          have e2 : atI l (1 + (j : Int)) = some (.int b) := by
            have := atI_at (l := l) (i := j + 1) hj2
            rw [show 1 + (j : Int) = ((j + 1 : Nat) : Int) by omega, this]
            rw [List.getD_eq_getElem?_getD, List.getElem?_eq_getElem hj2] at hb
            simpa using hb
          have e3 : (1 + (j : Int) - 1).toNat = j := by omega
          have e4 : (1 + (j : Int)).toNat = j + 1 := by omega
          simp [e1, e2, e3, e4, -List.getD_eq_getElem?_getD, ha, hb, ltD]
          rw [Bool.eq_iff_iff]; simp
        · have hs : ∀ d ∈ List.map (fun d => d) (List.filter (fun d => match d with
            | .int i => !ltD (l.getD (i - 1).toNat .none) (l.getD i.toNat .none)
            | _ => false) (rngD 1 (l.length - 1))), ∃ i : Int, d = .int i := fun d hd => by
            rw [List.map_id'] at hd
            obtain ⟨j, hj, rfl⟩ := rng_mem (List.mem_filter.mp hd).1
            exact ⟨_, rfl⟩
          rw [dEq_nil (shaped_ofInts hs)]
          simp [-List.getD_eq_getElem?_getD]
          rw [lot_split, h1, Bool.true_and, Bool.eq_iff_iff, List.isEmpty_iff, List.filter_eq_nil_iff, List.all_eq_true]
          constructor
          · intro h q hq
            have hq := List.mem_range.mp hq
            have := h (.int (1 + (q : Nat))) (List.mem_map.mpr ⟨q, List.mem_range.mpr hq, rfl⟩)
            have e3 : (1 + (q : Int) - 1).toNat = q := by omega
            have e4 : (1 + (q : Int)).toNat = q + 1 := by omega
            simp only [e3, e4] at this
            simpa using this
          · intro h x hx
            obtain ⟨j, hj, rfl⟩ := rng_mem hx
            have e3 : (1 + (j : Int) - 1).toNat = j := by omega
            have e4 : (1 + (j : Int)).toNat = j + 1 := by omega
            simp only [e3, e4, Nat.add_sub_cancel]
            rw [h j (List.mem_range.mpr hj)]
            simp
      · have h1 : (l.all fun d => isI d 0 (m - 1)) = false := by simpa using h1
        rw [h1]
        simp
        rw [lot_split, h1]; rfl
  | _ => simp [isLotD]
def peI (v : D) (ls : List D) (m : Int) (k : Dk) (r : List D) (s : S) : Prop := ∃ (i : Nat) (o1 o2 : Option Val), r = (enmD ls).drop i ∧ (∀ j, j < i → isLotD (ls.getD j .none) m = true) ∧ s = ⟨[some (.dat v), o1, o2], k⟩
theorem find_first {n i : Nat} {p : Nat → Bool} (hi : i < n) (hp : p i = true) (hq : ∀ j, j < i → p j = false) : (List.range n).find? p = some i := by
  rw [List.find?_range_eq_some]
  exact ⟨hp, List.mem_range.mpr hi, fun j hj => by simp [hq j hj]⟩
theorem find_none {n : Nat} {p : Nat → Bool} (hq : ∀ j, j < n → p j = false) : (List.range n).find? p = none := by
  rw [List.find?_eq_none]
  exact fun j hj => by simp [hq j (List.mem_range.mp hj)]
theorem getD_at {ls : List D} {i : Nat} (h : i < ls.length) : ls.getD i .none = ls[i] := by simp [List.getD_eq_getElem?_getD, h]
theorem sem_paterr (v : D) (k : Dk) (hl : sz v ≤ 100000) : sem_p_pattern_error [.dat v] k = some (patErr v, k) := by
  refine eq_fp (fp_of rfl ?_)
  unfold m_p_pattern_error
  cases v with
  | tuple l =>
    match l, hl with
    | [], _ => simp [patErr, lim]
    | [a], _ => simp [patErr, lim]
    | a :: b :: c :: r, _ => simp [patErr, lim]; omega
    | [a, b], hl =>
      simp [lim]
      by_cases h1 : isI a 0 8 = true
      · obtain ⟨m, rfl, hm⟩ := isI_int h1
        rw [h1]
        simp
        cases b with
        | tuple ls =>
          simp
          by_cases h8 : ls.length ≤ 8
          · refine .inl ⟨by omega, ?_⟩
            refine wp_loop (peI (.tuple [.int m, .tuple ls]) ls m k) (fun x r s hI => ?_) (fun s hI => ?_) _ _ ⟨0, none, none, rfl, fun j hj => by omega, rfl⟩
            · obtain ⟨i, o1, o2, hr, hg, rfl⟩ := hI
              obtain ⟨hi, rfl, rfl⟩ := enm_drop hr.symm
              simp
              cases hb : isLotD ls[i] m with
              | true =>
                refine .inr ⟨rfl, i + 1, _, _, rfl, fun j hj => ?_, rfl⟩
                by_cases hji : j = i
                · subst hji; rw [getD_at hi, hb]
                · exact hg j (by omega)
              | false =>
                refine .inl ⟨rfl, by decide, ?_⟩
                have e := find_first (n := ls.length) (i := i) (p := fun i => !isLotD (ls.getD i .none) m) hi (by rw [getD_at hi, hb]; rfl) (fun j hj => by rw [hg j hj]; rfl)
                unfold patErr
                simp only [h1, if_true, h8, e]
            · obtain ⟨i, o1, o2, hr, hg, rfl⟩ := hI
              have := enm_nil hr.symm
              have e := find_none (n := ls.length) (p := fun i => !isLotD (ls.getD i .none) m) fun j hj => by rw [hg j (by omega)]; rfl
              unfold patErr
              simp only [h1, if_true, h8, e]
              simp
          · refine .inr ⟨by omega, ?_⟩
            unfold patErr
            simp [h1, h8, lim]
        | _ => simp [patErr, h1, lim]
      · have h1 : isI a 0 8 = false := by simpa using h1
        simp [patErr, h1, lim]
  | _ => simp [patErr, lim]
theorem sem_lpaterr (v : D) (k : Dk) (hz : sz v ≤ 100000) : sem_l_pattern_error [.dat v] k = some (patErr v, k) := by
  refine eq_fp (fp_of rfl ?_)
  unfold m_l_pattern_error
  cases v with
  | tuple l =>
    match l, hz with
    | [], _ => simp [patErr, lim]
    | [a], _ => simp [patErr, lim]
    | a :: b :: c :: r, _ => simp [patErr, lim]; omega
    | [a, b], hz =>
      simp [lim]
      by_cases h1 : isI a 0 8 = true
      · obtain ⟨m, rfl, hm⟩ := isI_int h1
        rw [h1]
        simp
        cases b with
        | tuple ls =>
          simp
          by_cases h8 : ls.length ≤ 8
          · refine .inl ⟨by omega, by omega, ?_⟩
            have hlen : ∀ i, (hi : i < ls.length) → ∀ l, ls[i] = .tuple l → l.length ≤ 1000000 := fun i hi l e => by
              have s1 : sz ls[i] + 2 ≤ szA ls := szA_mem (List.getElem_mem hi)
              have s2 : sz (.tuple l) = szA l + 4 := sz_tup
              have s3 := szA_len l
              rw [sz_tup, szA, szA, szA, sz_tup] at hz
              rw [e] at s1
              omega
            refine wp_lc_fm (fun d => match d with
              | .int i => !isLotD (ls.getD i.toNat .none) m
              | _ => false) (fun d => d) (fun x hx => ?_) (by rw [rng_len]; show _ ≤ 1000000; omega) ?_
            · obtain ⟨j, hj, rfl⟩ := rng_mem hx
              have hj : j < ls.length := by simpa using hj
              have e1 : atI ls (0 + (j : Int)) = some ls[j] := by rw [Int.zero_add]; exact atI_at hj
              have e4 : (0 + (j : Int)).toNat = j := by omega
              have e5 : fp sem_l_is_lot [.dat ls[j], .dat (.int m)] k = fun Q => Q (.bool (isLotD ls[j] m)) k := funext fun Q => propext (fp_eq (sem_llot _ _ _ (hlen j hj)))
              simp only [Int.zero_add] at e1 e4
              simp [e1, e4, e5, -List.getD_eq_getElem?_getD, getD_at hj]
            · have hs : ∀ d ∈ List.map (fun d => d) (List.filter (fun d => match d with
                | .int i => !isLotD (ls.getD i.toNat .none) m
                | _ => false) (rngD 0 ls.length)), ∃ i : Int, d = .int i := fun d hd => by
                rw [List.map_id'] at hd
                obtain ⟨j, hj, rfl⟩ := rng_mem (List.mem_filter.mp hd).1
                exact ⟨_, rfl⟩
              have ef : List.filter (fun d => match d with
                | .int i => !isLotD (ls.getD i.toNat .none) m
                | _ => false) (rngD 0 ls.length) = intsD ((List.range ls.length).filter fun i => !isLotD (ls.getD i .none) m) := by
                unfold rngD intsD
                rw [List.filter_map]
                simp only [Int.zero_add]
                congr 1
              have en : dNe (.list (intsD ((List.range ls.length).filter fun i => !isLotD (ls.getD i .none) m))) (.list []) = some (.bool (!((List.range ls.length).filter fun i => !isLotD (ls.getD i .none) m).isEmpty)) := by
                rw [dNe_sh (shaped_ofInts fun d hd => by obtain ⟨i, _, rfl⟩ := intsD_mem hd; exact ⟨_, rfl⟩) rfl (fun _ z => nomatch z), eqv_nil]
                simp [intsD]
              have ep : patErr (.tuple [.int m, .tuple ls]) = match ((List.range ls.length).filter fun i => !isLotD (ls.getD i .none) m).head? with
                | some i => .tuple [.int (i : Nat), .str "lot"]
                | none => .none := by
                unfold patErr
                simp only [h1, if_true, h8]
                rw [← List.head?_filter]
                try rfl
              rw [List.map_id', ef]
              clear ef hs
              generalize ((List.range ls.length).filter fun i => !isLotD (ls.getD i .none) m) = F at *
              cases F with
              | nil => simp [en, ep]
              | cons i r =>
                simp only [intsD, List.map_cons, List.isEmpty_cons, Bool.not_false] at en
                simp [en, ep, intsD, lim]
          · refine .inr ⟨by omega, ?_⟩
            unfold patErr
            simp [h1, h8, lim]
        | _ => simp [patErr, h1, lim]
      · have h1 : isI a 0 8 = false := by simpa using h1
        simp [patErr, h1, lim]
  | _ => simp [patErr, lim]
end Lw


namespace Lw
open PySem PySem.Spec PyProof.Rows L2 DL
theorem fp_one4 {k : Dk} {Q : D → Dk → Prop} (hk : DkV k) (h : ∀ (w : Int) k', 0 < w → w ≤ 5 → DkV k' → Q (.int w) k') : fp sem_l_one [.deck, .dat (.list [.int 2, .int 2, .int 3, .int 5])] k Q := by
  refine fp_one hk (by simp) (by simp) fun d k1 hd hv => ?_
  simp at hd
  rcases hd with rfl | rfl | rfl <;> exact h _ _ (by decide) (by decide) hv
def ptI (n : Nat) (w : Int) (r : List D) (s : S) : Prop := ∃ (ls : List (List Nat)) (o5 : Option Val) (k : Dk), ls.length + r.length ≤ 8 ∧ (∀ l ∈ ls, LotOk n l) ∧ DkV k ∧ s = ⟨[some .deck, some (.dat (.int 8)), some (.dat (.int (n : Nat))), some (.dat (.int w)), some (.lst (lotsD ls)), o5, none], k⟩
theorem fp_pattern {k : Dk} {Q : D → Dk → Prop} (hk : DkV k) (h : ∀ n ls k', PatOk n ls → DkV k' → Q (patD n ls) k') : fp sem_l_pattern [.deck, .dat (.int 8)] k Q := by
  refine fp_of rfl ?_
  unfold m_l_pattern
  simp [lim]
  refine fp_draw hk (by decide) (by decide) fun n k1 n0 n1 hv1 => ?_
  obtain ⟨n, rfl⟩ := Int.eq_ofNat_of_zero_le n0
  refine fp_one4 hv1 fun w k2 w0 w5 hv2 => ?_
  refine fp_draw hv2 (by decide) (by decide) fun m k3 m0 m1 hv3 => ?_
  obtain ⟨m, rfl⟩ := Int.eq_ofNat_of_zero_le m0
  simp
  refine ⟨by omega, ?_⟩
  refine wp_loop (ptI n w) (fun x r s hI => ?_) (fun s hI => ?_) _ _ ⟨[], none, k3, by rw [rng_len]; simp; omega, (by simp), hv3, rfl⟩
  · obtain ⟨ls, o5, k, hl, ho, hv, rfl⟩ := hI
    rw [List.length_cons] at hl
    simp
    refine ⟨by omega, ?_⟩
    refine lc_pick (st := fun k => ⟨[some .deck, some (.dat (.int 8)), some (.dat (.int (n : Nat))), some (.dat (.int w)), some (.lst (lotsD ls)), some (.dat x), none], k⟩) hv (by omega) (fun i k hv hi => ?_) fun q k' hv' => ?_
    · simp
      refine fp_draw hv w0 (by omega) fun z k' z0 z1 hv' => ?_
      by_cases hz : z = 0
      · simp [hz]; exact hv'
      · simp [hz]; exact hv'
    · simp [lotsD_len]
      refine ⟨by show _ ≤ 1000000; omega, ls ++ [(List.range n).filter q], some (.dat x), k', by simp; omega, fun l hl => ?_, hv', ?_⟩
      · rcases List.mem_append.mp hl with hl | hl
        · exact ho l hl
        · rw [List.mem_singleton.mp hl]; exact lotOk_of q rfl
      · rw [← lotsD_snoc]; rfl
  · obtain ⟨ls, o5, k, hl, ho, hv, rfl⟩ := hI
    simp [lim]
    exact h n ls k ⟨by omega, by simpa using hl, ho⟩ hv
def tuI (n : Nat) (ls : List (List Nat)) (k : Dk) (r : List D) (s : S) : Prop := ∃ (i : Nat) (o4 : Option Val), r = (rngD 0 n).drop i ∧ i ≤ n ∧ s = ⟨[some (.dat (patD n ls)), some (.dat (.int (n : Nat))), some (.dat (.tuple (lotsD ls))), some (.lst (lotsD ((turnL n ls).take i))), o4, none, none], k⟩
theorem turnL_at {n i : Nat} {ls : List (List Nat)} (h : i < n) : (turnL n ls).take (i + 1) = (turnL n ls).take i ++ [(List.range ls.length).filter fun e => decide (i ∈ ls.getD e [])] := by
  have hl : i < (turnL n ls).length := by simpa [turnL] using h
  rw [List.take_add_one, List.getElem?_eq_getElem hl]
  simp [turnL]
theorem sem_turned {n : Nat} {ls : List (List Nat)} {k : Dk} (hn : n ≤ 8) (hl : ls.length ≤ 8) : sem_p_turned_pattern [.dat (patD n ls)] k = some (patD ls.length (turnL n ls), k) := by
  refine eq_fp (fp_of rfl ?_)
  unfold m_p_turned_pattern patD
  simp [lim]
  refine ⟨by omega, ?_⟩
  refine wp_loop (tuI n ls k) (fun x r s hI => ?_) (fun s hI => ?_) _ _ ⟨0, none, rfl, Nat.zero_le _, rfl⟩
  · obtain ⟨i, o4, hr, hi, rfl⟩ := hI
    obtain ⟨hi, rfl, rfl⟩ := rng_drop hr.symm
    simp
    refine wp_lc_fm (fun d => match d with
      | .tuple [_, l] => (match l with
        | .tuple u => inD (.int (i : Nat)) u
        | _ => false)
      | _ => false) (fun d => match d with
      | .tuple [e, _] => e
      | d => d) (fun x hx => ?_) (by rw [enmD_len, lotsD_len]; show _ ≤ 1000000; omega) ?_
    · obtain ⟨e, he, rfl⟩ := enm_mem hx
      rw [lotsD_len] at he
      have e1 : (lotsD ls)[e]'(by rw [lotsD_len]; exact he) = lotD (ls[e]) := by simp [lotsD]
      rw [e1]
      simp
      rw [show lotD ls[e] = .tuple (intsD ls[e]) from rfl]
      simp only [inD_lot]
    · have ef : (List.filter (fun d => match d with
        | .tuple [_, l] => (match l with
          | .tuple u => inD (.int (i : Nat)) u
          | _ => false)
        | _ => false) (enmD (lotsD ls))).map (fun d => match d with
        | .tuple [e, _] => e
        | d => d) = intsD ((List.range ls.length).filter fun e => decide (i ∈ ls.getD e [])) := by
        rw [enm_eq, List.filter_map, List.map_map, lotsD_len]
        unfold intsD
        have fc : List.filter ((fun d : D => match d with
          | .tuple [_, l] => (match l with
            | .tuple u => inD (.int (i : Nat)) u
            | _ => false)
          | _ => false) ∘ fun i => PyData.tuple [.int (i : Nat), (lotsD ls).getD i .none]) (List.range ls.length) = (List.range ls.length).filter fun e => decide (i ∈ ls.getD e []) := by
          refine List.filter_congr fun e he => ?_
          have he := List.mem_range.mp he
          have e1 : (lotsD ls).getD e .none = .tuple (intsD (ls.getD e [])) := by simp [lotsD, lotD, List.getD_eq_getElem?_getD, he]
          simp only [Function.comp_apply, e1, inD_lot]
        rw [fc]
        rfl
      rw [ef]
      simp [lotsD_len]
      refine ⟨by show _ ≤ 1000000; omega, i + 1, some (.dat (.int (i : Nat))), rfl, by omega, ?_⟩
      rw [turnL_at hi, ← lotsD_snoc]; rfl
  · obtain ⟨i, o4, hr, hi, rfl⟩ := hI
    have := rng_nil hr.symm
    obtain rfl : i = n := by omega
    have e1 : (turnL i ls).take i = turnL i ls := List.take_of_length_le (by simp [turnL])
    simp [lotsD_len, lim, e1]
def feI (n m : Nat) (ls ms : List (List Nat)) (k : Dk) (r : List D) (s : S) : Prop := ∃ (i : Nat) (o3 o4 : Option Val), r = (lotsD ms).drop i ∧ i ≤ ms.length ∧ s = ⟨[some (.dat (patD n ls)), some (.dat (patD m ms)), some (.lst (lotsD ((fedL n ls ms).take i))), o3, o4, none, none], k⟩
theorem fedL_at {n i : Nat} {ls ms : List (List Nat)} (h : i < ms.length) : (fedL n ls ms).take (i + 1) = (fedL n ls ms).take i ++ [(List.range n).filter fun u => (ms[i]).any fun o => decide (u ∈ ls.getD o [])] := by
  have hl : i < (fedL n ls ms).length := by simpa [fedL] using h
  rw [List.take_add_one, List.getElem?_eq_getElem hl]
  simp [fedL]
theorem lots_drop {ms : List (List Nat)} {i : Nat} {x : D} {r : List D} (h : x :: r = (lotsD ms).drop i) : ∃ hi : i < ms.length, x = lotD ms[i] ∧ r = (lotsD ms).drop (i + 1) := by
  obtain ⟨hi, rfl, rfl⟩ := drop_cons h.symm
  rw [lotsD_len] at hi
  exact ⟨hi, by simp [lotsD], rfl⟩
theorem lots_nil {ms : List (List Nat)} {i : Nat} (h : [] = (lotsD ms).drop i) : ms.length ≤ i := by
  have := drop_nil h.symm
  rwa [lotsD_len] at this
/-- the second pattern names lots of the first one -/
structure Fit (n m : Nat) (ls ms : List (List Nat)) : Prop where
  a : PatOk n ls
  b : PatOk m ms
def fedR (n m : Nat) (ls ms : List (List Nat)) : RX D := if ls.length = m then .ok (patD n (fedL n ls ms)) else .xc "Unfit"
theorem fx_fed {n m : Nat} {ls ms : List (List Nat)} {k : Dk} (h : Fit n m ls ms) : fx sem_p_fed_pattern [.dat (patD n ls), .dat (patD m ms)] k fun r k' => r = fedR n m ls ms ∧ k' = k := by
  have l8 := h.a.l8
  have m8 := h.b.l8
  have n8 := h.a.n8
  refine fx_of rfl ?_
  unfold m_p_fed_pattern
  simp [patD, lotsD_len]
  by_cases hm : ls.length = m
  · refine .inl ⟨by omega, ?_⟩
    refine wp_loop (feI n m ls ms k) (fun x r s hI => ?_) (fun s hI => ?_) _ _ ⟨0, none, none, rfl, Nat.zero_le _, rfl⟩
    · obtain ⟨i, o3, o4, hr, hi, rfl⟩ := hI
      obtain ⟨hi, rfl, rfl⟩ := lots_drop hr
      have lt : ∀ o ∈ ms[i], o < ls.length := fun o ho => by rw [hm]; exact (h.b.ok _ (List.getElem_mem hi)).lt ho
      have ll := (h.b.ok _ (List.getElem_mem hi)).len
      have m8' := h.b.n8
      simp [lotD]
      refine wp_lc_map (fun d => match d with
        | .int o => lotD (ls.getD o.toNat [])
        | d => d) (fun x hx => ?_) (by rw [intsD_len]; show _ ≤ 1000000; omega) ?_
      · obtain ⟨o, ho, rfl⟩ := intsD_mem hx
        simp [patD, lotsD_get (lt o ho)]
      · rw [intsD_map (g := fun o => lotD (ls.getD o [])) (fun o ho => by simp)]
        simp [patD]
        refine ⟨by omega, ?_⟩
        refine wp_lc_fm (fun d => match d with
          | .int u => (ms[i]).any fun o => decide (u.toNat ∈ ls.getD o [])
          | _ => false) (fun d => d) (fun x hx => ?_) (by rw [rng_len]; show _ ≤ 1000000; omega) ?_
        · obtain ⟨u, hu, rfl⟩ := rng_mem hx
          simp
          refine wp_lc_fm (fun d => match d with
            | .tuple l => inD (.int (u : Nat)) l
            | _ => false) (fun _ => .int 1) (fun x hx => ?_) (by simp; show _ ≤ 1000000; omega) ?_
          · obtain ⟨o, ho, rfl⟩ := List.mem_map.mp hx
            have e1 : dIn (.int (u : Nat)) (.tuple (intsD (ls.getD o []))) = some (.bool (decide (u ∈ ls.getD o []))) := dIn_lot
            simp [lotD, inD_lot]
            exact dIn_lot
          · rw [dNe_ones]
            simp [lotD, inD_lot, Function.comp_def]
            exact (Classical.em (∃ x, x ∈ ms[i] ∧ u ∈ ls[x]?.getD [])).symm.imp (fun h x hx hu => h ⟨x, hx, hu⟩) id
        · rw [filter_ints (q := fun u => (ms[i]).any fun o => decide (u ∈ ls.getD o [])) (fun u hu => by simp)]
          simp [lotsD_len]
          refine ⟨by simp [fedL]; show _ ≤ 1000000; omega, i + 1, some (.dat (lotD ms[i])), some (.dat (.list ((ms[i]).map fun o => lotD (ls.getD o [])))), rfl, by omega, ?_⟩
          rw [fedL_at hi, ← lotsD_snoc]; rfl
    · obtain ⟨i, o3, o4, hr, hi, rfl⟩ := hI
      have := lots_nil hr
      obtain rfl : i = ms.length := by omega
      have e1 : (fedL n ls ms).take ms.length = fedL n ls ms := List.take_of_length_le (by simp [fedL])
      simp [patD, e1, lim, fedR, hm]
  · refine .inr ⟨by omega, ?_⟩
    simp [fedR, hm]
end Lw


namespace Lw
open PySem PySem.Spec PyProof.Rows L2 DL
def lfedD (n m : Nat) (ls ms : List (List Nat)) : D := if ls.length = m then .list [.str "ok", patD n (fedL n ls ms)] else .list [.str "unfit"]
theorem sem_lfed {n m : Nat} {ls ms : List (List Nat)} {k : Dk} (h : Fit n m ls ms) : sem_l_fed [.dat (patD n ls), .dat (patD m ms)] k = some (lfedD n m ls ms, k) := by
  refine eq_fp (fp_of rfl ?_)
  unfold m_l_fed
  obtain ⟨r, k1, e, er, ek⟩ := fx_fed (k := k) h
  subst er ek
  by_cases hm : ls.length = m
  · simp [fx_eq e, fedR, hm, lfedD, lim]
  · simp [fx_eq e, fedR, hm, lfedD, lim]
/-- the numbers of a lot, with those of the lots ahead -/
def catL (ls : List (List Nat)) (l : List Nat) : List Int := (l.map fun o => (ls.getD o []).map fun u => ((u : Nat) : Int)).flatten
theorem catL_snoc {ls : List (List Nat)} {l : List Nat} {o : Nat} : catL ls (l ++ [o]) = catL ls l ++ (ls.getD o []).map fun u => ((u : Nat) : Int) := by simp [catL]
theorem catL_len {ls : List (List Nat)} (h : ∀ l ∈ ls, l.length ≤ 8) : ∀ l : List Nat, (catL ls l).length ≤ 8 * l.length
  | [] => by simp [catL]
  | o :: r => by
    have ih := catL_len h r
    have e : catL ls (o :: r) = ((ls.getD o []).map fun u => ((u : Nat) : Int)) ++ catL ls r := by simp [catL]
    have : (ls.getD o []).length ≤ 8 := by
      rw [List.getD_eq_getElem?_getD]
      cases hx : ls[o]? with
      | none => simp
      | some x => exact h x (List.mem_of_getElem? hx)
    rw [e, List.length_append, List.length_map, List.length_cons]
    omega
def fdI (n m : Nat) (ls ms : List (List Nat)) (k : Dk) (r : List D) (s : S) : Prop := ∃ (i : Nat) (o3 o4 o5 : Option Val), r = (lotsD ms).drop i ∧ i ≤ ms.length ∧ s = ⟨[some (.dat (patD n ls)), some (.dat (patD m ms)), some (.lst (lotsD ((fedL n ls ms).take i))), o3, o4, o5], k⟩
def fiI (n m : Nat) (ls ms : List (List Nat)) (l : List Nat) (F : List (List Nat)) (k : Dk) (r : List D) (s : S) : Prop := ∃ (i : Nat) (o5 : Option Val), r = (intsD l).drop i ∧ i ≤ l.length ∧ s = ⟨[some (.dat (patD n ls)), some (.dat (patD m ms)), some (.lst (lotsD F)), some (.dat (lotD l)), some (.dat (.list ((catL ls (l.take i)).map PyData.int))), o5], k⟩
theorem sem_lfeddue {n m : Nat} {ls ms : List (List Nat)} {k : Dk} (h : Fit n m ls ms) : sem_l_fed_due [.dat (patD n ls), .dat (patD m ms)] k = some (lfedD n m ls ms, k) := by
  have l8 := h.a.l8
  have m8 := h.b.l8
  have n8 := h.a.n8
  refine eq_fp (fp_of rfl ?_)
  unfold m_l_fed_due
  simp [patD, lotsD_len]
  by_cases hm : ls.length = m
  · refine .inl ⟨by omega, ?_⟩
    refine wp_loop (fdI n m ls ms k) (fun x r s hI => ?_) (fun s hI => ?_) _ _ ⟨0, none, none, none, rfl, Nat.zero_le _, rfl⟩
    · obtain ⟨i, o3, o4, o5, hr, hi, rfl⟩ := hI
      obtain ⟨hi, rfl, rfl⟩ := lots_drop hr
      have lt : ∀ o ∈ ms[i], o < ls.length := fun o ho => by rw [hm]; exact (h.b.ok _ (List.getElem_mem hi)).lt ho
      have ll := (h.b.ok _ (List.getElem_mem hi)).len
      have m8' := h.b.n8
      have h8 : ∀ l ∈ ls, l.length ≤ 8 := fun l hl => Nat.le_trans (h.a.ok l hl).len n8
      have cl := catL_len h8 ms[i]
      simp [lotD, lim]
      refine wp_loop (fiI n m ls ms ms[i] ((fedL n ls ms).take i) k) (fun x r s hI => ?_) (fun s hI => ?_) _ _ ⟨0, o5, rfl, Nat.zero_le _, rfl⟩
      · obtain ⟨j, o5, hr, hj, rfl⟩ := hI
        obtain ⟨hj, rfl, rfl⟩ := drop_cons hr.symm
        rw [intsD_len] at hj
        have e1 : (intsD ms[i])[j]'(by rw [intsD_len]; exact hj) = .int ((ms[i])[j] : Nat) := by simp [intsD]
        rw [e1]
        have lo := lt _ (List.getElem_mem hj)
        simp [patD, lotsD_get lo, lotD]
        have c1 := catL_len h8 ((ms[i]).take j)
        have c2 : (ls.getD (ms[i])[j] []).length ≤ 8 := by
          rw [List.getD_eq_getElem?_getD, List.getElem?_eq_getElem lo]
          exact h8 _ (List.getElem_mem lo)
        rw [List.length_take] at c1
        refine ⟨by rw [intsD_len]; rw [List.getD_eq_getElem?_getD] at c2; show _ ≤ 1000000; omega, j + 1, some (.dat (.int ((ms[i])[j] : Nat))), rfl, by omega, ?_⟩
        have e2 : (ms[i]).take (j + 1) = (ms[i]).take j ++ [(ms[i])[j]] := by rw [List.take_add_one, List.getElem?_eq_getElem hj]; rfl
        rw [e2, catL_snoc]
        simp [intsD, lotD, patD]
      · obtain ⟨j, o5, hr, hj, rfl⟩ := hI
        have hj2 := drop_nil hr.symm
        rw [intsD_len] at hj2
        have e2 : (ms[i]).take j = ms[i] := List.take_of_length_le hj2
        rw [e2]
        have e3 : dSrtSet (.list ((catL ls ms[i]).map PyData.int)) = some (.list (intsD ((List.range n).filter fun u => (ms[i]).any fun o => decide (u ∈ ls.getD o [])))) := by
          have z : (List.map PyData.int (catL ls ms[i])).length ≤ 4000 := by rw [List.length_map]; omega
          simp only [dSrtSet, z, if_true, nsD_map, Option.map_some]
          have fs := fed_same h.a lt
          unfold catL
          rw [fs]
          simp [intsD]
        simp [e3, lotsD_len]
        refine ⟨by simp [fedL]; show _ ≤ 1000000; omega, i + 1, some (.dat (lotD ms[i])), some (.dat (.list ((catL ls ms[i]).map PyData.int))), o5, rfl, by omega, ?_⟩
        rw [fedL_at hi, ← lotsD_snoc]; rfl
    · obtain ⟨i, o3, o4, o5, hr, hi, rfl⟩ := hI
      have := lots_nil hr
      obtain rfl : i = ms.length := by omega
      have e1 : (fedL n ls ms).take ms.length = fedL n ls ms := List.take_of_length_le (by simp [fedL])
      simp [patD, e1, lim, lfedD, hm]
  · refine .inr ⟨by omega, ?_⟩
    simp [lfedD, hm, lim]
end Lw


namespace Lw
open PySem PySem.Spec PyProof.Rows L2 DL
def lw (c2 c3 c4 c5 c6 c7 c8 c9 c10 c11 c12 c13 : Option Val) (k : Dk) : S := ⟨[none, some .deck, c2, c3, c4, c5, c6, c7, c8, c9, c10, c11, c12, c13, none, none, none], k⟩
def hP (n : Nat) (ls : List (List Nat)) : Option Val := some (.dat (patD n ls))
/-- a value to be looked at -/
def vOk (d : D) : Prop := sz d ≤ 10000 ∧ d.depth ≤ 20
theorem vOk.r {d : D} (h : vOk d) : okR d = true := okR_of (by have := h.1; omega) (by have := h.2; omega)
theorem patOk_v {n : Nat} {ls : List (List Nat)} (h : PatOk n ls) : vOk (patD n ls) := by
  obtain ⟨a, b, _⟩ := pat_sz (n := n) (ls := ls) (by have := h.n8; omega) h.l8 h.small
  exact ⟨by omega, by omega⟩
/-! the marks -/
def mksL (ls : List (List Nat)) (i : Nat) : List (Nat × Nat) := ((List.range i).map fun e => (ls.getD e []).map fun u => (e, u)).flatten
def mkD (p : Nat × Nat) : D := .tuple [.int (p.1 : Nat), .int (p.2 : Nat)]
theorem mks_snoc {ls : List (List Nat)} {i : Nat} : mksL ls (i + 1) = mksL ls i ++ (ls.getD i []).map fun u => (i, u) := by simp [mksL, List.range_succ]
theorem mks_len {ls : List (List Nat)} (h : ∀ l ∈ ls, l.length ≤ 8) : ∀ i, (mksL ls i).length ≤ 8 * i
  | 0 => by simp [mksL]
  | i + 1 => by
    have ih := mks_len h i
    have : (ls.getD i []).length ≤ 8 := by
      rw [List.getD_eq_getElem?_getD]
      cases hx : ls[i]? with
      | none => simp
      | some x => exact h x (List.mem_of_getElem? hx)
    rw [mks_snoc, List.length_append, List.length_map]
    omega
theorem one_of {u e : Nat} {l : List Nat} (h : l.Pairwise (· < ·)) : ((l.map fun v => (e, v)).filter fun p => decide (p.2 = u)).map (fun p : Nat × Nat => p.1) = if u ∈ l then [e] else [] := by
  induction l with
  | nil => simp
  | cons x r ih =>
    rw [List.pairwise_cons] at h
    rw [List.map_cons, List.filter_cons]
    by_cases hx : x = u
    · subst hx
      have : x ∉ r := fun z => by have := h.1 x z; omega
      have ih := ih h.2
      rw [if_neg this] at ih
      simp only [decide_true, if_true, List.map_cons, ih]
      simp
    · have ih := ih h.2
      simp only [hx, decide_false, Bool.false_eq_true, if_false, ih]
      have : (u ∈ x :: r) ↔ u ∈ r := by simp [List.mem_cons, show ¬ u = x from fun z => hx z.symm]
      simp only [this]
theorem mks_pick {n u : Nat} {ls : List (List Nat)} (h : PatOk n ls) : ∀ i, i ≤ ls.length → ((mksL ls i).filter fun p => decide (p.2 = u)).map (fun p : Nat × Nat => p.1) = (List.range i).filter fun e => decide (u ∈ ls.getD e [])
  | 0, _ => by simp [mksL]
  | i + 1, hi => by
    have ha : (ls.getD i []).Pairwise (· < ·) := by
      rw [List.getD_eq_getElem?_getD, List.getElem?_eq_getElem (show i < ls.length by omega)]
      exact (h.ok _ (List.getElem_mem _)).asc
    rw [mks_snoc, List.filter_append, List.map_append, mks_pick h i (by omega), List.range_succ, List.filter_append]
    congr 1
    have o := one_of (u := u) (e := i) ha
    rw [o]
    by_cases hu : u ∈ ls.getD i [] <;> simp only [List.filter_cons, List.filter_nil, hu, decide_true, decide_false, if_true, if_false, Bool.false_eq_true]
section
variable {c2 c3 c4 c5 c6 c7 c8 c9 c10 c11 c12 c13 : Option Val} {k : Dk} {Z : Fl → S → Prop} {n m : Nat} {ls ms : List (List Nat)}
theorem w1 (hk : DkV k) (h : ∀ n ls m ms k', PatOk n ls → PatOk m ms → DkV k' → Z .nx (lw c2 (hP n ls) (hP m ms) c5 c6 c7 c8 c9 c10 c11 c12 c13 k')) : wp law_1 (lw c2 c3 c4 c5 c6 c7 c8 c9 c10 c11 c12 c13 k) Z := by
  unfold law_1 lw
  simp [lim]
  exact fp_pattern hk fun n ls k1 h1 hv1 => fp_pattern hv1 fun m ms k2 h2 hv2 => h n ls m ms k2 h1 h2 hv2
def w2I (ls : List (List Nat)) (c2 c3 c4 c5 c6 c7 c8 c9 c10 c11 c12 c13 : Option Val) (r acc : List D) (s : S) : Prop := ∃ (a : List (List Nat)) (k : Dk), a.length + r.length ≤ 4 ∧ acc = lotsD a ∧ (∀ l ∈ a, LotOk ls.length l) ∧ DkV k ∧ s = lw c2 c3 c4 c5 c6 c7 c8 c9 c10 c11 c12 c13 k
theorem w4 (hk : DkV k) (h1 : PatOk n ls) (h2 : PatOk m ms) (h : ∀ m ms c5 k', PatOk m ms → DkV k' → Z .nx (lw c2 (hP n ls) (hP m ms) c5 c6 c7 c8 c9 c10 c11 c12 c13 k')) : wp law_4 (lw c2 (hP n ls) (hP m ms) c5 c6 c7 c8 c9 c10 c11 c12 c13 k) Z := by
  unfold law_4 law_2 law_3 lw
  simp [lim]
  refine fp_draw hk (by decide) (by decide) fun z k1 z0 z1 hv1 => ?_
  have l8 := h1.l8
  by_cases hz : z = 0
  · simp [hz]
    refine wp_lc (w2I ls c2 (hP n ls) (hP m ms) c5 c6 c7 c8 c9 c10 c11 c12 c13) (fun x r acc s hI => ?_) (fun acc s hI => ?_) _ _ _ ⟨[], k1, by rw [rng_len]; decide, rfl, by simp, hv1, rfl⟩
    · obtain ⟨a, k2, hl, rfl, ho, hv2, rfl⟩ := hI
      rw [List.length_cons] at hl
      unfold lw hP patD
      simp [lotsD_len]
      refine ⟨by omega, ?_⟩
      refine lc_pick (st := fun k => ⟨[none, some .deck, c2, hP n ls, hP m ms, c5, c6, c7, c8, c9, c10, c11, c12, c13, some (.dat x), none, none], k⟩) hv2 (by omega) (fun i k hv hi => ?_) fun q k' hv' => ?_
      · simp
        refine fp_draw hv (by decide) (by decide) fun z k' z0 z1 hv' => ?_
        by_cases hz : z = 0
        · simp [hz]; exact hv'
        · simp [hz]; exact hv'
      · simp [lotsD_len, lim]
        refine ⟨by omega, a ++ [(List.range ls.length).filter q], k', by simp; omega, ?_, fun l hl => ?_, hv', rfl⟩
        · rw [← lotsD_snoc]; rfl
        · rcases List.mem_append.mp hl with hl | hl
          · exact ho l hl
          · rw [List.mem_singleton.mp hl]; exact lotOk_of q rfl
    · obtain ⟨a, k2, hl, rfl, ho, hv2, rfl⟩ := hI
      unfold lw hP patD
      simp [lotsD_len, lim]
      exact h ls.length a _ k2 ⟨l8, by simp at hl; omega, ho⟩ hv2
  · simp [hz]
    exact h m ms c5 k1 h2 hv1
def hN (n : Nat) : Option Val := some (.dat (.int (n : Nat)))
def hL (ls : List (List Nat)) : Option Val := some (.dat (.tuple (lotsD ls)))
theorem w5 (h : Z .nx (lw c2 (hP n ls) c4 (hL ls) (hN n) c7 c8 c9 c10 c11 c12 c13 k)) : wp law_5 (lw c2 (hP n ls) c4 c5 c6 c7 c8 c9 c10 c11 c12 c13 k) Z := by
  unfold law_5 lw hP patD
  simp
  exact h
theorem szA_rep {l : List D} (n : Nat) : szA (List.replicate n l).flatten = n * szA l := by
  induction n with
  | zero => simp [szA]
  | succ n ih => rw [List.replicate_succ, List.flatten_cons, szA_app, ih, Nat.succ_mul]; omega
theorem dpA_rep {l : List D} (n : Nat) : PyData.depthAll (List.replicate n l).flatten ≤ PyData.depthAll l := by
  induction n with
  | zero => simp [PyData.depthAll]
  | succ n ih => rw [List.replicate_succ, List.flatten_cons, depthA_app]; omega
theorem w678 (h1 : PatOk n ls) (h : ∀ L : List D, L.length ≤ 20 → (∀ d ∈ L, vOk d) → Z .nx (lw c2 (hP n ls) c4 (hL ls) (hN n) (some (.dat (.list L))) c8 c9 c10 c11 c12 c13 k)) : wp (sSeq law_6 (sSeq law_7 law_8)) (lw c2 (hP n ls) c4 (hL ls) (hN n) c7 c8 c9 c10 c11 c12 c13 k) Z := by
  unfold law_6 law_7 law_8 lw hP hL hN
  have l8 := h1.l8
  have n8 := h1.n8
  obtain ⟨a1, a2, -⟩ := lots_sz h1.small
  have q1 := szA_cut (lotsD ls) none (some 8)
  have q2 := depthA_cut (lotsD ls) none (some 8)
  have q3 := cutG_len (lotsD ls) none (some 8)
  have q4 := szA_rep (l := lotsD ls) 3
  have q5 := dpA_rep (l := lotsD ls) 3
  have zn := sz_nat (i := n) (by omega)
  have e151 : (2 : Nat) ^ 151 = 2854495385411919762116571938898990272765493248 := by decide
  have zm : sz (.int ((n : Int) - 1)) ≤ 160 := sz_smallInt (by rw [e151]; omega)
  simp [lim, patD, lotsD_len]
  refine ⟨by omega, by rw [lotsD_len] at q3; omega, h _ (by simp) fun d hd => ?_⟩
  simp only [List.mem_append, List.mem_cons, List.mem_nil_iff, or_false] at hd
  have st : ∀ x : D, x ∈ [PyData.tuple [.bool true, .tuple []], .tuple [.int 0, .tuple []], .tuple [.int 8, .tuple [.tuple [.int 0, .int 7]]], .tuple [.int 2, .tuple [.tuple [.int 0, .int 0]]], .tuple [.int 2, .tuple [.tuple [.int 1, .int 0]]], .none, .tuple [.int 2, .tuple [.tuple [.int 0, .bool true]]], .tuple []] → sz x ≤ 10000 ∧ x.depth ≤ 20 := by decide +kernel
  have s9 : sz (.int 9) ≤ 20 := by decide +kernel
  rcases hd with rfl | rfl | rfl | rfl | rfl | rfl | rfl | hd
  · exact patOk_v h1
  · unfold vOk; simp only [sz_tup, szA, dp_tup, PyData.depthAll, PyData.depth, szA_app, depthA_app]; omega
  · unfold vOk; simp only [sz_tup, szA, dp_tup, PyData.depthAll, PyData.depth, szA_app, depthA_app]; omega
  · unfold vOk; simp only [sz_tup, szA, dp_tup, PyData.depthAll, PyData.depth, szA_app, depthA_app]; omega
  · unfold vOk; simp only [sz_tup, szA, dp_tup, PyData.depthAll, PyData.depth, szA_app, depthA_app]; omega
  · unfold vOk; simp only [sz_tup, sz_lst, szA, dp_tup, dp_lst, PyData.depthAll, PyData.depth, szA_app, depthA_app]; omega
  · unfold vOk; simp only [sz_tup, sz_lst, szA, dp_tup, dp_lst, PyData.depthAll, PyData.depth, szA_app, depthA_app]; omega
  · exact st d (by simpa using hd)
theorem patErr_r {v : D} : okR (patErr v) = true := by
  obtain ⟨a, b⟩ := patErr_small v
  exact okR_of (by omega) (by omega)
/-- one value looked at -/
theorem w9_11 {v : D} (hv : vOk v) (h : Z .nx (lw c2 c3 c4 c5 c6 c7 (some (.dat v)) (some (.dat (.str v.shown))) c10 c11 c12 c13 k)) : wp (sSeq law_9 law_11) (lw c2 c3 c4 c5 c6 c7 (some (.dat v)) c9 c10 c11 c12 c13 k) Z := by
  unfold law_9 law_11 law_10 lw
  have r := hv.r
  have e1 : ∀ Q, fp sem_p_pattern_error [.dat v] k Q ↔ Q (patErr v) k := fun Q => fp_eq (sem_paterr v k (by have := hv.1; omega))
  have e2 : ∀ Q, fp sem_l_pattern_error [.dat v] k Q ↔ Q (patErr v) k := fun Q => fp_eq (sem_lpaterr v k (by have := hv.1; omega))
  simp [r, e1, e2, patErr_r]
  exact h
def w12I (c2 c3 c4 c5 c6 c7 c8 c9 c10 c11 c12 c13 : Option Val) (r acc : List D) (s : S) : Prop := ∃ (k : Dk), acc.length + r.length ≤ 6 ∧ (∀ d ∈ acc, vOk d) ∧ DkV k ∧ s = lw c2 c3 c4 c5 c6 c7 c8 c9 c10 c11 c12 c13 k
theorem w12 {L : List D} (hk : DkV k) (h1 : PatOk n ls) (hl : L.length ≤ 20) (hL : ∀ d ∈ L, vOk d) (h : ∀ c8 c9 k', DkV k' → Z .nx (lw c2 (hP n ls) c4 c5 c6 (some (.dat (.list L))) c8 c9 c10 c11 c12 c13 k')) : wp law_12 (lw c2 (hP n ls) c4 c5 c6 (some (.dat (.list L))) c8 c9 c10 c11 c12 c13 k) Z := by
  unfold law_12
  rw [wp_sFor]
  obtain ⟨g1, g2, g3⟩ := pat_sz (n := n) (ls := ls) (by have := h1.n8; omega) h1.l8 h1.small
  unfold lw
  simp
  refine wp_lc (w12I c2 (hP n ls) c4 c5 c6 (some (.dat (.list L))) c8 c9 c10 c11 c12 c13) (fun x r acc s hI => ?_) (fun acc s hI => ?_) _ _ _ ⟨k, by rw [rng_len]; decide, by simp, hk, rfl⟩
  · obtain ⟨k1, hl1, hv, hk1, rfl⟩ := hI
    rw [List.length_cons] at hl1
    unfold lw hP
    simp
    refine fp_bent 3 (by decide) 3 (patD n ls) 1000 k1 _ hk1 g3 g1 g2 (by decide) fun d k2 hB hk2 => ?_
    refine ⟨by show _ ≤ 1000000; omega, k2, by simp; omega, fun y hy => ?_, hk2, rfl⟩
    rcases List.mem_append.mp hy with hy | hy
    · exact hv y hy
    · rw [List.mem_singleton.mp hy]
      exact ⟨by have := hB.1; omega, by have := hB.2; omega⟩
  · obtain ⟨k1, hl1, hv, hk1, rfl⟩ := hI
    unfold lw
    simp at hl1
    simp [lim]
    refine ⟨by omega, ?_⟩
    refine fp_odd hk1 fun d k2 d1 d2 hk2 => ⟨by omega, ?_⟩
    refine wp_loop (fun r s => (∀ d ∈ r, vOk d) ∧ ∃ c8 c9, s = lw c2 (hP n ls) c4 c5 c6 (some (.dat (.list L))) c8 c9 c10 c11 c12 c13 k2) (fun x r s hI => ?_) (fun s hI => ?_) _ _ ⟨fun y hy => ?_, c8, c9, rfl⟩
    · obtain ⟨hr, c8, c9, rfl⟩ := hI
      unfold lw
      simp only [↓wp_gN, List.set_cons_succ, List.set_cons_zero]
      refine w9_11 (hr x (List.mem_cons_self ..)) ?_
      exact ⟨fun y hy => hr y (List.mem_cons_of_mem _ hy), _, _, rfl⟩
    · obtain ⟨-, c8, c9, rfl⟩ := hI
      exact h c8 c9 k2 hk2
    · simp only [List.mem_append, List.mem_cons, List.mem_nil_iff, or_false] at hy
      rcases hy with hy | hy | rfl
      · exact hL y hy
      · exact hv y hy
      · exact ⟨by omega, by omega⟩
def hM (ls : List (List Nat)) (i : Nat) : Option Val := some (.lst ((mksL ls i).map mkD))
def w13I (ls : List (List Nat)) (c2 c3 c4 c6 c7 c8 c9 c12 c13 : Option Val) (k : Dk) (r : List D) (s : S) : Prop := ∃ (i : Nat) (c11 : Option Val), r = (rngD 0 ls.length).drop i ∧ i ≤ ls.length ∧ s = lw c2 c3 c4 (hL ls) c6 c7 c8 c9 (hM ls i) c11 c12 c13 k
theorem w13_15 (h1 : PatOk n ls) (h : ∀ c11, Z .nx (lw c2 c3 c4 (hL ls) c6 c7 c8 c9 (hM ls ls.length) c11 c12 c13 k)) : wp (sSeq law_13 law_15) (lw c2 c3 c4 (hL ls) c6 c7 c8 c9 c10 c11 c12 c13 k) Z := by
  unfold law_13 law_15 law_14
  have l8 := h1.l8
  have h8 : ∀ l ∈ ls, l.length ≤ 8 := fun l hl => (h1.small l hl).1
  unfold lw hL
  simp [lotsD_len]
  refine ⟨by omega, ?_⟩
  refine wp_loop (w13I ls c2 c3 c4 c6 c7 c8 c9 c12 c13 k) (fun x r s hI => ?_) (fun s hI => ?_) _ _ ⟨0, c11, rfl, Nat.zero_le _, rfl⟩
  · obtain ⟨i, c11, hr, hi, rfl⟩ := hI
    obtain ⟨hi, rfl, rfl⟩ := rng_drop hr.symm
    have e1 : atI (lotsD ls) (i : Int) = some (.tuple (intsD (ls.getD i []))) := lotsD_get hi
    have ll : (ls.getD i []).length ≤ 8 := by
      rw [List.getD_eq_getElem?_getD, List.getElem?_eq_getElem hi]; exact h8 _ (List.getElem_mem hi)
    unfold lw hL hM
    simp [e1, -List.getD_eq_getElem?_getD]
    refine wp_lc_map (fun d => match d with
      | .int u => .tuple [.int (i : Nat), .int u]
      | d => d) (fun x hx => ?_) (by rw [intsD_len]; show _ ≤ 1000000; omega) ?_
    · obtain ⟨u, hu, rfl⟩ := intsD_mem hx
      simp [lim]
    · rw [intsD_map (g := fun u => mkD (i, u)) (fun u hu => rfl)]
      have ml := mks_len h8 i
      simp [-List.getD_eq_getElem?_getD]
      refine ⟨by show _ ≤ 1000000; omega, i + 1, some (.dat (.int (i : Nat))), rfl, by omega, ?_⟩
      unfold lw hL hM
      rw [mks_snoc, List.map_append, List.map_map]
      rfl
  · obtain ⟨i, c11, hr, hi, rfl⟩ := hI
    have := rng_nil hr.symm
    obtain rfl : i = ls.length := by omega
    exact h c11
theorem w16 (h1 : PatOk n ls) (h : Z .nx (lw c2 (hP n ls) c4 c5 c6 c7 c8 c9 c10 c11 (hP ls.length (turnL n ls)) c13 k)) : wp law_16 (lw c2 (hP n ls) c4 c5 c6 c7 c8 c9 c10 c11 c12 c13 k) Z := by
  unfold law_16 lw hP
  simp [fp_eq (sem_turned (k := k) h1.n8 h1.l8)]
  exact h
theorem mk_fst {u : Nat} {M : List (Nat × Nat)} : (List.filter (fun d => match d with
    | .tuple [_, .int v] => decide (v = (u : Int))
    | _ => false) (M.map mkD)).map (fun d => match d with
    | .tuple [e, _] => e
    | d => d) = intsD ((M.filter fun p => decide (p.2 = u)).map fun p : Nat × Nat => p.1) := by
  rw [List.filter_map, List.map_map]
  unfold intsD
  rw [List.map_map]
  have : List.filter ((fun d : D => match d with
    | .tuple [_, .int v] => decide (v = (u : Int))
    | _ => false) ∘ mkD) M = M.filter fun p => decide (p.2 = u) := by
    refine List.filter_congr fun p _ => ?_
    simp only [Function.comp_apply, mkD]
    rw [Bool.eq_iff_iff, decide_eq_true_eq, decide_eq_true_eq]; omega
  rw [this]
  rfl
def mkC (ls : List (List Nat)) (x : Option Val) : Prop := x = hM ls ls.length ∨ x = some (.dat (.list ((mksL ls ls.length).map mkD)))
def w17I (n : Nat) (ls : List (List Nat)) (c2 c3 c4 c5 c7 c8 c9 c12 c13 : Option Val) (k : Dk) (r acc : List D) (s : S) : Prop := ∃ (i : Nat) (c10 c11 : Option Val), r = (rngD 0 n).drop i ∧ i ≤ n ∧ acc = lotsD ((turnL n ls).take i) ∧ mkC ls c10 ∧ s = lw c2 c3 c4 c5 (hN n) c7 c8 c9 c10 c11 c12 c13 k
theorem w17 (h1 : PatOk n ls) (h : ∀ c10 c11, Z .nx (lw c2 c3 c4 c5 (hN n) c7 c8 c9 c10 c11 c12 (some (.dat (.list (lotsD (turnL n ls))))) k)) : wp law_17 (lw c2 c3 c4 c5 (hN n) c7 c8 c9 (hM ls ls.length) c11 c12 c13 k) Z := by
  unfold law_17
  have l8 := h1.l8
  have n8 := h1.n8
  have h8 : ∀ l ∈ ls, l.length ≤ 8 := fun l hl => (h1.small l hl).1
  have ml := mks_len h8 ls.length
  unfold lw hN
  simp
  refine ⟨by omega, ?_⟩
  refine wp_lc (w17I n ls c2 c3 c4 c5 c7 c8 c9 c12 c13 k) (fun x r acc s hI => ?_) (fun acc s hI => ?_) _ _ _ ⟨0, hM ls ls.length, c11, rfl, Nat.zero_le _, rfl, .inl rfl, rfl⟩
  · obtain ⟨i, c10, c11, hr, hi, rfl, hc, rfl⟩ := hI
    obtain ⟨hi, rfl, rfl⟩ := rng_drop hr.symm
    have go : ∀ c10, wp (lcLoop [11, 16] (gTp 2 (gCn (gN 11) (gCn (gN 16) gNl))) (tV (eOp2 dEq (eVar 16) (eVar 15))) (eVar 11) ((mksL ls ls.length).map mkD) []) ⟨[none, some .deck, c2, c3, c4, c5, hN n, c7, c8, c9, c10, none, c12, c13, none, some (.dat (.int (i : Nat))), none], k⟩ fun ds s => ds = intsD ((List.range ls.length).filter fun e => decide (i ∈ ls.getD e [])) ∧ s = ⟨[none, some .deck, c2, c3, c4, c5, hN n, c7, c8, c9, c10, none, c12, c13, none, some (.dat (.int (i : Nat))), none], k⟩ := fun c10 => by
      refine wp_lc_fm (fun d => match d with
        | .tuple [_, .int v] => decide (v = (i : Int))
        | _ => false) (fun d => match d with
        | .tuple [e, _] => e
        | d => d) (fun x hx => ?_) (by rw [List.length_map]; show _ ≤ 1000000; omega) ?_
      · obtain ⟨p, hp, rfl⟩ := List.mem_map.mp hx
        simp [mkD]
        exact (Classical.em _).symm
      · rw [mk_fst, mks_pick h1 _ (Nat.le_refl _)]
        exact ⟨rfl, rfl⟩
    unfold lw
    have le : (lotsD ((turnL n ls).take i)).length ≤ lim := by rw [lotsD_len]; simp [turnL]; show _ ≤ 1000000; omega
    rcases hc with rfl | rfl
    · simp [hM]
      refine wp_mono (go (some (.dat (.list ((mksL ls ls.length).map mkD))))) fun ds s ⟨e1, e2⟩ => ?_
      subst e1 e2
      simp
      refine ⟨le, i + 1, some (.dat (.list ((mksL ls ls.length).map mkD))), none, rfl, by omega, ?_, .inr rfl, rfl⟩
      rw [turnL_at hi, ← lotsD_snoc]
      simp [lotD]
    · simp
      refine wp_mono (go (some (.dat (.list ((mksL ls ls.length).map mkD))))) fun ds s ⟨e1, e2⟩ => ?_
      subst e1 e2
      simp
      refine ⟨le, i + 1, some (.dat (.list ((mksL ls ls.length).map mkD))), none, rfl, by omega, ?_, .inr rfl, rfl⟩
      rw [turnL_at hi, ← lotsD_snoc]
      simp [lotD]
  · obtain ⟨i, c10, c11, hr, hi, rfl, hc, rfl⟩ := hI
    have := rng_nil hr.symm
    obtain rfl : i = n := by omega
    have e1 : (turnL i ls).take i = turnL i ls := List.take_of_length_le (by simp [turnL])
    unfold lw
    simp [e1]
    exact h c10 c11
theorem pat_shaped (h1 : PatOk n ls) : SeqAt.shaped (patD n ls) = true := by
  obtain ⟨_, g2, g3⟩ := pat_sz (n := n) (ls := ls) (by have := h1.n8; omega) h1.l8 h1.small
  exact gv_shp g3 (by omega)
theorem w19 (h1 : PatOk n ls) (h : Z .nx (lw c2 (hP n ls) c4 (hL ls) c6 c7 c8 c9 c10 c11 (hP ls.length (turnL n ls)) (some (.dat (.list (lotsD (turnL n ls))))) k)) :
    wp law_19 (lw c2 (hP n ls) c4 (hL ls) c6 c7 c8 c9 c10 c11 (hP ls.length (turnL n ls)) (some (.dat (.list (lotsD (turnL n ls))))) k) Z := by
  unfold law_19 law_18 lw hP hL
  have r := (patOk_v (turn_ok h1)).r
  have e1 := sem_turned (n := ls.length) (ls := turnL n ls) (k := k) h1.l8 (by simpa [turnL] using h1.n8)
  have e2 : (turnL n ls).length = n := by simp [turnL]
  rw [turn_turn h1, e2] at e1
  have e3 : okR (.tuple [.int (ls.length : Nat), .tuple (lotsD (turnL n ls))]) = true := r
  simp [r, lotsD_len, lim, fp_eq e1, dNe_refl (pat_shaped h1), e3, permL]
  exact .inl ⟨rfl, h⟩
theorem w21 (h1 : PatOk n ls) (h : Z .nx (lw c2 (hP n ls) c4 c5 c6 c7 c8 c9 c10 c11 c12 c13 k)) : wp law_21 (lw c2 (hP n ls) c4 c5 c6 c7 c8 c9 c10 c11 c12 c13 k) Z := by
  unfold law_21 law_20 lw hP
  have e1 : ∀ Q, fp sem_p_pattern_error [.dat (patD n ls)] k Q ↔ Q .none k := fun Q => by
    have := sem_paterr (patD n ls) k (by have := (patOk_v h1).1; omega)
    rw [patErr_pat h1] at this
    exact fp_eq this
  simp [permL, e1, dIsNot, isNone]
  exact h
theorem fed_v (h : Fit n m ls ms) : vOk (patD n (fedL n ls ms)) := patOk_v (fed_ok2 h.a h.b.l8)
theorem w23 (h1 : Fit n m ls ms) (h : Z .nx (lw c2 (hP n ls) (hP m ms) (hL ls) c6 c7 c8 c9 c10 c11 c12 c13 k)) : wp law_23 (lw c2 (hP n ls) (hP m ms) (hL ls) c6 c7 c8 c9 c10 c11 c12 c13 k) Z := by
  unfold law_23 law_22 lw hP hL
  obtain ⟨r, k1, e, er, ek⟩ := fx_fed (k := k) h1
  subst er ek
  have rr := (fed_v h1).r
  have e4 : dIx (patD m ms) (.int 0) = some (.int (m : Nat)) := rfl
  by_cases hm : ls.length = m
  · have e' : ∀ Q, fx sem_p_fed_pattern [.dat (patD n ls), .dat (patD m ms)] k1 Q ↔ Q (.ok (patD n (fedL n ls ms))) k1 := fun Q => by
      rw [fx_eq e, fedR, if_pos hm]
    simp [lotsD_len, e4, hm, permL, e', rr]
    exact h
  · simp [lotsD_len, e4, show ¬ ((ls.length : Nat) : Int) = (m : Int) by omega]
    exact h
theorem lfed_r (h : Fit n m ls ms) : okR (lfedD n m ls ms) = true := by
  have a := fed_v h
  have s : sz (.str "ok") ≤ 200 := by decide +kernel
  unfold lfedD
  split
  · refine okR_of ?_ ?_
    · rw [sz_lst]; simp only [szA]; have := a.1; omega
    · rw [dp_lst]; simp only [PyData.depthAll, PyData.depth]; have := a.2; omega
  · exact okR_of (by decide +kernel) (by decide +kernel)
theorem two_r (h : Fit n m ls ms) : okR (.list [patD n ls, patD m ms]) = true := by
  have a := patOk_v h.a
  have b := patOk_v h.b
  refine okR_of ?_ ?_
  · rw [sz_lst]; simp only [szA]; have := a.1; have := b.1; omega
  · rw [dp_lst]; simp only [PyData.depthAll]; have := a.2; have := b.2; omega
theorem w24_28 (h1 : Fit n m ls ms) (h : ∀ c9, Z .nx (lw c2 (hP n ls) (hP m ms) c5 c6 c7 c8 c9 c10 c11 c12 c13 k)) : wp (sSeq law_24 (sSeq law_26 law_28)) (lw c2 (hP n ls) (hP m ms) c5 c6 c7 c8 c9 c10 c11 c12 c13 k) Z := by
  unfold law_24 law_26 law_28 law_25 law_27 lw hP
  have h2 : Fit m n ms ls := ⟨h1.b, h1.a⟩
  simp [lim, two_r h1, fp_eq (sem_lfed (k := k) h1), fp_eq (sem_lfeddue (k := k) h1), fp_eq (sem_lfed (k := k) h2), fp_eq (sem_lfeddue (k := k) h2), lfed_r h1, lfed_r h2]
  exact h _
def w29I (r : List D) (s : S) : Prop := ∃ c2 c3 c4 c5 c6 c7 c8 c9 c10 c11 c12 c13 k, DkV k ∧ s = lw c2 c3 c4 c5 c6 c7 c8 c9 c10 c11 c12 c13 k
theorem w29 {c2 : Option Val} (hk : DkV k) (h : ∀ s, Z .nx s) : wp law_29 (lw c2 c3 c4 c5 c6 c7 c8 c9 c10 c11 c12 c13 k) Z := by
  unfold law_29
  rw [wp_sFor]
  simp
  refine wp_loop w29I (fun x r s hI => ?_) (fun s hI => h s) _ _ ⟨c2, c3, c4, c5, c6, c7, c8, c9, c10, c11, c12, c13, k, hk, rfl⟩
  obtain ⟨c2, c3, c4, c5, c6, c7, c8, c9, c10, c11, c12, c13, k1, hv1, rfl⟩ := hI
  unfold lw
  simp only [↓wp_gN, List.set_cons_succ, List.set_cons_zero]
  rw [wp_sSeq]
  refine w1 hv1 fun n ls m ms k2 h1 h2 hv2 => ?_
  rw [wp_sSeq]
  refine w4 hv2 h1 h2 fun m ms c5 k3 h2 hv3 => ?_
  rw [wp_sSeq]
  refine w5 ?_
  rw [← sSeq_assoc, ← sSeq_assoc, wp_sSeq, sSeq_assoc]
  refine w678 h1 fun L hl hL => ?_
  rw [wp_sSeq]
  refine w12 hv3 h1 hl hL fun c8 c9 k4 hv4 => ?_
  rw [← sSeq_assoc, wp_sSeq]
  refine w13_15 h1 fun c11 => ?_
  rw [wp_sSeq]
  refine w16 h1 ?_
  rw [wp_sSeq]
  refine w17 h1 fun c10 c11 => ?_
  rw [wp_sSeq]
  refine w19 h1 ?_
  rw [wp_sSeq]
  refine w21 h1 ?_
  rw [wp_sSeq]
  refine w23 ⟨h1, h2⟩ ?_
  refine w24_28 ⟨h1, h2⟩ fun c9 => ?_
  exact ⟨_, _, _, _, _, _, _, _, _, _, _, _, k4, hv4, rfl⟩
end
theorem pure_law : ∀ k0, DkV k0 → ∃ s', m_law (st0 (List.length n_p_law) k0) = some (.rt (.bool true), s') := by
  intro k0 hk
  have h : wp m_law (st0 (List.length n_p_law) k0) fun fl _ => fl = .rt (.bool true) := by
    unfold m_law
    rw [wp_sSeq]
    show wp law_29 (lw none none none none none none none none none none none none k0) _
    refine w29 hk fun s => ?_
    unfold law_30
    simp
  obtain ⟨fl, s', e, rfl⟩ := h
  exact ⟨s', e⟩
end Lw


set_option pp.maxSteps 300
namespace Lw
open PySem PySem.Spec PyProof.Rows L2 DL
theorem all_mk {l : PySem.W.OpenLaw} {w : World} {K : PySem.W.Frag} {h : Heap} {mg : Str → Option Value} {fa f1 f2 f3 f4 f5 f6 f7 f8 f9 f10 f11 f12 f13 f14 f15 f16 f17 : Addr} (X : K.In h) (G : h.Ns mainGlobals mg) (hfa : mg "law" = some (.ref fa))
    {od1 an1 od2 an2 od3 an3 od4 an4 od5 an5 od6 an6 od7 an7 od8 an8 od9 an9 od10 an10 od11 an11 od12 an12 od13 an13 od14 an14 od15 an15 od16 an16 od17 an17 : Option Addr} {sl1 sl2 sl3 sl4 sl5 sl6 sl7 sl8 sl9 sl10 sl11 sl12 sl13 sl14 sl15 sl16 sl17 : Array (Option Value)} {oc1 kV1 dc1 pm1 cd1 ct1 oc2 kV2 dc2 pm2 cd2 ct2 oc3 kV3 dc3 pm3 cd3 ct3 oc4 kV4 dc4 pm4 cd4 ct4 oc5 kV5 dc5 pm5 cd5 ct5 oc6 kV6 dc6 pm6 cd6 ct6 oc7 kV7 dc7 pm7 cd7 ct7 oc8 kV8 dc8 pm8 cd8 ct8 oc9 kV9 dc9 pm9 cd9 ct9 oc10 kV10 dc10 pm10 cd10 ct10 oc11 kV11 dc11 pm11 cd11 ct11 oc12 kV12 dc12 pm12 cd12 ct12 oc13 kV13 dc13 pm13 cd13 ct13 oc14 kV14 dc14 pm14 cd14 ct14 oc15 kV15 dc15 pm15 cd15 ct15 oc16 kV16 dc16 pm16 cd16 ct16 oc17 kV17 dc17 pm17 cd17 ct17 u_MAX_INPUTS u_MAX_ENDS : Value} {C_RowError : Addr} {C_Unfit : Addr}
    (aC_RowError : PySem.W.nsIn K mainGlobals "RowError" = some (some (.ref C_RowError)))
    (aC_Unfit : PySem.W.nsIn K mainGlobals "Unfit" = some (some (.ref C_Unfit)))
    (hn_x : PySem.W.specialIn K (.builtin "object.__class__") "__get__" = some (some (.builtin "getset_descriptor.__get__"))) (ht_x : PySem.W.takesIn K (.builtin "object.__class__") = some true)
    (xF_Unfit : PySem.W.excIn K C_Unfit [.type "ValueError", .type "Exception", .type "BaseException", .type "object"] "ValueError.__new__" = true) (kF_Unfit : PySem.W.keepIn K (.ref C_Unfit) = true) (bF_Unfit : PySem.W.subIn K (.ref C_Unfit) (.type "BaseException") = some true) (tF_Unfit : PySem.W.typeIn K (.ref C_Unfit) = some (.type "type"))
    (hg_Unfit : PySem.W.findIn K (.ref C_Unfit) "__getattribute__" = some (some (.builtin "BaseException.__getattribute__"))) (hk_Unfit : PySem.W.findIn K (.ref C_Unfit) "__getattr__" = some none) (hd_Unfit : PySem.W.hasDictIn K C_Unfit = true) (ha_Unfit : PySem.W.findIn K (.ref C_Unfit) "__class__" = some (some (.builtin "object.__class__"))) (hm_Unfit : PySem.W.mroIn K C_Unfit (.type "object") = some true)
    (su_Unfit_Unfit : PySem.W.subIn K (.ref C_Unfit) (.ref C_Unfit) = some true)
    (a1 : PySem.W.nsIn K mainGlobals "is_integer" = some (some (.ref f1))) (l1 : K.lookup f1 = some ⟨oc1, od1, .func (PySem.W.fnOf "is_integer" "is_integer" (defArgs s_p_is_integer) (defBody s_p_is_integer) (defScope s_p_is_integer) .none kV1 dc1 pm1 an1 cd1 ct1), sl1⟩) (c1 : PySem.W.codeIn K cd1 "is_integer" = true) (k1 : PySem.W.keepIn K (.ref f1) = true)
    (a2 : PySem.W.nsIn K mainGlobals "is_lot" = some (some (.ref f2))) (l2 : K.lookup f2 = some ⟨oc2, od2, .func (PySem.W.fnOf "is_lot" "is_lot" (defArgs s_p_is_lot) (defBody s_p_is_lot) (defScope s_p_is_lot) .none kV2 dc2 pm2 an2 cd2 ct2), sl2⟩) (c2 : PySem.W.codeIn K cd2 "is_lot" = true) (k2 : PySem.W.keepIn K (.ref f2) = true)
    (a3 : PySem.W.nsIn K mainGlobals "pattern_error" = some (some (.ref f3))) (l3 : K.lookup f3 = some ⟨oc3, od3, .func (PySem.W.fnOf "pattern_error" "pattern_error" (defArgs s_p_pattern_error) (defBody s_p_pattern_error) (defScope s_p_pattern_error) .none kV3 dc3 pm3 an3 cd3 ct3), sl3⟩) (c3 : PySem.W.codeIn K cd3 "pattern_error" = true) (k3 : PySem.W.keepIn K (.ref f3) = true)
    (a4 : PySem.W.nsIn K mainGlobals "turned_pattern" = some (some (.ref f4))) (l4 : K.lookup f4 = some ⟨oc4, od4, .func (PySem.W.fnOf "turned_pattern" "turned_pattern" (defArgs s_p_turned_pattern) (defBody s_p_turned_pattern) (defScope s_p_turned_pattern) .none kV4 dc4 pm4 an4 cd4 ct4), sl4⟩) (c4 : PySem.W.codeIn K cd4 "turned_pattern" = true) (k4 : PySem.W.keepIn K (.ref f4) = true)
    (a5 : PySem.W.nsIn K mainGlobals "fed_pattern" = some (some (.ref f5))) (l5 : K.lookup f5 = some ⟨oc5, od5, .func (PySem.W.fnOf "fed_pattern" "fed_pattern" (defArgs s_p_fed_pattern) (defBody s_p_fed_pattern) (defScope s_p_fed_pattern) .none kV5 dc5 pm5 an5 cd5 ct5), sl5⟩) (c5 : PySem.W.codeIn K cd5 "fed_pattern" = true) (k5 : PySem.W.keepIn K (.ref f5) = true)
    (a6 : PySem.W.nsIn K mainGlobals "_law_deck" = some (some (.ref f6))) (l6 : K.lookup f6 = some ⟨oc6, od6, .func (PySem.W.fnOf "_law_deck" "_law_deck" (defArgs s_l_deck) (defBody s_l_deck) (defScope s_l_deck) .none kV6 dc6 pm6 an6 cd6 ct6), sl6⟩) (c6 : PySem.W.codeIn K cd6 "_law_deck" = true) (k6 : PySem.W.keepIn K (.ref f6) = true)
    (a7 : PySem.W.nsIn K mainGlobals "_law_draw" = some (some (.ref f7))) (l7 : K.lookup f7 = some ⟨oc7, od7, .func (PySem.W.fnOf "_law_draw" "_law_draw" (defArgs s_l_draw) (defBody s_l_draw) (defScope s_l_draw) .none kV7 dc7 pm7 an7 cd7 ct7), sl7⟩) (c7 : PySem.W.codeIn K cd7 "_law_draw" = true) (k7 : PySem.W.keepIn K (.ref f7) = true)
    (a8 : PySem.W.nsIn K mainGlobals "_law_one" = some (some (.ref f8))) (l8 : K.lookup f8 = some ⟨oc8, od8, .func (PySem.W.fnOf "_law_one" "_law_one" (defArgs s_l_one) (defBody s_l_one) (defScope s_l_one) .none kV8 dc8 pm8 an8 cd8 ct8), sl8⟩) (c8 : PySem.W.codeIn K cd8 "_law_one" = true) (k8 : PySem.W.keepIn K (.ref f8) = true)
    (a9 : PySem.W.nsIn K mainGlobals "_law_odd" = some (some (.ref f9))) (l9 : K.lookup f9 = some ⟨oc9, od9, .func (PySem.W.fnOf "_law_odd" "_law_odd" (defArgs s_l_odd) (defBody s_l_odd) (defScope s_l_odd) .none kV9 dc9 pm9 an9 cd9 ct9), sl9⟩) (c9 : PySem.W.codeIn K cd9 "_law_odd" = true) (k9 : PySem.W.keepIn K (.ref f9) = true)
    (a10 : PySem.W.nsIn K mainGlobals "_law_bent" = some (some (.ref f10))) (l10 : K.lookup f10 = some ⟨oc10, od10, .func (PySem.W.fnOf "_law_bent" "_law_bent" (defArgs s_l_bent) (defBody s_l_bent) (defScope s_l_bent) .none kV10 dc10 pm10 an10 cd10 ct10), sl10⟩) (c10 : PySem.W.codeIn K cd10 "_law_bent" = true) (k10 : PySem.W.keepIn K (.ref f10) = true)
    (a11 : PySem.W.nsIn K mainGlobals "_law_whole" = some (some (.ref f11))) (l11 : K.lookup f11 = some ⟨oc11, od11, .func (PySem.W.fnOf "_law_whole" "_law_whole" (defArgs s_l_whole) (defBody s_l_whole) (defScope s_l_whole) .none kV11 dc11 pm11 an11 cd11 ct11), sl11⟩) (c11 : PySem.W.codeIn K cd11 "_law_whole" = true) (k11 : PySem.W.keepIn K (.ref f11) = true)
    (a12 : PySem.W.nsIn K mainGlobals "_law_is_lot" = some (some (.ref f12))) (l12 : K.lookup f12 = some ⟨oc12, od12, .func (PySem.W.fnOf "_law_is_lot" "_law_is_lot" (defArgs s_l_is_lot) (defBody s_l_is_lot) (defScope s_l_is_lot) .none kV12 dc12 pm12 an12 cd12 ct12), sl12⟩) (c12 : PySem.W.codeIn K cd12 "_law_is_lot" = true) (k12 : PySem.W.keepIn K (.ref f12) = true)
    (a13 : PySem.W.nsIn K mainGlobals "_law_pattern" = some (some (.ref f13))) (l13 : K.lookup f13 = some ⟨oc13, od13, .func (PySem.W.fnOf "_law_pattern" "_law_pattern" (defArgs s_l_pattern) (defBody s_l_pattern) (defScope s_l_pattern) .none kV13 dc13 pm13 an13 cd13 ct13), sl13⟩) (c13 : PySem.W.codeIn K cd13 "_law_pattern" = true) (k13 : PySem.W.keepIn K (.ref f13) = true)
    (a14 : PySem.W.nsIn K mainGlobals "_law_pattern_error" = some (some (.ref f14))) (l14 : K.lookup f14 = some ⟨oc14, od14, .func (PySem.W.fnOf "_law_pattern_error" "_law_pattern_error" (defArgs s_l_pattern_error) (defBody s_l_pattern_error) (defScope s_l_pattern_error) .none kV14 dc14 pm14 an14 cd14 ct14), sl14⟩) (c14 : PySem.W.codeIn K cd14 "_law_pattern_error" = true) (k14 : PySem.W.keepIn K (.ref f14) = true)
    (a15 : PySem.W.nsIn K mainGlobals "_law_fed" = some (some (.ref f15))) (l15 : K.lookup f15 = some ⟨oc15, od15, .func (PySem.W.fnOf "_law_fed" "_law_fed" (defArgs s_l_fed) (defBody s_l_fed) (defScope s_l_fed) .none kV15 dc15 pm15 an15 cd15 ct15), sl15⟩) (c15 : PySem.W.codeIn K cd15 "_law_fed" = true) (k15 : PySem.W.keepIn K (.ref f15) = true)
    (a16 : PySem.W.nsIn K mainGlobals "_law_fed_due" = some (some (.ref f16))) (l16 : K.lookup f16 = some ⟨oc16, od16, .func (PySem.W.fnOf "_law_fed_due" "_law_fed_due" (defArgs s_l_fed_due) (defBody s_l_fed_due) (defScope s_l_fed_due) .none kV16 dc16 pm16 an16 cd16 ct16), sl16⟩) (c16 : PySem.W.codeIn K cd16 "_law_fed_due" = true) (k16 : PySem.W.keepIn K (.ref f16) = true)
    (a17 : PySem.W.nsIn K mainGlobals "law" = some (some (.ref f17))) (l17 : K.lookup f17 = some ⟨oc17, od17, .func (PySem.W.fnOf "law" "law" (defArgs s_p_law) (defBody s_p_law) (defScope s_p_law) .none kV17 dc17 pm17 an17 cd17 ct17), sl17⟩) (c17 : PySem.W.codeIn K cd17 "law" = true) (k17 : PySem.W.keepIn K (.ref f17) = true)
    (zc : NoDig K)
    (z0 : PySem.W.nsIn K mainGlobals "abs" = some none)
    (z1 : PySem.W.nsIn K mainGlobals "bool" = some none)
    (z2 : PySem.W.nsIn K mainGlobals "enumerate" = some none)
    (z3 : PySem.W.nsIn K mainGlobals "int" = some none)
    (z4 : PySem.W.nsIn K mainGlobals "isinstance" = some none)
    (z5 : PySem.W.nsIn K mainGlobals "len" = some none)
    (z6 : PySem.W.nsIn K mainGlobals "list" = some none)
    (z7 : PySem.W.nsIn K mainGlobals "range" = some none)
    (z8 : PySem.W.nsIn K mainGlobals "repr" = some none)
    (z9 : PySem.W.nsIn K mainGlobals "set" = some none)
    (z10 : PySem.W.nsIn K mainGlobals "sorted" = some none)
    (z11 : PySem.W.nsIn K mainGlobals "str" = some none)
    (z12 : PySem.W.nsIn K mainGlobals "tuple" = some none)
    (y0 : PySem.W.nsIn K mainGlobals "MAX_INPUTS" = some (some u_MAX_INPUTS)) (r0 : RelV (.int 8) u_MAX_INPUTS)
    (y1 : PySem.W.nsIn K mainGlobals "MAX_ENDS" = some (some u_MAX_ENDS)) (r1 : RelV (.int 8) u_MAX_ENDS)
    : ∃ fd : FuncData, (∀ (s : Shared) (v : Value), BindsTo s fd ⟨[v], []⟩ [("_law_script", v)]) ∧ ∀ base : Heap, K.In base → base.Ns mainGlobals mg → FnG l.prog w K mg base (lvLaw + 1) fa fd ["_law_script"] (spLaw K) := by
  have e := hfa.symm.trans (PySem.W.mg_of X G a17)
  cases e
  have F1 := fun_mk (st := s_p_is_integer) l1 c1 k1
  have F2 := fun_mk (st := s_p_is_lot) l2 c2 k2
  have F3 := fun_mk (st := s_p_pattern_error) l3 c3 k3
  have F4 := fun_mk (st := s_p_turned_pattern) l4 c4 k4
  have F5 := fun_mk (st := s_p_fed_pattern) l5 c5 k5
  have F6 := fun_mk (st := s_l_deck) l6 c6 k6
  have F7 := fun_mk (st := s_l_draw) l7 c7 k7
  have F8 := fun_mk (st := s_l_one) l8 c8 k8
  have F9 := fun_mk (st := s_l_odd) l9 c9 k9
  have F10 := fun_mk (st := s_l_bent) l10 c10 k10
  have F11 := fun_mk (st := s_l_whole) l11 c11 k11
  have F12 := fun_mk (st := s_l_is_lot) l12 c12 k12
  have F13 := fun_mk (st := s_l_pattern) l13 c13 k13
  have F14 := fun_mk (st := s_l_pattern_error) l14 c14 k14
  have F15 := fun_mk (st := s_l_fed) l15 c15 k15
  have F16 := fun_mk (st := s_l_fed_due) l16 c16 k16
  have F17 := fun_mk (st := s_p_law) l17 c17 k17
  have exm_Unfit_Unfit : PySem.W.exmOne K (.ref C_Unfit) (.ref C_Unfit) = some true := PySem.W.exm_ref bF_Unfit hd_Unfit tF_Unfit su_Unfit_Unfit
  have T : Txt K mg := ⟨⟨_, _, F1, PySem.W.mg_of X G a1⟩, ⟨_, _, F2, PySem.W.mg_of X G a2⟩, ⟨_, _, F3, PySem.W.mg_of X G a3⟩, ⟨_, _, F4, PySem.W.mg_of X G a4⟩, ⟨_, _, F5, PySem.W.mg_of X G a5⟩, ⟨_, _, F6, PySem.W.mg_of X G a6⟩, ⟨_, _, F7, PySem.W.mg_of X G a7⟩, ⟨_, _, F8, PySem.W.mg_of X G a8⟩, ⟨_, _, F9, PySem.W.mg_of X G a9⟩, ⟨_, _, F10, PySem.W.mg_of X G a10⟩, ⟨_, _, F11, PySem.W.mg_of X G a11⟩, ⟨_, _, F12, PySem.W.mg_of X G a12⟩, ⟨_, _, F13, PySem.W.mg_of X G a13⟩, ⟨_, _, F14, PySem.W.mg_of X G a14⟩, ⟨_, _, F15, PySem.W.mg_of X G a15⟩, ⟨_, _, F16, PySem.W.mg_of X G a16⟩, ⟨_, _, F17, PySem.W.mg_of X G a17⟩, ⟨⟨C_Unfit, PySem.W.mg_of X G aC_Unfit, aC_Unfit, xF_Unfit, kF_Unfit, bF_Unfit, tF_Unfit⟩⟩, ⟨⟨C_Unfit, PySem.W.mg_of X G aC_Unfit, fun c hc => by simp only [List.mem_cons, List.mem_nil_iff, or_false] at hc; subst hc; exact ⟨C_Unfit, aC_Unfit, exm_Unfit_Unfit⟩⟩⟩, zc, PySem.W.mg_none_of X G z0, PySem.W.mg_none_of X G z1, PySem.W.mg_none_of X G z2, PySem.W.mg_none_of X G z3, PySem.W.mg_none_of X G z4, PySem.W.mg_none_of X G z5, PySem.W.mg_none_of X G z6, PySem.W.mg_none_of X G z7, PySem.W.mg_none_of X G z8, PySem.W.mg_none_of X G z9, PySem.W.mg_none_of X G z10, PySem.W.mg_none_of X G z11, PySem.W.mg_none_of X G z12, ⟨_, _, PySem.W.mg_of X G y0, r0, fun _ => .int _⟩, ⟨_, _, PySem.W.mg_of X G y1, r1, fun _ => .int _⟩⟩
  have bD := F6.binds (ps := ["_law_script"]) fun _ _ _ _ _ _ us hl => match us, hl with | [_], _ => rfl
  refine ⟨_, fun s v => .of_eq rfl, fun base _ _ => law_of (N := ["_law_deck_here", "_law_turn", "_law_one_here", "_law_other", "_law_lots", "_law_many", "_law_some", "_law_value", "_law_shown", "_law_marks", "_law_end", "_law_turned", "_law_due", "_law_k", "_law_own", "_law_unknown"]) (m := m_law) F17 sc_p_law (by decide) rfl (fun cdv A outer s H E hr => ?_) (fun cdv A outer s H E hG hr => ds_law T hG hr) pure_law⟩
  exact ps_set (i := 1) sc_p_law.nd rfl (by first | exact Or.inl rfl | exact Or.inr rfl) (pe_call (k := 1) (ok_deck (k := 0) F6 T.b_abs T.b_len) (hr.mono (by decide)) (by rfl) (PySem.W.mg_of X G a6) F6.kp bD .nil pass0 (pa_cons (pv 0) pa_nil))
end Lw
open PySem PySem.W PyProof.Rows
set_option maxHeartbeats 0 in
theorem PySem.Challenge.cw_rowsback_k52_patterns_judged_holds : PySem.Challenge.rw_rowsback_k52_patterns_judged.Holds := by
  w_on; o_law; k_head; (case hw => w_witness2)
  k_fill
  refine DL.walk_G (l := PySem.Challenge.rw_rowsback_k52_patterns_judged) (n := 63) (k := Lw.lvLaw + 1) (x := "_law_script") (sp := DL.spLaw) rfl (by decide) rfl ⟨rfl, by decide, by decide⟩ (fun w h Y => PySem.W.kIn_of Y) ?F (fun _ _ a ns hl _ hS => ⟨a, ns, rfl, hS, hl, fun _ => rfl⟩)
  case F =>
    intro w mg fa h KX G hmg
    refine' Lw.all_mk KX G hmg ?aC_RowError ?aC_Unfit ?hn_x ?ht_x ?xF_Unfit ?kF_Unfit ?bF_Unfit ?tF_Unfit ?hg_Unfit ?hk_Unfit ?hd_Unfit ?ha_Unfit ?hm_Unfit ?su_Unfit_Unfit ?a1 ?l1 ?c1 ?k1 ?a2 ?l2 ?c2 ?k2 ?a3 ?l3 ?c3 ?k3 ?a4 ?l4 ?c4 ?k4 ?a5 ?l5 ?c5 ?k5 ?a6 ?l6 ?c6 ?k6 ?a7 ?l7 ?c7 ?k7 ?a8 ?l8 ?c8 ?k8 ?a9 ?l9 ?c9 ?k9 ?a10 ?l10 ?c10 ?k10 ?a11 ?l11 ?c11 ?k11 ?a12 ?l12 ?c12 ?k12 ?a13 ?l13 ?c13 ?k13 ?a14 ?l14 ?c14 ?k14 ?a15 ?l15 ?c15 ?k15 ?a16 ?l16 ?c16 ?k16 ?a17 ?l17 ?c17 ?k17 ?zc ?z0 ?z1 ?z2 ?z3 ?z4 ?z5 ?z6 ?z7 ?z8 ?z9 ?z10 ?z11 ?z12 ?y0 ?r0 ?y1 ?r1
    (case aC_RowError => k_is); (case aC_Unfit => k_is); (case hn_x => k_is); (case ht_x => k_is); (case xF_Unfit => k_exc); (case kF_Unfit => k_is); (case bF_Unfit => k_is); (case tF_Unfit => k_is); (case hg_Unfit => k_is); (case hk_Unfit => k_is); (case hd_Unfit => k_is); (case ha_Unfit => k_is); (case hm_Unfit => k_is); (case su_Unfit_Unfit => first | rfl | k_is); (case a1 => k_is); (case l1 => k_is); (case c1 => k_is); (case k1 => k_is); (case a2 => k_is); (case l2 => k_is); (case c2 => k_is); (case k2 => k_is); (case a3 => k_is); (case l3 => k_is); (case c3 => k_is); (case k3 => k_is); (case a4 => k_is); (case l4 => k_is); (case c4 => k_is); (case k4 => k_is); (case a5 => k_is); (case l5 => k_is); (case c5 => k_is); (case k5 => k_is); (case a6 => k_is); (case l6 => k_is); (case c6 => k_is); (case k6 => k_is); (case a7 => k_is); (case l7 => k_is); (case c7 => k_is); (case k7 => k_is); (case a8 => k_is); (case l8 => k_is); (case c8 => k_is); (case k8 => k_is); (case a9 => k_is); (case l9 => k_is); (case c9 => k_is); (case k9 => k_is); (case a10 => k_is); (case l10 => k_is); (case c10 => k_is); (case k10 => k_is); (case a11 => k_is); (case l11 => k_is); (case c11 => k_is); (case k11 => k_is); (case a12 => k_is); (case l12 => k_is); (case c12 => k_is); (case k12 => k_is); (case a13 => k_is); (case l13 => k_is); (case c13 => k_is); (case k13 => k_is); (case a14 => k_is); (case l14 => k_is); (case c14 => k_is); (case k14 => k_is); (case a15 => k_is); (case l15 => k_is); (case c15 => k_is); (case k15 => k_is); (case a16 => k_is); (case l16 => k_is); (case c16 => k_is); (case k16 => k_is); (case a17 => k_is); (case l17 => k_is); (case c17 => k_is); (case k17 => k_is); (case zc => (show PySem.W.nsIn _ _ _ = some none; k_is)); (case z0 => k_is); (case z1 => k_is); (case z2 => k_is); (case z3 => k_is); (case z4 => k_is); (case z5 => k_is); (case z6 => k_is); (case z7 => k_is); (case z8 => k_is); (case z9 => k_is); (case z10 => k_is); (case z11 => k_is); (case z12 => k_is); (case y0 => k_is); (case r0 => exact ⟨_, rfl⟩); (case y1 => k_is); (case r1 => exact ⟨_, rfl⟩)


