import PyProof.Rows.All
import Wide.All
import OpenK.AllK
import Wide.FinOn
import HandS.ForMost
import HandS.ForExc
import HandS.Flow
import HandS.IsInst
import HandS.Conv
import HandS.Wide
import HandS.Deep
import HandS.Small
import HandS.TupAny
import HandS.Iter
import HandS.Walk
import HandS.NoneIn
import HandS.TupLen
import HandS.More
import HandS.Exc
import HandS.ExcOwn
import HandS.ExcIs
import HandS.Text
import KE.SortKeyHeap
import HandS.FStr
import HandS.RaiseMore
import KE.DataMinMax
import KE.KDictExact
import HandS.SortKw
import HandS.Style
import KE.KDictSum
import HandS.DictEq
import KE.KDictLaw
import HandS.ListItems
import PySem.Challenge.RW_nightglass_k25_plates_in_the_book
set_option Elab.async false
set_option linter.all false
set_option maxRecDepth 100000
set_option maxHeartbeats 4000000
/-! The simulation layer (second making): plain data D, cells, and what it means that a heap bears them. -/
namespace Ng
open PySem L2

/-- tests that nothing computes -/
noncomputable def ifc {a : Type} (c : Prop) (x y : a) : a := @ite a c (Classical.propDecidable c) x y
noncomputable def dec (c : Prop) : Bool := @decide c (Classical.propDecidable c)
theorem ifc_pos {a : Type} {c : Prop} {x y : a} (h : c) : ifc c x y = x := by unfold ifc; exact if_pos h
theorem ifc_neg {a : Type} {c : Prop} {x y : a} (h : ¬ c) : ifc c x y = y := by unfold ifc; exact if_neg h
theorem ifc_true {a : Type} {x y : a} : ifc True x y = x := ifc_pos trivial
theorem ifc_false {a : Type} {x y : a} : ifc False x y = y := ifc_neg (fun h => h)
theorem dec_true : dec True = true := by unfold dec; simp
theorem dec_false : dec False = false := by unfold dec; simp
theorem dec_pos {c : Prop} (h : c) : dec c = true := by unfold dec; simp [h]
theorem dec_neg {c : Prop} (h : ¬ c) : dec c = false := by unfold dec; simp [h]
theorem dec_eq (c : Prop) [i : Decidable c] : dec c = decide c := by
  by_cases h : c
  · rw [dec_pos h, decide_eq_true h]
  · rw [dec_neg h, decide_eq_false h]
theorem ifc_some {a : Type} {c : Prop} {x : a} {y : a} (h : ifc c (some x) none = some y) : c ∧ x = y := by
  by_cases e : c
  · rw [ifc_pos e] at h; cases h; exact ⟨e, rfl⟩
  · rw [ifc_neg e] at h; cases h
theorem ifc_cases {a : Type} {c : Prop} {x y : a} {P : a → Prop} (h : P (ifc c x y)) : (c ∧ P x) ∨ (¬ c ∧ P y) := by
  by_cases e : c
  · rw [ifc_pos e] at h; exact .inl ⟨e, h⟩
  · rw [ifc_neg e] at h; exact .inr ⟨e, h⟩

/-- plain data, frozen -/
inductive D where
  | non | bl (b : Bool) | int (i : Int) | str (x : Str)
  | tup (ds : List D) | wt (ds : List D) | lst (ds : List D) | scr (ds : List D)
  | dk (ks : List Key) (ds : List D) | dt (ks : List (List Key)) (ds : List D)
  | obj (c : Str) (fs : List Str) (ds : List D)

/-- what a slot holds: data, or the place of a cell -/
inductive W where
  | da (d : D) | lo (n : Nat) | xc

/-- a cell: a thing that may be changed -/
inductive Cell where
  | lst (ws : List W) | tup (ws : List W) | dk (kws : List (Key × W)) | dt (kws : List (List Key × W))
  | ins (c : Str) (fws : List (Str × W)) | dead

abbrev Rho := List (Option W)
abbrev Sto := List Cell

structure Exn where
  c : Str
  fs : List Str
  ws : List W

inductive Rs (a : Type) where
  | ok (x : a) (S : Sto) | ex (x : Exn) (S : Sto) | stuck
def Rs.bind {a b : Type} (r : Rs a) (f : a → Sto → Rs b) : Rs b := match r with
  | .ok x S => f x S
  | .ex x S => .ex x S
  | .stuck => .stuck
/-- what a plain function gives -/
inductive Re (a : Type) where
  | ok (x : a) | ex (x : Exn) | stuck
inductive Out where
  | nx (r : Rho) (s : Sto) | rt (w : W) (s : Sto) | bk (r : Rho) (s : Sto) | ct (r : Rho) (s : Sto) | ex (x : Exn) (r : Rho) (s : Sto) | stuck
abbrev ME := Rho → Sto → Rs W
abbrev MA := Rho → Sto → Rs (List W)
abbrev MT := Rho → Sto → Rs Bool
abbrev MS := Rho → Sto → Out

/-! ### heaps that grow -/
def Ex (H H' : Hp) : Prop := ∀ b o, H b = some o → H' b = some o
theorem Ex.refl (H : Hp) : Ex H H := fun _ _ h => h
theorem Ex.trans {A B C : Hp} (x : Ex A B) (y : Ex B C) : Ex A C := fun b o h => y b o (x b o h)
theorem Ex.no {F H : Hp} (x : Ex F H) {p : Addr} (h : H p = none) : F p = none := by
  cases e : F p with
  | none => rfl
  | some o => rw [x p o e] at h; cases h
theorem Ex.put {F H : Hp} {p : Addr} {o : HO} (x : Ex F H) (h : H p = some o) : Ex F (upd F p o) := fun b u e => by
  by_cases z : b = p
  · subst z; rw [x b u e] at h; cases h; exact upd_same
  · rw [upd_ne z]; exact e
theorem Ex.new {H : Hp} {p : Addr} {o : HO} (h : H p = none) : Ex H (upd H p o) := fun a u e => by
  rw [upd_ne (ne_of_none e h)]
  exact e
theorem Rd.xt {F H : Hp} (x : Ex F H) {a : Addr} {o : HO} (h : Rd F a o) : Rd H a o := by
  rcases h with h | ⟨u, h⟩
  · exact .inl (x a o h)
  · exact .inr ⟨u, x a _ h⟩
theorem sqL_xt {K : PySem.W.Frag} {F H : Hp} (x : Ex F H) {a : Addr} {vs : List V} (h : SqL K F a vs) : SqL K H a vs := h.imp (Rd.xt x) id
theorem sqT_xt {K : PySem.W.Frag} {F H : Hp} (x : Ex F H) {a : Addr} {vs : List V} (h : SqT K F a vs) : SqT K H a vs := h.imp (Rd.xt x) id

/-! ### what a heap bears -/
section
variable (K : PySem.W.Frag) (cl : Str → Option Addr) (F : Hp)
mutual
def Rp : D → V → Prop
  | .non, v => v = .non
  | .bl b, v => v = .bl b
  | .int i, v => v = .int i
  | .str x, v => v = .str x
  | .tup ds, v => ∃ a vs, v = .ref a ∧ F a = some (.tup vs) ∧ RpL ds vs
  | .wt ds, v => ∃ a vs, v = .ref a ∧ SqT K F a vs ∧ RpL ds vs
  | .lst ds, v => ∃ a vs, v = .ref a ∧ F a = some (.lst vs) ∧ RpL ds vs
  | .scr ds, v => ∃ a vs, v = .ref a ∧ SqL K F a vs ∧ RpL ds vs
  | .dk ks ds, v => ∃ a vs, v = .ref a ∧ (∃ o, F a = some (.frz o (.dK (ks.zip vs)))) ∧ ks.length = vs.length ∧ RpL ds vs
  | .dt ks ds, v => ∃ a vs, v = .ref a ∧ (∃ o, F a = some (.frz o (.dT (ks.zip vs)))) ∧ ks.length = vs.length ∧ RpL ds vs
  | .obj c fs ds, v => ∃ a C dx vs, v = .ref a ∧ cl c = some C ∧ F a = some (.ins C dx (fs.zip vs)) ∧ fs.length = vs.length ∧ RpL ds vs
def RpL : List D → List V → Prop
  | [], vs => vs = []
  | d :: ds, vs => ∃ v r, vs = v :: r ∧ Rp d v ∧ RpL ds r
end
end
section
variable {K : PySem.W.Frag} {cl : Str → Option Addr} {F H : Hp}
mutual
theorem Rp.xt (x : Ex F H) : ∀ (d : D) (v : V), Rp K cl F d v → Rp K cl H d v
  | .non, v, h => h
  | .bl b, v, h => h
  | .int i, v, h => h
  | .str s, v, h => h
  | .tup ds, v, h => by
    obtain ⟨a, vs, e, q, r⟩ := h
    exact ⟨a, vs, e, x a _ q, RpL.xt x ds vs r⟩
  | .wt ds, v, h => by
    obtain ⟨a, vs, e, q, r⟩ := h
    exact ⟨a, vs, e, sqT_xt x q, RpL.xt x ds vs r⟩
  | .lst ds, v, h => by
    obtain ⟨a, vs, e, q, r⟩ := h
    exact ⟨a, vs, e, x a _ q, RpL.xt x ds vs r⟩
  | .scr ds, v, h => by
    obtain ⟨a, vs, e, q, r⟩ := h
    exact ⟨a, vs, e, sqL_xt x q, RpL.xt x ds vs r⟩
  | .dk ks ds, v, h => by
    obtain ⟨a, vs, e, ⟨o, q⟩, l, r⟩ := h
    exact ⟨a, vs, e, ⟨o, x a _ q⟩, l, RpL.xt x ds vs r⟩
  | .dt ks ds, v, h => by
    obtain ⟨a, vs, e, ⟨o, q⟩, l, r⟩ := h
    exact ⟨a, vs, e, ⟨o, x a _ q⟩, l, RpL.xt x ds vs r⟩
  | .obj c fs ds, v, h => by
    obtain ⟨a, C, dx, vs, e, q, l, n, r⟩ := h
    exact ⟨a, C, dx, vs, e, q, x a _ l, n, RpL.xt x ds vs r⟩
theorem RpL.xt (x : Ex F H) : ∀ (ds : List D) (vs : List V), RpL K cl F ds vs → RpL K cl H ds vs
  | [], vs, h => h
  | d :: ds, vs, h => by
    obtain ⟨v, r, e, q, t⟩ := h
    exact ⟨v, r, e, Rp.xt x d v q, RpL.xt x ds r t⟩
end
theorem RpL.length : ∀ {ds : List D} {vs : List V}, RpL K cl F ds vs → ds.length = vs.length
  | [], vs, h => by cases (show vs = [] from h); rfl
  | d :: ds, vs, h => by
    obtain ⟨v, r, e, q, t⟩ := h
    subst e
    simp [RpL.length t]
theorem RpL.get : ∀ {ds : List D} {vs : List V} {i : Nat} {d : D}, RpL K cl F ds vs → ds[i]? = some d → ∃ v, vs[i]? = some v ∧ Rp K cl F d v
  | [], _, _, _, _, e => by simp at e
  | d :: ds, vs, 0, _, h, e => by
    obtain ⟨v, r, rfl, q, t⟩ := h
    simp at e
    subst e
    exact ⟨v, rfl, q⟩
  | d :: ds, vs, i + 1, _, h, e => by
    obtain ⟨v, r, rfl, q, t⟩ := h
    obtain ⟨u, e1, e2⟩ := RpL.get (i := i) t (by simpa using e)
    exact ⟨u, by simpa using e1, e2⟩
theorem RpL.append : ∀ {ds es : List D} {vs us : List V}, RpL K cl F ds vs → RpL K cl F es us → RpL K cl F (ds ++ es) (vs ++ us)
  | [], _, vs, _, h, k => by cases (show vs = [] from h); exact k
  | d :: ds, _, vs, _, h, k => by
    obtain ⟨v, r, rfl, q, t⟩ := h
    exact ⟨v, _, rfl, q, RpL.append t k⟩
theorem RpL.of_get : ∀ {ds : List D} {vs : List V}, ds.length = vs.length → (∀ (i : Nat) (d : D) (v : V), ds[i]? = some d → vs[i]? = some v → Rp K cl F d v) → RpL K cl F ds vs
  | [], [], _, _ => rfl
  | [], _ :: _, h, _ => by simp at h
  | _ :: _, [], h, _ => by simp at h
  | d :: ds, v :: vs, h, k => ⟨v, vs, rfl, k 0 d v rfl rfl, RpL.of_get (by simpa using h) fun i a b e1 e2 => k (i + 1) a b (by simpa using e1) (by simpa using e2)⟩
end

/-- the heap's side: what is frozen, the heap, the cells' places -/
structure Y where
  F : Hp
  H : Hp
  m : List Addr
/-- things may be frozen and cells made -/
structure Gr (y z : Y) : Prop where
  f : Ex y.F z.F
  m : y.m <+: z.m
theorem Gr.refl (y : Y) : Gr y y := ⟨Ex.refl _, List.prefix_refl _⟩
theorem Gr.trans {a b c : Y} (x : Gr a b) (y : Gr b c) : Gr a c := ⟨x.f.trans y.f, x.m.trans y.m⟩

/-- a slot's value -/
def RW (K : PySem.W.Frag) (cl : Str → Option Addr) (y : Y) : W → V → Prop
  | .da d, v => Rp K cl y.F d v
  | .lo n, v => ∃ a, y.m[n]? = some a ∧ v = .ref a
  | .xc, _ => False
abbrev RWL (K : PySem.W.Frag) (cl : Str → Option Addr) (y : Y) (ws : List W) (vs : List V) : Prop := Paired (RW K cl y) ws vs
abbrev RWP {κ : Type} (K : PySem.W.Frag) (cl : Str → Option Addr) (y : Y) (kws : List (κ × W)) (kvs : List (κ × V)) : Prop := Paired (fun p q => p.1 = q.1 ∧ RW K cl y p.2 q.2) kws kvs
theorem pre_get {ms ms' : List Addr} {n : Nat} {a : Addr} (p : ms <+: ms') (e : ms[n]? = some a) : ms'[n]? = some a := by
  obtain ⟨t, rfl⟩ := p
  rw [List.getElem?_append_left (List.getElem?_eq_some_iff.mp e).1]; exact e
theorem RW.grow {K : PySem.W.Frag} {cl : Str → Option Addr} {y z : Y} (g : Gr y z) : ∀ {w : W} {v : V}, RW K cl y w v → RW K cl z w v
  | .da d, v, h => Rp.xt g.f d v h
  | .lo n, v, h => by
    obtain ⟨a, e, rfl⟩ := h
    exact ⟨a, pre_get g.m e, rfl⟩
  | .xc, _, h => h.elim
theorem RWL.grow {K : PySem.W.Frag} {cl : Str → Option Addr} {y z : Y} (g : Gr y z) {ws : List W} {vs : List V} (h : RWL K cl y ws vs) : RWL K cl z ws vs :=
  Paired.mapP h fun _ _ q => q.grow g
theorem RWP.grow {κ : Type} {K : PySem.W.Frag} {cl : Str → Option Addr} {y z : Y} (g : Gr y z) {ws : List (κ × W)} {vs : List (κ × V)} (h : RWP K cl y ws vs) : RWP K cl z ws vs :=
  Paired.mapP h fun _ _ q => ⟨q.1, q.2.grow g⟩

def CellR (K : PySem.W.Frag) (cl : Str → Option Addr) (y : Y) (a : Addr) : Cell → Prop
  | .lst ws => ∃ vs, y.H a = some (.lst vs) ∧ RWL K cl y ws vs
  | .tup ws => ∃ vs, y.H a = some (.tup vs) ∧ RWL K cl y ws vs
  | .dk kws => ∃ kvs, y.H a = some (.dK kvs) ∧ RWP K cl y kws kvs
  | .dt kws => ∃ kvs, y.H a = some (.dT kvs) ∧ RWP K cl y kws kvs
  | .ins c fws => ∃ C dx fvs, cl c = some C ∧ y.H a = some (.ins C dx fvs) ∧ RWP K cl y fws fvs
  | .dead => True
theorem CellR.there {K : PySem.W.Frag} {cl : Str → Option Addr} {y : Y} {a : Addr} : ∀ {c : Cell}, c ≠ .dead → CellR K cl y a c → ∃ o, y.H a = some o
  | .lst _, _, ⟨_, e, _⟩ => ⟨_, e⟩
  | .tup _, _, ⟨_, e, _⟩ => ⟨_, e⟩
  | .dk _, _, ⟨_, e, _⟩ => ⟨_, e⟩
  | .dt _, _, ⟨_, e, _⟩ => ⟨_, e⟩
  | .ins _ _, _, ⟨_, _, _, _, e, _⟩ => ⟨_, e⟩
  | .dead, h, _ => absurd rfl h
theorem CellR.grow {K : PySem.W.Frag} {cl : Str → Option Addr} {y z : Y} {a : Addr} (g : Gr y z) (e : ∀ o, y.H a = some o → z.H a = some o) : ∀ {c : Cell}, CellR K cl y a c → CellR K cl z a c
  | .lst _, ⟨vs, h, r⟩ => ⟨vs, e _ h, RWL.grow g r⟩
  | .tup _, ⟨vs, h, r⟩ => ⟨vs, e _ h, RWL.grow g r⟩
  | .dk _, ⟨vs, h, r⟩ => ⟨vs, e _ h, RWP.grow g r⟩
  | .dt _, ⟨vs, h, r⟩ => ⟨vs, e _ h, RWP.grow g r⟩
  | .ins _ _, ⟨C, dx, vs, k, h, r⟩ => ⟨C, dx, vs, k, e _ h, RWP.grow g r⟩
  | .dead, _ => trivial

/-- a tuple: it never changes -/
def IsT (o : HO) : Prop := ∃ xs, o = .tup xs
theorem CellR.tup_of {K : PySem.W.Frag} {cl : Str → Option Addr} {y : Y} {a : Addr} {o : HO} (h : y.H a = some o) (t : IsT o) : ∀ {c : Cell}, c ≠ .dead → CellR K cl y a c → ∃ ws, c = .tup ws
  | .tup ws, _, _ => ⟨ws, rfl⟩
  | .lst _, _, ⟨_, e, _⟩ => by obtain ⟨xs, rfl⟩ := t; rw [h] at e; cases e
  | .dk _, _, ⟨_, e, _⟩ => by obtain ⟨xs, rfl⟩ := t; rw [h] at e; cases e
  | .dt _, _, ⟨_, e, _⟩ => by obtain ⟨xs, rfl⟩ := t; rw [h] at e; cases e
  | .ins _ _, _, ⟨_, _, _, _, e, _⟩ => by obtain ⟨xs, rfl⟩ := t; rw [h] at e; cases e
  | .dead, hd, _ => absurd rfl hd

/-- the heap bears the store -/
structure Bs (K : PySem.W.Frag) (cl : Str → Option Addr) (y : Y) (S : Sto) : Prop where
  fz : Ex y.F y.H
  len : y.m.length = S.length
  nd : y.m.Nodup
  has : ∀ a ∈ y.m, y.H a ≠ none
  cell : ∀ (n : Nat) (c : Cell), S[n]? = some c → c ≠ .dead → ∃ a, y.m[n]? = some a ∧ (y.F a = none ∨ ∃ ws, c = .tup ws) ∧ CellR K cl y a c

/-- what stood at the entry -/
structure Cn where
  H0 : Hp
  F0 : Hp
  m0 : List Addr
structure Fm (C : Cn) (y : Y) : Prop where
  hf : Ex C.F0 y.F
  keep : ∀ b o, C.H0 b = some o → b ∉ C.m0 → y.H b = some o
  dom : ∀ b, y.H b = none → C.H0 b = none
  newF : ∀ b o, y.F b = some o → C.F0 b = some o ∨ C.H0 b = none ∨ b ∈ C.m0 ∨ IsT o
  newC : ∀ a ∈ y.m, a ∈ C.m0 ∨ C.H0 a = none
  pre : C.m0 <+: y.m
def Y.cn (y : Y) : Cn := ⟨y.H, y.F, y.m⟩
/-- behind a part that ran by itself -/
theorem Fm.trans {C : Cn} {y z : Y} (a : Fm C y) (b : Fm y.cn z) : Fm C z := by
  have nm : ∀ c o, C.H0 c = some o → c ∉ C.m0 → c ∉ y.m := fun c o e n h => by
    rcases a.newC c h with q | q
    · exact n q
    · rw [q] at e; cases e
  refine ⟨a.hf.trans b.hf, fun c o e n => ?_, fun c e => a.dom c (b.dom c e), fun c o e => ?_, fun c h => ?_, a.pre.trans b.pre⟩
  · exact b.keep c o (a.keep c o e n) (nm c o e n)
  · rcases b.newF c o e with q | q | q | q
    · exact a.newF c o q
    · exact .inr (.inl (a.dom c q))
    · rcases a.newC c q with z | z
      · exact .inr (.inr (.inl z))
      · exact .inr (.inl z)
    · exact .inr (.inr (.inr q))
  · rcases b.newC c h with q | q
    · exact a.newC c q
    · exact .inr (a.dom c q)
theorem Fm.gr {y z : Y} (b : Fm y.cn z) : Gr y z := ⟨b.hf, b.pre⟩
theorem Fm.start (y : Y) : Fm y.cn y := ⟨Ex.refl _, fun _ _ e _ => e, fun _ e => e, fun _ _ e => .inl e, fun _ h => .inl h, List.prefix_refl _⟩
/-- what a slot holds: also the error that a suite has caught -/
def RS (K : PySem.W.Frag) (cl : Str → Option Addr) (y : Y) (xa : Option (Nat × Addr)) (i : Nat) : W → V → Prop
  | .da d, v => Rp K cl y.F d v
  | .lo n, v => ∃ a, y.m[n]? = some a ∧ v = .ref a
  | .xc, v => ∃ a, xa = some (i, a) ∧ v = .ref a
theorem RW.rs {K : PySem.W.Frag} {cl : Str → Option Addr} {y : Y} {xa : Option (Nat × Addr)} {i : Nat} : ∀ {w : W} {v : V}, RW K cl y w v → RS K cl y xa i w v
  | .da _, _, h => h
  | .lo _, _, h => h
  | .xc, _, h => h.elim
theorem RS.grow {K : PySem.W.Frag} {cl : Str → Option Addr} {y z : Y} {xa : Option (Nat × Addr)} {i : Nat} (g : Gr y z) : ∀ {w : W} {v : V}, RS K cl y xa i w v → RS K cl z xa i w v
  | .da d, v, h => RW.grow (K := K) (cl := cl) (w := .da d) g h
  | .lo n, v, h => RW.grow (K := K) (cl := cl) (w := .lo n) g h
  | .xc, _, h => h
structure Sim (K : PySem.W.Frag) (cl : Str → Option Addr) (xa : Option (Nat × Addr)) (C : Cn) (y : Y) (σ : St) (ρ : Rho) (S : Sto) : Prop where
  bs : Bs K cl y S
  fm : Fm C y
  len : σ.length = ρ.length
  slot : ∀ (i : Nat) (w : W), ρ[i]? = some (some w) → ∃ v, σ[i]? = some (some v) ∧ RS K cl y xa i w v

/-- new frozen things alone -/
structure Al (F H F' H' : Hp) : Prop where
  f : Ex F F'
  h : Ex H H'
  x : Ex F' H'
  n : ∀ b o, F' b = some o → F b = some o ∨ H b = none ∨ IsT o
theorem Al.refl {F H : Hp} (x : Ex F H) : Al F H F H := ⟨Ex.refl _, Ex.refl _, x, fun _ _ e => .inl e⟩
theorem Al.trans {F H F' H' G I : Hp} (a : Al F H F' H') (b : Al F' H' G I) : Al F H G I :=
  ⟨a.f.trans b.f, a.h.trans b.h, b.x, fun c o e => by
    rcases b.n c o e with z | z | z
    · exact a.n c o z
    · refine .inr (.inl ?_)
      cases q : H c with
      | none => rfl
      | some u => rw [a.h c u q] at z; cases z
    · exact .inr (.inr z)⟩
theorem Al.new {F H : Hp} {p : Addr} {o : HO} (x : Ex F H) (h : H p = none) : Al F H (upd F p o) (upd H p o) :=
  ⟨Ex.new (x.no h), Ex.new h, fun b u e => by
    by_cases z : b = p
    · subst z; rw [upd_same] at e ⊢; exact e
    · rw [upd_ne z] at e ⊢; exact x b u e, fun b u e => by
    by_cases z : b = p
    · subst z; exact .inr (.inl h)
    · rw [upd_ne z] at e; exact .inl e⟩
/-- an old tuple is taken in -/
theorem Al.tup {F H : Hp} {p : Addr} {xs : List V} (x : Ex F H) (h : H p = some (.tup xs)) : Al F H (upd F p (.tup xs)) H :=
  ⟨fun b u e => by
    by_cases z : b = p
    · subst z; rw [x b u e] at h; cases h; exact upd_same
    · rw [upd_ne z]; exact e, Ex.refl _, fun b u e => by
    by_cases z : b = p
    · subst z; rw [upd_same] at e; cases e; exact h
    · rw [upd_ne z] at e; exact x b u e, fun b u e => by
    by_cases z : b = p
    · subst z; rw [upd_same] at e; cases e; exact .inr (.inr ⟨xs, rfl⟩)
    · rw [upd_ne z] at e; exact .inl e⟩
/-- a new thing that is not frozen -/
theorem Al.own {F H : Hp} {p : Addr} {o : HO} (x : Ex F H) (h : H p = none) : Al F H F (upd H p o) :=
  ⟨Ex.refl _, Ex.new h, x.trans (Ex.new h), fun b u e => .inl e⟩
theorem Al.gr {y : Y} {F' H' : Hp} (a : Al y.F y.H F' H') : Gr y ⟨F', H', y.m⟩ := ⟨a.f, List.prefix_refl _⟩

section
variable {K : PySem.W.Frag} {cl : Str → Option Addr} {xa : Option (Nat × Addr)} {C : Cn} {F' H' : Hp} {y z : Y} {σ : St} {ρ : Rho} {S S' : Sto}
theorem Bs.al (b : Bs K cl y S) (a : Al y.F y.H F' H') : Bs K cl ⟨F', H', y.m⟩ S :=
  ⟨a.x, b.len, b.nd, (fun q hq e => b.has q hq (by
    cases z : y.H q with
    | none => rfl
    | some u => rw [show (⟨F', H', y.m⟩ : Y).H q = some u from a.h q u z] at e; cases e)), fun n c e d => by
    obtain ⟨q, e1, e2, e3⟩ := b.cell n c e d
    refine ⟨q, e1, ?_, CellR.grow a.gr (fun o z => a.h q o z) e3⟩
    show F' q = none ∨ _
    rcases e2 with e2 | e2
    · cases z : F' q with
      | none => exact .inl rfl
      | some o =>
        obtain ⟨u, hu⟩ := CellR.there d e3
        rcases a.n q o z with t | t | t
        · rw [e2] at t; cases t
        · rw [hu] at t; cases t
        · have := a.h q u hu
          rw [a.x q o z] at this
          cases this
          exact .inr (CellR.tup_of hu t d e3)
    · exact .inr e2⟩
theorem Fm.al (f : Fm C y) (a : Al y.F y.H F' H') : Fm C ⟨F', H', y.m⟩ :=
  ⟨f.hf.trans a.f, fun b o e n => a.h b o (f.keep b o e n), (fun b e => f.dom b (by
    cases q : y.H b with
    | none => rfl
    | some u => rw [show (⟨F', H', y.m⟩ : Y).H b = some u from a.h b u q] at e; cases e)),
   (fun b o e => by
    rcases a.n b o e with z | z | z
    · exact f.newF b o z
    · exact .inr (.inl (f.dom b z))
    · exact .inr (.inr (.inr z))), f.newC, f.pre⟩
theorem Sim.al (s : Sim K cl xa C y σ ρ S) (a : Al y.F y.H F' H') : Sim K cl xa C ⟨F', H', y.m⟩ σ ρ S :=
  ⟨s.bs.al a, s.fm.al a, s.len, fun i w e => by
    obtain ⟨v, h1, h2⟩ := s.slot i w e
    exact ⟨v, h1, h2.grow a.gr⟩⟩
/-- a part that ran by itself -/
theorem Sim.after (s : Sim K cl xa C y σ ρ S) (b : Bs K cl z S') (f : Fm y.cn z) : Sim K cl xa C z σ ρ S' :=
  ⟨b, s.fm.trans f, s.len, fun i w e => by
    obtain ⟨v, h1, h2⟩ := s.slot i w e
    exact ⟨v, h1, h2.grow f.gr⟩⟩
theorem Bs.rebase (b : Bs K cl y S) (len : σ.length = ρ.length) (slot : ∀ (i : Nat) (w : W), ρ[i]? = some (some w) → ∃ v, σ[i]? = some (some v) ∧ RS K cl y xa i w v) : Sim K cl xa y.cn y σ ρ S := ⟨b, Fm.start y, len, slot⟩
theorem Sim.rebase (s : Sim K cl xa C y σ ρ S) : Sim K cl xa y.cn y σ ρ S := ⟨s.bs, Fm.start y, s.len, s.slot⟩
end

/-! ### exceptions -/
def XR (K : PySem.W.Frag) (cl : Str → Option Addr) (y : Y) (x : Exn) (cls : Value) (dd : Option Addr) : Prop :=
  ∃ C, cl x.c = some C ∧ cls = .ref C ∧ ((x.fs = [] ∧ dd = none) ∨ (x.fs ≠ [] ∧ ∃ d vs, dd = some d ∧ y.F d = some (.xd (x.fs.zip vs)) ∧ x.fs.length = vs.length ∧ RWL K cl y x.ws vs))
theorem XR.grow {K : PySem.W.Frag} {cl : Str → Option Addr} {y z : Y} {x : Exn} {cls : Value} {dd : Option Addr} (g : Gr y z) (h : XR K cl y x cls dd) : XR K cl z x cls dd := by
  obtain ⟨C, h1, h2, h3⟩ := h
  refine ⟨C, h1, h2, h3.imp id ?_⟩
  rintro ⟨h4, d, vs, h5, h6, h7, h8⟩
  exact ⟨h4, d, vs, h5, g.f d _ h6, h7, RWL.grow g h8⟩

/-! ### the judgements over readings -/
def Post {a : Type} (K : PySem.W.Frag) (cl : Str → Option Addr) (xa : Option (Nat × Addr)) (C : Cn) (Wx : WX) (y : Y) (σ : St) (ρ : Rho) (r : Rs a) (P : a → Sto → Prop) : Prop := match r with
  | .ok w S => P w S
  | .ex x S => ∀ cls dd z, Sim K cl xa C z σ ρ S → Gr y z → XR K cl z x cls dd → Wx cls dd σ z.H
  | .stuck => False
section
variable {a b : Type} {K : PySem.W.Frag} {cl : Str → Option Addr} {xa : Option (Nat × Addr)} {C : Cn} {Wx : WX} {y z : Y} {σ : St} {ρ : Rho} {r : Rs a} {P P' : a → Sto → Prop}
theorem Post.bind {k : a → Sto → Rs b} {P : b → Sto → Prop} (h : Post K cl xa C Wx y σ ρ (r.bind k) P) : Post K cl xa C Wx y σ ρ r (fun w S => Post K cl xa C Wx y σ ρ (k w S) P) := by
  cases r <;> exact h
theorem Post.imp (h : Post K cl xa C Wx y σ ρ r P) (k : ∀ w S, P w S → P' w S) : Post K cl xa C Wx y σ ρ r P' := by
  cases r with
  | ok w S => exact k w S h
  | ex x S => exact h
  | stuck => exact h
theorem Post.mono (x : Gr y z) (h : Post K cl xa C Wx y σ ρ r P) : Post K cl xa C Wx z σ ρ r P := by
  cases r with
  | ok w S => exact h
  | ex e S => exact fun cls dd z2 s g q => h cls dd z2 s (x.trans g) q
  | stuck => exact h
/-- on: with what is known behind -/
theorem Post.go {k : a → Sto → Rs b} {P : b → Sto → Prop} (h : Post K cl xa C Wx y σ ρ (r.bind k) P) (f : ∀ w S, (∀ z, Gr y z → Post K cl xa C Wx z σ ρ (k w S) P) → P' w S) : Post K cl xa C Wx y σ ρ r P' :=
  Post.imp (Post.bind h) fun w S q => f w S fun _ g => q.mono g
end
abbrev OkE (K : PySem.W.Frag) (cl : Str → Option Addr) (xa : Option (Nat × Addr)) (C : Cn) (y : Y) (σ : St) (ρ : Rho) (Q : VK) : W → Sto → Prop := fun w S => ∀ v z, Sim K cl xa C z σ ρ S → Gr y z → RW K cl z w v → Q v z.H
abbrev OkA (K : PySem.W.Frag) (cl : Str → Option Addr) (xa : Option (Nat × Addr)) (C : Cn) (y : Y) (σ : St) (ρ : Rho) (Q : List V → Hp → Prop) : List W → Sto → Prop := fun ws S => ∀ vs z, Sim K cl xa C z σ ρ S → Gr y z → RWL K cl z ws vs → Q vs z.H
abbrev OkT (K : PySem.W.Frag) (cl : Str → Option Addr) (xa : Option (Nat × Addr)) (C : Cn) (y : Y) (σ : St) (ρ : Rho) (Q : Bool → Hp → Prop) : Bool → Sto → Prop := fun b S => ∀ z, Sim K cl xa C z σ ρ S → Gr y z → Q b z.H
def SE (K : PySem.W.Frag) (cl : Str → Option Addr) (xa : Option (Nat × Addr)) (Wx : WX) (te : TE) (m : ME) : Prop := ∀ C y σ ρ S, Sim K cl xa C y σ ρ S → ∀ Q, Post K cl xa C Wx y σ ρ (m ρ S) (OkE K cl xa C y σ ρ Q) → te σ y.H Q
def SA (K : PySem.W.Frag) (cl : Str → Option Addr) (xa : Option (Nat × Addr)) (Wx : WX) (ta : TA) (m : MA) : Prop := ∀ C y σ ρ S, Sim K cl xa C y σ ρ S → ∀ Q, Post K cl xa C Wx y σ ρ (m ρ S) (OkA K cl xa C y σ ρ Q) → ta σ y.H Q
def ST (K : PySem.W.Frag) (cl : Str → Option Addr) (xa : Option (Nat × Addr)) (Wx : WX) (tt : TT) (m : MT) : Prop := ∀ C y σ ρ S, Sim K cl xa C y σ ρ S → ∀ Q, Post K cl xa C Wx y σ ρ (m ρ S) (OkT K cl xa C y σ ρ Q) → tt σ y.H Q
def PostS (K : PySem.W.Frag) (cl : Str → Option Addr) (xa : Option (Nat × Addr)) (C : Cn) (Wx : WX) (y : Y) (r : Out) (Z : Ends) : Prop := match r with
  | .nx ρ S => ∀ σ' z, Sim K cl xa C z σ' ρ S → Gr y z → Z.nx σ' z.H
  | .rt w S => ∀ v σ' ρ' z, Sim K cl xa C z σ' ρ' S → Gr y z → RW K cl z w v → Z.rt v z.H
  | .bk ρ S => ∀ σ' z, Sim K cl xa C z σ' ρ S → Gr y z → Z.bk σ' z.H
  | .ct ρ S => ∀ σ' z, Sim K cl xa C z σ' ρ S → Gr y z → Z.ct σ' z.H
  | .ex x ρ S => ∀ cls dd σ' z, Sim K cl xa C z σ' ρ S → Gr y z → XR K cl z x cls dd → Wx cls dd σ' z.H
  | .stuck => False
theorem PostS.mono {K : PySem.W.Frag} {cl : Str → Option Addr} {xa : Option (Nat × Addr)} {C : Cn} {Wx : WX} {y z : Y} {r : Out} {Z : Ends} (x : Gr y z) (h : PostS K cl xa C Wx y r Z) : PostS K cl xa C Wx z r Z := by
  cases r with
  | nx ρ S => exact fun a b c d => h a b c (x.trans d)
  | rt w S => exact fun v a r b c d e => h v a r b c (x.trans d) e
  | bk ρ S => exact fun a b c d => h a b c (x.trans d)
  | ct ρ S => exact fun a b c d => h a b c (x.trans d)
  | ex e ρ S => exact fun c1 c2 a b c d k => h c1 c2 a b c (x.trans d) k
  | stuck => exact h
def Rs.out {a : Type} (r : Rs a) (ρ : Rho) (k : a → Sto → Out) : Out := match r with
  | .ok w S => k w S
  | .ex x S => .ex x ρ S
  | .stuck => .stuck
theorem PostS.go {a : Type} {K : PySem.W.Frag} {cl : Str → Option Addr} {xa : Option (Nat × Addr)} {C : Cn} {Wx : WX} {y : Y} {σ : St} {ρ : Rho} {r : Rs a} {k : a → Sto → Out} {Z : Ends} {P : a → Sto → Prop}
    (h : PostS K cl xa C Wx y (r.out ρ k) Z) (f : ∀ w S, (∀ z, Gr y z → PostS K cl xa C Wx z (k w S) Z) → P w S) : Post K cl xa C Wx y σ ρ r P := by
  cases r with
  | ok w S => exact f w S fun z x => PostS.mono x h
  | ex x S => exact fun cls dd z s g q => h cls dd σ z s g q
  | stuck => exact h
def SS (K : PySem.W.Frag) (cl : Str → Option Addr) (xa : Option (Nat × Addr)) (Wx : WX) (ts : TS) (m : MS) : Prop := ∀ C y σ ρ S, Sim K cl xa C y σ ρ S → ∀ Z, PostS K cl xa C Wx y (m ρ S) Z → ts Z σ y.H

/-! ### fused: a piece of syntax and its plain meaning -/
def QE (X : Cx) (cl : Str → Option Addr) (xa : Option (Nat × Addr)) (Wx : WX) (e : Expr) (m : ME) : Prop := ∃ te, PE X e te ∧ SE X.K cl xa Wx te m
def QA (X : Cx) (cl : Str → Option Addr) (xa : Option (Nat × Addr)) (Wx : WX) (es : List Expr) (m : MA) : Prop := ∃ ta, PA X es ta ∧ SA X.K cl xa Wx ta m
def QT (X : Cx) (cl : Str → Option Addr) (xa : Option (Nat × Addr)) (Wx : WX) (e : Expr) (m : MT) : Prop := ∃ tt, PT X e tt ∧ ST X.K cl xa Wx tt m
def QW (X : Cx) (cl : Str → Option Addr) (xa : Option (Nat × Addr)) (Wx : WX) (e : Expr) (m : MT) : Prop := ∃ tt, PW X e tt ∧ ST X.K cl xa Wx tt m
def QS (X : Cx) (cl : Str → Option Addr) (xa : Option (Nat × Addr)) (Wx : WX) (st : Stmt) (m : MS) : Prop := ∃ ts, PS X st ts ∧ SS X.K cl xa Wx ts m
def QB (X : Cx) (cl : Str → Option Addr) (xa : Option (Nat × Addr)) (Wx : WX) (st : List Stmt) (m : MS) : Prop := ∃ ts, PSs X st ts ∧ SS X.K cl xa Wx ts m

/-! ### cells made, changed, frozen -/
section
variable {K : PySem.W.Frag} {cl : Str → Option Addr} {xa : Option (Nat × Addr)} {C : Cn} {y : Y} {σ : St} {ρ : Rho} {S : Sto}
theorem nd_ix {ms : List Addr} (h : ms.Nodup) {i j : Nat} {a : Addr} (e1 : ms[i]? = some a) (e2 : ms[j]? = some a) : i = j := by
  obtain ⟨h1, q1⟩ := List.getElem?_eq_some_iff.mp e1
  obtain ⟨h2, q2⟩ := List.getElem?_eq_some_iff.mp e2
  exact (List.getElem_inj h).mp (q1.trans q2.symm)
def Y.new (y : Y) (p : Addr) (o : HO) : Y := ⟨y.F, upd y.H p o, y.m ++ [p]⟩
def Y.up (y : Y) (p : Addr) (o : HO) : Y := ⟨y.F, upd y.H p o, y.m⟩
def Y.fz (y : Y) (p : Addr) (o : HO) : Y := ⟨upd y.F p o, y.H, y.m⟩
theorem Y.gr_new (y : Y) (p : Addr) (o : HO) : Gr y (y.new p o) := ⟨Ex.refl _, List.prefix_append _ _⟩
theorem Sim.newCell (s : Sim K cl xa C y σ ρ S) {p : Addr} {o : HO} {c : Cell} (hp : y.H p = none) (hc : CellR K cl (y.new p o) p c) : Sim K cl xa C (y.new p o) σ ρ (S ++ [c]) := by
  have ne : ∀ a ∈ y.m, a ≠ p := fun a ha e => s.bs.has a ha (by rw [e]; exact hp)
  have ex : Ex y.H (upd y.H p o) := Ex.new hp
  have g := y.gr_new p o
  refine ⟨⟨s.bs.fz.trans ex, by simp [Y.new, s.bs.len], ?_, ?_, ?_⟩, ⟨s.fm.hf, fun b u e n => ex b u (s.fm.keep b u e n), fun b e => ?_, s.fm.newF, fun a ha => ?_, s.fm.pre.trans g.m⟩, s.len, fun i w e => ?_⟩
  · show (y.m ++ [p]).Nodup
    rw [List.nodup_append]
    exact ⟨s.bs.nd, by simp, fun a ha b hb => by simp at hb; subst hb; exact ne a ha⟩
  · intro a ha
    show upd y.H p o a ≠ none
    rcases List.mem_append.mp ha with h | h
    · rw [upd_ne (ne a h)]; exact s.bs.has a h
    · simp at h; subst h; rw [upd_same]; simp
  · intro n c' e d
    by_cases hn : n < S.length
    · rw [List.getElem?_append_left hn] at e
      obtain ⟨a, e1, e2, e3⟩ := s.bs.cell n c' e d
      exact ⟨a, pre_get g.m e1, e2, CellR.grow g (fun u z => ex a u z) e3⟩
    · have hl : n = S.length := by
        have := (List.getElem?_eq_some_iff.mp e).1
        simp at this; omega
      subst hl
      rw [List.getElem?_append_right (Nat.le_refl _)] at e
      simp at e
      subst e
      exact ⟨p, by show (y.m ++ [p])[S.length]? = some p; rw [← s.bs.len, List.getElem?_append_right (Nat.le_refl _)]; simp, .inl (s.bs.fz.no hp), hc⟩
  · refine s.fm.dom b ?_
    cases z : y.H b with
    | none => rfl
    | some u => rw [show (y.new p o).H b = some u from ex b u z] at e; cases e
  · rcases List.mem_append.mp ha with h | h
    · exact s.fm.newC a h
    · simp at h; subst h; exact .inr (s.fm.dom a hp)
  · obtain ⟨v, e1, e2⟩ := s.slot i w e
    exact ⟨v, e1, e2.grow g⟩
theorem Sim.upCell (s : Sim K cl xa C y σ ρ S) {n : Nat} {a : Addr} {o : HO} {c c' : Cell} (e : S[n]? = some c) (hl : c ≠ .dead) (ea : y.m[n]? = some a) (hc : CellR K cl (y.up a o) a c') (hnt : ∀ ws, c ≠ .tup ws := by intro ws z; cases z) : Sim K cl xa C (y.up a o) σ ρ (S.set n c') := by
  obtain ⟨a', e1, e2, e3⟩ := s.bs.cell n c e hl
  have e2 : y.F a' = none := e2.elim id fun ⟨ws, z⟩ => absurd z (hnt ws)
  rw [ea] at e1; cases e1
  have ham : a ∈ y.m := List.mem_of_getElem? ea
  have neF : ∀ b o, y.F b = some o → b ≠ a := fun b o h z => by rw [z, e2] at h; cases h
  have hn : n < S.length := (List.getElem?_eq_some_iff.mp e).1
  have g : Gr y (y.up a o) := ⟨Ex.refl _, List.prefix_refl _⟩
  refine ⟨⟨fun b u h => ?_, by simp [Y.up, s.bs.len], s.bs.nd, fun b hb => ?_, fun k d ek hd => ?_⟩, ⟨s.fm.hf, fun b u h1 h2 => ?_, fun b h => ?_, s.fm.newF, s.fm.newC, s.fm.pre⟩, s.len, fun i w e => ?_⟩
  · show upd y.H a o b = some u
    rw [upd_ne (neF b u h)]; exact s.bs.fz b u h
  · show upd y.H a o b ≠ none
    by_cases z : b = a
    · subst z; rw [upd_same]; simp
    · rw [upd_ne z]; exact s.bs.has b hb
  · by_cases z : n = k
    · subst z
      rw [List.getElem?_set_self hn] at ek
      cases ek
      exact ⟨a, ea, .inl e2, hc⟩
    · rw [List.getElem?_set_ne z] at ek
      obtain ⟨b, f1, f2, f3⟩ := s.bs.cell k d ek hd
      have nb : b ≠ a := fun q => z (nd_ix s.bs.nd ea (by rw [← q]; exact f1))
      exact ⟨b, f1, f2, CellR.grow g (fun u q => by show upd y.H a o b = some u; rw [upd_ne nb]; exact q) f3⟩
  · have nb : b ≠ a := fun q => by
      subst q
      rcases s.fm.newC b ham with z | z
      · exact h2 z
      · rw [z] at h1; cases h1
    show upd y.H a o b = some u
    rw [upd_ne nb]; exact s.fm.keep b u h1 h2
  · have h' : upd y.H a o b = none := h
    by_cases z : b = a
    · subst z; rw [upd_same] at h'; cases h'
    · rw [upd_ne z] at h'; exact s.fm.dom b h'
  · obtain ⟨v, e1, e2⟩ := s.slot i w e
    exact ⟨v, e1, e2.grow g⟩
/-- a cell is frozen: its object joins the frozen part -/
theorem Sim.frz (s : Sim K cl xa C y σ ρ S) {n : Nat} {a : Addr} {o : HO} {c : Cell} (e : S[n]? = some c) (hl : c ≠ .dead) (ea : y.m[n]? = some a) (ho : y.H a = some o) : Sim K cl xa C (y.fz a o) σ ρ (S.set n .dead) ∧ Gr y (y.fz a o) := by
  obtain ⟨a', e1, e2, e3⟩ := s.bs.cell n c e hl
  rw [ea] at e1; cases e1
  have ham : a ∈ y.m := List.mem_of_getElem? ea
  have ex : Ex y.F (upd y.F a o) := Ex.put s.bs.fz ho
  have g : Gr y (y.fz a o) := ⟨ex, List.prefix_refl _⟩
  have hn : n < S.length := (List.getElem?_eq_some_iff.mp e).1
  refine ⟨⟨⟨fun b u h => ?_, by simp [Y.fz, s.bs.len], s.bs.nd, s.bs.has, fun k d ek hd => ?_⟩, ⟨s.fm.hf.trans ex, s.fm.keep, s.fm.dom, fun b u h => ?_, s.fm.newC, s.fm.pre⟩, s.len, fun i w h => ?_⟩, g⟩
  · have h' : upd y.F a o b = some u := h
    by_cases z : b = a
    · subst z; rw [upd_same] at h'; cases h'; exact ho
    · rw [upd_ne z] at h'; exact s.bs.fz b u h'
  · by_cases z : n = k
    · subst z
      rw [List.getElem?_set_self hn] at ek
      cases ek
      exact absurd rfl hd
    · rw [List.getElem?_set_ne z] at ek
      obtain ⟨b, f1, f2, f3⟩ := s.bs.cell k d ek hd
      have nb : b ≠ a := fun q => z (nd_ix s.bs.nd ea (by rw [← q]; exact f1))
      exact ⟨b, f1, f2.imp (fun q => by show upd y.F a o b = none; rw [upd_ne nb]; exact q) id, CellR.grow g (fun u q => q) f3⟩
  · have h' : upd y.F a o b = some u := h
    by_cases z : b = a
    · subst z
      rcases s.fm.newC b ham with q | q
      · exact .inr (.inr (.inl q))
      · exact .inr (.inl q)
    · rw [upd_ne z] at h'; exact s.fm.newF b u h'
  · obtain ⟨v, h1, h2⟩ := s.slot i w h
    exact ⟨v, h1, h2.grow g⟩
theorem Sim.set (s : Sim K cl xa C y σ ρ S) {w : W} {v : V} (i : Nat) (r : RW K cl y w v) : Sim K cl xa C y (σ.set i (some v)) (ρ.set i (some w)) S :=
  ⟨s.bs, s.fm, by rw [List.length_set, List.length_set]; exact s.len, fun j u e => by
    by_cases h : i = j
    · subst h
      by_cases hl : i < ρ.length
      · rw [List.getElem?_set_self hl] at e
        cases e
        exact ⟨v, List.getElem?_set_self (by rw [s.len]; exact hl), r.rs⟩
      · rw [List.getElem?_eq_none (by rw [List.length_set]; omega)] at e
        cases e
    · rw [List.getElem?_set_ne h] at e
      obtain ⟨u', e1, e2⟩ := s.slot j u e
      exact ⟨u', by rw [List.getElem?_set_ne h]; exact e1, e2⟩⟩
theorem Bs.at (b : Bs K cl y S) {n : Nat} {c : Cell} {a : Addr} (e : S[n]? = some c) (hl : c ≠ .dead) (ea : y.m[n]? = some a) : (y.F a = none ∨ ∃ ws, c = .tup ws) ∧ CellR K cl y a c := by
  obtain ⟨a', e1, e2, e3⟩ := b.cell n c e hl
  rw [ea] at e1; cases e1
  exact ⟨e2, e3⟩
end

/-! ### cells as data -/
def dat : W → Option D
  | .da d => some d
  | _ => none
def dats : List W → Option (List D)
  | [] => some []
  | .da d :: ws => match dats ws with
    | some ds => some (d :: ds)
    | none => none
  | _ :: _ => none
/-- what a cell is worth when it is frozen -/
def datC : Cell → Option D
  | .lst ws => (dats ws).map .lst
  | .tup ws => (dats ws).map .tup
  | .ins c fws => (dats (fws.map (·.2))).map (.obj c (fws.map (·.1)))
  | _ => none
section
variable {K : PySem.W.Frag} {cl : Str → Option Addr} {y : Y}
theorem dats_ok : ∀ {ws : List W} {vs : List V} {ds : List D}, RWL K cl y ws vs → dats ws = some ds → RpL K cl y.F ds vs
  | [], _, ds, .nil, h => by cases h; exact rfl
  | .da d :: ws, _, ds, .cons r1 r2, h => by
    simp only [dats] at h
    split at h
    · rename_i ds' e
      cases h
      exact ⟨_, _, rfl, r1, dats_ok r2 e⟩
    · cases h
  | .lo n :: ws, _, ds, .cons r1 r2, h => by simp [dats] at h
  | .xc :: ws, _, ds, .cons r1 r2, h => by simp [dats] at h
theorem rwl_da : ∀ {ds : List D} {vs : List V}, RpL K cl y.F ds vs → RWL K cl y (ds.map .da) vs
  | [], vs, h => by cases (show vs = [] from h); exact .nil
  | d :: ds, vs, h => by
    obtain ⟨v, r, rfl, q, t⟩ := h
    exact .cons q (rwl_da t)
theorem dats_da : ∀ ds : List D, dats (ds.map .da) = some ds
  | [] => rfl
  | d :: ds => by simp [dats, dats_da ds]
theorem rwp_zip {κ : Type} : ∀ {kws : List (κ × W)} {kvs : List (κ × V)}, RWP K cl y kws kvs → RWL K cl y (kws.map (·.2)) (kvs.map (·.2)) ∧ kvs = (kws.map (·.1)).zip (kvs.map (·.2))
  | _, _, .nil => ⟨.nil, rfl⟩
  | (k, w) :: kws, (k', v) :: kvs, .cons h t => by
    obtain ⟨h1, h2⟩ := rwp_zip t
    obtain ⟨e, r⟩ := h
    cases (show k = k' from e)
    refine ⟨.cons r h1, ?_⟩
    simp only [List.map_cons, List.zip_cons_cons]
    rw [← h2]
theorem datC_ok {a : Addr} {c : Cell} {d : D} (h : CellR K cl y a c) (e : datC c = some d) : ∃ o, y.H a = some o ∧ c ≠ .dead ∧ ∀ F', Ex y.F F' → F' a = some o → Rp K cl F' d (.ref a) := by
  cases c with
  | lst ws =>
    obtain ⟨vs, h1, h2⟩ := h
    simp only [datC, Option.map_eq_some_iff] at e
    obtain ⟨ds, q, rfl⟩ := e
    exact ⟨_, h1, (by intro z; cases z), fun F' x e => ⟨a, vs, rfl, e, RpL.xt x _ _ (dats_ok h2 q)⟩⟩
  | tup ws =>
    obtain ⟨vs, h1, h2⟩ := h
    simp only [datC, Option.map_eq_some_iff] at e
    obtain ⟨ds, q, rfl⟩ := e
    exact ⟨_, h1, (by intro z; cases z), fun F' x e => ⟨a, vs, rfl, e, RpL.xt x _ _ (dats_ok h2 q)⟩⟩
  | dk kws => cases e
  | dt kws => cases e
  | ins c fws =>
    obtain ⟨C, dx, fvs, h0, h1, h2⟩ := h
    simp only [datC, Option.map_eq_some_iff] at e
    obtain ⟨ds, q, rfl⟩ := e
    obtain ⟨z1, z2⟩ := rwp_zip h2
    refine ⟨_, h1, (by intro z; cases z), fun F' x e => ⟨a, C, dx, fvs.map (·.2), rfl, h0, ?_, ?_, RpL.xt x _ _ (dats_ok z1 q)⟩⟩
    · rw [← z2]; exact e
    · rw [List.length_map, List.length_map]; exact Paired.length h2
  | dead => cases e
end
/-! ### dicts that are locked for good -/
inductive Lks (Q : Hp → Prop) : Hp → Prop
  | now {H : Hp} : Q H → Lks Q H
  | lock {H : Hp} (d : Addr) (u : HO) : H d = some u → Mut (some u) → (∀ od, Lks Q (upd H d (.frz od u))) → Lks Q H
theorem Lks.run {X : Cx} {pins : List (Addr × Obj)} {σ : St} {s : Shared} {Q : Hp → Prop} : ∀ {H : Hp}, Lks Q H → Inv X pins σ H s → ∃ H', Inv X pins σ H' s ∧ Q H' := by
  intro H h
  induction h with
  | now q => exact fun I => ⟨_, I, q⟩
  | lock d u hd mu _ ih =>
    intro I
    obtain ⟨od, I1⟩ := I.lock hd mu
    exact ih od I1
/-- things are locked behind an expression -/
def tLk (t : TE) : TE := fun σ H Q => t σ H fun v H1 => Lks (Q v) H1
theorem pe_lk {X : Cx} {e : Expr} {t : TE} (h : PE X e t) : PE X e (tLk t) := by
  refine ⟨fun pins s σ H Q I hw => ?_⟩
  refine thn (h.run pins s σ _ _ I hw) fun v s1 ⟨x, H1, I1, r, q⟩ => ?_
  obtain ⟨H2, I2, q2⟩ := q.run I1
  exact ⟨x, H2, I2, r, q2⟩
section
variable {K : PySem.W.Frag} {cl : Str → Option Addr} {xa : Option (Nat × Addr)} {C : Cn} {y : Y} {σ : St} {ρ : Rho} {S : Sto}
def Y.lk (y : Y) (p : Addr) (o : HO) : Y := ⟨upd y.F p o, upd y.H p o, y.m⟩
/-- a cell is locked and frozen -/
theorem Sim.lkd (s : Sim K cl xa C y σ ρ S) {n : Nat} {a : Addr} {o : HO} {c : Cell} (e : S[n]? = some c) (hl : c ≠ .dead) (ea : y.m[n]? = some a) (hnt : ∀ ws, c ≠ .tup ws := by intro ws z; cases z) : Sim K cl xa C (y.lk a o) σ ρ (S.set n .dead) ∧ Gr y (y.lk a o) := by
  obtain ⟨a', e1, e2, e3⟩ := s.bs.cell n c e hl
  rw [ea] at e1; cases e1
  have e2 : y.F a = none := e2.elim id fun ⟨ws, z⟩ => absurd z (hnt ws)
  have ham : a ∈ y.m := List.mem_of_getElem? ea
  have ex : Ex y.F (upd y.F a o) := Ex.new e2
  have g : Gr y (y.lk a o) := ⟨ex, List.prefix_refl _⟩
  have neF : ∀ b o, y.F b = some o → b ≠ a := fun b o h z => by rw [z, e2] at h; cases h
  have hn : n < S.length := (List.getElem?_eq_some_iff.mp e).1
  refine ⟨⟨⟨fun b u h => ?_, by simp [Y.lk, s.bs.len], s.bs.nd, fun b hb => ?_, fun k d ek hd => ?_⟩, ⟨s.fm.hf.trans ex, fun b u h1 h2 => ?_, fun b h => ?_, fun b u h => ?_, s.fm.newC, s.fm.pre⟩, s.len, fun i w h => ?_⟩, g⟩
  · have h' : upd y.F a o b = some u := h
    show upd y.H a o b = some u
    by_cases z : b = a
    · subst z; rw [upd_same] at h' ⊢; exact h'
    · rw [upd_ne z] at h' ⊢; exact s.bs.fz b u h'
  · show upd y.H a o b ≠ none
    by_cases z : b = a
    · subst z; rw [upd_same]; simp
    · rw [upd_ne z]; exact s.bs.has b hb
  · by_cases z : n = k
    · subst z
      rw [List.getElem?_set_self hn] at ek
      cases ek
      exact absurd rfl hd
    · rw [List.getElem?_set_ne z] at ek
      obtain ⟨b, f1, f2, f3⟩ := s.bs.cell k d ek hd
      have nb : b ≠ a := fun q => z (nd_ix s.bs.nd ea (by rw [← q]; exact f1))
      exact ⟨b, f1, f2.imp (fun q => by show upd y.F a o b = none; rw [upd_ne nb]; exact q) id, CellR.grow g (fun u q => by show upd y.H a o b = some u; rw [upd_ne nb]; exact q) f3⟩
  · have nb : b ≠ a := fun q => by
      subst q
      rcases s.fm.newC b ham with z | z
      · exact h2 z
      · rw [z] at h1; cases h1
    show upd y.H a o b = some u
    rw [upd_ne nb]; exact s.fm.keep b u h1 h2
  · have h' : upd y.H a o b = none := h
    by_cases z : b = a
    · subst z; rw [upd_same] at h'; cases h'
    · rw [upd_ne z] at h'; exact s.fm.dom b h'
  · have h' : upd y.F a o b = some u := h
    by_cases z : b = a
    · subst z
      rcases s.fm.newC b ham with q | q
      · exact .inr (.inr (.inl q))
      · exact .inr (.inl q)
    · rw [upd_ne z] at h'; exact s.fm.newF b u h'
  · obtain ⟨v, h1, h2⟩ := s.slot i w h
    exact ⟨v, h1, h2.grow g⟩
end
/-! ### all that hangs at a place, frozen -/
mutual
def datW : Nat → Sto → W → Option (D × Sto)
  | _, S, .da d => some (d, S)
  | 0, _, _ => none
  | _ + 1, _, .xc => none
  | k + 1, S, .lo n => match S[n]? with
    | some (.lst ws) => match datWs k (S.set n .dead) ws with
      | some (ds, S') => some (.lst ds, S')
      | none => none
    | some (.tup ws) => match datWs k (S.set n .dead) ws with
      | some (ds, S') => some (.tup ds, S')
      | none => none
    | some (.dk kws) => match datWs k (S.set n .dead) (kws.map (·.2)) with
      | some (ds, S') => some (.dk (kws.map (·.1)) ds, S')
      | none => none
    | some (.dt kws) => match datWs k (S.set n .dead) (kws.map (·.2)) with
      | some (ds, S') => some (.dt (kws.map (·.1)) ds, S')
      | none => none
    | some (.ins c fws) => match datWs k (S.set n .dead) (fws.map (·.2)) with
      | some (ds, S') => some (.obj c (fws.map (·.1)) ds, S')
      | none => none
    | _ => none
def datWs : Nat → Sto → List W → Option (List D × Sto)
  | _, S, [] => some ([], S)
  | k, S, w :: ws => match datW k S w with
    | some (d, S') => match datWs k S' ws with
      | some (ds, S'') => some (d :: ds, S'')
      | none => none
    | none => none
end
section
variable {K : PySem.W.Frag} {cl : Str → Option Addr} {xa : Option (Nat × Addr)} {C : Cn} {σ : St} {ρ : Rho}
/-- what freezing promises -/
abbrev FzG (K : PySem.W.Frag) (cl : Str → Option Addr) (xa : Option (Nat × Addr)) (C : Cn) (σ : St) (ρ : Rho) (y : Y) (S' : Sto) (R : Hp → Prop) : Prop := ∀ Q : Hp → Prop, (∀ z, Sim K cl xa C z σ ρ S' → Gr y z → R z.F → Lks Q z.H) → Lks Q y.H
theorem datWs_of {k : Nat} (ih : ∀ (y : Y) (S : Sto) (w : W) (v : V) (d : D) (S' : Sto), Sim K cl xa C y σ ρ S → RW K cl y w v → datW k S w = some (d, S') → FzG K cl xa C σ ρ y S' fun F => Rp K cl F d v) :
    ∀ (ws : List W) (vs : List V) (y : Y) (S : Sto) (ds : List D) (S' : Sto), Sim K cl xa C y σ ρ S → RWL K cl y ws vs → datWs k S ws = some (ds, S') → FzG K cl xa C σ ρ y S' fun F => RpL K cl F ds vs
  | [], _, y, S, ds, S', s, .nil, e => by
    unfold datWs at e
    cases e
    exact fun Q q => q y s (Gr.refl _) rfl
  | w :: ws, _, y, S, ds, S', s, .cons r rs, e => by
    unfold datWs at e
    split at e
    · rename_i d S1 e1
      split at e
      · rename_i ds1 S2 e2
        cases e
        refine fun Q q => ih y S w _ d S1 s r e1 Q fun z s1 g1 r1 => ?_
        refine datWs_of ih ws _ z S1 ds1 S' s1 (RWL.grow g1 rs) e2 Q fun z2 s2 g2 r2 => ?_
        exact q z2 s2 (g1.trans g2) ⟨_, _, rfl, Rp.xt g2.f _ _ r1, r2⟩
      · cases e
    · cases e
/-- the cell itself is frozen first, then all that hangs at it -/
theorem datW_ok : ∀ (k : Nat) (y : Y) (S : Sto) (w : W) (v : V) (d : D) (S' : Sto), Sim K cl xa C y σ ρ S → RW K cl y w v → datW k S w = some (d, S') → FzG K cl xa C σ ρ y S' fun F => Rp K cl F d v := by
  intro k
  induction k with
  | zero =>
    intro y S w v d S' s r e
    cases w with
    | da d' => simp only [datW] at e; cases e; exact fun Q q => q y s (Gr.refl _) r
    | lo n => simp [datW] at e
    | xc => simp [datW] at e
  | succ k ih =>
    intro y S w v d S' s r e
    cases w with
    | da d' => simp only [datW] at e; cases e; exact fun Q q => q y s (Gr.refl _) r
    | xc => simp [datW] at e
    | lo n =>
      obtain ⟨a, ea, rfl⟩ := r
      unfold datW at e
      split at e
      · rename_i ws hc
        split at e
        · rename_i ds S1 e1
          cases e
          obtain ⟨_, vs, ho, hr⟩ := s.bs.at hc (by intro z; cases z) ea
          obtain ⟨s1, g1⟩ := s.frz hc (by intro z; cases z) ea ho
          refine fun Q q => datWs_of ih ws vs _ _ ds S' s1 (RWL.grow g1 hr) e1 Q fun z s2 g2 r2 => ?_
          exact q z s2 (g1.trans g2) ⟨a, vs, rfl, g2.f a _ upd_same, r2⟩
        · cases e
      · rename_i ws hc
        split at e
        · rename_i ds S1 e1
          cases e
          obtain ⟨_, vs, ho, hr⟩ := s.bs.at hc (by intro z; cases z) ea
          obtain ⟨s1, g1⟩ := s.frz hc (by intro z; cases z) ea ho
          refine fun Q q => datWs_of ih ws vs _ _ ds S' s1 (RWL.grow g1 hr) e1 Q fun z s2 g2 r2 => ?_
          exact q z s2 (g1.trans g2) ⟨a, vs, rfl, g2.f a _ upd_same, r2⟩
        · cases e
      · rename_i kws hc
        split at e
        · rename_i ds S1 e1
          cases e
          obtain ⟨_, kvs, ho, hr⟩ := s.bs.at hc (by intro z; cases z) ea
          refine fun Q q => .lock a _ ho trivial fun od => ?_
          obtain ⟨s1, g1⟩ := s.lkd (o := .frz od (.dK kvs)) hc (by intro z; cases z) ea
          obtain ⟨z1, z2⟩ := rwp_zip (RWP.grow g1 hr)
          refine datWs_of ih _ _ _ _ ds S' s1 z1 e1 Q fun z s2 g2 r2 => ?_
          refine q z s2 (g1.trans g2) ⟨a, kvs.map (·.2), rfl, ⟨od, ?_⟩, ?_, r2⟩
          · rw [← z2]; exact g2.f a _ upd_same
          · rw [List.length_map, List.length_map]; exact Paired.length hr
        · cases e
      · rename_i kws hc
        split at e
        · rename_i ds S1 e1
          cases e
          obtain ⟨_, kvs, ho, hr⟩ := s.bs.at hc (by intro z; cases z) ea
          refine fun Q q => .lock a _ ho trivial fun od => ?_
          obtain ⟨s1, g1⟩ := s.lkd (o := .frz od (.dT kvs)) hc (by intro z; cases z) ea
          obtain ⟨z1, z2⟩ := rwp_zip (RWP.grow g1 hr)
          refine datWs_of ih _ _ _ _ ds S' s1 z1 e1 Q fun z s2 g2 r2 => ?_
          refine q z s2 (g1.trans g2) ⟨a, kvs.map (·.2), rfl, ⟨od, ?_⟩, ?_, r2⟩
          · rw [← z2]; exact g2.f a _ upd_same
          · rw [List.length_map, List.length_map]; exact Paired.length hr
        · cases e
      · rename_i c fws hc
        split at e
        · rename_i ds S1 e1
          cases e
          obtain ⟨_, CC, dx, kvs, h0, ho, hr⟩ := s.bs.at hc (by intro z; cases z) ea
          obtain ⟨s1, g1⟩ := s.frz hc (by intro z; cases z) ea ho
          obtain ⟨z1, z2⟩ := rwp_zip (RWP.grow g1 hr)
          refine fun Q q => datWs_of ih _ _ _ _ ds S' s1 z1 e1 Q fun z s2 g2 r2 => ?_
          refine q z s2 (g1.trans g2) ⟨a, CC, dx, kvs.map (·.2), rfl, h0, ?_, ?_, r2⟩
          · rw [← z2]; exact g2.f a _ upd_same
          · rw [List.length_map, List.length_map]; exact Paired.length hr
        · cases e
      · cases e
end
end Ng
namespace Ng
open PySem L2

/-! ### plain meanings -/
def lift (o : Option W) (S : Sto) : Rs W := match o with
  | some w => .ok w S
  | none => .stuck
def mkC (o : Option Cell) (S : Sto) : Rs W := match o with
  | some c => .ok (.lo S.length) (S ++ [c])
  | none => .stuck
def mkD (o : Option Cell) (S : Sto) : Rs W := match o with
  | some c => match datC c with
    | some d => .ok (.da d) S
    | none => .stuck
  | none => .stuck
def vl1 (f : W → Sto → Option W) : W → Sto → Rs W := fun x S => lift (f x S) S
def vl2 (f : W → W → Sto → Option W) : W → W → Sto → Rs W := fun x y S => lift (f x y S) S
def vlN (f : List W → Sto → Option W) : List W → Sto → Rs W := fun xs S => lift (f xs S) S
def nc2 (f : W → W → Sto → Option Cell) : W → W → Sto → Rs W := fun x y S => mkC (f x y S) S
def nd2 (f : W → W → Sto → Option Cell) : W → W → Sto → Rs W := fun x y S => mkD (f x y S) S
def ncN (f : List W → Sto → Option Cell) : List W → Sto → Rs W := fun xs S => mkC (f xs S) S
def ndN (f : List W → Sto → Option Cell) : List W → Sto → Rs W := fun xs S => mkD (f xs S) S
def mVar (i : Nat) : ME := fun ρ S => match ρ[i]? with
  | some (some .xc) => .stuck
  | some (some w) => .ok w S
  | _ => .stuck
def mC (d : D) : ME := fun _ S => .ok (.da d) S
def mOp (f : W → W → Sto → Rs W) (ma mb : ME) : ME := fun ρ S => (ma ρ S).bind fun x S => (mb ρ S).bind fun y S => f x y S
def mUn (f : W → Sto → Rs W) (ma : ME) : ME := fun ρ S => (ma ρ S).bind fun x S => f x S
def mNil : MA := fun _ S => .ok [] S
def mCons (ma : ME) (mr : MA) : MA := fun ρ S => (ma ρ S).bind fun x S => (mr ρ S).bind fun xs S => .ok (x :: xs) S
def mCall (f : List W → Sto → Rs W) (ma : MA) : ME := fun ρ S => (ma ρ S).bind fun ws S => f ws S
/-- truth -/
noncomputable def truW (S : Sto) : W → Option Bool
  | .da .non => some false
  | .da (.bl b) => some b
  | .da (.int i) => some (i != 0)
  | .da (.str x) => ifc (x.length ≤ sizeLine) (some ((x.length : Int) != 0)) none
  | .da (.tup ds) => some (!ds.isEmpty)
  | .da (.wt ds) => some (!ds.isEmpty)
  | .da (.lst ds) => some (!ds.isEmpty)
  | .da (.scr ds) => some (!ds.isEmpty)
  | .da _ => none
  | .lo n => match S[n]? with
    | some (.lst ws) => some (!ws.isEmpty)
    | some (.tup ws) => some (!ws.isEmpty)
    | some (.dk kws) => some (!kws.isEmpty)
    | _ => none
  | .xc => none
def liftB (o : Option Bool) (S : Sto) : Rs Bool := match o with
  | some b => .ok b S
  | none => .stuck
noncomputable def mTru (me : ME) : MT := fun ρ S => (me ρ S).bind fun w S => liftB (truW S w) S
def boolOf (w : W) (S : Sto) : Rs Bool := match w with
  | .da (.bl b) => .ok b S
  | _ => .stuck
def mTst (me : ME) : MT := fun ρ S => (me ρ S).bind boolOf
def mAnd (a b : MT) : MT := fun ρ S => (a ρ S).bind fun c S => if c = true then b ρ S else .ok false S
def mOr (a b : MT) : MT := fun ρ S => (a ρ S).bind fun c S => if c = true then .ok true S else b ρ S
def mNot (a : MT) : MT := fun ρ S => (a ρ S).bind fun c S => .ok (!c) S
def mAndV (a b : ME) : ME := fun ρ S => (a ρ S).bind fun x S => (boolOf x S).bind fun c S => if c = true then b ρ S else .ok (.da (.bl false)) S
def mOrV (a b : ME) : ME := fun ρ S => (a ρ S).bind fun x S => (boolOf x S).bind fun c S => if c = true then .ok (.da (.bl true)) S else b ρ S
def mNotV (a : ME) : ME := fun ρ S => (a ρ S).bind fun x S => (boolOf x S).bind fun c S => .ok (.da (.bl (!c))) S
noncomputable def mNotT (a : ME) : ME := fun ρ S => (a ρ S).bind fun x S => match truW S x with
  | some b => .ok (.da (.bl (!b))) S
  | none => .stuck
def mChain (f g : W → W → Sto → Rs W) (ma mb mc : ME) : ME := fun ρ S => (ma ρ S).bind fun x S => (mb ρ S).bind fun y S => (f x y S).bind fun z S => (boolOf z S).bind fun k S =>
  if k = true then (mc ρ S).bind fun w S => g y w S else .ok (.da (.bl false)) S
/-! statements -/
def mSkip : MS := fun ρ S => .nx ρ S
def seqK (o : Out) (b : MS) : Out := match o with
  | .nx ρ S => b ρ S
  | .rt w S => .rt w S
  | .bk ρ S => .bk ρ S
  | .ct ρ S => .ct ρ S
  | .ex x ρ S => .ex x ρ S
  | .stuck => .stuck
def mSeq (a b : MS) : MS := fun ρ S => seqK (a ρ S) b
def mSet (i : Nat) (e : ME) : MS := fun ρ S => (e ρ S).out ρ fun w S => .nx (ρ.set i (some w)) S
def mRet (e : ME) : MS := fun ρ S => (e ρ S).out ρ fun w S => .rt w S
def mRetN : MS := fun _ S => .rt (.da .non) S
def mDrop (e : ME) : MS := fun ρ S => (e ρ S).out ρ fun _ S => .nx ρ S
def mIf (t : MT) (a b : MS) : MS := fun ρ S => (t ρ S).out ρ fun c S => if c = true then a ρ S else b ρ S
def mBreak : MS := fun ρ S => .bk ρ S
def mContinue : MS := fun ρ S => .ct ρ S
/-- the value is frozen with all that hangs at it -/
def fzW (w : W) (S : Sto) : Rs W := match datW 5 S w with
  | some (d, S') => .ok (.da d) S'
  | none => .stuck
def mFz (m : ME) : ME := fun ρ S => (m ρ S).bind fzW

/-! ### any rule of an operation -/
def rAny (X : Cx) (g : Value → Value → Sem Value) : R2 := fun x y H Q => ∃ r, OpR X g r ∧ r x y H Q
theorem op_any {X : Cx} {g : Value → Value → Sem Value} : OpR X g (rAny X g) := fun pins s σ H x y v u Q I rx ry ⟨_, o, h⟩ => o pins s σ H x y v u Q I rx ry h
def uAny (X : Cx) (g : Value → Sem Value) : V → Hp → VK → Prop := fun x H Q => ∃ r, UnR X g r ∧ r x H Q
theorem un_any {X : Cx} {g : Value → Sem Value} : UnR X g (uAny X g) := fun pins s σ H x v Q I rx ⟨_, o, h⟩ => o pins s σ H x v Q I rx h
def cAny (X : Cx) (f : Value) : List V → Hp → VK → Prop := fun xs H Q => ∃ r, CallR X f r ∧ r xs H Q
theorem call_any {X : Cx} {f : Value} : CallR X f (cAny X f) := fun pins s σ H xs us Q I r ⟨_, o, h⟩ => o pins s σ H xs us Q I r h
def xAny (X : Cx) : R2 := fun x y H Q => ∃ r, IxR X r ∧ r x y H Q
theorem ix_any {X : Cx} : IxR X (xAny X) := fun value slice pins s σ H x y v u Q I rx ry ⟨_, o, h⟩ e => o value slice pins s σ H x y v u Q I rx ry h e
def mtAny (X : Cx) (id : String) : V → List V → Hp → VK → Prop := fun x xs H Q => ∃ r, MtR X id r ∧ r x xs H Q
theorem mt_any {X : Cx} {id : String} : MtR X id (mtAny X id) := fun pins s σ H x xs v us Q I rx r ⟨_, o, h⟩ => o pins s σ H x xs v us Q I rx r h

/-! ### operations by values: what is promised of their plain meaning -/
/-- any: F on the values, r on what the heap holds -/
abbrev H1 (X : Cx) (cl : Str → Option Addr) (r : V → Hp → VK → Prop) (F : W → Sto → Rs W) : Prop := ∀ xa C Wx y σ ρ S, Sim X.K cl xa C y σ ρ S → ∀ w v, RW X.K cl y w v → ∀ Q, Post X.K cl xa C Wx y σ ρ (F w S) (OkE X.K cl xa C y σ ρ Q) → r v y.H Q
abbrev H2 (X : Cx) (cl : Str → Option Addr) (r : R2) (F : W → W → Sto → Rs W) : Prop := ∀ xa C Wx y σ ρ S, Sim X.K cl xa C y σ ρ S → ∀ w w' v v', RW X.K cl y w v → RW X.K cl y w' v' → ∀ Q, Post X.K cl xa C Wx y σ ρ (F w w' S) (OkE X.K cl xa C y σ ρ Q) → r v v' y.H Q
abbrev HN (X : Cx) (cl : Str → Option Addr) (r : List V → Hp → VK → Prop) (F : List W → Sto → Rs W) : Prop := ∀ xa C Wx y σ ρ S, Sim X.K cl xa C y σ ρ S → ∀ ws vs, RWL X.K cl y ws vs → ∀ Q, Post X.K cl xa C Wx y σ ρ (F ws S) (OkE X.K cl xa C y σ ρ Q) → r vs y.H Q
def HOp (X : Cx) (cl : Str → Option Addr) (g : Value → Value → Sem Value) (F : W → W → Sto → Rs W) : Prop := H2 X cl (rAny X g) F
def HUn (X : Cx) (cl : Str → Option Addr) (g : Value → Sem Value) (F : W → Sto → Rs W) : Prop := H1 X cl (uAny X g) F
def HIx (X : Cx) (cl : Str → Option Addr) (F : W → W → Sto → Rs W) : Prop := H2 X cl (xAny X) F
def HCall (X : Cx) (cl : Str → Option Addr) (g : Value) (F : List W → Sto → Rs W) : Prop := HN X cl (cAny X g) F
/-- a value comes: new frozen things alone -/
abbrev Gv (K : PySem.W.Frag) (cl : Str → Option Addr) (y : Y) (w : W) (Q : VK) : Prop := ∀ v F' H', Al y.F y.H F' H' → RW K cl ⟨F', H', y.m⟩ w v → Q v H'
/-- a new thing comes -/
abbrev Gn (K : PySem.W.Frag) (cl : Str → Option Addr) (y : Y) (c : Cell) (Q : VK) : Prop := ∀ p o, y.H p = none → CellR K cl (y.new p o) p c → Q (.ref p) (upd y.H p o)
def V1 (X : Cx) (cl : Str → Option Addr) (r : V → Hp → VK → Prop) (f : W → Sto → Option W) : Prop := ∀ y S, Bs X.K cl y S → ∀ w v, RW X.K cl y w v → ∀ u, f w S = some u → ∀ Q, Gv X.K cl y u Q → r v y.H Q
def V2 (X : Cx) (cl : Str → Option Addr) (r : R2) (f : W → W → Sto → Option W) : Prop := ∀ y S, Bs X.K cl y S → ∀ w w' v v', RW X.K cl y w v → RW X.K cl y w' v' → ∀ u, f w w' S = some u → ∀ Q, Gv X.K cl y u Q → r v v' y.H Q
def VN (X : Cx) (cl : Str → Option Addr) (r : List V → Hp → VK → Prop) (f : List W → Sto → Option W) : Prop := ∀ y S, Bs X.K cl y S → ∀ ws vs, RWL X.K cl y ws vs → ∀ u, f ws S = some u → ∀ Q, Gv X.K cl y u Q → r vs y.H Q
def C2 (X : Cx) (cl : Str → Option Addr) (r : R2) (f : W → W → Sto → Option Cell) : Prop := ∀ y S, Bs X.K cl y S → ∀ w w' v v', RW X.K cl y w v → RW X.K cl y w' v' → ∀ c, f w w' S = some c → ∀ Q, Gn X.K cl y c Q → r v v' y.H Q
def CN (X : Cx) (cl : Str → Option Addr) (r : List V → Hp → VK → Prop) (f : List W → Sto → Option Cell) : Prop := ∀ y S, Bs X.K cl y S → ∀ ws vs, RWL X.K cl y ws vs → ∀ c, f ws S = some c → ∀ Q, Gn X.K cl y c Q → r vs y.H Q
section
variable {X : Cx} {cl : Str → Option Addr} {xa : Option (Nat × Addr)} {C : Cn} {Wx : WX} {y : Y} {σ : St} {ρ : Rho} {S : Sto} {Q : VK}
theorem post_val {K : PySem.W.Frag} {o : Option W} (s : Sim K cl xa C y σ ρ S) (h : Post K cl xa C Wx y σ ρ (lift o S) (OkE K cl xa C y σ ρ Q)) : ∃ u, o = some u ∧ Gv K cl y u Q := by
  unfold lift at h
  split at h
  · exact ⟨_, rfl, fun v F' H' a r => h v _ (s.al a) a.gr r⟩
  · exact h.elim
theorem post_newC {K : PySem.W.Frag} {o : Option Cell} (s : Sim K cl xa C y σ ρ S) (h : Post K cl xa C Wx y σ ρ (mkC o S) (OkE K cl xa C y σ ρ Q)) : ∃ c, o = some c ∧ Gn K cl y c Q := by
  unfold mkC at h
  split at h
  · exact ⟨_, rfl, fun p o hp hc => h (.ref p) (y.new p o) (s.newCell hp hc) (y.gr_new p o) ⟨p, by rw [← s.bs.len]; simp [Y.new], rfl⟩⟩
  · exact h.elim
theorem post_newD {K : PySem.W.Frag} {o : Option Cell} (s : Sim K cl xa C y σ ρ S) (h : Post K cl xa C Wx y σ ρ (mkD o S) (OkE K cl xa C y σ ρ Q)) : ∃ c, o = some c ∧ Gn K cl y c Q := by
  unfold mkD at h
  split at h
  · rename_i c
    split at h
    · rename_i d hd
      refine ⟨_, rfl, fun p o hp hc => ?_⟩
      obtain ⟨o', ho, _, hr⟩ := datC_ok hc hd
      have eo : some o' = some o := ho.symm.trans (upd_same)
      cases eo
      have al := Al.new (o := o) s.bs.fz hp
      exact h (.ref p) _ (s.al al) al.gr (hr _ al.f upd_same)
    · exact h.elim
  · exact h.elim
theorem V1.h {r : V → Hp → VK → Prop} {f : W → Sto → Option W} (v : V1 X cl r f) : H1 X cl r (vl1 f) := fun xa C Wx y σ ρ S s w x rx Q h => by
  obtain ⟨u, e, g⟩ := post_val s h
  exact v y S s.bs w x rx u e Q g
theorem V2.h {r : R2} {f : W → W → Sto → Option W} (v : V2 X cl r f) : H2 X cl r (vl2 f) := fun xa C Wx y σ ρ S s w w' x x' rx rx' Q h => by
  obtain ⟨u, e, g⟩ := post_val s h
  exact v y S s.bs w w' x x' rx rx' u e Q g
theorem VN.h {r : List V → Hp → VK → Prop} {f : List W → Sto → Option W} (v : VN X cl r f) : HN X cl r (vlN f) := fun xa C Wx y σ ρ S s w x rx Q h => by
  obtain ⟨u, e, g⟩ := post_val s h
  exact v y S s.bs w x rx u e Q g
theorem C2.c {r : R2} {f : W → W → Sto → Option Cell} (v : C2 X cl r f) : H2 X cl r (nc2 f) := fun xa C Wx y σ ρ S s w w' x x' rx rx' Q h => by
  obtain ⟨u, e, g⟩ := post_newC s h
  exact v y S s.bs w w' x x' rx rx' u e Q g
theorem C2.d {r : R2} {f : W → W → Sto → Option Cell} (v : C2 X cl r f) : H2 X cl r (nd2 f) := fun xa C Wx y σ ρ S s w w' x x' rx rx' Q h => by
  obtain ⟨u, e, g⟩ := post_newD s h
  exact v y S s.bs w w' x x' rx rx' u e Q g
theorem CN.c {r : List V → Hp → VK → Prop} {f : List W → Sto → Option Cell} (v : CN X cl r f) : HN X cl r (ncN f) := fun xa C Wx y σ ρ S s w x rx Q h => by
  obtain ⟨u, e, g⟩ := post_newC s h
  exact v y S s.bs w x rx u e Q g
theorem CN.d {r : List V → Hp → VK → Prop} {f : List W → Sto → Option Cell} (v : CN X cl r f) : HN X cl r (ndN f) := fun xa C Wx y σ ρ S s w x rx Q h => by
  obtain ⟨u, e, g⟩ := post_newD s h
  exact v y S s.bs w x rx u e Q g
end

section
variable {X : Cx} {cl : Str → Option Addr} {xa : Option (Nat × Addr)} {Wx : WX} {pos : Pos} {a b c e : Expr} {es : List Expr} {ma mb mc me : ME} {mr : MA} {ta tb tc : MT}
/-! ### composition -/
theorem OkE.mono {K : PySem.W.Frag} {C : Cn} {y z : Y} {σ : St} {ρ : Rho} {Q : VK} (g : Gr y z) {w : W} {S : Sto} (h : OkE K cl xa C y σ ρ Q w S) : OkE K cl xa C z σ ρ Q w S := fun v u s k r => h v u s (g.trans k) r
theorem Post.re {K : PySem.W.Frag} {C : Cn} {y z : Y} {σ : St} {ρ : Rho} {Q : VK} {r : Rs W} (h : Post K cl xa C Wx z σ ρ r (OkE K cl xa C y σ ρ Q)) (g : Gr y z) : Post K cl xa C Wx z σ ρ r (OkE K cl xa C z σ ρ Q) := Post.imp h fun _ _ k => OkE.mono g k
theorem se_op {r : R2} {t u : TE} {F : W → W → Sto → Rs W} (ho : H2 X cl r F) (ha : SE X.K cl xa Wx t ma) (hb : SE X.K cl xa Wx u mb) : SE X.K cl xa Wx (tOp r t u) (mOp F ma mb) := by
  intro C y σ ρ S s Q h
  refine ha C y σ ρ S s _ (Post.go h fun w S1 h1 v z s1 g1 r1 => ?_)
  refine hb C z σ ρ S1 s1 _ (Post.go (h1 z g1) fun w2 S2 h2 v2 z2 s2 g2 r2 => ?_)
  exact ho xa C Wx z2 σ ρ S2 s2 w w2 v v2 (r1.grow g2) r2 Q (Post.re (h2 z2 g2) (g1.trans g2))
theorem se_un {r : V → Hp → VK → Prop} {t : TE} {F : W → Sto → Rs W} (ho : H1 X cl r F) (ha : SE X.K cl xa Wx t ma) : SE X.K cl xa Wx (tUn r t) (mUn F ma) := by
  intro C y σ ρ S s Q h
  refine ha C y σ ρ S s _ (Post.go h fun w S1 h1 v z s1 g1 r1 => ?_)
  exact ho xa C Wx z σ ρ S1 s1 w v r1 Q (Post.re (h1 z g1) g1)
theorem sa_nil {K : PySem.W.Frag} : SA K cl xa Wx tNil mNil := fun C y σ ρ S s Q h => h [] y s (Gr.refl _) .nil
theorem sa_cons {K : PySem.W.Frag} {t : TE} {u : TA} (ha : SE K cl xa Wx t ma) (hr : SA K cl xa Wx u mr) : SA K cl xa Wx (tCons t u) (mCons ma mr) := by
  intro C y σ ρ S s Q h
  refine ha C y σ ρ S s _ (Post.go h fun w S1 h1 v z s1 g1 r1 => ?_)
  refine hr C z σ ρ S1 s1 _ (Post.go (h1 z g1) fun ws S2 h2 vs z2 s2 g2 r2 => ?_)
  exact h2 z2 g2 (v :: vs) z2 s2 (g1.trans g2) (.cons (r1.grow g2) r2)
theorem se_call {r : List V → Hp → VK → Prop} {t : TA} {F : List W → Sto → Rs W} (ho : HN X cl r F) (ha : SA X.K cl xa Wx t mr) : SE X.K cl xa Wx (tCB r t) (mCall F mr) := by
  intro C y σ ρ S s Q h
  refine ha C y σ ρ S s _ (Post.go h fun w S1 h1 v z s1 g1 r1 => ?_)
  exact ho xa C Wx z σ ρ S1 s1 w v r1 Q (Post.re (h1 z g1) g1)
/-- frozen -/
theorem qe_fz (h : QE X cl xa Wx e me) : QE X cl xa Wx e (mFz me) := by
  obtain ⟨t, p, q⟩ := h
  refine ⟨_, pe_lk p, fun C y σ ρ S s Q h => ?_⟩
  refine q C y σ ρ S s _ (Post.go h fun w S1 h1 v z s1 g1 r1 => ?_)
  have h2 := h1 z g1
  unfold fzW at h2
  split at h2
  · rename_i d S' hd
    refine datW_ok 5 z S1 w v d S' s1 r1 hd (Q v) fun z2 s2 g2 r2 => ?_
    exact .now (h2 v z2 s2 (g1.trans g2) r2)
  · exact h2.elim

/-! ### names, constants -/
theorem qe_var (i : Nat) {x : Str} (hN : X.N[i]? = some x := by rfl) (hv : Vis X.env.scope x := by first | exact Or.inl rfl | exact Or.inr (Or.inl rfl) | exact Or.inr (Or.inr rfl)) (hd : (x == ("__debug__" : Str)) = false := by decide)
    (hcd : (x == ("__classdict__" : Str)) = false := by decide) : QE X cl xa Wx (.Name x pos) (mVar i) :=
  ⟨_, pe_var hN hv hd hcd, fun C y σ ρ S s Q h => by
    unfold mVar at h
    cases e : ρ[i]? with
    | none => rw [e] at h; exact h.elim
    | some o =>
      cases o with
      | none => rw [e] at h; exact h.elim
      | some w =>
        rw [e] at h
        obtain ⟨v, e1, e2⟩ := s.slot i w e
        cases w with
        | xc => exact h.elim
        | da d => exact ⟨v, e1, h v y s (Gr.refl _) e2⟩
        | lo n => exact ⟨v, e1, h v y s (Gr.refl _) e2⟩⟩
theorem se_c {K : PySem.W.Frag} {d : D} {v : V} (h : ∀ F, Rp K cl F d v) : SE K cl xa Wx (tC v) (mC d) := fun C y σ ρ S s Q q => q v y s (Gr.refl _) (h y.F)
theorem qe_int {i : Int} {j} : QE X cl xa Wx (.Constant (.int i) j pos) (mC (.int i)) := ⟨_, pe_int, se_c fun _ => rfl⟩
theorem qe_str {x : Str} {j} : QE X cl xa Wx (.Constant (.str x) j pos) (mC (.str x)) := ⟨_, pe_str, se_c fun _ => rfl⟩
theorem qe_bl {x : Bool} {j} : QE X cl xa Wx (.Constant (.bool x) j pos) (mC (.bl x)) := ⟨_, pe_bl, se_c fun _ => rfl⟩
theorem qe_non {j} : QE X cl xa Wx (.Constant .none j pos) (mC .non) := ⟨_, pe_non, se_c fun _ => rfl⟩
theorem qe_glob {x : Str} {v : V} {u : Value} {d : D} (hg : Gl X x) (hm : X.mg x = some u) (r : RelV v u) (h : ∀ F, Rp X.K cl F d v) (hd : (x == ("__debug__" : Str)) = false := by decide) : QE X cl xa Wx (.Name x pos) (mC d) :=
  ⟨_, pe_glob hg hm r hd, se_c h⟩

/-! ### operations -/
theorem qe_bin {op : Operator} {F : W → W → Sto → Rs W} (ho : HOp X cl (binaryOp op) F) (ha : QE X cl xa Wx a ma) (hb : QE X cl xa Wx b mb) : QE X cl xa Wx (.BinOp a op b pos) (mOp F ma mb) := by
  obtain ⟨t, p, q⟩ := ha
  obtain ⟨t2, p2, q2⟩ := hb
  exact ⟨_, pe_op op_any p p2, se_op ho q q2⟩
theorem qe_un {op : UnaryOp} {F : W → Sto → Rs W} (ho : HUn X cl (unaryOp op) F) (ha : QE X cl xa Wx a ma) : QE X cl xa Wx (.UnaryOp op a pos) (mUn F ma) := by
  obtain ⟨t, p, q⟩ := ha
  exact ⟨_, pe_un un_any p, se_un ho q⟩
theorem qe_cmp {op : CmpOp} {F : W → W → Sto → Rs W} (ho : HOp X cl (compareOp op) F) (ha : QE X cl xa Wx a ma) (hb : QE X cl xa Wx b mb) (hm : behindInMarks op b = false) : QE X cl xa Wx (.Compare a [op] [b] pos) (mOp F ma mb) := by
  obtain ⟨t, p, q⟩ := ha
  obtain ⟨t2, p2, q2⟩ := hb
  exact ⟨_, pe_cmpR op_any p p2 hm, se_op ho q q2⟩
theorem st_test {K : PySem.W.Frag} {t : TE} (h : SE K cl xa Wx t me) : ST K cl xa Wx (tTest t) (mTst me) := by
  intro C y σ ρ S s Q q
  refine h C y σ ρ S s _ (Post.go q fun w S1 h1 v z s1 g1 r1 => ?_)
  have h2 := h1 z g1
  unfold boolOf at h2
  split at h2
  · rename_i k
    cases (show v = .bl k from r1)
    exact ⟨k, rfl, h2 z s1 g1⟩
  · exact h2.elim
theorem qt_cmp {op : CmpOp} {F : W → W → Sto → Rs W} (ho : HOp X cl (compareOp op) F) (ha : QE X cl xa Wx a ma) (hb : QE X cl xa Wx b mb) (hm : behindInMarks op b = false) : QT X cl xa Wx (.Compare a [op] [b] pos) (mTst (mOp F ma mb)) := by
  obtain ⟨t, p, q⟩ := ha
  obtain ⟨t2, p2, q2⟩ := hb
  exact ⟨_, pt_cmpR op_any p p2 hm, st_test (se_op ho q q2)⟩
theorem bool_ok {K : PySem.W.Frag} {C : Cn} {y : Y} {σ : St} {ρ : Rho} {S : Sto} {w : W} {v : V} {α : Type} {k : Bool → Sto → Rs α} {P : α → Sto → Prop} (r : RW K cl y w v) (h : Post K cl xa C Wx y σ ρ ((boolOf w S).bind k) P) :
    ∃ c, v = .bl c ∧ w = .da (.bl c) ∧ Post K cl xa C Wx y σ ρ (k c S) P := by
  unfold boolOf at h
  split at h
  · rename_i c; exact ⟨c, r, rfl, h⟩
  · exact h.elim
theorem se_chain {r r' : R2} {t u v : TE} {F G : W → W → Sto → Rs W} (ho : H2 X cl r F) (ho' : H2 X cl r' G)
    (ha : SE X.K cl xa Wx t ma) (hb : SE X.K cl xa Wx u mb) (hc : SE X.K cl xa Wx v mc) : SE X.K cl xa Wx (tChain r r' t u v) (mChain F G ma mb mc) := by
  intro C y σ ρ S s Q h
  refine ha C y σ ρ S s _ (Post.go h fun w S1 h1 v z s1 g1 r1 => ?_)
  refine hb C z σ ρ S1 s1 _ (Post.go (h1 z g1) fun w2 S2 h2 v2 z2 s2 g2 r2 => ?_)
  refine ho xa C Wx z2 σ ρ S2 s2 w w2 v v2 (r1.grow g2) r2 _ (Post.go (h2 z2 g2) fun w3 S3 h3 v3 z3 s3 g3 r3 => ?_)
  obtain ⟨k, rfl, _, h4⟩ := bool_ok r3 (h3 z3 g3)
  have g13 := (g1.trans g2).trans g3
  refine ⟨k, rfl, ?_⟩
  cases k with
  | false => exact h4 _ z3 s3 g13 rfl
  | true =>
    refine hc C z3 σ ρ S3 s3 _ (Post.go h4 fun w4 S4 h5 v4 z4 s4 g4 r4 => ?_)
    exact ho' xa C Wx z4 σ ρ S4 s4 w2 w4 v2 v4 (r2.grow (g3.trans g4)) r4 Q (Post.re (h5 z4 g4) (g13.trans g4))
theorem qe_chain {op op' : CmpOp} {F G : W → W → Sto → Rs W} (ho : HOp X cl (compareOp op) F) (ho' : HOp X cl (compareOp op') G) (ha : QE X cl xa Wx a ma) (hb : QE X cl xa Wx b mb) (hc : QE X cl xa Wx c mc)
    (hm : lastMarks [op, op'] [b, c] = false := by with_unfolding_all rfl) : QE X cl xa Wx (.Compare a [op, op'] [b, c] pos) (mChain F G ma mb mc) := by
  obtain ⟨t, p, q⟩ := ha
  obtain ⟨t2, p2, q2⟩ := hb
  obtain ⟨t3, p3, q3⟩ := hc
  exact ⟨_, pe_chain op_any op_any p p2 p3 hm, se_chain ho ho' q q2 q3⟩
theorem qt_chain {op op' : CmpOp} {F G : W → W → Sto → Rs W} (ho : HOp X cl (compareOp op) F) (ho' : HOp X cl (compareOp op') G) (ha : QE X cl xa Wx a ma) (hb : QE X cl xa Wx b mb) (hc : QE X cl xa Wx c mc)
    (hm : lastMarks [op, op'] [b, c] = false := by with_unfolding_all rfl) : QT X cl xa Wx (.Compare a [op, op'] [b, c] pos) (mTst (mChain F G ma mb mc)) := by
  obtain ⟨t, p, q⟩ := ha
  obtain ⟨t2, p2, q2⟩ := hb
  obtain ⟨t3, p3, q3⟩ := hc
  exact ⟨_, pt_chain op_any op_any p p2 p3 hm, st_test (se_chain ho ho' q q2 q3)⟩

/-! ### truth -/
theorem tru_ok {K : PySem.W.Frag} {y : Y} {S : Sto} (s : Bs K cl y S) {w : W} {v : V} {k : Bool} (r : RW K cl y w v) (h : truW S w = some k) : TruV K v y.H k := by
  unfold truW at h
  split at h
  · cases h; cases (show v = .non from r); exact rfl
  · rename_i b; cases h; cases (show v = .bl _ from r); exact rfl
  · rename_i i; cases h; cases (show v = .int i from r); exact rfl
  · rename_i x
    obtain ⟨hc, rfl⟩ := ifc_some h
    cases (show v = .str x from r)
    exact ⟨hc, rfl⟩
  · rename_i ds
    cases h
    obtain ⟨p, vs, rfl, t, l⟩ := r
    refine .inr (.inl ⟨vs, .inl (.inl (s.fz p _ t)), ?_⟩)
    have := l.length
    cases ds <;> cases vs <;> simp_all
  · rename_i ds
    cases h
    obtain ⟨p, vs, rfl, t, l⟩ := r
    refine .inr (.inl ⟨vs, sqT_xt s.fz t, ?_⟩)
    have := l.length
    cases ds <;> cases vs <;> simp_all
  · rename_i ds
    cases h
    obtain ⟨p, vs, rfl, t, l⟩ := r
    refine .inl ⟨vs, .inl (.inl (s.fz p _ t)), ?_⟩
    have := l.length
    cases ds <;> cases vs <;> simp_all
  · rename_i ds
    cases h
    obtain ⟨p, vs, rfl, t, l⟩ := r
    refine .inl ⟨vs, sqL_xt s.fz t, ?_⟩
    have := l.length
    cases ds <;> cases vs <;> simp_all
  · cases h
  · rename_i n
    obtain ⟨p, e, rfl⟩ := r
    split at h
    · rename_i ws hc
      cases h
      obtain ⟨_, vs, e2, l⟩ := s.at hc (by intro z; cases z) e
      refine .inl ⟨vs, .inl (.inl e2), ?_⟩
      cases l <;> rfl
    · rename_i ws hc
      cases h
      obtain ⟨_, vs, e2, l⟩ := s.at hc (by intro z; cases z) e
      refine .inr (.inl ⟨vs, .inl (.inl e2), ?_⟩)
      cases l <;> rfl
    · rename_i ws hc
      cases h
      obtain ⟨_, vs, e2, l⟩ := s.at hc (by intro z; cases z) e
      refine .inr (.inr ⟨vs, e2, ?_⟩)
      cases l <;> rfl
    · cases h
  · cases h
theorem qt_truth (ha : QE X cl xa Wx a ma) (he : ∀ whole, isTrue a X.env whole = (do let v ← whole; standAt a.pos; holding [v] (truthy v)) := by intro _; rfl) : QT X cl xa Wx a (mTru ma) := by
  obtain ⟨t, p, q⟩ := ha
  refine ⟨_, pt_truth p he, fun C y σ ρ S s Q h => ?_⟩
  refine q C y σ ρ S s _ (Post.go h fun w S1 h1 v z s1 g1 r1 => ?_)
  have h2 := h1 z g1
  unfold liftB at h2
  split at h2
  · rename_i k e
    exact ⟨k, tru_ok s1.bs r1 e, h2 z s1 g1⟩
  · exact h2.elim
theorem qe_notT (ha : QE X cl xa Wx a ma) : QE X cl xa Wx (.UnaryOp .Not a pos) (mNotT ma) := by
  obtain ⟨t, p, q⟩ := ha
  refine ⟨_, pe_notT p, fun C y σ ρ S s Q h => ?_⟩
  refine q C y σ ρ S s _ (Post.go h fun w S1 h1 v z s1 g1 r1 => ?_)
  have h2 := h1 z g1
  split at h2
  · rename_i k e
    exact ⟨k, tru_ok s1.bs r1 e, h2 _ z s1 g1 rfl⟩
  · exact h2.elim
theorem qt_not (ha : QT X cl xa Wx a ta) : QT X cl xa Wx (.UnaryOp .Not a pos) (mNot ta) := by
  obtain ⟨t, p, q⟩ := ha
  exact ⟨_, pt_not p, fun C y σ ρ S s Q h => q C y σ ρ S s _ (Post.go h fun w S1 h1 z s1 g1 => h1 z g1 z s1 g1)⟩
theorem st_and {K : PySem.W.Frag} {t u : TT} (ha : ST K cl xa Wx t ta) (hb : ST K cl xa Wx u tb) : ST K cl xa Wx (tAnd t u) (mAnd ta tb) := by
  intro C y σ ρ S s Q h
  refine ha C y σ ρ S s _ (Post.go h fun w S1 h1 z s1 g1 => ?_)
  cases w with
  | true => exact hb C z σ ρ S1 s1 _ (Post.imp (h1 z g1) fun w2 S2 h2 z2 s2 g2 => h2 z2 s2 (g1.trans g2))
  | false => exact h1 z g1 z s1 g1
theorem st_or {K : PySem.W.Frag} {t u : TT} (ha : ST K cl xa Wx t ta) (hb : ST K cl xa Wx u tb) : ST K cl xa Wx (tOr t u) (mOr ta tb) := by
  intro C y σ ρ S s Q h
  refine ha C y σ ρ S s _ (Post.go h fun w S1 h1 z s1 g1 => ?_)
  cases w with
  | false => exact hb C z σ ρ S1 s1 _ (Post.imp (h1 z g1) fun w2 S2 h2 z2 s2 g2 => h2 z2 s2 (g1.trans g2))
  | true => exact h1 z g1 z s1 g1
theorem qw_and {rest : List Expr} (ha : QT X cl xa Wx a ta) (hb : QW X cl xa Wx (.BoolOp .And (b :: rest) pos) tb) : QW X cl xa Wx (.BoolOp .And (a :: b :: rest) pos) (mAnd ta tb) := by
  obtain ⟨t, p, q⟩ := ha
  obtain ⟨t2, p2, q2⟩ := hb
  exact ⟨_, pw_and p p2, st_and q q2⟩
theorem qw_or {rest : List Expr} (ha : QT X cl xa Wx a ta) (hb : QW X cl xa Wx (.BoolOp .Or (b :: rest) pos) tb) : QW X cl xa Wx (.BoolOp .Or (a :: b :: rest) pos) (mOr ta tb) := by
  obtain ⟨t, p, q⟩ := ha
  obtain ⟨t2, p2, q2⟩ := hb
  exact ⟨_, pw_or p p2, st_or q q2⟩
theorem qw_and1 (ha : QT X cl xa Wx a ta) : QW X cl xa Wx (.BoolOp .And [a] pos) ta := by
  obtain ⟨t, p, q⟩ := ha
  exact ⟨_, pw_and1 p, q⟩
theorem qw_or1 (ha : QT X cl xa Wx a ta) : QW X cl xa Wx (.BoolOp .Or [a] pos) ta := by
  obtain ⟨t, p, q⟩ := ha
  exact ⟨_, pw_or1 p, q⟩
theorem QW.qt {m : MT} (h : QW X cl xa Wx e m) : QT X cl xa Wx e m := by
  obtain ⟨t, p, q⟩ := h
  exact ⟨_, p.pt, q⟩
theorem qe_and {rest : List Expr} (ha : QE X cl xa Wx a ma) (hb : QE X cl xa Wx (.BoolOp .And (b :: rest) pos) mb) : QE X cl xa Wx (.BoolOp .And (a :: b :: rest) pos) (mAndV ma mb) := by
  obtain ⟨t, p, q⟩ := ha
  obtain ⟨t2, p2, q2⟩ := hb
  refine ⟨_, pe_and p p2, fun C y σ ρ S s Q h => ?_⟩
  refine q C y σ ρ S s _ (Post.go h fun w S1 h1 v z s1 g1 r1 => ?_)
  obtain ⟨c, rfl, _, h2⟩ := bool_ok r1 (h1 z g1)
  refine ⟨c, rfl, ?_⟩
  cases c with
  | true => exact q2 C z σ ρ S1 s1 _ (Post.imp h2 fun w2 S2 h2 v2 z2 s2 g2 => h2 v2 z2 s2 (g1.trans g2))
  | false => exact h2 _ z s1 g1 rfl
theorem qe_or {rest : List Expr} (ha : QE X cl xa Wx a ma) (hb : QE X cl xa Wx (.BoolOp .Or (b :: rest) pos) mb) : QE X cl xa Wx (.BoolOp .Or (a :: b :: rest) pos) (mOrV ma mb) := by
  obtain ⟨t, p, q⟩ := ha
  obtain ⟨t2, p2, q2⟩ := hb
  refine ⟨_, pe_or p p2, fun C y σ ρ S s Q h => ?_⟩
  refine q C y σ ρ S s _ (Post.go h fun w S1 h1 v z s1 g1 r1 => ?_)
  obtain ⟨c, rfl, _, h2⟩ := bool_ok r1 (h1 z g1)
  refine ⟨c, rfl, ?_⟩
  cases c with
  | false => exact q2 C z σ ρ S1 s1 _ (Post.imp h2 fun w2 S2 h2 v2 z2 s2 g2 => h2 v2 z2 s2 (g1.trans g2))
  | true => exact h2 _ z s1 g1 rfl
theorem qe_one {op} (ha : QE X cl xa Wx a ma) : QE X cl xa Wx (.BoolOp op [a] pos) ma := by
  obtain ⟨t, p, q⟩ := ha
  exact ⟨_, pe_one p, q⟩
theorem qe_not (ha : QE X cl xa Wx a ma) : QE X cl xa Wx (.UnaryOp .Not a pos) (mNotV ma) := by
  obtain ⟨t, p, q⟩ := ha
  refine ⟨_, pe_not p, fun C y σ ρ S s Q h => ?_⟩
  refine q C y σ ρ S s _ (Post.go h fun w S1 h1 v z s1 g1 r1 => ?_)
  obtain ⟨c, rfl, _, h2⟩ := bool_ok r1 (h1 z g1)
  exact ⟨c, rfl, h2 _ z s1 g1 rfl⟩

/-! ### arguments, displays -/
theorem qa_nil : QA X cl xa Wx [] mNil := ⟨_, pa_nil, sa_nil⟩
theorem qa_cons (ha : QE X cl xa Wx e me) (hr : QA X cl xa Wx es mr) (hs : starEach (e :: es) X.env = (false, eval e X.env) :: starEach es X.env := by rfl) : QA X cl xa Wx (e :: es) (mCons me mr) := by
  obtain ⟨t, p, q⟩ := ha
  obtain ⟨t2, p2, q2⟩ := hr
  exact ⟨_, pa_cons p p2 hs, sa_cons q q2⟩
noncomputable def tupC (ws : List W) (_ : Sto) : Option Cell := ifc (ws.length ≤ sizeLine) (some (.tup ws)) none
noncomputable def lstC (ws : List W) (_ : Sto) : Option Cell := ifc (ws.length ≤ sizeLine) (some (.lst ws)) none
theorem upd_rw {K : PySem.W.Frag} {y : Y} {p : Addr} {o : HO} {ws : List W} {vs : List V} (h : RWL K cl y ws vs) : RWL K cl (y.new p o) ws vs := RWL.grow (y.gr_new p o) h
theorem cn_tup : CN X cl (fun vs H Q => vs.length ≤ sizeLine ∧ ∀ p, H p = none → Q (.ref p) (upd H p (.tup vs))) tupC := fun y S b ws vs r c e Q g => by
  obtain ⟨hl, rfl⟩ := ifc_some e
  refine ⟨by rw [← Paired.length r]; exact hl, fun p hp => g p _ hp ⟨vs, upd_same, upd_rw r⟩⟩
theorem cn_lst : CN X cl (fun vs H Q => vs.length ≤ sizeLine ∧ ∀ p, H p = none → Q (.ref p) (upd H p (.lst vs))) lstC := fun y S b ws vs r c e Q g => by
  obtain ⟨hl, rfl⟩ := ifc_some e
  refine ⟨by rw [← Paired.length r]; exact hl, fun p hp => g p _ hp ⟨vs, upd_same, upd_rw r⟩⟩
theorem qe_tupC {x1} (h : QA X cl xa Wx es mr) : QE X cl xa Wx (.Tuple es x1 pos) (mCall (ncN tupC) mr) := by
  obtain ⟨t, p, q⟩ := h
  exact ⟨_, pe_tup p, se_call cn_tup.c q⟩
theorem qe_tup {x1} (h : QA X cl xa Wx es mr) : QE X cl xa Wx (.Tuple es x1 pos) (mCall (ndN tupC) mr) := by
  obtain ⟨t, p, q⟩ := h
  exact ⟨_, pe_tup p, se_call cn_tup.d q⟩
theorem qe_lstC (h : QA X cl xa Wx es mr) : QE X cl xa Wx (.List es pos) (mCall (ncN lstC) mr) := by
  obtain ⟨t, p, q⟩ := h
  exact ⟨_, pe_lst p, se_call cn_lst.c q⟩
theorem qe_lst (h : QA X cl xa Wx es mr) : QE X cl xa Wx (.List es pos) (mCall (ndN lstC) mr) := by
  obtain ⟨t, p, q⟩ := h
  exact ⟨_, pe_lst p, se_call cn_lst.d q⟩
end
end Ng
namespace Ng
open PySem L2

/-! ### whole numbers -/
def wI (f : Int → Int → D) : W → W → Sto → Option W
  | .da (.int i), .da (.int j), _ => some (.da (f i j))
  | _, _, _ => none
noncomputable def wIg (c : Int → Int → Prop) (f : Int → Int → D) : W → W → Sto → Option W
  | .da (.int i), .da (.int j), _ => ifc (c i j) (some (.da (f i j))) none
  | _, _, _ => none
def subW := wI fun i j => .int (i - j)
noncomputable def gtW := wI fun i j => .bl (dec (j < i))
noncomputable def geW := wI fun i j => .bl (dec (j ≤ i))
noncomputable def mulW := wIg (fun i j => (-(2 ^ 64) < i ∧ i < 2 ^ 64) ∨ (-(2 ^ 64) < j ∧ j < 2 ^ 64)) fun i j => .int (i * j)
noncomputable def modW := wIg (fun _ j => 0 < j) fun i j => .int (i % j)
noncomputable def divW := wIg (fun _ j => 0 < j ∧ j < 1073741824) fun i j => .int (i / j)
noncomputable def powW := wIg (fun i j => 0 ≤ j ∧ j ≤ 1000000 ∧ i.natAbs < 2 ^ 64) fun i j => .int (i ^ j.toNat)
noncomputable def ltW : W → W → Sto → Option W
  | .da (.int i), .da (.int j), _ => some (.da (.bl (dec (i < j))))
  | .da (.str i), .da (.str j), _ => some (.da (.bl (dec (i.cps.toList < j.cps.toList))))
  | _, _, _ => none
noncomputable def leW := wI fun i j => .bl (dec (i ≤ j))
def negW : W → Sto → Option W
  | .da (.int i), _ => some (.da (.int (-i)))
  | _, _ => none
/-- the items of a tuple; of a list; of either -/
def tupW (S : Sto) : W → Option (List W)
  | .da (.tup ds) => some (ds.map .da)
  | .da (.wt ds) => some (ds.map .da)
  | .lo n => match S[n]? with
    | some (.tup ws) => some ws
    | _ => none
  | _ => none
def lstW (S : Sto) : W → Option (List W)
  | .da (.lst ds) => some (ds.map .da)
  | .lo n => match S[n]? with
    | some (.lst ws) => some ws
    | _ => none
  | _ => none
def seqW (S : Sto) : W → Option (List W)
  | .da (.tup ds) => some (ds.map .da)
  | .da (.wt ds) => some (ds.map .da)
  | .da (.lst ds) => some (ds.map .da)
  | .da (.scr ds) => some (ds.map .da)
  | .lo n => match S[n]? with
    | some (.lst ws) => some ws
    | some (.tup ws) => some ws
    | _ => none
  | _ => none
/-- x + y: numbers, texts, tuples of data; two lists -/
noncomputable def addV : W → W → Sto → Option W
  | .da (.int i), .da (.int j), _ => some (.da (.int (i + j)))
  | .da (.str x), .da (.str y), _ => ifc (x.length + y.length ≤ sizeLine) (some (.da (.str (x ++ y)))) none
  | x, y, S => match tupW S x, tupW S y with
    | some a, some b => ifc (a.isEmpty = false ∧ b.isEmpty = false ∧ a.length + b.length ≤ sizeLine) (match dats a, dats b with
      | some p, some q => some (.da (.tup (p ++ q)))
      | _, _ => none) none
    | _, _ => none
noncomputable def catC : W → W → Sto → Option Cell := fun x y S => match lstW S x, lstW S y with
  | some a, some b => ifc (a.length + b.length ≤ sizeLine) (some (.lst (a ++ b))) none
  | _, _ => none
/-- the choice: numbers, texts, tuples by values, else lists -/
noncomputable def addF (mk : Option Cell → Sto → Rs W) : W → W → Sto → Rs W := fun x y S => match addV x y S with
  | some w => .ok w S
  | none => mk (catC x y S) S
noncomputable def addD := addF mkD
noncomputable def addC := addF mkC

section
variable {X : Cx} {cl : Str → Option Addr}
theorem gv_da {K : PySem.W.Frag} {y : Y} {S : Sto} {d : D} {v : V} {Q : VK} (b : Bs K cl y S) (g : Gv K cl y (.da d) Q) (r : Rp K cl y.F d v) : Q v y.H := g v y.F y.H (Al.refl b.fz) r
theorem gv_w {K : PySem.W.Frag} {y : Y} {S : Sto} {w : W} {v : V} {Q : VK} (b : Bs K cl y S) (g : Gv K cl y w Q) (r : RW K cl y w v) : Q v y.H := g v y.F y.H (Al.refl b.fz) r
theorem opw_I {g : Value → Value → Sem Value} {f : Int → Int → D} {fv : Int → Int → V} (ho : OpR X g (rI0 fv)) (hf : ∀ i j K F, Rp K cl F (f i j) (fv i j)) : V2 X cl (rAny X g) (wI f) := fun y S b w w' v v' r r' u e Q g => by
  unfold wI at e
  split at e
  · rename_i i j
    cases e
    exact ⟨_, ho, i, j, r, r', gv_da b g (hf i j X.K y.F)⟩
  · cases e
theorem opw_Ig {g : Value → Value → Sem Value} {c P : Int → Int → Prop} {f : Int → Int → D} {fv : Int → Int → V} (ho : OpR X g (rI P fv)) (hc : ∀ i j, c i j → P i j) (hf : ∀ i j K F, Rp K cl F (f i j) (fv i j)) : V2 X cl (rAny X g) (wIg c f) := fun y S b w w' v v' r r' u e Q g => by
  unfold wIg at e
  split at e
  · rename_i i j
    obtain ⟨h, rfl⟩ := ifc_some e
    exact ⟨_, ho, i, j, r, r', hc i j h, gv_da b g (hf i j X.K y.F)⟩
  · cases e
theorem ow_sub : HOp X cl (binaryOp .Sub) (vl2 subW) := V2.h (f := subW) (opw_I op_sub fun _ _ _ _ => rfl)
theorem ow_lt : HOp X cl (compareOp .Lt) (vl2 ltW) := V2.h fun y S b w w' v v' r r' u e Q g => by
  unfold ltW at e
  split at e
  · rename_i i j
    cases e
    refine ⟨_, op_lt, i, j, r, r', gv_da b g ?_⟩
    simp only [dec_eq]; exact rfl
  · rename_i i j
    cases e
    refine ⟨_, op_lt_str, i, j, r, r', gv_da b g ?_⟩
    simp only [dec_eq]; exact rfl
  · cases e
theorem ow_le : HOp X cl (compareOp .LtE) (vl2 leW) := V2.h (f := leW) (opw_I op_le fun _ _ _ _ => by simp only [dec_eq]; exact rfl)
theorem ow_gt : HOp X cl (compareOp .Gt) (vl2 gtW) := V2.h (f := gtW) (opw_I op_gt fun _ _ _ _ => by simp only [dec_eq]; exact rfl)
theorem ow_ge : HOp X cl (compareOp .GtE) (vl2 geW) := V2.h (f := geW) (opw_I op_ge fun _ _ _ _ => by simp only [dec_eq]; exact rfl)
theorem ow_mul : HOp X cl (binaryOp .Mult) (vl2 mulW) := V2.h (f := mulW) (opw_Ig op_mul (fun _ _ e => e) fun _ _ _ _ => rfl)
theorem ow_mod : HOp X cl (binaryOp .Mod) (vl2 modW) := V2.h (f := modW) (opw_Ig op_mod (fun _ _ e => e) fun _ _ _ _ => rfl)
theorem ow_div : HOp X cl (binaryOp .FloorDiv) (vl2 divW) := V2.h (f := divW) (opw_Ig op_fdiv (fun _ _ e => e) fun _ _ _ _ => rfl)
theorem ow_pow : HOp X cl (binaryOp .Pow) (vl2 powW) := V2.h (f := powW) (opw_Ig op_pow (fun _ _ e => e) fun _ _ _ _ => rfl)
theorem uw_neg : HUn X cl (unaryOp .USub) (vl1 negW) := V1.h fun y S b w v r u e Q g => by
  unfold negW at e
  split at e
  · rename_i i
    cases e
    exact ⟨_, un_neg, i, r, gv_da b g rfl⟩
  · cases e
theorem tupW_ok {K : PySem.W.Frag} {y : Y} {S : Sto} (b : Bs K cl y S) {w : W} {v : V} {ws : List W} (r : RW K cl y w v) (h : tupW S w = some ws) : ∃ a vs, v = .ref a ∧ SqT K y.H a vs ∧ RWL K cl y ws vs := by
  unfold tupW at h
  split at h
  · cases h
    obtain ⟨a, vs, e, t, l⟩ := r
    exact ⟨a, vs, e, .inl (.inl (b.fz _ _ t)), rwl_da l⟩
  · cases h
    obtain ⟨a, vs, e, t, l⟩ := r
    exact ⟨a, vs, e, sqT_xt b.fz t, rwl_da l⟩
  · rename_i n
    obtain ⟨a, e, rfl⟩ := r
    split at h
    · rename_i ws' hc
      cases h
      obtain ⟨_, vs, e2, l⟩ := b.at hc (by intro z; cases z) e
      exact ⟨a, vs, rfl, .inl (.inl e2), l⟩
    · cases h
  · cases h
theorem lstW_ok {K : PySem.W.Frag} {y : Y} {S : Sto} (b : Bs K cl y S) {w : W} {v : V} {ws : List W} (r : RW K cl y w v) (h : lstW S w = some ws) : ∃ a vs, v = .ref a ∧ y.H a = some (.lst vs) ∧ RWL K cl y ws vs := by
  unfold lstW at h
  split at h
  · cases h
    obtain ⟨a, vs, e, t, l⟩ := r
    exact ⟨a, vs, e, b.fz _ _ t, rwl_da l⟩
  · rename_i n
    obtain ⟨a, e, rfl⟩ := r
    split at h
    · rename_i ws' hc
      cases h
      obtain ⟨_, vs, e2, l⟩ := b.at hc (by intro z; cases z) e
      exact ⟨a, vs, rfl, e2, l⟩
    · cases h
  · cases h
theorem seqW_ok {K : PySem.W.Frag} {y : Y} {S : Sto} (b : Bs K cl y S) {w : W} {v : V} {ws : List W} (r : RW K cl y w v) (h : seqW S w = some ws) : ∃ a vs, v = .ref a ∧ (SqL K y.H a vs ∨ SqT K y.H a vs) ∧ RWL K cl y ws vs := by
  unfold seqW at h
  split at h
  · cases h
    obtain ⟨a, vs, e, t, l⟩ := r
    exact ⟨a, vs, e, .inr (.inl (.inl (b.fz _ _ t))), rwl_da l⟩
  · cases h
    obtain ⟨a, vs, e, t, l⟩ := r
    exact ⟨a, vs, e, .inr (sqT_xt b.fz t), rwl_da l⟩
  · cases h
    obtain ⟨a, vs, e, t, l⟩ := r
    exact ⟨a, vs, e, .inl (.inl (.inl (b.fz _ _ t))), rwl_da l⟩
  · cases h
    obtain ⟨a, vs, e, t, l⟩ := r
    exact ⟨a, vs, e, .inl (sqL_xt b.fz t), rwl_da l⟩
  · rename_i n
    obtain ⟨a, e, rfl⟩ := r
    split at h
    · rename_i ws' hc
      cases h
      obtain ⟨_, vs, e2, l⟩ := b.at hc (by intro z; cases z) e
      exact ⟨a, vs, rfl, .inl (.inl (.inl e2)), l⟩
    · rename_i ws' hc
      cases h
      obtain ⟨_, vs, e2, l⟩ := b.at hc (by intro z; cases z) e
      exact ⟨a, vs, rfl, .inr (.inl (.inl e2)), l⟩
    · cases h
  · cases h
theorem v2_add : V2 X cl (rAny X (binaryOp .Add)) addV := fun y S b w w' v v' r r' u e Q g => by
  unfold addV at e
  split at e
  · rename_i i j
    cases e
    exact ⟨_, op_add, i, j, r, r', gv_da b g rfl⟩
  · rename_i x z
    obtain ⟨h, rfl⟩ := ifc_some e
    exact ⟨_, op_add_str, x, z, r, r', h, gv_da b g rfl⟩
  · split at e
    · rename_i p q h1 h2
      obtain ⟨a, vs, rfl, t1, l1⟩ := tupW_ok b r h1
      obtain ⟨a', vs', rfl, t2, l2⟩ := tupW_ok b r' h2
      rcases ifc_cases (P := fun r => r = some u) e with ⟨hc, e⟩ | ⟨_, e⟩
      · split at e
        · rename_i ds ds' e1 e2
          cases e
          have n1 := Paired.length l1
          have n2 := Paired.length l2
          refine ⟨_, op_catT, a, a', vs, vs', rfl, rfl, t1, t2, ?_, by rw [← n1, ← n2]; exact hc.2.2, fun z => ?_, fun _ pp hp => ?_⟩
          · intro z; subst z
            have := hc.1
            cases p <;> simp_all
          · subst z
            have := hc.2.1
            cases q <;> simp_all
          · have al := Al.new (o := .tup (vs ++ vs')) b.fz hp
            exact g _ _ _ al ⟨pp, _, rfl, upd_same, RpL.append (RpL.xt al.f _ _ (dats_ok l1 e1)) (RpL.xt al.f _ _ (dats_ok l2 e2))⟩
        · cases e
      · cases e
    · cases e
theorem paired_append {α β : Type} {R : α → β → Prop} : ∀ {a c : List α} {b d : List β}, Paired R a b → Paired R c d → Paired R (a ++ c) (b ++ d)
  | _, _, _, _, .nil, h => h
  | _, _, _, _, .cons r t, h => .cons r (paired_append t h)
theorem c2_cat : C2 X cl (rAny X (binaryOp .Add)) catC := fun y S b w w' v v' r r' c e Q g => by
  unfold catC at e
  split at e
  · rename_i p q h1 h2
    obtain ⟨a, vs, rfl, t1, l1⟩ := lstW_ok b r h1
    obtain ⟨a', vs', rfl, t2, l2⟩ := lstW_ok b r' h2
    obtain ⟨hc, rfl⟩ := ifc_some e
    refine ⟨_, op_cat, a, a', vs, vs', rfl, rfl, t1, t2, by rw [← Paired.length l1, ← Paired.length l2]; exact hc, fun pp hp => ?_⟩
    exact g pp _ hp ⟨_, upd_same, upd_rw (paired_append l1 l2)⟩
  · cases e
theorem ow_addD : HOp X cl (binaryOp .Add) addD := fun xa C Wx y σ ρ S s w w' v v' r r' Q h => by
  unfold addD addF at h
  split at h
  · rename_i u e
    exact v2_add.h xa C Wx y σ ρ S s w w' v v' r r' Q (by unfold vl2 lift; rw [e]; exact h)
  · exact c2_cat.d xa C Wx y σ ρ S s w w' v v' r r' Q h
theorem ow_addC : HOp X cl (binaryOp .Add) addC := fun xa C Wx y σ ρ S s w w' v v' r r' Q h => by
  unfold addC addF at h
  split at h
  · rename_i u e
    exact v2_add.h xa C Wx y σ ρ S s w w' v v' r r' Q (by unfold vl2 lift; rw [e]; exact h)
  · exact c2_cat.c xa C Wx y σ ρ S s w w' v v' r r' Q h
end

/-! ### data compared -/
mutual
def toPy : D → PyData
  | .non => .none
  | .bl b => .bool b
  | .int i => .int i
  | .str x => .str x
  | .tup ds => .tuple (toPyL ds)
  | .wt ds => .tuple (toPyL ds)
  | .lst ds => .list (toPyL ds)
  | .scr ds => .list (toPyL ds)
  | .dk _ _ => .dict []
  | .dt _ _ => .dict []
  | .obj _ _ _ => .dict []
def toPyL : List D → List PyData
  | [] => []
  | d :: ds => toPy d :: toPyL ds
end
theorem toPyL_map : ∀ ds : List D, toPyL ds = ds.map toPy
  | [] => rfl
  | d :: ds => by simp [toPyL, toPyL_map ds]
mutual
theorem toPy_ok {K : PySem.W.Frag} {cl : Str → Option Addr} {H : Hp} : ∀ (d : D) (v : V), (toPy d).canLay0 = true → Rp K cl H d v → Dp K H v (toPy d)
  | .non, v, _, r => by cases (show v = .non from r); exact .non
  | .bl b, v, _, r => by cases (show v = .bl b from r); exact .bl b
  | .int i, v, _, r => by cases (show v = .int i from r); exact .int i
  | .str x, v, _, r => by cases (show v = .str x from r); exact .str x
  | .tup ds, v, h, r => by
    obtain ⟨a, vs, rfl, t, l⟩ := r
    exact .tup (.inl (.inl t)) (toPyL_ok ds vs (by simpa [toPy, PyData.canLay0] using h) l)
  | .wt ds, v, h, r => by
    obtain ⟨a, vs, rfl, t, l⟩ := r
    exact .tup t (toPyL_ok ds vs (by simpa [toPy, PyData.canLay0] using h) l)
  | .lst ds, v, h, r => by
    obtain ⟨a, vs, rfl, t, l⟩ := r
    exact .lst (.inl (.inl t)) (toPyL_ok ds vs (by simpa [toPy, PyData.canLay0] using h) l)
  | .scr ds, v, h, r => by
    obtain ⟨a, vs, rfl, t, l⟩ := r
    exact .lst t (toPyL_ok ds vs (by simpa [toPy, PyData.canLay0] using h) l)
  | .dk _ _, v, h, r => by simp [toPy, PyData.canLay0] at h
  | .dt _ _, v, h, r => by simp [toPy, PyData.canLay0] at h
  | .obj _ _ _, v, h, r => by simp [toPy, PyData.canLay0] at h
theorem toPyL_ok {K : PySem.W.Frag} {cl : Str → Option Addr} {H : Hp} : ∀ (ds : List D) (vs : List V), PyData.canLayAll0 (toPyL ds) = true → RpL K cl H ds vs → DpAll K H vs (toPyL ds)
  | [], vs, _, r => by cases (show vs = [] from r); exact .nil
  | d :: ds, vs, h, r => by
    obtain ⟨v, t, rfl, r1, r2⟩ := r
    have h' : (toPy d).canLay0 = true ∧ PyData.canLayAll0 (toPyL ds) = true := by simpa [toPyL, PyData.canLayAll0] using h
    exact .cons (toPy_ok d v h'.1 r1) (toPyL_ok ds t h'.2 r2)
end
/-- the data that a value is worth -/
def valW (S : Sto) : W → Option D
  | .da d => some d
  | .lo n => match S[n]? with
    | some (.lst ws) => (dats ws).map .lst
    | some (.tup ws) => (dats ws).map .tup
    | _ => none
  | .xc => none
/-- the very same by plain ways, or by the data's own == -/
noncomputable def eqD : D → D → Option Bool
  | .int i, .int j => some (dec (i = j))
  | .str x, .str y => some (dec (x = y))
  | .bl a, .bl b => some (dec (a = b))
  | a, b => ifc (SeqAt.shaped (toPy a) = true ∧ SeqAt.shaped (toPy b) = true) (some (PyData.eqv (toPy a) (toPy b))) none
noncomputable def eqB (x y : W) (S : Sto) : Option Bool := match valW S x, valW S y with
  | some a, some b => eqD a b
  | _, _ => none
noncomputable def eqW (x y : W) (S : Sto) : Option W := (eqB x y S).map fun b => .da (.bl b)
noncomputable def neW (x y : W) (S : Sto) : Option W := (eqB x y S).map fun b => .da (.bl (!b))
/-- room for nested data -/
abbrev Hu (X : Cx) : Prop := X.A.units + 200 < cLine
section
variable {X : Cx} {cl : Str → Option Addr}
theorem valW_ok {K : PySem.W.Frag} {y : Y} {S : Sto} (b : Bs K cl y S) {w : W} {v : V} {d : D} (r : RW K cl y w v) (h : valW S w = some d) : Rp K cl y.H d v := by
  unfold valW at h
  split at h
  · cases h; exact Rp.xt b.fz _ _ r
  · obtain ⟨a, e, rfl⟩ := r
    split at h
    · rename_i ws hc
      obtain ⟨_, vs, e2, l⟩ := b.at hc (by intro z; cases z) e
      obtain ⟨ds, q, rfl⟩ := Option.map_eq_some_iff.mp h
      exact ⟨a, vs, rfl, e2, RpL.xt b.fz _ _ (dats_ok l q)⟩
    · rename_i ws hc
      obtain ⟨_, vs, e2, l⟩ := b.at hc (by intro z; cases z) e
      obtain ⟨ds, q, rfl⟩ := Option.map_eq_some_iff.mp h
      exact ⟨a, vs, rfl, e2, RpL.xt b.fz _ _ (dats_ok l q)⟩
    · cases h
  · cases h
/-- what == gives -/
theorem eqB_ok {K : PySem.W.Frag} {y : Y} {S : Sto} (b : Bs K cl y S) {wx wy : W} {x z : V} {k : Bool} (rx : RW K cl y wx x) (rz : RW K cl y wy z) (h : eqB wx wy S = some k) :
    (scal x z = true ∧ k = decide (x = z)) ∨ ∃ d e, Dp K y.H x d ∧ Dp K y.H z e ∧ SeqAt.shaped d = true ∧ SeqAt.shaped e = true ∧ k = PyData.eqv d e := by
  unfold eqB at h
  split at h
  · rename_i p q hp hq
    have r1 := valW_ok b rx hp
    have r2 := valW_ok b rz hq
    unfold eqD at h
    split at h
    · rename_i i j
      cases h
      cases (show x = .int i from r1); cases (show z = .int j from r2)
      exact .inl ⟨rfl, by rw [dec_eq]; by_cases e : i = j <;> simp [e]⟩
    · rename_i i j
      cases h
      cases (show x = .str i from r1); cases (show z = .str j from r2)
      exact .inl ⟨rfl, by rw [dec_eq]; by_cases e : i = j <;> simp [e]⟩
    · rename_i i j
      cases h
      cases (show x = .bl i from r1); cases (show z = .bl j from r2)
      exact .inl ⟨rfl, by rw [dec_eq]; by_cases e : i = j <;> simp [e]⟩
    · obtain ⟨hs, rfl⟩ := ifc_some h
      exact .inr ⟨_, _, toPy_ok _ _ (SeqAt.canLay_of_shaped hs.1) r1, toPy_ok _ _ (SeqAt.canLay_of_shaped hs.2) r2, hs.1, hs.2, rfl⟩
  · cases h
theorem ow_eq (hu : Hu X) : HOp X cl (compareOp .Eq) (vl2 eqW) := V2.h fun y S b w w' v v' r r' u e Q g => by
  obtain ⟨k, e0, rfl⟩ := Option.map_eq_some_iff.mp e
  have q := gv_da (v := .bl k) b g rfl
  rcases eqB_ok b r r' e0 with ⟨h, rfl⟩ | ⟨d, e', h1, h2, h3, h4, rfl⟩
  · exact ⟨_, op_eq, h, q⟩
  · exact ⟨_, op_eqD (by have : X.A.units + 200 < cLine := hu; omega), d, e', h1, h2, h3, h4, q⟩
theorem ow_ne (hu : Hu X) : HOp X cl (compareOp .NotEq) (vl2 neW) := V2.h fun y S b w w' v v' r r' u e Q g => by
  obtain ⟨k, e0, rfl⟩ := Option.map_eq_some_iff.mp e
  have q := gv_da (v := .bl (!k)) b g rfl
  rcases eqB_ok b r r' e0 with ⟨h, rfl⟩ | ⟨d, e', h1, h2, h3, h4, rfl⟩
  · exact ⟨_, op_ne, h, q⟩
  · exact ⟨_, op_neD (by have : X.A.units + 200 < cLine := hu; omega), d, e', h1, h2, h3, h4, q⟩
/-- x is None -/
def isN : W → Option Bool
  | .da .non => some true
  | .da _ => some false
  | .lo _ => some false
  | .xc => none
def isNW (x y : W) (_ : Sto) : Option W := match y with
  | .da .non => (isN x).map fun b => .da (.bl b)
  | _ => none
def notNW (x y : W) (_ : Sto) : Option W := match y with
  | .da .non => (isN x).map fun b => .da (.bl (!b))
  | _ => none
theorem isN_ok {K : PySem.W.Frag} {y : Y} {w : W} {v : V} {k : Bool} (r : RW K cl y w v) (h : isN w = some k) : k = decide (v = .non) := by
  cases w with
  | xc => cases h
  | lo n => obtain ⟨a, _, rfl⟩ := r; cases h; exact (decide_eq_false (by intro z; cases z)).symm
  | da d =>
    cases d with
    | non => cases h; cases (show v = .non from r); simp
    | bl b => cases h; cases (show v = .bl b from r); exact (decide_eq_false (by intro z; cases z)).symm
    | int b => cases h; cases (show v = .int b from r); exact (decide_eq_false (by intro z; cases z)).symm
    | str b => cases h; cases (show v = .str b from r); exact (decide_eq_false (by intro z; cases z)).symm
    | tup ds => cases h; obtain ⟨_, _, rfl, _⟩ := r; exact (decide_eq_false (by intro z; cases z)).symm
    | wt ds => cases h; obtain ⟨_, _, rfl, _⟩ := r; exact (decide_eq_false (by intro z; cases z)).symm
    | lst ds => cases h; obtain ⟨_, _, rfl, _⟩ := r; exact (decide_eq_false (by intro z; cases z)).symm
    | scr ds => cases h; obtain ⟨_, _, rfl, _⟩ := r; exact (decide_eq_false (by intro z; cases z)).symm
    | dk g ds => cases h; obtain ⟨_, _, rfl, _⟩ := r; exact (decide_eq_false (by intro z; cases z)).symm
    | dt g ds => cases h; obtain ⟨_, _, rfl, _⟩ := r; exact (decide_eq_false (by intro z; cases z)).symm
    | obj c g ds => cases h; obtain ⟨_, _, _, _, rfl, _⟩ := r; exact (decide_eq_false (by intro z; cases z)).symm
theorem ow_is : HOp X cl (compareOp .Is) (vl2 isNW) := V2.h fun y S b w w' v v' r r' u e Q g => by
  unfold isNW at e
  split at e
  · obtain ⟨k, e0, rfl⟩ := Option.map_eq_some_iff.mp e
    have q := gv_da (v := .bl k) b g rfl
    rw [isN_ok r e0] at q
    exact ⟨_, op_isN, r', q⟩
  · cases e
theorem ow_isnot : HOp X cl (compareOp .IsNot) (vl2 notNW) := V2.h fun y S b w w' v v' r r' u e Q g => by
  unfold notNW at e
  split at e
  · obtain ⟨k, e0, rfl⟩ := Option.map_eq_some_iff.mp e
    have q := gv_da (v := .bl (!k)) b g rfl
    rw [isN_ok r e0] at q
    exact ⟨_, op_notN, r', q⟩
  · cases e
end

/-! ### items -/
theorem RWL.get {K : PySem.W.Frag} {cl : Str → Option Addr} {y : Y} : ∀ {ws : List W} {vs : List V} {i : Nat} {w : W}, RWL K cl y ws vs → ws[i]? = some w → ∃ v, vs[i]? = some v ∧ RW K cl y w v
  | _, _, _, _, .nil, e => by simp at e
  | _, _, 0, _, .cons r _, e => by simp at e; subst e; exact ⟨_, rfl, r⟩
  | _, _, i + 1, w, .cons _ t, e => by
    obtain ⟨u, h1, h2⟩ := RWL.get (i := i) (w := w) t (by simpa using e)
    exact ⟨u, by simpa using h1, h2⟩
theorem RWL.at {K : PySem.W.Frag} {cl : Str → Option Addr} {y : Y} {ws : List W} {vs : List V} {i : Int} {w : W} (h : RWL K cl y ws vs) (e : atI ws i = some w) : ∃ v, atI vs i = some v ∧ RW K cl y w v := by
  unfold atI at e ⊢
  rw [← Paired.length h]
  cases q : ixN ws.length i with
  | none => rw [q] at e; cases e
  | some j =>
    rw [q] at e
    exact RWL.get h e
/-! ### keys -/
def keyD : D → Option Key
  | .int i => some (.inl i)
  | .str x => some (.inr x)
  | _ => none
def keysD : List D → Option (List Key)
  | [] => some []
  | d :: ds => match keyD d, keysD ds with
    | some k, some ks => some (k :: ks)
    | _, _ => none
theorem keyD_ok {K : PySem.W.Frag} {cl : Str → Option Addr} {F : Hp} {d : D} {v : V} {k : Key} (r : Rp K cl F d v) (e : keyD d = some k) : v = kV k := by
  unfold keyD at e
  split at e
  · cases e; exact r
  · cases e; exact r
  · cases e
theorem keysD_ok {K : PySem.W.Frag} {cl : Str → Option Addr} {F : Hp} : ∀ {ds : List D} {vs : List V} {ks : List Key}, RpL K cl F ds vs → keysD ds = some ks → vs = ks.map kV
  | [], vs, ks, r, e => by cases e; exact r
  | d :: ds, vs, ks, r, e => by
    obtain ⟨v, t, rfl, r1, r2⟩ := r
    simp only [keysD] at e
    split at e
    · rename_i k ks' e1 e2
      cases e
      rw [keyD_ok r1 e1, keysD_ok r2 e2]
      rfl
    · cases e
/-- a dict's pairs: by keys that are numbers or texts, by tuples of them -/
def dkW (S : Sto) : W → Option (List (Key × W))
  | .da (.dk ks ds) => some (ks.zip (ds.map .da))
  | .lo n => match S[n]? with
    | some (.dk kws) => some kws
    | _ => none
  | _ => none
def dtW (S : Sto) : W → Option (List (List Key × W))
  | .da (.dt ks ds) => some (ks.zip (ds.map .da))
  | .lo n => match S[n]? with
    | some (.dt kws) => some kws
    | _ => none
  | _ => none
def keyW : W → Option Key
  | .da d => keyD d
  | _ => none
/-- a tuple of keys that is tracked -/
def keysW : W → Option (List Key)
  | .da (.tup ds) => keysD ds
  | _ => none
def look {κ : Type} [DecidableEq κ] : List (κ × W) → κ → Option W
  | [], _ => none
  | (k, w) :: r, j => if k = j then some w else look r j
/-- what stands in a dict at y: none where y is no key or x no dict -/
def dget (x y : W) (S : Sto) : Option (Option W) := match dkW S x with
  | some kws => (keyW y).map (look kws)
  | none => match dtW S x with
    | some kws => (keysW y).map (look kws)
    | none => none
section
variable {X : Cx} {cl : Str → Option Addr}
theorem look_ok {κ : Type} [DecidableEq κ] {K : PySem.W.Frag} {y : Y} {k : κ} : ∀ {kws : List (κ × W)} {kvs : List (κ × V)}, RWP K cl y kws kvs → (∀ w, look kws k = some w → ∃ v, valV kvs k = some v ∧ RW K cl y w v) ∧ (look kws k = none → valV kvs k = none)
  | _, _, .nil => ⟨(fun w e => by cases e), fun _ => valV_nil⟩
  | (j, w) :: kws, (j', v) :: kvs, .cons ⟨e, r⟩ t => by
    cases (show j = j' from e)
    simp only [look]
    by_cases h : j = k
    · rw [if_pos h]
      refine ⟨fun u e => ?_, fun e => by cases e⟩
      cases e
      exact ⟨v, valV_pos h, r⟩
    · rw [if_neg h, valV_neg h]
      exact look_ok t
theorem rwp_of {κ : Type} {K : PySem.W.Frag} {y : Y} : ∀ {ks : List κ} {ws : List W} {vs : List V}, RWL K cl y ws vs → ks.length = vs.length → RWP K cl y (ks.zip ws) (ks.zip vs)
  | [], _, _, .nil, _ => .nil
  | [], _, _, .cons _ _, h => by simp at h
  | k :: ks, _, _, .nil, h => by simp at h
  | k :: ks, _, _, .cons r t, h => .cons ⟨rfl, r⟩ (rwp_of t (by simpa using h))
theorem dkW_ok {K : PySem.W.Frag} {y : Y} {S : Sto} (b : Bs K cl y S) {w : W} {v : V} {kws : List (Key × W)} (r : RW K cl y w v) (h : dkW S w = some kws) : ∃ a kvs, v = .ref a ∧ Rd y.H a (.dK kvs) ∧ RWP K cl y kws kvs := by
  unfold dkW at h
  split at h
  · cases h
    obtain ⟨a, vs, e, ⟨o, t⟩, n, l⟩ := r
    exact ⟨a, _, e, .inr ⟨o, b.fz _ _ t⟩, rwp_of (rwl_da l) n⟩
  · obtain ⟨a, e, rfl⟩ := r
    split at h
    · rename_i kws' hc
      cases h
      obtain ⟨_, kvs, e2, l⟩ := b.at hc (by intro z; cases z) e
      exact ⟨a, kvs, rfl, .inl e2, l⟩
    · cases h
  · cases h
theorem dtW_ok {K : PySem.W.Frag} {y : Y} {S : Sto} (b : Bs K cl y S) {w : W} {v : V} {kws : List (List Key × W)} (r : RW K cl y w v) (h : dtW S w = some kws) : ∃ a kvs, v = .ref a ∧ Rd y.H a (.dT kvs) ∧ RWP K cl y kws kvs := by
  unfold dtW at h
  split at h
  · cases h
    obtain ⟨a, vs, e, ⟨o, t⟩, n, l⟩ := r
    exact ⟨a, _, e, .inr ⟨o, b.fz _ _ t⟩, rwp_of (rwl_da l) n⟩
  · obtain ⟨a, e, rfl⟩ := r
    split at h
    · rename_i kws' hc
      cases h
      obtain ⟨_, kvs, e2, l⟩ := b.at hc (by intro z; cases z) e
      exact ⟨a, kvs, rfl, .inl e2, l⟩
    · cases h
  · cases h
theorem keyW_ok {K : PySem.W.Frag} {y : Y} {w : W} {v : V} {k : Key} (r : RW K cl y w v) (e : keyW w = some k) : v = kV k := by
  unfold keyW at e
  split at e
  · exact keyD_ok r e
  · cases e
theorem keysW_ok {K : PySem.W.Frag} {y : Y} {S : Sto} (b : Bs K cl y S) {w : W} {v : V} {k : List Key} (r : RW K cl y w v) (e : keysW w = some k) : ∃ p, v = .ref p ∧ y.H p = some (.tup (k.map kV)) := by
  unfold keysW at e
  split at e
  · obtain ⟨p, vs, e1, t, l⟩ := r
    rw [← keysD_ok l e]
    exact ⟨p, e1, b.fz _ _ t⟩
  · cases e
/-- the heap's side of dget -/
theorem dget_ok {K : PySem.W.Frag} {y : Y} {S : Sto} (b : Bs K cl y S) {wd wk : W} {d k : V} {o : Option W} (rd : RW K cl y wd d) (rk : RW K cl y wk k) (h : dget wd wk S = some o) :
    ∃ a ov, d = .ref a ∧ DGet y.H a k ov ∧ (∀ w, o = some w → ∃ v, ov = some v ∧ RW K cl y w v) ∧ (o = none → ov = none) := by
  unfold dget at h
  split at h
  · rename_i kws hk
    obtain ⟨a, kvs, e, t, l⟩ := dkW_ok b rd hk
    obtain ⟨kk, hkk, rfl⟩ := Option.map_eq_some_iff.mp h
    have ek := keyW_ok rk hkk
    obtain ⟨q1, q2⟩ := look_ok (k := kk) l
    exact ⟨a, valV kvs kk, e, .inl ⟨kvs, kk, t, ek, rfl⟩, q1, q2⟩
  · split at h
    · rename_i kws hk
      obtain ⟨a, kvs, e, t, l⟩ := dtW_ok b rd hk
      obtain ⟨kk, hkk, rfl⟩ := Option.map_eq_some_iff.mp h
      obtain ⟨p, ek, hp⟩ := keysW_ok b rk hkk
      obtain ⟨q1, q2⟩ := look_ok (k := kk) l
      exact ⟨a, valV kvs kk, e, .inr ⟨kvs, kk, p, t, ek, hp, rfl⟩, q1, q2⟩
    · cases h
open PySem.Spec PyProof.Rows in
theorem ix_dict (hu : X.A.units + 1 < cLine) : IxR X (fun x y H Q => ∃ a v, x = .ref a ∧ DGet H a y (some v) ∧ Q v H) := by
  intro value slice pins s σ H x y v u Q I rx ry h hs
  obtain ⟨a, w, rfl, g, q⟩ := h
  obtain rfl : v = Value.ref a := rx
  have hT := dict_typeIs I g
  unfold subscriptTail
  refine wpAny_bind ?_
  rw [getitemInPython_of_ne hT.not_modules]
  refine wpAny_bind (wpAny_specialOf hT PySem.F.slot_dict_getitem.lookup ?_)
  have fin : wpAny (model X.prog X.w) X.A (subscripted slice false (.ref a) u) (fun r s₃ => wpAny (model X.prog X.w) X.A (letTemporaryGo value (.ref a) r >>= fun _ => pure r) (EP X pins σ Q) X.xe s₃) X.xe s := by
    rw [hs]
    refine wpAny_operating (d_getItem hu I g ry fun w' s3 I3 rw' => ?_)
    exact wpAny_bind (wpAny_letTemporaryGo (wpAny_pure ⟨w, H, I3, rw', q⟩))
  first
    | exact wpAny_pure (wpAny_bind fin)
    | exact wpAny_bind (wpAny_pure (wpAny_bind fin))
    | exact wpAny_bind fin
theorem op_in_dict (hu : X.A.units + 1 < cLine) : OpR X (compareOp .In) (fun x y H Q => ∃ a o, y = .ref a ∧ DGet H a x o ∧ Q (.bl o.isSome) H) := by
  intro pins s σ H x y v u Q I rx ry h
  obtain ⟨a, o, rfl, g, q⟩ := h
  obtain rfl : u = Value.ref a := ry
  exact d_in hu I g rx fun s3 I3 => ⟨.bl o.isSome, H, I3, rfl, q⟩
theorem op_notin_dict (hu : X.A.units + 1 < cLine) : OpR X (compareOp .NotIn) (fun x y H Q => ∃ a o, y = .ref a ∧ DGet H a x o ∧ Q (.bl (!o.isSome)) H) := by
  intro pins s σ H x y v u Q I rx ry h
  obtain ⟨a, o, rfl, g, q⟩ := h
  obtain rfl : u = Value.ref a := ry
  exact d_notIn hu I g rx fun s3 I3 => ⟨.bl (!o.isSome), H, I3, rfl, q⟩
/-- x[i]: a sequence's item, a text's sign, a dict's value -/
noncomputable def ixW (x i : W) (S : Sto) : Option W := match seqW S x with
  | some ws => match i with
    | .da (.int k) => atI ws k
    | _ => none
  | none => match x, i with
    | .da (.str z), .da (.int k) => ifc (z.length ≤ sizeLine) ((atI z.cps.toList k).map fun c => .da (.str ⟨#[c]⟩)) none
    | _, _ => match dget x i S with
      | some o => o
      | none => none
theorem xw_ix (hu : Hu X) : HIx X cl (vl2 ixW) := V2.h fun y S b w w' v v' r r' u e Q g => by
  unfold ixW at e
  split at e
  · rename_i ws hs
    obtain ⟨a, vs, rfl, t, l⟩ := seqW_ok b r hs
    split at e
    · rename_i k
      cases (show v' = .int k from r')
      obtain ⟨z, e1, e2⟩ := RWL.at l e
      have q := gv_w b g e2
      rcases t with t | t
      · exact ⟨_, ix_list, a, vs, k, z, rfl, rfl, t, e1, q⟩
      · exact ⟨_, ix_tup, a, vs, k, z, rfl, rfl, t, e1, q⟩
    · cases e
  · split at e
    · rename_i z k _
      rcases ifc_cases (P := fun r => r = some u) e with ⟨hl, e⟩ | ⟨_, e⟩
      · obtain ⟨c, ec, rfl⟩ := Option.map_eq_some_iff.mp e
        exact ⟨_, ix_str, z, k, c, r, r', hl, ec, gv_da b g rfl⟩
      · cases e
    · split at e
      · rename_i o hd
        subst e
        obtain ⟨a, ov, rfl, dg, h1, _⟩ := dget_ok b r r' hd
        obtain ⟨z, rfl, rz⟩ := h1 u rfl
        exact ⟨_, ix_dict (by have : X.A.units + 200 < cLine := hu; omega), a, z, rfl, dg, gv_w b g rz⟩
      · cases e
theorem qe_ix {xa : Option (Nat × Addr)} {Wx : WX} {pos : Pos} {a b : Expr} {ma mb : ME} {F : W → W → Sto → Rs W} (ho : HIx X cl F) (ha : QE X cl xa Wx a ma) (hb : QE X cl xa Wx b mb) (hs : PlainIx b) : QE X cl xa Wx (.Subscript a b pos) (mOp F ma mb) := by
  obtain ⟨t, p, q⟩ := ha
  obtain ⟨t2, p2, q2⟩ := hb
  exact ⟨_, pe_ix ix_any p p2 hs, se_op ho q q2⟩
/-- x in y: a dict, a sign of a text, a list, a tuple of flat things -/
def flatD : D → Bool
  | .non => true
  | .bl _ => true
  | .int _ => true
  | .str _ => true
  | _ => false
def flV : D → V
  | .bl b => .bl b
  | .int i => .int i
  | .str x => .str x
  | _ => .non
noncomputable def inB (x y : W) (S : Sto) : Option Bool := match dget y x S with
  | some o => some o.isSome
  | none => match x, y with
    | .da (.str a), .da (.str z) => (match a with
      | ⟨⟨[c]⟩⟩ => some (dec (c ∈ z.cps.toList))
      | _ => none)
    | _, _ => match valW S x, valW S y with
      | some a, some (.lst ds) => ifc (SeqAt.shaped (toPy a) = true ∧ SeqAt.shaped (.list (toPyL ds)) = true) (some (ds.any fun z => PyData.eqv (toPy z) (toPy a))) none
      | some a, some (.scr ds) => ifc (SeqAt.shaped (toPy a) = true ∧ SeqAt.shaped (.list (toPyL ds)) = true) (some (ds.any fun z => PyData.eqv (toPy z) (toPy a))) none
      | some a, some (.tup ds) => ifc (flatD a = true ∧ ds.all flatD = true) (some (ds.any fun z => eqV (flV z) (flV a))) none
      | some a, some (.wt ds) => ifc (flatD a = true ∧ ds.all flatD = true) (some (ds.any fun z => eqV (flV z) (flV a))) none
      | _, _ => none
noncomputable def inW (x y : W) (S : Sto) : Option W := (inB x y S).map fun b => .da (.bl b)
noncomputable def notinW (x y : W) (S : Sto) : Option W := (inB x y S).map fun b => .da (.bl (!b))
theorem flat_ok {K : PySem.W.Frag} {F : Hp} {d : D} {v : V} (r : Rp K cl F d v) (h : flatD d = true) : v = flV d ∧ flatV v = true := by
  cases d <;> simp [flatD] at h
  · cases (show v = .non from r); exact ⟨rfl, rfl⟩
  · cases r; exact ⟨rfl, rfl⟩
  · cases r; exact ⟨rfl, rfl⟩
  · cases r; exact ⟨rfl, rfl⟩
theorem flats_ok {K : PySem.W.Frag} {F : Hp} {x : V} : ∀ {ds : List D} {vs : List V}, RpL K cl F ds vs → ds.all flatD = true → vs.all flatV = true ∧ inV x vs = ds.any fun z => eqV (flV z) x
  | [], vs, r, _ => by cases (show vs = [] from r); exact ⟨rfl, rfl⟩
  | d :: ds, vs, r, h => by
    obtain ⟨v, t, rfl, r1, r2⟩ := r
    simp only [List.all_cons, Bool.and_eq_true] at h
    obtain ⟨e1, e2⟩ := flat_ok r1 h.1
    obtain ⟨f1, f2⟩ := flats_ok (x := x) r2 h.2
    refine ⟨by simp [e2, f1], ?_⟩
    have : inV x (v :: t) = (eqV v x || inV x t) := rfl
    rw [this, f2, e1]
    rfl
theorem inB_ok {K : PySem.W.Frag} {y : Y} {S : Sto} (b : Bs K cl y S) {wx wy : W} {x z : V} {k : Bool} (rx : RW K cl y wx x) (rz : RW K cl y wy z) (h : inB wx wy S = some k) :
    (∃ a o, z = .ref a ∧ DGet y.H a x o ∧ k = o.isSome) ∨ (∃ (c : Nat) (t : Str), x = .str ⟨#[c]⟩ ∧ z = .str t ∧ k = decide (c ∈ t.cps.toList)) ∨
    (∃ d ds, Dp K y.H x d ∧ Dp K y.H z (.list ds) ∧ SeqAt.shaped d = true ∧ SeqAt.shaped (.list ds) = true ∧ k = ds.any fun z => PyData.eqv z d) ∨
    ∃ p xs, z = .ref p ∧ (SqL K y.H p xs ∨ SqT K y.H p xs) ∧ flatV x = true ∧ xs.all flatV = true ∧ k = inV x xs := by
  have pyl : ∀ (ds : List D) (p : PyData), (toPyL ds).any (fun z => PyData.eqv z p) = ds.any fun z => PyData.eqv (toPy z) p := fun ds p => by
    rw [toPyL_map, List.any_map]; rfl
  unfold inB at h
  split at h
  · rename_i o hd
    cases h
    obtain ⟨a, ov, e, g, h1, h2⟩ := dget_ok b rz rx hd
    refine .inl ⟨a, ov, e, g, ?_⟩
    cases o with
    | none => rw [h2 rfl]; rfl
    | some w => obtain ⟨v, rfl, _⟩ := h1 w rfl; rfl
  · split at h
    · rename_i a t _
      split at h
      · rename_i c _
        cases h
        exact .inr (.inl ⟨c, t, rx, rz, dec_eq _⟩)
      · cases h
    · split at h
      · rename_i a ds h1 h2
        have r1 := valW_ok b rx h1
        have r2 := valW_ok b rz h2
        obtain ⟨hs, rfl⟩ := ifc_some h
        exact .inr (.inr (.inl ⟨_, _, toPy_ok _ _ (SeqAt.canLay_of_shaped hs.1) r1, toPy_ok (.lst ds) _ (SeqAt.canLay_of_shaped hs.2) r2, hs.1, hs.2, (pyl _ _).symm⟩))
      · rename_i a ds h1 h2
        have r1 := valW_ok b rx h1
        have r2 := valW_ok b rz h2
        obtain ⟨hs, rfl⟩ := ifc_some h
        exact .inr (.inr (.inl ⟨_, _, toPy_ok _ _ (SeqAt.canLay_of_shaped hs.1) r1, toPy_ok (.scr ds) _ (SeqAt.canLay_of_shaped hs.2) r2, hs.1, hs.2, (pyl _ _).symm⟩))
      · rename_i a ds h1 h2
        have r1 := valW_ok b rx h1
        obtain ⟨p, xs, e, t, l⟩ := valW_ok b rz h2
        obtain ⟨hs, rfl⟩ := ifc_some h
        obtain ⟨e1, e2⟩ := flat_ok r1 hs.1
        obtain ⟨f1, f2⟩ := flats_ok (x := x) l hs.2
        refine .inr (.inr (.inr ⟨p, xs, e, .inr (.inl (.inl t)), e2, f1, ?_⟩))
        rw [f2, e1]
      · rename_i a ds h1 h2
        have r1 := valW_ok b rx h1
        obtain ⟨p, xs, e, t, l⟩ := valW_ok b rz h2
        obtain ⟨hs, rfl⟩ := ifc_some h
        obtain ⟨e1, e2⟩ := flat_ok r1 hs.1
        obtain ⟨f1, f2⟩ := flats_ok (x := x) l hs.2
        refine .inr (.inr (.inr ⟨p, xs, e, .inr t, e2, f1, ?_⟩))
        rw [f2, e1]
      · cases h
theorem ow_in (hu : Hu X) : HOp X cl (compareOp .In) (vl2 inW) := V2.h fun y S b w w' v v' r r' u e Q g => by
  obtain ⟨k, e0, rfl⟩ := Option.map_eq_some_iff.mp e
  have q := gv_da (v := .bl k) b g rfl
  have h1 : X.A.units + 200 < cLine := hu
  rcases inB_ok b r r' e0 with ⟨a, o, rfl, dg, rfl⟩ | ⟨c, t, rfl, rfl, rfl⟩ | ⟨d, ds, e1, e2, e3, e4, rfl⟩ | ⟨p, xs, rfl, e1, e2, e3, rfl⟩
  · exact ⟨_, op_in_dict (by omega), a, o, rfl, dg, q⟩
  · exact ⟨_, op_in_sign, c, t, rfl, rfl, q⟩
  · exact ⟨_, op_inD (by omega), d, ds, e1, e2, e3, e4, q⟩
  · exact ⟨_, op_in_seq, p, xs, rfl, e1, e2, e3, q⟩
theorem ow_notin (hu : Hu X) : HOp X cl (compareOp .NotIn) (vl2 notinW) := V2.h fun y S b w w' v v' r r' u e Q g => by
  obtain ⟨k, e0, rfl⟩ := Option.map_eq_some_iff.mp e
  have q := gv_da (v := .bl (!k)) b g rfl
  have h1 : X.A.units + 200 < cLine := hu
  rcases inB_ok b r r' e0 with ⟨a, o, rfl, dg, rfl⟩ | ⟨c, t, rfl, rfl, rfl⟩ | ⟨d, ds, e1, e2, e3, e4, rfl⟩ | ⟨p, xs, rfl, e1, e2, e3, rfl⟩
  · exact ⟨_, op_notin_dict (by omega), a, o, rfl, dg, q⟩
  · exact ⟨_, op_notIn_sign, c, t, rfl, rfl, q⟩
  · exact ⟨_, op_notInD (by omega), d, ds, e1, e2, e3, e4, q⟩
  · exact ⟨_, op_notIn_seq, p, xs, rfl, e1, e2, e3, q⟩
end
end Ng
namespace Ng
open PySem L2

/-! ### locked for good: dicts as data -/
def datL : Cell → Option D
  | .dk kws => (dats (kws.map (·.2))).map (.dk (kws.map (·.1)))
  | .dt kws => (dats (kws.map (·.2))).map (.dt (kws.map (·.1)))
  | _ => none
def mkL (o : Option Cell) (S : Sto) : Rs W := match o with
  | some c => match datL c with
    | some d => .ok (.da d) S
    | none => .stuck
  | none => .stuck
def lkN (f : List W → Sto → Option Cell) : List W → Sto → Rs W := fun xs S => mkL (f xs S) S
def rLk (r : List V → Hp → VK → Prop) : List V → Hp → VK → Prop := fun vs H Q => r vs H fun v H1 => Lks (Q v) H1
section
variable {X : Cx} {cl : Str → Option Addr} {xa : Option (Nat × Addr)} {C : Cn} {Wx : WX} {y : Y} {σ : St} {ρ : Rho} {S : Sto} {Q : VK}
theorem datL_ok {K : PySem.W.Frag} {p : Addr} {o : HO} {c : Cell} {d : D} (hc : CellR K cl (y.new p o) p c) (e : datL c = some d) : Mut (some o) ∧ ∀ (od : Obj) (F' : Hp), Ex y.F F' → F' p = some (.frz od o) → Rp K cl F' d (.ref p) := by
  cases c with
  | dk kws =>
    obtain ⟨kvs, h1, h2⟩ := hc
    have e1 : some o = some (.dK kvs) := upd_same.symm.trans h1
    cases e1
    obtain ⟨ds, q, rfl⟩ := Option.map_eq_some_iff.mp e
    obtain ⟨z1, z2⟩ := rwp_zip h2
    refine ⟨trivial, fun od F' x e => ⟨p, kvs.map (·.2), rfl, ⟨od, ?_⟩, ?_, RpL.xt x _ _ (dats_ok (y := y.new p _) z1 q)⟩⟩
    · rw [← z2]; exact e
    · rw [List.length_map, List.length_map]; exact Paired.length h2
  | dt kws =>
    obtain ⟨kvs, h1, h2⟩ := hc
    have e1 : some o = some (.dT kvs) := upd_same.symm.trans h1
    cases e1
    obtain ⟨ds, q, rfl⟩ := Option.map_eq_some_iff.mp e
    obtain ⟨z1, z2⟩ := rwp_zip h2
    refine ⟨trivial, fun od F' x e => ⟨p, kvs.map (·.2), rfl, ⟨od, ?_⟩, ?_, RpL.xt x _ _ (dats_ok (y := y.new p _) z1 q)⟩⟩
    · rw [← z2]; exact e
    · rw [List.length_map, List.length_map]; exact Paired.length h2
  | lst _ => cases e
  | tup _ => cases e
  | ins _ _ => cases e
  | dead => cases e
theorem upd_upd {H : Hp} {p : Addr} {o o' : HO} : upd (upd H p o) p o' = upd H p o' := by
  funext b
  by_cases h : b = p
  · subst h; rw [upd_same, upd_same]
  · rw [upd_ne h, upd_ne h, upd_ne h]
theorem post_newL {K : PySem.W.Frag} {o : Option Cell} (s : Sim K cl xa C y σ ρ S) (h : Post K cl xa C Wx y σ ρ (mkL o S) (OkE K cl xa C y σ ρ Q)) : ∃ c, o = some c ∧ Gn K cl y c (fun v H1 => Lks (Q v) H1) := by
  unfold mkL at h
  split at h
  · rename_i c
    split at h
    · rename_i d hd
      refine ⟨_, rfl, fun p o hp hc => ?_⟩
      obtain ⟨mu, hr⟩ := datL_ok hc hd
      refine .lock p o upd_same mu fun od => .now ?_
      rw [upd_upd]
      have al := Al.new (o := .frz od o) s.bs.fz hp
      exact h (.ref p) _ (s.al al) al.gr (hr od _ al.f upd_same)
    · exact h.elim
  · exact h.elim
theorem CN.l {r : List V → Hp → VK → Prop} {f : List W → Sto → Option Cell} (v : CN X cl r f) : HN X cl (rLk r) (lkN f) := fun xa C Wx y σ ρ S s w x rx Q h => by
  obtain ⟨u, e, g⟩ := post_newL s h
  exact v y S s.bs w x rx u e _ g
end

/-! ### built-ins by name -/
section
variable {X : Cx} {cl : Str → Option Addr} {xa : Option (Nat × Addr)} {Wx : WX} {pos : Pos} {a b c e : Expr} {es : List Expr} {ma mb mc me : ME} {mr : MA} {ta tb tc : MT}
theorem qe_callB {x : Str} {id : String} {p : Pos} {F : List W → Sto → Rs W} (ho : HCall X cl (.builtin id) F) (hg : Gl X x) (hm : X.mg x = none) (hv : bootBuiltins x = some (.builtin id)) (ha : QA X cl xa Wx (e :: es) mr) (hn : x ≠ "__name__" := by decide) (hdb : (x == ("__debug__" : Str)) = false := by decide)
    (he : starEach (e :: es) X.env = (false, eval e X.env) :: starEach es X.env := by rfl) (hpl : (backTo pos (starEach es X.env)).any (·.1) = false := by rfl) : QE X cl xa Wx (.Call (.Name x p) (e :: es) [] pos) (mCall F mr) := by
  obtain ⟨t, p, q⟩ := ha
  exact ⟨_, pe_callB call_any hg hm hv p hn hdb he hpl, se_call ho q⟩
theorem qe_callTy {x : Str} {T : String} {p : Pos} {F : List W → Sto → Rs W} (ho : HCall X cl (.type T) F) (hg : Gl X x) (hm : X.mg x = none) (hv : bootBuiltins x = some (.type T)) (ha : QA X cl xa Wx (e :: es) mr) (hn : x ≠ "__name__" := by decide) (hdb : (x == ("__debug__" : Str)) = false := by decide)
    (he : starEach (e :: es) X.env = (false, eval e X.env) :: starEach es X.env := by rfl) (hpl : (backTo pos (starEach es X.env)).any (·.1) = false := by rfl) : QE X cl xa Wx (.Call (.Name x p) (e :: es) [] pos) (mCall F mr) := by
  obtain ⟨t, p, q⟩ := ha
  exact ⟨_, pe_callTy call_any hg hm hv p hn hdb he hpl, se_call ho q⟩
/-- .. what is made is locked for good -/
theorem qe_callTyL {x : Str} {T : String} {p : Pos} {F : List W → Sto → Rs W} (ho : HN X cl (rLk (cAny X (.type T))) F) (hg : Gl X x) (hm : X.mg x = none) (hv : bootBuiltins x = some (.type T)) (ha : QA X cl xa Wx (e :: es) mr) (hn : x ≠ "__name__" := by decide) (hdb : (x == ("__debug__" : Str)) = false := by decide)
    (he : starEach (e :: es) X.env = (false, eval e X.env) :: starEach es X.env := by rfl) (hpl : (backTo pos (starEach es X.env)).any (·.1) = false := by rfl) : QE X cl xa Wx (.Call (.Name x p) (e :: es) [] pos) (mCall F mr) := by
  obtain ⟨t, p, q⟩ := ha
  exact ⟨_, pe_lk (pe_callTy call_any hg hm hv p hn hdb he hpl), se_call ho q⟩
theorem rwl1 {K : PySem.W.Frag} {y : Y} {w : W} {vs : List V} (h : RWL K cl y [w] vs) : ∃ v, vs = [v] ∧ RW K cl y w v := by
  cases h with
  | cons r t => cases t; exact ⟨_, rfl, r⟩
theorem rwl2 {K : PySem.W.Frag} {y : Y} {w u : W} {vs : List V} (h : RWL K cl y [w, u] vs) : ∃ v z, vs = [v, z] ∧ RW K cl y w v ∧ RW K cl y u z := by
  cases h with
  | cons r t =>
    cases t with
    | cons r2 t2 => cases t2; exact ⟨_, _, rfl, r, r2⟩
theorem call_lenR : CallR X (.builtin "len") (fun xs H Q => ∃ a kvs, xs = [V.ref a] ∧ Rd H a (.dK kvs) ∧ Q (.int kvs.length) H) := by
  intro pins s σ H xs us Q I r h
  obtain ⟨a, kvs, rfl, e, q⟩ := h
  cases r with
  | cons r1 t =>
    cases t
    cases r1
    exact d_len I e fun t s' I' => ⟨.int kvs.length, H, I', ⟨t, rfl⟩, q⟩
/-- len -/
noncomputable def lenW : List W → Sto → Option W
  | [w], S => match seqW S w with
    | some ws => some (.da (.int ws.length))
    | none => match w with
      | .da (.str z) => ifc (z.length ≤ sizeLine) (some (.da (.int z.length))) none
      | _ => match dkW S w with
        | some kws => some (.da (.int kws.length))
        | none => none
  | _, _ => none
theorem cw_len : HCall X cl (.builtin "len") (vlN lenW) := VN.h fun y S b ws vs rs u e Q g => by
  unfold lenW at e
  split at e
  · rename_i w
    obtain ⟨v, rfl, r⟩ := rwl1 rs
    split at e
    · rename_i us q
      cases e
      obtain ⟨p, vs, rfl, t, l⟩ := seqW_ok b r q
      refine ⟨_, call_len_seq, p, vs, rfl, t, ?_⟩
      rw [← Paired.length l]
      exact gv_da b g rfl
    · split at e
      · rename_i z _
        obtain ⟨hl, rfl⟩ := ifc_some e
        cases (show v = .str z from r)
        exact ⟨_, call_len, _, z.length, rfl, ⟨hl, rfl⟩, gv_da b g rfl⟩
      · split at e
        · rename_i kws q
          cases e
          obtain ⟨a, kvs, rfl, t, l⟩ := dkW_ok b r q
          refine ⟨_, call_lenR, a, kvs, rfl, t, ?_⟩
          rw [← Paired.length l]
          exact gv_da b g rfl
        · cases e
  · cases e
def min2W : List W → Sto → Option W
  | [.da (.int i), .da (.int j)], _ => some (.da (.int (if j < i then j else i)))
  | _, _ => none
def max2W : List W → Sto → Option W
  | [.da (.int i), .da (.int j)], _ => some (.da (.int (if j > i then j else i)))
  | _, _ => none
theorem cw_min2 (hc : X.calm = true) : HCall X cl (.builtin "min") (vlN min2W) := VN.h fun y S b ws vs rs u e Q g => by
  unfold min2W at e
  split at e
  · rename_i i j
    cases e
    obtain ⟨v, z, rfl, r1, r2⟩ := rwl2 rs
    cases (show v = .int i from r1); cases (show z = .int j from r2)
    exact ⟨_, call_min2 hc, i, j, rfl, gv_da b g rfl⟩
  · cases e
theorem cw_max2 (hc : X.calm = true) : HCall X cl (.builtin "max") (vlN max2W) := VN.h fun y S b ws vs rs u e Q g => by
  unfold max2W at e
  split at e
  · rename_i i j
    cases e
    obtain ⟨v, z, rfl, r1, r2⟩ := rwl2 rs
    cases (show v = .int i from r1); cases (show z = .int j from r2)
    exact ⟨_, call_max2 hc, i, j, rfl, gv_da b g rfl⟩
  · cases e
def intW : List W → Sto → Option W
  | [.da (.int i)], _ => some (.da (.int i))
  | [.da (.bl b)], _ => some (.da (.int (if b then 1 else 0)))
  | _, _ => none
theorem cw_int : HCall X cl (.type "int") (vlN intW) := VN.h fun y S b ws vs rs u e Q g => by
  unfold intW at e
  split at e
  · cases e
    obtain ⟨v, rfl, r⟩ := rwl1 rs
    cases r
    exact ⟨_, call_int1, .inl ⟨_, rfl, gv_da b g rfl⟩⟩
  · cases e
    obtain ⟨v, rfl, r⟩ := rwl1 rs
    cases r
    exact ⟨_, call_int1, .inr ⟨_, rfl, gv_da b g rfl⟩⟩
  · cases e
/-- list(x): of a list, a tuple, a dict's keys -/
def kD : Key → D
  | .inl i => .int i
  | .inr x => .str x
theorem kD_ok {K : PySem.W.Frag} {F : Hp} (k : Key) : Rp K cl F (kD k) (kV k) := by cases k <;> rfl
def listC : List W → Sto → Option Cell
  | [w], S => match seqW S w with
    | some ws => some (.lst ws)
    | none => match dkW S w with
      | some kws => some (.lst (kws.map fun kw => .da (kD kw.1)))
      | none => none
  | _, _ => none
theorem rwl_keys {K : PySem.W.Frag} {y : Y} : ∀ {kws : List (Key × W)} {kvs : List (Key × V)}, RWP K cl y kws kvs → RWL K cl y (kws.map fun kw => .da (kD kw.1)) (kvs.map fun kv => kV kv.1)
  | _, _, .nil => .nil
  | (k, w) :: kws, (k', v) :: kvs, .cons h t => by
    cases (show k = k' from h.1)
    exact .cons (kD_ok k) (rwl_keys t)
open PySem.Spec PyProof.Rows in
theorem call_list_dR (hc : X.calm = true) : CallR X (.type "list") (fun xs H Q => ∃ p kvs, xs = [V.ref p] ∧ Rd H p (.dK kvs) ∧ ∀ q, H q = none → Q (.ref q) (upd H q (.lst (kvs.map fun kv => kV kv.1)))) := by
  intro pins s σ H xs us Q I r ⟨p, kvs, e, hk, q⟩
  subst e
  obtain ⟨u, rfl, rx⟩ := vals1 r
  cases (show u = Value.ref p from rx)
  obtain ⟨z, lo, vs, rk, hd⟩ := dk_rd I.hok hk
  obtain ⟨ep, hat⟩ := hd.dictAt
  have hl : kvs.length = vs.length := Paired.length rk
  refine PySem.W.kdl_call (PySem.W.kdl_dict (knd := mixKind X.prog X.w) (kvs := vs) (ep := ep) lo) (I.ok.hd hc) hat (by omega) fun h' tk ac c' hkeep hS hacc => ?_
  have ok : ObjOk X.prog X.w (upd H s.heap.objs.size (.lst (kvs.map fun kv => kV kv.1))) h' s.heap.objs.size (.lst (kvs.map fun kv => kV kv.1)) := by
    refine ⟨by rw [List.length_map]; exact z, ac.toList, c', vals_of_at (by have q1 := hacc.1; simp only [List.length_map]; rw [show ac.toList.length = ac.size by simp, q1, hl]) fun j x w h1 h2 => ?_, by rw [Array.toArray_toList]; exact hS⟩
    obtain ⟨k, y, hky, hi⟩ := hacc.2 j w (by rw [← Array.getElem?_toList]; exact h2)
    have e1 : (kvs.map (·.1))[j]? = some k := by
      rw [KV.keys rk, List.getElem?_map, hky]; rfl
    have e2 : (kvs.map fun kv => kV kv.1) = (kvs.map (·.1)).map kV := by rw [List.map_map]; rfl
    rw [e2, List.getElem?_map, e1] at h1
    cases h1
    exact keyIs_rel hi
  exact ⟨.ref s.heap.objs.size, _, I.laid hkeep (Nat.le_refl _) ok, rfl, q _ (I.hok.fresh (Nat.le_refl _))⟩
theorem cn_list (hc : X.calm = true) : CN X cl (cAny X (.type "list")) listC := fun y S b ws vs rs c e Q g => by
  unfold listC at e
  split at e
  · rename_i w
    obtain ⟨v, rfl, r⟩ := rwl1 rs
    split at e
    · rename_i us q
      cases e
      obtain ⟨p, vs, rfl, t, l⟩ := seqW_ok b r q
      exact ⟨_, call_list_of, p, vs, rfl, t, fun q hq => g q _ hq ⟨_, upd_same, upd_rw l⟩⟩
    · split at e
      · rename_i kws q
        cases e
        obtain ⟨a, kvs, rfl, t, l⟩ := dkW_ok b r q
        refine ⟨_, call_list_dR hc, ?_⟩
        exact ⟨a, kvs, rfl, t, fun p hp => g p _ hp ⟨_, upd_same, upd_rw (rwl_keys l)⟩⟩
      · cases e
  · cases e
/-- dict(d) -/
def dictC : List W → Sto → Option Cell
  | [w], S => (dkW S w).map .dk
  | _, _ => none
theorem call_dict_of : CallR X (.type "dict") (fun xs H Q => ∃ a kvs, xs = [V.ref a] ∧ Rd H a (.dK kvs) ∧ ∀ p, H p = none → Q (.ref p) (upd H p (.dK kvs))) := by
  intro pins s σ H xs us Q I r h
  obtain ⟨a, kvs, rfl, e, q⟩ := h
  cases r with
  | cons r1 t =>
    cases t
    cases r1
    exact d_copyOf I e fun p s' hp I' => ⟨.ref p, _, I', rfl, q p hp⟩
theorem rwp_new {κ : Type} {K : PySem.W.Frag} {y : Y} {p : Addr} {o : HO} {ws : List (κ × W)} {vs : List (κ × V)} (h : RWP K cl y ws vs) : RWP K cl (y.new p o) ws vs := RWP.grow (y.gr_new p o) h
theorem cn_dict : CN X cl (cAny X (.type "dict")) dictC := fun y S b ws vs rs c e Q g => by
  unfold dictC at e
  split at e
  · rename_i w
    obtain ⟨v, rfl, r⟩ := rwl1 rs
    obtain ⟨kws, q, rfl⟩ := Option.map_eq_some_iff.mp e
    obtain ⟨a, kvs, rfl, t, l⟩ := dkW_ok b r q
    exact ⟨_, call_dict_of, a, kvs, rfl, t, fun p hp => g p _ hp ⟨_, upd_same, rwp_new l⟩⟩
  · cases e
/-- list(range(n)) -/
def intsW (lo : Int) : Nat → List W
  | 0 => []
  | n + 1 => .da (.int lo) :: intsW (lo + 1) n
theorem intsW_get : ∀ (n : Nat) (lo : Int) (i : Nat), i < n → (intsW lo n)[i]? = some (.da (.int (lo + i)))
  | 0, _, _, h => by omega
  | n + 1, lo, 0, _ => by simp [intsW]
  | n + 1, lo, i + 1, h => by
    simp only [intsW, List.getElem?_cons_succ]
    rw [intsW_get n (lo + 1) i (by omega)]
    congr 3
    omega
theorem intsW_len : ∀ (n : Nat) (lo : Int), (intsW lo n).length = n
  | 0, _ => rfl
  | n + 1, lo => by simp [intsW, intsW_len n]
theorem RWL.of_get {K : PySem.W.Frag} {y : Y} : ∀ {ds : List W} {vs : List V}, ds.length = vs.length → (∀ (i : Nat) (d : W) (v : V), ds[i]? = some d → vs[i]? = some v → RW K cl y d v) → RWL K cl y ds vs
  | [], [], _, _ => .nil
  | [], _ :: _, h, _ => by simp at h
  | _ :: _, [], h, _ => by simp at h
  | d :: ds, v :: vs, h, k => .cons (k 0 d v rfl rfl) (RWL.of_get (by simpa using h) fun i a b e1 e2 => k (i + 1) a b (by simpa using e1) (by simpa using e2))
theorem rwl_rg {K : PySem.W.Frag} {y : Y} (n : Int) : RWL K cl y (intsW 0 n.toNat) (rgV 0 n) := by
  refine RWL.of_get ?_ fun i d v e1 e2 => ?_
  · rw [intsW_len]; unfold rgV; simp
  · have hi : i < n.toNat := by
      have := (List.getElem?_eq_some_iff.mp e1).1
      rw [intsW_len] at this; exact this
    rw [intsW_get _ _ _ hi] at e1
    unfold rgV at e2
    rw [List.getElem?_map, List.getElem?_range (by simpa using hi)] at e2
    cases e1
    cases e2
    exact rfl
noncomputable def lrgC : W → Option Cell
  | .da (.int n) => ifc (0 ≤ n ∧ n ≤ 1000000) (some (.lst (intsW 0 n.toNat))) none
  | _ => none
theorem se_lrg {t : TE} {mk : Option Cell → Sto → Rs W} (hmk : ∀ (C : Cn) (y : Y) (σ : St) (ρ : Rho) (S : Sto) (o : Option Cell) (Q : VK), Sim X.K cl xa C y σ ρ S → Post X.K cl xa C Wx y σ ρ (mk o S) (OkE X.K cl xa C y σ ρ Q) → ∃ c, o = some c ∧ Gn X.K cl y c Q)
    (q : SE X.K cl xa Wx t me) : SE X.K cl xa Wx (tLstRg (tRg1 t)) (fun ρ S => (me ρ S).bind fun w S => mk (lrgC w) S) := by
  intro C y σ ρ S s Q h
  refine q C y σ ρ S s _ (Post.go h fun w S1 h1 v z s1 g1 r1 => ?_)
  obtain ⟨c, e, g⟩ := hmk C z σ ρ S1 _ Q s1 (Post.re (h1 z g1) g1)
  unfold lrgC at e
  split at e
  · rename_i n
    obtain ⟨hn, rfl⟩ := ifc_some e
    cases (show v = .int n from r1)
    refine ⟨n, rfl, ?_, fun p hp => g p _ hp ⟨_, upd_same, rwl_rg n⟩⟩
    unfold RgOk
    omega
  · cases e
noncomputable def mListRg (mk : Option Cell → Sto → Rs W) (me : ME) : ME := fun ρ S => (me ρ S).bind fun w S => mk (lrgC w) S
theorem qe_listRg {p p2 pos2 : Pos} (hc : X.calm = true) (hg : Gl X "list") (hm : X.mg "list" = none) (hg2 : Gl X "range") (hm2 : X.mg "range" = none) (ha : QE X cl xa Wx a me)
    (na : starEach [a] X.env = (false, eval a X.env) :: starEach [] X.env := by rfl) (nb : starEach [.Call (.Name "range" p2) [a] [] pos2] X.env = (false, eval (.Call (.Name "range" p2) [a] [] pos2) X.env) :: starEach [] X.env := by rfl) :
    QE X cl xa Wx (.Call (.Name "list" p) [.Call (.Name "range" p2) [a] [] pos2] [] pos) (mListRg mkD me) := by
  obtain ⟨t, pe, q⟩ := ha
  exact ⟨_, pe_listRg hc hg hm (prg_1 hg2 hm2 pe na) nb, se_lrg (fun C y σ ρ S o Q s h => post_newD s h) q⟩
/-! ### isinstance -/
def tyD : D → Option String
  | .non => some "NoneType"
  | .bl _ => some "bool"
  | .int _ => some "int"
  | .str _ => some "str"
  | .tup _ => some "tuple"
  | .wt _ => some "tuple"
  | .lst _ => some "list"
  | .scr _ => some "list"
  | .dk _ _ => some "dict"
  | .dt _ _ => none
  | .obj _ _ _ => none
def tyW (S : Sto) : W → Option String
  | .da d => tyD d
  | .lo n => match S[n]? with
    | some (.lst _) => some "list"
    | some (.tup _) => some "tuple"
    | some (.dk _) => some "dict"
    | some (.dt _) => some "dict"
    | _ => none
  | .xc => none
theorem tyX_rdL {K : PySem.W.Frag} {H : Hp} {a : Addr} {vs : List V} (h : SqL K H a vs) : TyX K H (.ref a) (.type "list") := by
  rcases h with (h | ⟨o, h⟩) | ⟨o, _, _, h, c, _⟩
  · exact .base (.lst h)
  · exact .base (.frz h)
  · exact .kList h c
theorem tyX_rdT {K : PySem.W.Frag} {H : Hp} {a : Addr} {vs : List V} (h : SqT K H a vs) : TyX K H (.ref a) (.type "tuple") := by
  rcases h with (h | ⟨o, h⟩) | ⟨o, _, _, h, c, _⟩
  · exact .base (.tup h)
  · exact .fTuple h
  · exact .kTuple h c
theorem tyW_ok {K : PySem.W.Frag} {y : Y} {S : Sto} (s : Bs K cl y S) {w : W} {v : V} {n : String} (r : RW K cl y w v) (h : tyW S w = some n) : TyX K y.H v (.type n) := by
  cases w with
  | xc => cases h
  | da d =>
    cases d with
    | non => cases h; cases (show v = .non from r); exact .base .non
    | bl b => cases h; cases (show v = .bl b from r); exact .base (.bl b)
    | int b => cases h; cases (show v = .int b from r); exact .base (.int b)
    | str b => cases h; cases (show v = .str b from r); exact .base (.str b)
    | tup ds => cases h; obtain ⟨a, vs, rfl, t, l⟩ := r; exact .base (.tup (s.fz _ _ t))
    | wt ds => cases h; obtain ⟨a, vs, rfl, t, l⟩ := r; exact tyX_rdT (sqT_xt s.fz t)
    | lst ds => cases h; obtain ⟨a, vs, rfl, t, l⟩ := r; exact .base (.lst (s.fz _ _ t))
    | scr ds => cases h; obtain ⟨a, vs, rfl, t, l⟩ := r; exact tyX_rdL (sqL_xt s.fz t)
    | dk ks ds => cases h; obtain ⟨a, vs, rfl, ⟨o, t⟩, _, l⟩ := r; exact .fDict (s.fz _ _ t)
    | dt ks ds => cases h
    | obj c fs ds => cases h
  | lo m =>
    obtain ⟨a, e, rfl⟩ := r
    simp only [tyW] at h
    split at h
    · rename_i ws q
      cases h
      obtain ⟨_, vs, e2, l⟩ := s.at q (by intro z; cases z) e
      exact .base (.lst e2)
    · rename_i ws q
      cases h
      obtain ⟨_, vs, e2, l⟩ := s.at q (by intro z; cases z) e
      exact .base (.tup e2)
    · rename_i ws q
      cases h
      obtain ⟨_, vs, e2, l⟩ := s.at q (by intro z; cases z) e
      exact .base (.dK e2)
    · rename_i ws q
      cases h
      obtain ⟨_, vs, e2, l⟩ := s.at q (by intro z; cases z) e
      exact .base (.dT e2)
    · cases h
/-- isinstance(x, T) and isinstance(x, (T, U)): built-in classes by their names -/
def isiB (ns : List String) (w : W) (S : Sto) : Option Bool := match tyW S w with
  | some t => match ns with
    | [n] => kitB t n
    | [n, k] => match kitB t n, kitB t k with
      | some b, some c => some (b || c)
      | _, _ => none
    | _ => none
  | none => none
def isiW (ns : List String) (w : W) (S : Sto) : Rs W := match isiB ns w S with
  | some b => .ok (.da (.bl b)) S
  | none => .stuck
theorem qe_isi {x : Str} {n : String} {p p2 : Pos} (hg : Gl X "isinstance") (hm : X.mg "isinstance" = none) (hg2 : Gl X x) (hm2 : X.mg x = none) (hb2 : bootBuiltins x = some (.type n)) (ha : QE X cl xa Wx e me)
    (hs : starEach [e, .Name x p2] X.env = (false, eval e X.env) :: starEach [.Name x p2] X.env := by rfl) (hs2 : starEach [.Name x p2] X.env = (false, eval (.Name x p2) X.env) :: starEach [] X.env := by rfl)
    (hpl : (backTo pos (starEach [.Name x p2] X.env)).any (·.1) = false := by rfl) (hn : x ≠ "__name__" := by decide) (hdb : (x == ("__debug__" : Str)) = false := by decide) (hv : bootBuiltins "isinstance" = some (.builtin "isinstance") := by decide +kernel) :
    QE X cl xa Wx (.Call (.Name "isinstance" p) [e, .Name x p2] [] pos) (mUn (isiW [n]) me) := by
  obtain ⟨t, pe, q⟩ := ha
  refine ⟨_, pe_callB call_isi hg hm hv (pa_cons pe (pa_cons (pe_bltn hg2 hm2 hb2 (v := .ty n) rfl hn hdb) pa_nil hs2) hs) (by decide) (by decide) hs hpl, fun C y σ ρ S s Q h => ?_⟩
  refine q C y σ ρ S s _ (Post.go h fun w S1 h1 v z s1 g1 r1 => ?_)
  have h2 := h1 z g1
  unfold isiW isiB at h2
  split at h2
  · rename_i b hb
    split at hb
    · rename_i ty ht
      simp only at hb
      exact ⟨v, .ty n, .type ty, .type n, b, rfl, .ty n, tyW_ok s1.bs r1 ht, kit_ty hb, h2 (.bl b) z s1 g1 rfl⟩
    · cases hb
  · exact h2.elim
theorem qe_isi2 {x y' : Str} {n k : String} {p p2 p3 p4 : Pos} {x1} (hg : Gl X "isinstance") (hm : X.mg "isinstance" = none) (hg2 : Gl X x) (hm2 : X.mg x = none) (hb2 : bootBuiltins x = some (.type n)) (hg3 : Gl X y') (hm3 : X.mg y' = none) (hb3 : bootBuiltins y' = some (.type k)) (ha : QE X cl xa Wx e me)
    (hs : starEach [e, .Tuple [.Name x p2, .Name y' p3] x1 p4] X.env = (false, eval e X.env) :: starEach [.Tuple [.Name x p2, .Name y' p3] x1 p4] X.env := by rfl) (hs2 : starEach [.Tuple [.Name x p2, .Name y' p3] x1 p4] X.env = (false, eval (.Tuple [.Name x p2, .Name y' p3] x1 p4) X.env) :: starEach [] X.env := by rfl)
    (hs3 : starEach [.Name x p2, .Name y' p3] X.env = (false, eval (.Name x p2) X.env) :: starEach [.Name y' p3] X.env := by rfl) (hs4 : starEach [.Name y' p3] X.env = (false, eval (.Name y' p3) X.env) :: starEach [] X.env := by rfl)
    (hpl : (backTo pos (starEach [.Tuple [.Name x p2, .Name y' p3] x1 p4] X.env)).any (·.1) = false := by rfl) (hn : x ≠ "__name__" := by decide) (hdb : (x == ("__debug__" : Str)) = false := by decide) (hn2 : y' ≠ "__name__" := by decide) (hdb2 : (y' == ("__debug__" : Str)) = false := by decide) (hv : bootBuiltins "isinstance" = some (.builtin "isinstance") := by decide +kernel) :
    QE X cl xa Wx (.Call (.Name "isinstance" p) [e, .Tuple [.Name x p2, .Name y' p3] x1 p4] [] pos) (mUn (isiW [n, k]) me) := by
  obtain ⟨t, pe, q⟩ := ha
  refine ⟨_, pe_callB call_isiT hg hm hv (pa_cons pe (pa_cons (pe_tup (pa_cons (pe_bltn hg2 hm2 hb2 (v := .ty n) rfl hn hdb) (pa_cons (pe_bltn hg3 hm3 hb3 (v := .ty k) rfl hn2 hdb2) pa_nil hs4) hs3)) pa_nil hs2) hs) (by decide) (by decide) hs hpl, fun C y σ ρ S s Q h => ?_⟩
  refine q C y σ ρ S s _ (Post.go h fun w S1 h1 v z s1 g1 r1 => ?_)
  have h2 := h1 z g1
  refine ⟨by show 2 ≤ sizeLine; decide, fun tp htp => ?_⟩
  have al := Al.new (o := .tup [.ty n, .ty k]) s1.bs.fz htp
  have s2 := s1.al al
  unfold isiW isiB at h2
  split at h2
  · rename_i b hb
    split at hb
    · rename_i ty ht
      simp only at hb
      split at hb
      · rename_i b c h3 h4
        cases hb
        refine ⟨v, tp, [.ty n, .ty k], .type ty, [.type n, .type k], (b || c), rfl, upd_same, .cons (.ty n) (.cons (.ty k) .nil), tyW_ok s2.bs (r1.grow al.gr) ht, ?_, h2 (.bl (b || c)) _ s2 (g1.trans al.gr) rfl⟩
        refine kitAny_cons (kit_ty h3) (fun e => kitAny_cons (kit_ty h4) (fun e2 => ?_) (fun e2 => ?_)) (fun e => by rw [e]; rfl)
        · rw [e, e2]; exact kitAny_nil
        · rw [e, e2]; rfl
      · cases hb
    · cases hb
  · exact h2.elim
end
end Ng
namespace Ng
open PySem L2

/-! ### targets -/
abbrev MG := W → Rho → Sto → Option Rho
abbrev MGs := List W → Rho → Sto → Option Rho
def SG (K : PySem.W.Frag) (cl : Str → Option Addr) (xa : Option (Nat × Addr)) (tg : TG) (m : MG) : Prop := ∀ C y σ ρ S, Sim K cl xa C y σ ρ S → ∀ w v, RW K cl y w v → ∀ Q : St → Hp → Prop,
  (∃ ρ', m w ρ S = some ρ' ∧ ∀ σ', Sim K cl xa C y σ' ρ' S → Q σ' y.H) → tg v σ y.H Q
def SGs (K : PySem.W.Frag) (cl : Str → Option Addr) (xa : Option (Nat × Addr)) (tg : TGs) (m : MGs) : Prop := ∀ C y σ ρ S, Sim K cl xa C y σ ρ S → ∀ ws vs, RWL K cl y ws vs → ∀ Q : St → Hp → Prop,
  (∃ ρ', m ws ρ S = some ρ' ∧ ∀ σ', Sim K cl xa C y σ' ρ' S → Q σ' y.H) → tg vs σ y.H Q
def QG (X : Cx) (cl : Str → Option Addr) (xa : Option (Nat × Addr)) (e : Expr) (m : MG) : Prop := ∃ t, PG X e t ∧ SG X.K cl xa t m
def QGs (X : Cx) (cl : Str → Option Addr) (xa : Option (Nat × Addr)) (es : List Expr) (m : MGs) : Prop := ∃ t, PGs X es t ∧ SGs X.K cl xa t m
def gtName (i : Nat) : MG := fun w ρ _ => some (ρ.set i (some w))
def gtNil : MGs := fun ws ρ _ => match ws with
  | [] => some ρ
  | _ => none
def gtCons (m : MG) (n : MGs) : MGs := fun ws ρ S => match ws with
  | w :: r => (m w ρ S).bind fun ρ' => n r ρ' S
  | _ => none
/-- a tuple unpacked; a list -/
def gtTup (n : Nat) (m : MGs) : MG := fun w ρ S => match tupW S w with
  | some ws => if ws.length = n then m ws ρ S else none
  | none => match lstW S w with
    | some ws => if ws.length = n then m ws ρ S else none
    | none => none
def mAsg (g : MG) (e : ME) : MS := fun ρ S => (e ρ S).out ρ fun w S => match g w ρ S with
  | some ρ' => .nx ρ' S
  | none => .stuck
section
variable {X : Cx} {cl : Str → Option Addr} {xa : Option (Nat × Addr)} {Wx : WX} {pos : Pos} {a b c e : Expr} {es : List Expr} {ma mb mc me : ME} {mr : MA} {ta tb tc : MT} {st : Stmt} {rest body : List Stmt} {m n : MS}
theorem qg_name {i : Nat} {x : Str} (hN : X.N.Nodup) (hi : X.N[i]? = some x) (hx : Loc X.env.scope x) (hf : X.fn x = true ∨ X.env.scope.names.lookup x = some .local := by first | exact .inl rfl | exact .inr rfl | assumption) : QG X cl xa (.Name x pos) (gtName i) :=
  ⟨_, pg_name hN hi hx hf, fun C y σ ρ S s w v r Q ⟨ρ', e, k⟩ => by
    cases e
    exact k _ (s.set i r)⟩
theorem qgs_nil : QGs X cl xa [] gtNil := ⟨_, pgs_nil, fun C y σ ρ S s ws vs r Q ⟨ρ', e, k⟩ => by
  unfold gtNil at e
  split at e
  · cases e
    cases r
    exact ⟨rfl, k _ s⟩
  · cases e⟩
theorem qgs_cons {g : MG} {gs : MGs} (h1 : QG X cl xa e g) (h2 : QGs X cl xa es gs) (hs : (assignEach (e :: es) X.env).map (·.2) = assign e X.env :: (assignEach es X.env).map (·.2) := by rfl) : QGs X cl xa (e :: es) (gtCons g gs) := by
  obtain ⟨t, p, q⟩ := h1
  obtain ⟨t2, p2, q2⟩ := h2
  refine ⟨_, pgs_cons p p2 hs, fun C y σ ρ S s ws vs r Q ⟨ρ', e, k⟩ => ?_⟩
  unfold gtCons at e
  split at e
  · rename_i w rs _
    cases r with
    | cons r1 r2 =>
      obtain ⟨ρ1, e1, e2⟩ := Option.bind_eq_some_iff.mp e
      refine ⟨_, _, rfl, ?_⟩
      exact q C y σ ρ S s w _ r1 _ ⟨ρ1, e1, fun σ1 s1 => q2 C y σ1 ρ1 S s1 rs _ r2 Q ⟨ρ', e2, k⟩⟩
  · cases e
/-- any rule of a target -/
def gAny (X : Cx) (e : Expr) : TG := fun v σ H Q => ∃ t, PG X e t ∧ t v σ H Q
theorem pg_any : PG X e (gAny X e) := by
  constructor
  intro pins s σ H v u Q I r ⟨t, p, h⟩
  exact p.run pins s σ H v u Q I r h
theorem qg_tup {k : Nat} {nn : Nat} {gs : MGs} (hc : X.calm = true) (h : QGs X cl xa es gs) (hn : (assignEach es X.env).length = nn := by rfl) (hst : (assignEach es X.env).findIdx? (·.1) = none := by rfl) : QG X cl xa (.Tuple es k pos) (gtTup nn gs) := by
  obtain ⟨t, p, q⟩ := h
  refine ⟨_, pg_any, fun C y σ ρ S s w v r Q ⟨ρ', e, k⟩ => ?_⟩
  unfold gtTup at e
  split at e
  · rename_i ws hw
    split at e
    · rename_i hl
      obtain ⟨a, vs, rfl, t, l⟩ := tupW_ok s.bs r hw
      exact ⟨_, pg_tup hc p hn hst, a, vs, rfl, t, by rw [← Paired.length l]; exact hl, q C y σ ρ S s _ vs l Q ⟨ρ', e, k⟩⟩
    · cases e
  · split at e
    · rename_i ws hw
      split at e
      · rename_i hl
        obtain ⟨a, vs, rfl, t, l⟩ := lstW_ok s.bs r hw
        exact ⟨_, pg_unl hc p hn hst, a, vs, rfl, .inl (.inl t), by rw [← Paired.length l]; exact hl, q C y σ ρ S s _ vs l Q ⟨ρ', e, k⟩⟩
      · cases e
    · cases e

/-! ### statements -/
theorem qb_nil : QB X cl xa Wx [] mSkip := ⟨_, pss_nil, fun C y σ ρ S s Z h => h σ y s (Gr.refl _)⟩
theorem ss_seq {K : PySem.W.Frag} {t u : TS} (h1 : SS K cl xa Wx t m) (h2 : SS K cl xa Wx u n) : SS K cl xa Wx (tSeq t u) (mSeq m n) := by
  intro C y σ ρ S s Z h
  refine h1 C y σ ρ S s _ ?_
  unfold mSeq at h
  cases e : m ρ S with
  | nx ρ1 S1 =>
    rw [e] at h
    exact fun σ1 z s1 g1 => h2 C z σ1 ρ1 S1 s1 Z (PostS.mono g1 h)
  | rt w S1 => rw [e] at h; exact h
  | bk ρ1 S1 => rw [e] at h; exact h
  | ct ρ1 S1 => rw [e] at h; exact h
  | ex x ρ1 S1 => rw [e] at h; exact h
  | stuck => rw [e] at h; exact h
theorem qb_cons (h1 : QS X cl xa Wx st m) (h2 : QB X cl xa Wx rest n) : QB X cl xa Wx (st :: rest) (mSeq m n) := by
  obtain ⟨t, p, q⟩ := h1
  obtain ⟨t2, p2, q2⟩ := h2
  exact ⟨_, pss_cons p p2, ss_seq q q2⟩
theorem qb_one (h1 : QS X cl xa Wx st m) : QB X cl xa Wx [st] m := by
  obtain ⟨t, p, q⟩ := h1
  exact ⟨_, pss_one p, q⟩
theorem qs_set {i : Nat} {x : Str} {pos' : Pos} (hN : X.N.Nodup) (hi : X.N[i]? = some x) (hx : Loc X.env.scope x) (he : QE X cl xa Wx e me) (hs : swapsWith e (some (.Name x pos')) pos.line X.env = pure false := by rfl)
    (hf : X.fn x = true ∨ X.env.scope.names.lookup x = some .local := by first | exact .inl rfl | exact .inr rfl | assumption) : QS X cl xa Wx (.Assign [.Name x pos'] e pos) (mSet i me) := by
  obtain ⟨t, p, q⟩ := he
  refine ⟨_, ps_set hN hi hx p hs hf, fun C y σ ρ S s Z h => ?_⟩
  refine q C y σ ρ S s _ (PostS.go h fun w S1 h1 v z s1 g1 r1 => ?_)
  exact h1 y (Gr.refl _) _ z (s1.set i r1) g1
theorem qs_asg {tg : Expr} {g : MG} (he : QE X cl xa Wx e me) (hg : QG X cl xa tg g) (hs : swapsWithSole [tg] e pos.line X.env = pure false := by rfl) (hw : swappedStores [tg] e X.env = pure none := by rfl)
    (h1 : (assignEach [tg] X.env).map (·.2) = [assign tg X.env] := by rfl) : QS X cl xa Wx (.Assign [tg] e pos) (mAsg g me) := by
  obtain ⟨t, p, q⟩ := he
  obtain ⟨t2, p2, q2⟩ := hg
  refine ⟨_, ps_asg p p2 hs hw h1, fun C y σ ρ S s Z h => ?_⟩
  refine q C y σ ρ S s _ (PostS.go h fun w S1 h1 v z s1 g1 r1 => ?_)
  have h2 := h1 y (Gr.refl _)
  split at h2
  · rename_i ρ' e2
    exact q2 C z σ ρ S1 s1 w v r1 _ ⟨ρ', e2, fun σ' s' => h2 σ' z s' g1⟩
  · exact h2.elim
theorem qs_ret (he : QE X cl xa Wx e me) : QS X cl xa Wx (.Return (some e) pos) (mRet me) := by
  obtain ⟨t, p, q⟩ := he
  refine ⟨_, ps_ret p, fun C y σ ρ S s Z h => ?_⟩
  refine q C y σ ρ S s _ (PostS.go h fun w S1 h1 v z s1 g1 r1 => ?_)
  exact h1 y (Gr.refl _) v σ ρ z s1 g1 r1
theorem qs_expr (he : QE X cl xa Wx e me) (hs : swapsWith e none pos.line X.env = pure false := by rfl) : QS X cl xa Wx (.Expr e pos) (mDrop me) := by
  obtain ⟨t, p, q⟩ := he
  refine ⟨_, ps_expr p hs, fun C y σ ρ S s Z h => ?_⟩
  refine q C y σ ρ S s _ (PostS.go h fun w S1 h1 v z s1 g1 r1 => ?_)
  exact h1 y (Gr.refl _) σ z s1 g1
theorem qs_if {sa sb : List Stmt} (hc : QT X cl xa Wx c tc) (ha : QB X cl xa Wx sa m) (hb : QB X cl xa Wx sb n) : QS X cl xa Wx (.If c sa sb pos) (mIf tc m n) := by
  obtain ⟨t, p, q⟩ := hc
  obtain ⟨t2, p2, q2⟩ := ha
  obtain ⟨t3, p3, q3⟩ := hb
  refine ⟨_, ps_if p p2 p3, fun C y σ ρ S s Z h => ?_⟩
  refine q C y σ ρ S s _ (PostS.go h fun w S1 h1 z s1 g1 => ?_)
  cases w with
  | true => exact q2 C z σ ρ S1 s1 Z (h1 z g1)
  | false => exact q3 C z σ ρ S1 s1 Z (h1 z g1)
theorem qs_pass : QS X cl xa Wx (.Pass pos) mSkip := ⟨_, ps_pass, fun C y σ ρ S s Z h => h σ y s (Gr.refl _)⟩
theorem qs_break : QS X cl xa Wx (.Break pos) mBreak := ⟨_, ps_break, fun C y σ ρ S s Z h => h σ y s (Gr.refl _)⟩
theorem qs_continue : QS X cl xa Wx (.Continue pos) mContinue := ⟨_, ps_continue, fun C y σ ρ S s Z h => h σ y s (Gr.refl _)⟩
/-- two at once -/
def mPar (i j : Nat) (mr : MA) : MS := fun ρ S => (mr ρ S).out ρ fun ws S => match ws with
  | [u, v] => .nx ((ρ.set i (some u)).set j (some v)) S
  | _ => .stuck
theorem qs_par {i j : Nat} {x y' : Str} {a b : Expr} {px py pt : Pos} {kt k2 pt2} (hc : X.calm = true) (hN : X.N.Nodup) (hi : X.N[i]? = some x) (hj : X.N[j]? = some y') (hij : i ≠ j)
    (hx : X.env.scope.names.lookup x = some .local) (hy : X.env.scope.names.lookup y' = some .local) (ha : QA X cl xa Wx [a, b] mr)
    (hw : swappedStores [.Tuple [.Name x px, .Name y' py] kt pt] (.Tuple [a, b] k2 pt2) X.env = pure (some [x, y']))
    (hs : swapsWithSole [.Tuple [.Name x px, .Name y' py] kt pt] (.Tuple [a, b] k2 pt2) pos.line X.env = pure false := by rfl) :
    QS X cl xa Wx (.Assign [.Tuple [.Name x px, .Name y' py] kt pt] (.Tuple [a, b] k2 pt2) pos) (mPar i j mr) := by
  obtain ⟨t, p, q⟩ := ha
  refine ⟨_, ps_par hc hN hi hj hij hx hy p hw hs, fun C y σ ρ S s Z h => ?_⟩
  refine q C y σ ρ S s _ (PostS.go h fun ws S1 h1 vs z s1 g1 r1 => ?_)
  have h2 := h1 z g1
  split at h2
  · rename_i u v
    obtain ⟨p, q, rfl, ru, rv⟩ := rwl2 r1
    exact ⟨p, q, rfl, h2 _ z ((s1.set i ru).set j rv) (Gr.refl _)⟩
  · exact h2.elim
def incW : W → W → Option W
  | .da (.int i), .da (.int j) => some (.da (.int (i + j)))
  | _, _ => none
def mInc (i : Nat) (me : ME) : MS := fun ρ S => match ρ[i]? with
  | some (some x) => (me ρ S).out ρ fun y S => match incW x y with
    | some z => .nx (ρ.set i (some z)) S
    | none => .stuck
  | _ => .stuck
/-- x += e, whole numbers -/
theorem qs_inc {i : Nat} {x : Str} {pos' : Pos} (hN : X.N.Nodup) (hi : X.N[i]? = some x) (hx : Loc X.env.scope x) (he : QE X cl xa Wx e me) (hf : X.fn x = true ∨ X.env.scope.names.lookup x = some .local := by first | exact .inl rfl | exact .inr rfl | assumption) :
    QS X cl xa Wx (.AugAssign (.Name x pos') .Add e pos) (mInc i me) := by
  obtain ⟨t, p, q⟩ := he
  refine ⟨_, ps_aug hN hi hx p ip_add (hf := hf), fun C y σ ρ S s Z h => ?_⟩
  unfold mInc at h
  split at h
  · rename_i u hu
    obtain ⟨v, e1, e2⟩ := s.slot i u hu
    refine ⟨v, e1, ?_⟩
    refine q C y σ ρ S s _ (PostS.go h fun w S1 h1 v1 z s1 g1 r1 => ?_)
    have h2 := h1 z g1
    split at h2
    · rename_i w2 hw
      unfold incW at hw
      split at hw
      · rename_i p k
        cases hw
        cases (show v = .int p from e2)
        cases (show v1 = .int k from r1)
        exact ⟨p, k, rfl, rfl, h2 _ z (s1.set i rfl) (Gr.refl _)⟩
      · cases hw
    · exact h2.elim
  · exact h.elim
end

/-! ### loops -/
def loopM (g : MG) (body : MS) : List W → Rho → Sto → Out
  | [], ρ, S => .nx ρ S
  | d :: ds, ρ, S => match g d ρ S with
    | none => .stuck
    | some ρ1 => match body ρ1 S with
      | .nx ρ2 S2 => loopM g body ds ρ2 S2
      | .ct ρ2 S2 => loopM g body ds ρ2 S2
      | .bk ρ2 S2 => .nx ρ2 S2
      | .rt w S2 => .rt w S2
      | .ex x ρ2 S2 => .ex x ρ2 S2
      | .stuck => .stuck
/-- a loop over a thing that must stand unchanged (P) at each turn -/
noncomputable def loopP (P : Sto → Prop) (g : MG) (body : MS) : List W → Rho → Sto → Out
  | [], ρ, S => ifc (P S) (.nx ρ S) .stuck
  | d :: ds, ρ, S => ifc (P S) (match g d ρ S with
    | none => .stuck
    | some ρ1 => match body ρ1 S with
      | .nx ρ2 S2 => loopP P g body ds ρ2 S2
      | .ct ρ2 S2 => loopP P g body ds ρ2 S2
      | .bk ρ2 S2 => .nx ρ2 S2
      | .rt w S2 => .rt w S2
      | .ex x ρ2 S2 => .ex x ρ2 S2
      | .stuck => .stuck) .stuck
theorem loopM_P (g : MG) (b : MS) : ∀ (ds : List W) (ρ : Rho) (S : Sto), loopM g b ds ρ S = loopP (fun _ => True) g b ds ρ S
  | [], ρ, S => by unfold loopM loopP; rw [ifc_true]
  | d :: ds, ρ, S => by
    unfold loopM loopP
    rw [ifc_true]
    split
    · rfl
    · split <;> first | rfl | exact loopM_P g b ds _ _
def signs (x : Str) : List W := x.cps.toList.map fun c => .da (.str ⟨#[c]⟩)
/-- what data is walked -/
def itemsD : D → Option (List W)
  | .lst ds => some (ds.map .da)
  | .scr ds => some (ds.map .da)
  | .tup ds => some (ds.map .da)
  | .wt ds => some (ds.map .da)
  | .str x => some (signs x)
  | .dk ks _ => some (ks.map fun k => .da (kD k))
  | _ => none
noncomputable def mFor (e : ME) (g : MG) (body : MS) : MS := fun ρ S => (e ρ S).out ρ fun w S => match w with
  | .da d => match itemsD d with
    | some ws => loopM g body ws ρ S
    | none => .stuck
  | .lo n => match S[n]? with
    | some (.lst ws) => loopP (fun S => S[n]? = some (.lst ws)) g body ws ρ S
    | _ => .stuck
  | .xc => .stuck
noncomputable def rng1 : List W → Option (Int × Nat)
  | [.da (.int j)] => ifc (-(2 ^ 62) ≤ j ∧ j < 2 ^ 62) (some (0, j.toNat)) none
  | _ => none
noncomputable def rng2 : List W → Option (Int × Nat)
  | [.da (.int i), .da (.int j)] => ifc (-(2 ^ 62) ≤ i ∧ i < 2 ^ 62 ∧ -(2 ^ 62) ≤ j ∧ j < 2 ^ 62) (some (i, (j - i).toNat)) none
  | _ => none
def mForR (rg : List W → Option (Int × Nat)) (a : MA) (g : MG) (body : MS) : MS := fun ρ S => (a ρ S).out ρ fun ws S => match rg ws with
  | some (lo, n) => loopM g body (intsW lo n) ρ S
  | none => .stuck
/-- what is walked gives the items ws, while G stands -/
structure Wk (K : PySem.W.Frag) (cl : Str → Option Addr) (J : It) (ws : List W) (G : Y → Sto → Prop) : Prop where
  goes : ∀ i y S, i < ws.length → Bs K cl y S → G y S → J.go i y.H
  stops : ∀ y S, Bs K cl y S → G y S → J.stop ws.length y.H
  yields : ∀ i y S x H', i < ws.length → Bs K cl y S → G y S → J.yld i y.H x H' → ∃ F' w, Al y.F y.H F' H' ∧ ws[i]? = some w ∧ RW K cl ⟨F', H', y.m⟩ w x
theorem drop_cons {α : Type} {ds : List α} {i : Nat} {d : α} (h : ds[i]? = some d) : ds.drop i = d :: ds.drop (i + 1) := by
  obtain ⟨hl, e⟩ := List.getElem?_eq_some_iff.mp h
  rw [List.drop_eq_getElem_cons hl, e]
section
variable {X : Cx} {cl : Str → Option Addr} {xa : Option (Nat × Addr)} {Wx : WX} {pos : Pos} {a b c e : Expr} {es : List Expr} {ma mb mc me : ME} {mr : MA} {ta tb tc : MT} {st : Stmt} {rest body : List Stmt} {m n : MS}
/-- what is left of a loop -/
def Left (K : PySem.W.Frag) (cl : Str → Option Addr) (xa : Option (Nat × Addr)) (C : Cn) (Wx : WX) (y0 : Y) (P : Sto → Prop) (g : MG) (body : MS) (Z : Ends) (ds : List W) (σ : St) (H : Hp) : Prop :=
  ∃ y ρ S, y.H = H ∧ Sim K cl xa C y σ ρ S ∧ Gr y0 y ∧ P S ∧ PostS K cl xa C Wx y (loopP P g body ds ρ S) Z
theorem postS_ifc {K : PySem.W.Frag} {C : Cn} {y : Y} {p : Prop} {o : Out} {Z : Ends} (h : PostS K cl xa C Wx y (ifc p o .stuck) Z) : p ∧ PostS K cl xa C Wx y o Z := by
  rcases ifc_cases (P := fun r => PostS K cl xa C Wx y r Z) h with ⟨a, b⟩ | ⟨_, b⟩
  · exact ⟨a, b⟩
  · exact b.elim
theorem loopP_at {P : Sto → Prop} {g : MG} {ds : List W} {ρ : Rho} {S : Sto} {K : PySem.W.Frag} {C : Cn} {y : Y} {Z : Ends} (h : PostS K cl xa C Wx y (loopP P g m ds ρ S) Z) : P S := by
  cases ds with
  | nil => exact (postS_ifc h).1
  | cons d ds => exact (postS_ifc h).1
/-- a for, by what is walked -/
theorem run_for {K : PySem.W.Frag} {C : Cn} {y0 : Y} {σ : St} {ρ : Rho} {S : Sto} {P : Sto → Prop} {g : MG} {tg : TG} {tb : TS} {Z : Ends} {J : It} {ws : List W} {G : Y → Sto → Prop} (hg : SG K cl xa tg g) (hb : SS K cl xa Wx tb m) (wk : Wk K cl J ws G)
    (hG : ∀ y S, Gr y0 y → P S → G y S) (s : Sim K cl xa C y0 σ ρ S) (h : PostS K cl xa C Wx y0 (loopP P g m ws ρ S) Z) :
    ∃ W : Nat → Nat → St → Hp → Prop, (∃ m, W 0 m σ y0.H) ∧ ∀ i m σ H, W i m σ H →
      (J.stop i H ∧ Z.nx σ H) ∨ (J.go i H ∧ ∃ N : St → Hp → Prop, (∀ σ' H', N σ' H' → ∃ m', m' < m ∧ W (i + 1) m' σ' H') ∧ ∀ x H', J.yld i H x H' → tg x σ H' fun σ2 H2 => tb { Z with nx := N, ct := N, bk := Z.nx } σ2 H2) := by
  refine ⟨fun i k σ H => k = ws.length - i ∧ i ≤ ws.length ∧ Left K cl xa C Wx y0 P g m Z (ws.drop i) σ H, ⟨ws.length, by simp, Nat.zero_le _, y0, ρ, S, rfl, s, Gr.refl _, loopP_at h, h⟩, ?_⟩
  rintro i k σ H ⟨rfl, hi, y, ρ, S, rfl, s, x, hP, q⟩
  by_cases hlt : i < ws.length
  · refine .inr ⟨wk.goes i y S hlt s.bs (hG y S x hP), Left K cl xa C Wx y0 P g m Z (ws.drop (i + 1)), fun σ' H' p' => ⟨ws.length - (i + 1), by omega, rfl, hlt, p'⟩, fun v H' hy => ?_⟩
    obtain ⟨F', w, al, ew, rw'⟩ := wk.yields i y S v H' hlt s.bs (hG y S x hP) hy
    rw [drop_cons ew] at q
    have q := (postS_ifc q).2
    have s1 := s.al al
    split at q
    · exact q.elim
    · rename_i ρ1 e1
      refine hg C _ σ ρ S s1 w v rw' _ ⟨ρ1, e1, fun σ1 s2 => hb C _ σ1 ρ1 S s2 _ ?_⟩
      have q := PostS.mono al.gr q
      have x' := x.trans al.gr
      cases e2 : m ρ1 S with
      | nx ρ2 S2 =>
        rw [e2] at q
        exact fun σ2 z s2 g2 => ⟨z, ρ2, S2, rfl, s2, x'.trans g2, loopP_at q, PostS.mono g2 q⟩
      | ct ρ2 S2 =>
        rw [e2] at q
        exact fun σ2 z s2 g2 => ⟨z, ρ2, S2, rfl, s2, x'.trans g2, loopP_at q, PostS.mono g2 q⟩
      | bk ρ2 S2 => rw [e2] at q; exact q
      | rt w S2 => rw [e2] at q; exact q
      | ex x ρ2 S2 => rw [e2] at q; exact q
      | stuck => rw [e2] at q; exact q
  · have e : i = ws.length := by omega
    subst e
    rw [List.drop_length] at q
    exact .inl ⟨wk.stops y S s.bs (hG y S x hP), (postS_ifc q).2 σ y s (Gr.refl _)⟩
/-! what is walked -/
theorem wk_list {K : PySem.W.Frag} {a : Addr} {ws : List W} {G : Y → Sto → Prop} (h : ∀ y S, Bs K cl y S → G y S → ∃ vs, SqL K y.H a vs ∧ RWL K cl y ws vs) : Wk K cl (Itl K a) ws G := by
  refine ⟨fun i y S hi b g => ?_, fun y S b g => ?_, fun i y S x H' hi b g hy => ?_⟩
  · obtain ⟨vs, h1, h2⟩ := h y S b g
    have hl := Paired.length h2
    exact ⟨vs, vs[i]'(by omega), h1, by simp [show i < vs.length by omega]⟩
  · obtain ⟨vs, h1, h2⟩ := h y S b g
    exact ⟨vs, h1, by rw [Paired.length h2]; exact Nat.le_refl _⟩
  · obtain ⟨vs, h1, h2⟩ := h y S b g
    obtain ⟨rfl, hx⟩ := hy
    have ew : ws[i]? = some ws[i] := List.getElem?_eq_getElem hi
    obtain ⟨v, e1, e2⟩ := RWL.get h2 ew
    rw [hx vs h1] at e1
    cases e1
    exact ⟨y.F, ws[i], Al.refl b.fz, ew, e2⟩
theorem wk_tup {K : PySem.W.Frag} {a : Addr} {ws : List W} {G : Y → Sto → Prop} (h : ∀ y S, Bs K cl y S → G y S → ∃ vs, SqT K y.H a vs ∧ RWL K cl y ws vs) : Wk K cl (Itt K a) ws G := by
  refine ⟨fun i y S hi b g => ?_, fun y S b g => ?_, fun i y S x H' hi b g hy => ?_⟩
  · obtain ⟨vs, h1, h2⟩ := h y S b g
    have hl := Paired.length h2
    exact ⟨vs, vs[i]'(by omega), h1, by simp [show i < vs.length by omega]⟩
  · obtain ⟨vs, h1, h2⟩ := h y S b g
    exact ⟨vs, h1, by rw [Paired.length h2]; exact Nat.le_refl _⟩
  · obtain ⟨vs, h1, h2⟩ := h y S b g
    obtain ⟨rfl, hx⟩ := hy
    have ew : ws[i]? = some ws[i] := List.getElem?_eq_getElem hi
    obtain ⟨v, e1, e2⟩ := RWL.get h2 ew
    rw [hx vs h1] at e1
    cases e1
    exact ⟨y.F, ws[i], Al.refl b.fz, ew, e2⟩
theorem wk_rng {K : PySem.W.Frag} {lo : Int} {k : Nat} {G : Y → Sto → Prop} : Wk K cl (Itr lo k) (intsW lo k) G := by
  refine ⟨fun i y S hi b g => ?_, fun y S b g => ?_, fun i y S x H' hi b g hy => ?_⟩
  · rw [intsW_len] at hi; exact hi
  · show k ≤ (intsW lo k).length
    rw [intsW_len]; exact Nat.le_refl _
  · obtain ⟨rfl, rfl⟩ := hy
    rw [intsW_len] at hi
    exact ⟨y.F, _, Al.refl b.fz, intsW_get k lo i hi, rfl⟩
theorem wk_str {K : PySem.W.Frag} {z : Str} {G : Y → Sto → Prop} : Wk K cl (Its z) (signs z) G := by
  have hl : (signs z).length = z.cps.size := by simp [signs]
  refine ⟨fun i y S hi b g => ?_, fun y S b g => ?_, fun i y S x H' hi b g hy => ?_⟩
  · rw [hl] at hi; exact hi
  · show z.cps.size ≤ (signs z).length
    rw [hl]; exact Nat.le_refl _
  · obtain ⟨rfl, c, hc, rfl⟩ := hy
    refine ⟨y.F, .da (.str ⟨#[c]⟩), Al.refl b.fz, ?_, rfl⟩
    unfold signs
    rw [List.getElem?_map, Array.getElem?_toList, hc]
    rfl
theorem wk_keys {K : PySem.W.Frag} {d : Addr} {o : Obj} {kvs : List (Key × V)} {G : Y → Sto → Prop} (h : ∀ y S, G y S → y.H d = some (.frz o (.dK kvs))) : Wk K cl (Itk d o kvs) ((kvs.map (·.1)).map fun k => .da (kD k)) G := by
  have hl : ((kvs.map (·.1)).map fun k => W.da (kD k)).length = kvs.length := by simp
  refine ⟨fun i y S hi b g => ⟨h y S g, by rw [hl] at hi; exact hi⟩, fun y S b g => ⟨h y S g, by rw [hl]; exact Nat.le_refl _⟩, fun i y S x H' hi b g hy => ?_⟩
  obtain ⟨rfl, k, v, hk, rfl⟩ := hy
  exact ⟨y.F, .da (kD k), Al.refl b.fz, by rw [List.getElem?_map, List.getElem?_map, hk]; rfl, kD_ok k⟩
/-- any rule of a statement -/
def sAny (X : Cx) (st : Stmt) : TS := fun D σ H => ∃ t, PS X st t ∧ t D σ H
theorem ps_anyS : PS X st (sAny X st) := by
  constructor
  intro pins s σ H D I ⟨t, p, h⟩
  exact p.run pins s σ H D I h
/-- what an expression gives, said ahead -/
theorem SE.now {K : PySem.W.Frag} {t : TE} {C : Cn} {y : Y} {σ : St} {ρ : Rho} {S S0 : Sto} {w : W} {Q : VK} (q : SE K cl xa Wx t me) (s : Sim K cl xa C y σ ρ S) (e : me ρ S = .ok w S0) (k : ∀ v z, Sim K cl xa C z σ ρ S0 → Gr y z → RW K cl z w v → Q v z.H) : t σ y.H Q :=
  q C y σ ρ S s Q (by rw [e]; exact k)
theorem SE.bad {K : PySem.W.Frag} {t : TE} {C : Cn} {y : Y} {σ : St} {ρ : Rho} {S : Sto} {k : W → Sto → Out} {Z : Ends} (q : SE K cl xa Wx t me) (s : Sim K cl xa C y σ ρ S) (h : PostS K cl xa C Wx y ((me ρ S).out ρ k) Z) (hn : ∀ w S', me ρ S ≠ .ok w S') (Q : VK) : t σ y.H Q := by
  refine q C y σ ρ S s Q ?_
  cases e : me ρ S with
  | ok w S' => exact absurd e (hn w S')
  | ex x S' => rw [e] at h; exact fun cls dd z s g r => h cls dd σ z s g r
  | stuck => rw [e] at h; exact h
theorem qs_for {iter tg : Expr} {g : MG} (hp : PassesOwn (model X.prog X.w) X.A X.env X.xe) (hc : X.calm = true) (hi : QE X cl xa Wx iter me) (hg : QG X cl xa tg g) (hb : QB X cl xa Wx body m)
    (hs : ∀ x, foldedSetIterable iter X.env x = pure x := by intro _; rfl) : QS X cl xa Wx (.For tg iter body [] pos) (mFor me g m) := by
  obtain ⟨t, p, q⟩ := hi
  obtain ⟨t2, p2, q2⟩ := hg
  obtain ⟨t3, p3, q3⟩ := hb
  refine ⟨_, ps_anyS, fun C y σ ρ S s Z h => ?_⟩
  by_cases bad : ∀ w S', me ρ S ≠ .ok w S'
  · exact ⟨_, ps_for hp hc (pi_list p) p2 p3 hs, q.bad s h bad _⟩
  · cases e : me ρ S with
    | stuck => exact absurd (by intro w S' z; rw [e] at z; cases z) bad
    | ex x S' => exact absurd (by intro w S' z; rw [e] at z; cases z) bad
    | ok w S0 =>
      unfold mFor at h
      rw [e] at h
      simp only [Rs.out] at h
      cases w with
      | xc => exact h.elim
      | lo k =>
        simp only at h
        split at h
        · rename_i ws hk
          refine ⟨_, ps_for hp hc (pi_list p) p2 p3 hs, q.now s e fun v z s1 g1 r1 => ?_⟩
          obtain ⟨a, ea, rfl⟩ := r1
          obtain ⟨_, vs, hH, l⟩ := s1.bs.at hk (by intro z; cases z) ea
          refine ⟨a, rfl, ⟨vs, .inl (.inl hH)⟩, run_for q2 q3 (wk_list (G := fun y S => Gr z y ∧ S[k]? = some (.lst ws)) ?_) (fun y S g p => ⟨g, p⟩) s1 (PostS.mono g1 h)⟩
          rintro y S b ⟨g, hk2⟩
          obtain ⟨_, vs, h1, h2⟩ := b.at hk2 (by intro z; cases z) (pre_get g.m ea)
          exact ⟨vs, .inl (.inl h1), h2⟩
        · exact h.elim
      | da d =>
        simp only at h
        split at h
        · rename_i ws hd
          rw [loopM_P] at h
          unfold itemsD at hd
          split at hd
          · cases hd
            refine ⟨_, ps_for hp hc (pi_list p) p2 p3 hs, q.now s e fun v z s1 g1 r1 => ?_⟩
            obtain ⟨a, vs, rfl, tl, l⟩ := r1
            exact ⟨a, rfl, ⟨vs, .inl (.inl (s1.bs.fz _ _ tl))⟩, run_for q2 q3 (wk_list (G := fun y S => Gr z y) fun y S b g => ⟨vs, .inl (.inl (b.fz _ _ (g.f _ _ tl))), rwl_da (RpL.xt g.f _ _ l)⟩) (fun y S g p => g) s1 (PostS.mono g1 h)⟩
          · cases hd
            refine ⟨_, ps_for hp hc (pi_list p) p2 p3 hs, q.now s e fun v z s1 g1 r1 => ?_⟩
            obtain ⟨a, vs, rfl, tl, l⟩ := r1
            exact ⟨a, rfl, ⟨vs, sqL_xt s1.bs.fz tl⟩, run_for q2 q3 (wk_list (G := fun y S => Gr z y) fun y S b g => ⟨vs, sqL_xt (g.f.trans b.fz) tl, rwl_da (RpL.xt g.f _ _ l)⟩) (fun y S g p => g) s1 (PostS.mono g1 h)⟩
          · cases hd
            refine ⟨_, ps_for hp hc (pi_tup p) p2 p3 hs, q.now s e fun v z s1 g1 r1 => ?_⟩
            obtain ⟨a, vs, rfl, tl, l⟩ := r1
            exact ⟨a, rfl, ⟨vs, .inl (.inl (s1.bs.fz _ _ tl))⟩, run_for q2 q3 (wk_tup (G := fun y S => Gr z y) fun y S b g => ⟨vs, .inl (.inl (b.fz _ _ (g.f _ _ tl))), rwl_da (RpL.xt g.f _ _ l)⟩) (fun y S g p => g) s1 (PostS.mono g1 h)⟩
          · cases hd
            refine ⟨_, ps_for hp hc (pi_tup p) p2 p3 hs, q.now s e fun v z s1 g1 r1 => ?_⟩
            obtain ⟨a, vs, rfl, tl, l⟩ := r1
            exact ⟨a, rfl, ⟨vs, sqT_xt s1.bs.fz tl⟩, run_for q2 q3 (wk_tup (G := fun y S => Gr z y) fun y S b g => ⟨vs, sqT_xt (g.f.trans b.fz) tl, rwl_da (RpL.xt g.f _ _ l)⟩) (fun y S g p => g) s1 (PostS.mono g1 h)⟩
          · rename_i x
            cases hd
            refine ⟨_, ps_for hp hc (pi_str p) p2 p3 hs, q.now s e fun v z s1 g1 r1 => ?_⟩
            exact ⟨x, r1, run_for q2 q3 (wk_str (G := fun y S => Gr z y)) (fun y S g p => g) s1 (PostS.mono g1 h)⟩
          · rename_i ks ds
            cases hd
            refine ⟨_, ps_for hp hc (pi_keys p) p2 p3 hs, q.now s e fun v z s1 g1 r1 => ?_⟩
            obtain ⟨a, vs, rfl, ⟨o, tl⟩, nl, l⟩ := r1
            have ek : (ks.zip vs).map (·.1) = ks := List.map_fst_zip (by omega)
            have wk := wk_keys (cl := cl) (K := X.K) (d := a) (o := o) (kvs := ks.zip vs) (G := fun y S => Gr z y ∧ Ex y.F y.H) (fun y S g => g.2 _ _ (g.1.f _ _ tl))
            rw [ek] at wk
            refine ⟨a, o, rfl, .inl ⟨ks.zip vs, s1.bs.fz _ _ tl, ?_⟩⟩
            refine run_for (P := fun _ => True) q2 q3 (G := fun y S => Gr z y) ⟨fun i y S hi b g => wk.goes i y S hi b ⟨g, b.fz⟩, fun y S b g => wk.stops y S b ⟨g, b.fz⟩, fun i y S x H' hi b g => wk.yields i y S x H' hi b ⟨g, b.fz⟩⟩ (fun y S g p => g) s1 (PostS.mono g1 h)
          · cases hd
        · exact h.elim
theorem SA.now {K : PySem.W.Frag} {t : TA} {C : Cn} {y : Y} {σ : St} {ρ : Rho} {S S0 : Sto} {ws : List W} {Q : List V → Hp → Prop} (q : SA K cl xa Wx t mr) (s : Sim K cl xa C y σ ρ S) (e : mr ρ S = .ok ws S0) (k : ∀ vs z, Sim K cl xa C z σ ρ S0 → Gr y z → RWL K cl z ws vs → Q vs z.H) : t σ y.H Q :=
  q C y σ ρ S s Q (by rw [e]; exact k)
theorem qs_range1 {tg : Expr} {g : MG} {p p' : Pos} (hp : PassesOwn (model X.prog X.w) X.A X.env X.xe) (hc : X.calm = true) (hgl : Gl X "range") (hm : X.mg "range" = none) (ha : QA X cl xa Wx [a] mr) (hg : QG X cl xa tg g) (hb : QB X cl xa Wx body m)
    (hs : starEach [a] X.env = [(false, eval a X.env)] := by rfl) (hf : ∀ x, foldedSetIterable (.Call (.Name "range" p) [a] [] p') X.env x = pure x := by intro _; rfl) :
    QS X cl xa Wx (.For tg (.Call (.Name "range" p) [a] [] p') body [] pos) (mForR rng1 mr g m) := by
  obtain ⟨t, p, q⟩ := ha
  obtain ⟨t2, p2, q2⟩ := hg
  obtain ⟨t3, p3, q3⟩ := hb
  refine ⟨_, ps_for hp hc (pi_range1 hgl hm p hs) p2 p3 hf, fun C y σ ρ S s Z h => ?_⟩
  refine q C y σ ρ S s _ (PostS.go h fun ws S1 h1 vs z s1 g1 r1 => ?_)
  have h2 := h1 z g1
  split at h2
  · rename_i lo k e
    unfold rng1 at e
    split at e
    · rename_i j
      obtain ⟨hj, e⟩ := ifc_some e
      cases e
      obtain ⟨v, rfl, rv⟩ := rwl1 r1
      cases (show v = .int j from rv)
      rw [loopM_P] at h2
      exact ⟨j, rfl, hj.1, hj.2, run_for q2 q3 (wk_rng (G := fun y S => True)) (fun y S g p => trivial) s1 h2⟩
    · cases e
  · exact h2.elim
theorem qs_range2 {tg : Expr} {g : MG} {p p' : Pos} (hp : PassesOwn (model X.prog X.w) X.A X.env X.xe) (hc : X.calm = true) (hgl : Gl X "range") (hm : X.mg "range" = none) (ha : QA X cl xa Wx [a, b] mr) (hg : QG X cl xa tg g) (hb : QB X cl xa Wx body m)
    (hs : starEach [a, b] X.env = [(false, eval a X.env), (false, eval b X.env)] := by rfl) (hs2 : starEach [b] X.env = [(false, eval b X.env)] := by rfl) (hf : ∀ x, foldedSetIterable (.Call (.Name "range" p) [a, b] [] p') X.env x = pure x := by intro _; rfl) :
    QS X cl xa Wx (.For tg (.Call (.Name "range" p) [a, b] [] p') body [] pos) (mForR rng2 mr g m) := by
  obtain ⟨t, p, q⟩ := ha
  obtain ⟨t2, p2, q2⟩ := hg
  obtain ⟨t3, p3, q3⟩ := hb
  refine ⟨_, ps_for hp hc (pi_range2 hgl hm p hs hs2) p2 p3 hf, fun C y σ ρ S s Z h => ?_⟩
  refine q C y σ ρ S s _ (PostS.go h fun ws S1 h1 vs z s1 g1 r1 => ?_)
  have h2 := h1 z g1
  split at h2
  · rename_i lo k e
    unfold rng2 at e
    split at e
    · rename_i i j
      obtain ⟨hj, e⟩ := ifc_some e
      cases e
      obtain ⟨v, v2, rfl, rv, rv2⟩ := rwl2 r1
      cases (show v = .int lo from rv)
      cases (show v2 = .int j from rv2)
      rw [loopM_P] at h2
      exact ⟨lo, j, rfl, hj, run_for q2 q3 (wk_rng (G := fun y S => True)) (fun y S g p => trivial) s1 h2⟩
    · cases e
  · exact h2.elim
end
/-! ### while -/
def whileN (c : MT) (b : MS) : Nat → Rho → Sto → Out
  | 0, _, _ => .stuck
  | k + 1, ρ, S => match c ρ S with
    | .stuck => .stuck
    | .ex x S => .ex x ρ S
    | .ok false S => .nx ρ S
    | .ok true S => match b ρ S with
      | .nx ρ2 S2 => whileN c b k ρ2 S2
      | .ct ρ2 S2 => whileN c b k ρ2 S2
      | .bk ρ2 S2 => .nx ρ2 S2
      | .rt w S2 => .rt w S2
      | .ex x ρ2 S2 => .ex x ρ2 S2
      | .stuck => .stuck
open Classical in
/-- a while: where some number of turns ends it -/
noncomputable def mWhile (c : MT) (b : MS) : MS := fun ρ S => if h : ∃ k, whileN c b k ρ S ≠ .stuck then whileN c b h.choose ρ S else .stuck
theorem whileN_more (c : MT) (b : MS) : ∀ (k : Nat) (ρ : Rho) (S : Sto), whileN c b k ρ S ≠ .stuck → ∀ j, k ≤ j → whileN c b j ρ S = whileN c b k ρ S
  | 0, ρ, S, h, _, _ => absurd rfl h
  | k + 1, ρ, S, h, 0, hj => by omega
  | k + 1, ρ, S, h, j + 1, hj => by
    unfold whileN at h ⊢
    cases e : c ρ S with
    | stuck => rfl
    | ex x S1 => rfl
    | ok v S1 =>
      rw [e] at h
      cases v with
      | false => rfl
      | true =>
        simp only at h ⊢
        cases e2 : b ρ S1 with
        | nx ρ2 S2 => rw [e2] at h; exact whileN_more c b k ρ2 S2 h j (by omega)
        | ct ρ2 S2 => rw [e2] at h; exact whileN_more c b k ρ2 S2 h j (by omega)
        | bk ρ2 S2 => rfl
        | rt w S2 => rfl
        | ex x ρ2 S2 => rfl
        | stuck => rfl
theorem mWhile_of {c : MT} {b : MS} {ρ : Rho} {S : Sto} (k : Nat) (h : whileN c b k ρ S ≠ .stuck) : mWhile c b ρ S = whileN c b k ρ S := by
  unfold mWhile
  have h' : ∃ k, whileN c b k ρ S ≠ .stuck := ⟨k, h⟩
  rw [dif_pos h']
  rcases Nat.le_total k h'.choose with z | z
  · exact whileN_more c b k ρ S h _ z
  · exact (whileN_more c b _ ρ S h'.choose_spec _ z).symm
section
variable {X : Cx} {cl : Str → Option Addr} {xa : Option (Nat × Addr)} {Wx : WX} {pos : Pos} {c : Expr} {tc : MT} {body : List Stmt} {m : MS}
theorem qs_while (hp : PassesOwn (model X.prog X.w) X.A X.env X.xe) (hc : QT X cl xa Wx c tc) (hb : QB X cl xa Wx body m) : QS X cl xa Wx (.While c body [] pos) (mWhile tc m) := by
  obtain ⟨t, p, q⟩ := hc
  obtain ⟨t2, p2, q2⟩ := hb
  refine ⟨_, ps_while hp p p2, fun C y σ ρ S s Z h => ?_⟩
  have hk : ∃ k, PostS X.K cl xa C Wx y (whileN tc m k ρ S) Z := by
    unfold mWhile at h
    split at h
    · exact ⟨_, h⟩
    · exact h.elim
  obtain ⟨k, hk⟩ := hk
  let Iv : Nat → St → Hp → Prop := fun j σ H => ∃ y1 ρ S, y1.H = H ∧ Sim X.K cl xa C y1 σ ρ S ∧ PostS X.K cl xa C Wx y1 (whileN tc m j ρ S) Z
  refine ⟨Iv, ⟨k, y, ρ, S, rfl, s, hk⟩, ?_⟩
  rintro j σ' H' ⟨y1, ρ1, S1, rfl, s1, h1⟩
  cases j with
  | zero => exact h1.elim
  | succ j =>
    unfold whileN at h1
    refine q C y1 σ' ρ1 S1 s1 _ ?_
    cases e : tc ρ1 S1 with
    | stuck => rw [e] at h1; exact h1.elim
    | ex x S2 => rw [e] at h1; exact fun cls dd z s2 g2 r2 => h1 cls dd σ' z s2 g2 r2
    | ok v S2 =>
      rw [e] at h1
      intro z s2 g2
      cases v with
      | false => exact h1 σ' z s2 g2
      | true =>
        refine ⟨Iv j, fun σ3 H3 z => ⟨j, Nat.lt_succ_self _, z⟩, ?_⟩
        refine q2 C z σ' ρ1 S2 s2 _ ?_
        simp only at h1
        have h1 := PostS.mono g2 h1
        cases e2 : m ρ1 S2 with
        | nx ρ2 S3 =>
          rw [e2] at h1
          exact fun σ3 z3 s3 g3 => ⟨z3, ρ2, S3, rfl, s3, PostS.mono g3 h1⟩
        | ct ρ2 S3 =>
          rw [e2] at h1
          exact fun σ3 z3 s3 g3 => ⟨z3, ρ2, S3, rfl, s3, PostS.mono g3 h1⟩
        | bk ρ2 S3 => rw [e2] at h1; exact h1
        | rt w S3 => rw [e2] at h1; exact h1
        | ex x ρ2 S3 => rw [e2] at h1; exact h1
        | stuck => rw [e2] at h1; exact h1
end
end Ng
namespace Ng
open PySem PySem.Spec PyProof.Rows L2

/-- the classes of the text's top, by their names -/
def clOf (K : PySem.W.Frag) : Str → Option Addr := fun x => match PySem.W.nsIn K mainGlobals x with
  | some (some (.ref a)) => some a
  | _ => none
/-! ### a def over the store -/
def startR (n : Nat) (ws : List W) : Rho := ws.map some ++ List.replicate (n - ws.length) none
def isDa : W → Bool
  | .da _ => true
  | _ => false
/-- what a def leaves: its own cells go where nothing of the caller's was changed and data comes out -/
noncomputable def trimS (S0 : Sto) (w : W) (S : Sto) : Rs W := match w with
  | .da d => ifc (S.take S0.length = S0) (.ok (.da d) S0) (.ok (.da d) S)
  | w => .ok w S
noncomputable def trimX (S0 : Sto) (x : Exn) (S : Sto) : Rs W := ifc (S.take S0.length = S0 ∧ x.ws.all isDa = true) (.ex x S0) (.ex x S)
noncomputable def endS (S0 : Sto) : Out → Rs W
  | .rt w S => trimS S0 w S
  | .nx _ S => trimS S0 (.da .non) S
  | .ex x _ S => trimX S0 x S
  | _ => .stuck
noncomputable def runS (n np : Nat) (m : MS) : List W → Sto → Rs W := fun ws S => if ws.length = np then endS S (m (startR n ws) S) else .stuck
/-- the promise of a def: it is the function p over the store -/
def SpR (K : PySem.W.Frag) (cl : Str → Option Addr) (y : Y) (Q : VK) (E : XK) (r : Rs W) : Prop := match r with
  | .ok w S' => ∀ v z, Bs K cl z S' → Fm y.cn z → RW K cl z w v → Q v z.H
  | .ex x S' => ∀ cls dd z, Bs K cl z S' → Fm y.cn z → XR K cl z x cls dd → E cls dd z.H
  | .stuck => False
def SpS (K : PySem.W.Frag) (cl : Str → Option Addr) (p : List W → Sto → Rs W) : Sp := fun vs H Q E => ∃ y S ws, y.H = H ∧ Bs K cl y S ∧ RWL K cl y ws vs ∧ SpR K cl y Q E (p ws S)
/-- .. of a def that changes nothing that stood and gives data: it is the plain function p -/
def SpP (K : PySem.W.Frag) (cl : Str → Option Addr) (p : List D → Re D) : Sp := fun vs H Q E => ∃ F ds, Ex F H ∧ RpL K cl F ds vs ∧ match p ds with
  | .ok d => ∀ v F' H', Al F H F' H' → Rp K cl F' d v → Q v H'
  | .ex x => ∀ cls dd F' H', Al F H F' H' → XR K cl ⟨F', H', []⟩ x cls dd → E cls dd H'
  | .stuck => False
noncomputable def pureOf (p : List W → Sto → Rs W) (ds : List D) : Re D := match p (ds.map .da) [] with
  | .ok (.da d) _ => .ok d
  | .ex x _ => ifc (x.ws.all isDa = true) (.ex x) .stuck
  | _ => .stuck
noncomputable def runP (n np : Nat) (m : MS) : List D → Re D := pureOf (runS n np m)
section
variable {K : PySem.W.Frag} {cl : Str → Option Addr} {xa : Option (Nat × Addr)}
theorem sim_start {y : Y} {S : Sto} {ws : List W} {vs : List V} {N : List Str} (b : Bs K cl y S) (r : RWL K cl y ws vs) : Sim K cl xa y.cn y (L2.start N vs) (startR N.length ws) S := by
  refine b.rebase ?_ ?_
  · unfold L2.start startR
    simp [Paired.length r]
  · intro i w e
    unfold startR at e
    by_cases hi : i < ws.length
    · rw [List.getElem?_append_left (by simpa using hi), List.getElem?_map, List.getElem?_eq_getElem hi] at e
      simp at e
      subst e
      obtain ⟨v, e1, e2⟩ := RWL.get r (List.getElem?_eq_getElem hi)
      refine ⟨v, ?_, e2.rs⟩
      unfold L2.start
      have hv : i < vs.length := by rw [← Paired.length r]; exact hi
      rw [List.getElem?_append_left (by simpa using hv), List.getElem?_map, e1]
      rfl
    · rw [List.getElem?_append_right (by simpa using Nat.le_of_not_lt hi)] at e
      rw [List.getElem?_replicate] at e
      split at e <;> simp at e
/-- the cells that stood at the entry alone -/
theorem rw_cut {y z : Y} {m : List Addr} {F H : Hp} (hm : m <+: z.m) : ∀ {w : W} {v v0 : V}, RW K cl z w v → RW K cl ⟨F, H, m⟩ w v0 → RW K cl ⟨z.F, z.H, m⟩ w v
  | .da d, v, _, h, _ => h
  | .lo n, v, _, ⟨a, e, h⟩, ⟨a0, e0, _⟩ => by
    have q := pre_get hm e0
    rw [e] at q
    cases q
    exact ⟨a, e0, h⟩
  | .xc, _, _, h, _ => h.elim
theorem rwl_cut {y z : Y} {m : List Addr} {F H : Hp} (hm : m <+: z.m) : ∀ {ws : List W} {vs vs0 : List V}, RWL K cl z ws vs → RWL K cl ⟨F, H, m⟩ ws vs0 → RWL K cl ⟨z.F, z.H, m⟩ ws vs
  | _, _, _, .nil, _ => .nil
  | _, _, _, .cons r t, .cons r0 t0 => .cons (rw_cut (y := y) hm r r0) (rwl_cut (y := y) hm t t0)
theorem rwp_cut {κ : Type} {y z : Y} {m : List Addr} {F H : Hp} (hm : m <+: z.m) : ∀ {ws : List (κ × W)} {vs vs0 : List (κ × V)}, RWP K cl z ws vs → RWP K cl ⟨F, H, m⟩ ws vs0 → RWP K cl ⟨z.F, z.H, m⟩ ws vs
  | _, _, _, .nil, _ => .nil
  | _, _, _, .cons r t, .cons r0 t0 => .cons ⟨r.1, rw_cut (y := y) hm r.2 r0.2⟩ (rwp_cut (y := y) hm t t0)
theorem cell_cut {y z : Y} {a a0 : Addr} (hm : y.m <+: z.m) : ∀ {c : Cell}, CellR K cl z a c → CellR K cl y a0 c → CellR K cl ⟨z.F, z.H, y.m⟩ a c
  | .lst _, ⟨vs, h, r⟩, ⟨_, _, r0⟩ => ⟨vs, h, rwl_cut (y := y) hm r r0⟩
  | .tup _, ⟨vs, h, r⟩, ⟨_, _, r0⟩ => ⟨vs, h, rwl_cut (y := y) hm r r0⟩
  | .dk _, ⟨vs, h, r⟩, ⟨_, _, r0⟩ => ⟨vs, h, rwp_cut (y := y) hm r r0⟩
  | .dt _, ⟨vs, h, r⟩, ⟨_, _, r0⟩ => ⟨vs, h, rwp_cut (y := y) hm r r0⟩
  | .ins _ _, ⟨C, dx, vs, k, h, r⟩, ⟨_, _, _, _, _, r0⟩ => ⟨C, dx, vs, k, h, rwp_cut (y := y) hm r r0⟩
  | .dead, _, _ => trivial
theorem bs_cut {y z : Y} {S0 S : Sto} (b0 : Bs K cl y S0) (b : Bs K cl z S) (f : Fm y.cn z) (h : S.take S0.length = S0) : Bs K cl ⟨z.F, z.H, y.m⟩ S0 ∧ Fm y.cn ⟨z.F, z.H, y.m⟩ := by
  refine ⟨⟨b.fz, b0.len, b0.nd, fun a ha => b.has a (f.pre.subset ha), fun n c e hd => ?_⟩, ⟨f.hf, f.keep, f.dom, f.newF, fun a ha => .inl ha, List.prefix_refl _⟩⟩
  have hn : n < S0.length := (List.getElem?_eq_some_iff.mp e).1
  have e' : S[n]? = some c := by
    rw [← h, List.getElem?_take] at e
    rw [if_pos hn] at e
    exact e
  obtain ⟨a, e1, e2, e3⟩ := b.cell n c e' hd
  obtain ⟨a0, f1, f2, f3⟩ := b0.cell n c e hd
  have q := pre_get f.pre f1
  rw [e1] at q
  cases q
  exact ⟨a, f1, e2, cell_cut f.pre e3 f3⟩
theorem rwl_da_cut {z : Y} {m : List Addr} : ∀ {ws : List W} {vs : List V}, ws.all isDa = true → RWL K cl z ws vs → RWL K cl ⟨z.F, z.H, m⟩ ws vs
  | _, _, _, .nil => .nil
  | w :: ws, _, h, .cons r t => by
    simp only [List.all_cons, Bool.and_eq_true] at h
    refine .cons ?_ (rwl_da_cut h.2 t)
    cases w with
    | da d => exact r
    | lo n => cases h.1
    | xc => cases h.1
theorem xr_cut {z : Y} {m : List Addr} {x : Exn} {cls : Value} {dd : Option Addr} (h : x.ws.all isDa = true) (r : XR K cl z x cls dd) : XR K cl ⟨z.F, z.H, m⟩ x cls dd := by
  obtain ⟨C, h1, h2, h3⟩ := r
  refine ⟨C, h1, h2, h3.imp id ?_⟩
  rintro ⟨h4, d, vs, h5, h6, h7, h8⟩
  exact ⟨h4, d, vs, h5, h6, h7, rwl_da_cut h h8⟩
end
section
variable {P : Program} {w : World} {K : PySem.W.Frag} {mg : Str → Option Value} {base : Heap} {cl : Str → Option Addr}
/-- a def's body, walked: its promise -/
theorem fnS {x qual : Str} {st : Stmt} {f : Addr} {fd : FuncData} {N ps : List Str} {k : Nat} {m : MS} (F : Fun K x qual st f fd) (S : FnScope N ps (defScope st))
    (hb : ∀ (cdv : Value) (A : Around) (outer : List Env) (s : Shared) (H : Hp) (E : XK), Room k (A.deeper (envOfC qual (defScope st) s.heap.objs.size f cdv)) →
      QB (cxOf (L2.CX P w) P w K mg base N qual (defScope st) f cdv A outer s H E) cl none (fun cls d _ H' => E cls d H') (defBody st) m) :
    FnOk P w K mg base (L2.CX P w) (k + 1) f fd ps (SpS K cl (runS N.length ps.length m)) := by
  refine F.okX S (fun vs H Q E h => ?_) (fun cdv A outer s H vs Q E hr h => ?_)
  · obtain ⟨y, S0, ws, _, _, r, q⟩ := h
    rw [← Paired.length r]
    by_cases hl : ws.length = ps.length
    · exact hl
    · rw [show runS N.length ps.length m ws S0 = .stuck by unfold runS; rw [if_neg hl]] at q
      exact q.elim
  · obtain ⟨y, S0, ws, rfl, b, r, q⟩ := h
    obtain ⟨t, p, z⟩ := hb cdv A outer s y.H E hr
    refine ⟨t, p, z y.cn y _ _ S0 (sim_start b r) _ ?_⟩
    by_cases hl : ws.length = ps.length
    · rw [show runS N.length ps.length m ws S0 = endS S0 (m (startR N.length ws) S0) by unfold runS; rw [if_pos hl]] at q
      have trim : ∀ (w : W) (S' : Sto), SpR K cl y Q E (trimS S0 w S') → ∀ v z, Bs K cl z S' → Fm y.cn z → RW K cl z w v → Q v z.H := fun w S' q v z bz fz rz => by
        cases w with
        | da d =>
          simp only [trimS] at q
          by_cases ht : S'.take S0.length = S0
          · rw [ifc_pos ht] at q
            obtain ⟨b2, f2⟩ := bs_cut b bz fz ht
            exact q v ⟨z.F, z.H, y.m⟩ b2 f2 rz
          · rw [ifc_neg ht] at q
            exact q v z bz fz rz
        | lo n => exact q v z bz fz rz
        | xc => exact rz.elim
      cases e : m (startR N.length ws) S0 with
      | nx ρ S' =>
        rw [e] at q
        exact fun σ' z s' _ => trim (.da .non) S' q .non z s'.bs s'.fm rfl
      | rt u S' =>
        rw [e] at q
        exact fun v σ' ρ' z s' _ rw' => trim u S' q v z s'.bs s'.fm rw'
      | bk ρ S' => rw [e] at q; exact q.elim
      | ct ρ S' => rw [e] at q; exact q.elim
      | ex x ρ S' =>
        rw [e] at q
        intro cls dd σ' z s' _ xr
        simp only [endS, trimX] at q
        by_cases ht : S'.take S0.length = S0 ∧ x.ws.all isDa = true
        · rw [ifc_pos ht] at q
          obtain ⟨b2, f2⟩ := bs_cut b s'.bs s'.fm ht.1
          exact q cls dd ⟨z.F, z.H, y.m⟩ b2 f2 (xr_cut ht.2 xr)
        · rw [ifc_neg ht] at q
          exact q cls dd z s'.bs s'.fm xr
      | stuck => rw [e] at q; exact q.elim
    · rw [show runS N.length ps.length m ws S0 = .stuck by unfold runS; rw [if_neg hl]] at q
      exact q.elim
theorem FnOk.weak {f : Addr} {fd : FuncData} {ps : List Str} {CX : CXT} {k : Nat} {sp sp' : Sp} (F : FnOk P w K mg base CX k f fd ps sp) (h : ∀ vs H Q E, sp' vs H Q E → sp vs H Q E) : FnOk P w K mg base CX k f fd ps sp' :=
  ⟨fun vs H Q E q => F.len vs H Q E (h vs H Q E q), fun A outer s H args us vs Q E hr he hb hv q => F.run A outer s H args us vs Q E hr he hb hv (h vs H Q E q)⟩
theorem Fm.al0 {F H : Hp} {z : Y} (b : Ex z.F z.H) (f : Fm (Y.cn ⟨F, H, []⟩) z) : Al F H z.F z.H :=
  ⟨f.hf, fun b o e => f.keep b o e (by simp [Y.cn]), b, fun b o e => by
    rcases f.newF b o e with q | q | q | q
    · exact .inl q
    · exact .inr (.inl q)
    · simp [Y.cn] at q
    · exact .inr (.inr q)⟩
/-- a plain function out of it -/
theorem fnP {f : Addr} {fd : FuncData} {ps : List Str} {k : Nat} {p : List W → Sto → Rs W} (F : FnOk P w K mg base (L2.CX P w) k f fd ps (SpS K cl p)) : FnOk P w K mg base (L2.CX P w) k f fd ps (SpP K cl (pureOf p)) := by
  refine FnOk.weak F fun vs H Q E h => ?_
  obtain ⟨G, ds, x, r, q⟩ := h
  refine ⟨⟨G, H, []⟩, [], ds.map .da, rfl, ⟨x, rfl, List.nodup_nil, (by intro a ha; cases ha), (by intro n c e; cases e)⟩, rwl_da r, ?_⟩
  unfold pureOf at q
  split at q
  · rename_i d hd
    split at hd
    · rename_i d' S' e
      cases hd
      rw [e]
      exact fun v z bz fz rz => q v z.F z.H (fz.al0 bz.fz) rz
    · rename_i x' S' e
      rcases ifc_cases (P := fun r => r = Re.ok d) hd with ⟨_, hd⟩ | ⟨_, hd⟩ <;> cases hd
    · cases hd
  · rename_i y hd
    split at hd
    · cases hd
    · rename_i x' S' e
      rcases ifc_cases (P := fun r => r = Re.ex y) hd with ⟨ha, hd⟩ | ⟨_, hd⟩
      · cases hd
        rw [e]
        exact fun cls dd z bz fz xr => q cls dd z.F z.H (fz.al0 bz.fz) (xr_cut ha xr)
      · cases hd
    · cases hd
  · exact q.elim
theorem fn_stuck {f : Addr} {fd : FuncData} {ps : List Str} {CX : CXT} {k : Nat} : FnOk P w K mg base CX k f fd ps (SpP K cl fun _ => .stuck) :=
  ⟨fun vs H Q E h => by obtain ⟨_, _, _, _, q⟩ := h; exact q.elim, fun A outer s H args us vs Q E hr he hb hv h => by obtain ⟨_, _, _, _, q⟩ := h; exact q.elim⟩
/-- a def of the text's top as it stands -/
structure DefAt (K : PySem.W.Frag) (mg : Str → Option Value) (x : Str) (st : Stmt) (ps : List Str) (f : Addr) (fd : FuncData) : Prop where
  fn : Fun K x x st f fd
  mgd : mg x = some (.ref f)
  bd : Binds K fd ps []
/-- a constant of the text's top -/
structure GlobAt (K : PySem.W.Frag) (mg : Str → Option Value) (cl : Str → Option Addr) (x : Str) (d : D) : Prop where
  at_ : ∃ v u, mg x = some u ∧ RelV v u ∧ ∀ F, Rp K cl F d v
theorem qe_globAt {X : Cx} {xa : Option (Nat × Addr)} {Wx : WX} {x : Str} {d : D} {pos : Pos} (h : GlobAt X.K X.mg cl x d) (hg : Gl X x := by rfl) (hd : (x == ("__debug__" : Str)) = false := by decide) : QE X cl xa Wx (.Name x pos) (mC d) := by
  obtain ⟨v, u, h1, h2, h3⟩ := h.at_
  exact qe_glob hg h1 h2 h3 hd
theorem hu_ng {A : Around} {k : Nat} (hr : Room k A) : A.units + 200 < cLine := by have := hr.un; omega
end
/-! ### calls -/
def valsW (S : Sto) : List W → Option (List D)
  | [] => some []
  | w :: ws => match valW S w, valsW S ws with
    | some d, some ds => some (d :: ds)
    | _, _ => none
def reK (r : Re D) (S : Sto) : Rs W := match r with
  | .ok d => .ok (.da d) S
  | .ex x => .ex x S
  | .stuck => .stuck
def reF (r : Re D) (S : Sto) : Rs W := match r with
  | .ok d => if flatD d = true then .ok (.da d) S else .stuck
  | .ex x => if x.fs.isEmpty = true then .ex x S else .stuck
  | .stuck => .stuck
/-- a plain function called: by data; by cells that it reads, where a flat value comes out -/
def callP (p : List D → Re D) (ws : List W) (S : Sto) : Rs W := match dats ws with
  | some ds => reK (p ds) S
  | none => match valsW S ws with
    | some ds => reF (p ds) S
    | none => .stuck
def mCallP (p : List D → Re D) (mr : MA) : ME := mCall (callP p) mr
section
variable {X : Cx} {cl : Str → Option Addr} {xa : Option (Nat × Addr)} {Wx : WX}
open Classical in
/-- all cells as if they were frozen -/
noncomputable def Y.fzAll (y : Y) : Hp := fun b => if b ∈ y.m ∧ y.F b = none then y.H b else y.F b
theorem Y.fzAll_ex (y : Y) : Ex y.F y.fzAll := fun b o e => by
  unfold Y.fzAll
  rw [if_neg (by rintro ⟨_, h⟩; rw [e] at h; cases h)]
  exact e
theorem Y.fzAll_h {y : Y} (x : Ex y.F y.H) : Ex y.fzAll y.H := fun b o e => by
  unfold Y.fzAll at e
  split at e
  · exact e
  · exact x b o e
theorem fzAll_at {K : PySem.W.Frag} {y : Y} {S : Sto} (b : Bs K cl y S) {n : Nat} {c : Cell} {a : Addr} (hc : S[n]? = some c) (hd : c ≠ .dead) (ea : y.m[n]? = some a) : y.fzAll a = y.H a := by
  unfold Y.fzAll
  cases h : y.F a with
  | none => rw [if_pos ⟨List.mem_of_getElem? ea, rfl⟩]
  | some o => rw [if_neg (fun z => nomatch z.2), b.fz a o h]
theorem valF_ok {K : PySem.W.Frag} {y : Y} {S : Sto} (b : Bs K cl y S) {w : W} {v : V} {d : D} (r : RW K cl y w v) (h : valW S w = some d) : Rp K cl y.fzAll d v := by
  unfold valW at h
  split at h
  · cases h; exact Rp.xt y.fzAll_ex _ _ r
  · obtain ⟨a, e, rfl⟩ := r
    split at h
    · rename_i ws hc
      obtain ⟨_, vs, e2, l⟩ := b.at hc (by intro z; cases z) e
      obtain ⟨ds, q, rfl⟩ := Option.map_eq_some_iff.mp h
      exact ⟨a, vs, rfl, by rw [fzAll_at b hc (by intro z; cases z) e]; exact e2, RpL.xt y.fzAll_ex _ _ (dats_ok l q)⟩
    · rename_i ws hc
      obtain ⟨_, vs, e2, l⟩ := b.at hc (by intro z; cases z) e
      obtain ⟨ds, q, rfl⟩ := Option.map_eq_some_iff.mp h
      exact ⟨a, vs, rfl, by rw [fzAll_at b hc (by intro z; cases z) e]; exact e2, RpL.xt y.fzAll_ex _ _ (dats_ok l q)⟩
    · cases h
  · cases h
theorem valsF_ok {K : PySem.W.Frag} {y : Y} {S : Sto} (b : Bs K cl y S) : ∀ {ws : List W} {vs : List V} {ds : List D}, RWL K cl y ws vs → valsW S ws = some ds → RpL K cl y.fzAll ds vs
  | _, _, ds, .nil, h => by cases h; exact rfl
  | w :: ws, _, ds, .cons r t, h => by
    simp only [valsW] at h
    split at h
    · rename_i d ds' e1 e2
      cases h
      exact ⟨_, _, rfl, valF_ok b r e1, valsF_ok b t e2⟩
    · cases h
/-- a call's promise, used -/
theorem useP {K : PySem.W.Frag} {C : Cn} {y : Y} {σ : L2.St} {ρ : Rho} {S : Sto} {ws : List W} {vs : List V} {p : List D → Re D} {Q : VK} (s : Sim K cl xa C y σ ρ S) (r : RWL K cl y ws vs) (h : Post K cl xa C Wx y σ ρ (callP p ws S) (OkE K cl xa C y σ ρ Q)) : SpP K cl p vs y.H Q (WE Wx σ) := by
  unfold callP at h
  split at h
  · rename_i ds hd
    refine ⟨y.F, ds, s.bs.fz, dats_ok r hd, ?_⟩
    cases e : p ds with
    | ok d => rw [e] at h; exact fun v F' H' al rd => h v _ (s.al al) al.gr rd
    | ex x => rw [e] at h; exact fun cls dd F' H' al xr => h cls dd _ (s.al al) al.gr (XR.grow (y := ⟨F', H', []⟩) ⟨Ex.refl _, List.nil_prefix⟩ xr)
    | stuck => rw [e] at h; exact h
  · split at h
    · rename_i ds hd
      refine ⟨y.fzAll, ds, y.fzAll_h s.bs.fz, valsF_ok s.bs r hd, ?_⟩
      have back : ∀ F' H', Al y.fzAll y.H F' H' → Al y.F y.H y.F H' := fun F' H' al => ⟨Ex.refl _, al.h, s.bs.fz.trans al.h, fun b o e => .inl e⟩
      cases e : p ds with
      | ok d =>
        rw [e] at h
        simp only [reF] at h
        split at h
        · rename_i hf
          intro v F' H' al rd
          have rd' : Rp K cl y.F d v := by
            cases d <;> simp [flatD] at hf <;> exact rd
          exact h v _ (s.al (back F' H' al)) (back F' H' al).gr rd'
        · exact h.elim
      | ex x =>
        rw [e] at h
        simp only [reF] at h
        split at h
        · rename_i hf
          intro cls dd F' H' al xr
          obtain ⟨C', h1, h2, h3⟩ := xr
          have he : x.fs = [] := by cases hx : x.fs <;> simp_all
          refine h cls dd _ (s.al (back F' H' al)) (back F' H' al).gr ⟨C', h1, h2, ?_⟩
          rcases h3 with ⟨_, h3⟩ | ⟨h3, _⟩
          · exact .inl ⟨he, h3⟩
          · exact absurd he h3
        · exact h.elim
      | stuck => rw [e] at h; exact h
    · exact h.elim
theorem useS {K : PySem.W.Frag} {C : Cn} {y : Y} {σ : L2.St} {ρ : Rho} {S : Sto} {ws : List W} {vs : List V} {p : List W → Sto → Rs W} {Q : VK} (s : Sim K cl xa C y σ ρ S) (r : RWL K cl y ws vs) (h : Post K cl xa C Wx y σ ρ (p ws S) (OkE K cl xa C y σ ρ Q)) : SpS K cl p vs y.H Q (WE Wx σ) := by
  refine ⟨y, S, ws, rfl, s.bs, r, ?_⟩
  cases e : p ws S with
  | ok w S' => rw [e] at h; exact fun v z bz fz rz => h v z (s.after bz fz) fz.gr rz
  | ex x S' => rw [e] at h; exact fun cls dd z bz fz xr => h cls dd z (s.after bz fz) fz.gr xr
  | stuck => rw [e] at h; exact h
variable {CX : CXT} {k : Nat} {f : Addr} {fd : FuncData} {ps : List Str} {x : Str} {pp pos : Pos} {e : Expr} {es : List Expr} {mr : MA} {p : List D → Re D} {pS : List W → Sto → Rs W}
theorem qe_call (G : FnOk X.prog X.w X.K X.mg X.base CX k f fd ps (SpP X.K cl p)) (hr : Room k X.A) (hg : Gl X x) (hm : X.mg x = some (.ref f)) (hk : PySem.W.keepIn X.K (.ref f) = true) (hb : Binds X.K fd ps []) (px : ∀ σ, PassesAt CX X σ (WE Wx σ))
    (ha : QA X cl xa Wx (e :: es) mr) (hdb : (x == ("__debug__" : Str)) = false := by decide) (he : starEach (e :: es) X.env = (false, eval e X.env) :: starEach es X.env := by rfl) (hpl : (backTo pos (starEach es X.env)).any (·.1) = false := by rfl) :
    QE X cl xa Wx (.Call (.Name x pp) (e :: es) [] pos) (mCallP p mr) := by
  obtain ⟨t, pa, q⟩ := ha
  refine ⟨_, pe_callS G hr hg hm hk hb px pa hdb he hpl, fun C y σ ρ S s Q h => ?_⟩
  refine q C y σ ρ S s _ (Post.go h fun ws S1 h1 vs z s1 g1 r1 => ?_)
  exact useP s1 r1 (Post.re (h1 z g1) g1)
theorem qe_callS (G : FnOk X.prog X.w X.K X.mg X.base CX k f fd ps (SpS X.K cl pS)) (hr : Room k X.A) (hg : Gl X x) (hm : X.mg x = some (.ref f)) (hk : PySem.W.keepIn X.K (.ref f) = true) (hb : Binds X.K fd ps []) (px : ∀ σ, PassesAt CX X σ (WE Wx σ))
    (ha : QA X cl xa Wx (e :: es) mr) (hdb : (x == ("__debug__" : Str)) = false := by decide) (he : starEach (e :: es) X.env = (false, eval e X.env) :: starEach es X.env := by rfl) (hpl : (backTo pos (starEach es X.env)).any (·.1) = false := by rfl) :
    QE X cl xa Wx (.Call (.Name x pp) (e :: es) [] pos) (mCall pS mr) := by
  obtain ⟨t, pa, q⟩ := ha
  refine ⟨_, pe_callS G hr hg hm hk hb px pa hdb he hpl, fun C y σ ρ S s Q h => ?_⟩
  refine q C y σ ρ S s _ (Post.go h fun ws S1 h1 vs z s1 g1 r1 => ?_)
  exact useS s1 r1 (Post.re (h1 z g1) g1)
end
end Ng
namespace Ng
open PySem L2
/-! ### list comprehensions -/
section
variable {K : PySem.W.Frag} {cl : Str → Option Addr} {xa : Option (Nat × Addr)} {C : Cn} {y : Y} {σ σ' : St} {ρ ρ' : Rho} {S : Sto}
/-- a thing of our own that is neither frozen nor a cell -/
theorem Sim.other (s : Sim K cl xa C y σ ρ S) {p : Addr} {o : HO} (h1 : y.F p = none) (h2 : p ∉ y.m) (h3 : C.H0 p = none) : Sim K cl xa C (y.up p o) σ ρ S := by
  have neF : ∀ b o, y.F b = some o → b ≠ p := fun b o h z => by rw [z, h1] at h; cases h
  have g : Gr y (y.up p o) := ⟨Ex.refl _, List.prefix_refl _⟩
  refine ⟨⟨fun b u h => ?_, s.bs.len, s.bs.nd, fun b hb => ?_, fun k d ek hd => ?_⟩, ⟨s.fm.hf, fun b u e1 e2 => ?_, fun b h => ?_, s.fm.newF, s.fm.newC, s.fm.pre⟩, s.len, fun i w e => ?_⟩
  · show upd y.H p o b = some u
    rw [upd_ne (neF b u h)]; exact s.bs.fz b u h
  · show upd y.H p o b ≠ none
    rw [upd_ne (fun (z : b = p) => h2 (z ▸ hb))]; exact s.bs.has b hb
  · obtain ⟨b, f1, f2, f3⟩ := s.bs.cell k d ek hd
    have nb : b ≠ p := fun z => h2 (z ▸ List.mem_of_getElem? f1)
    exact ⟨b, f1, f2, CellR.grow g (fun u q => by show upd y.H p o b = some u; rw [upd_ne nb]; exact q) f3⟩
  · show upd y.H p o b = some u
    rw [upd_ne (fun z => by rw [z, h3] at e1; cases e1)]; exact s.fm.keep b u e1 e2
  · have h' : upd y.H p o b = none := h
    by_cases z : b = p
    · subst z; rw [upd_same] at h'; cases h'
    · rw [upd_ne z] at h'; exact s.fm.dom b h'
  · obtain ⟨v, e1, e2⟩ := s.slot i w e
    exact ⟨v, e1, e2.grow g⟩
/-- .. becomes a cell -/
theorem Sim.adoptC (s : Sim K cl xa C y σ ρ S) {p : Addr} {c : Cell} (h1 : y.F p = none) (h2 : p ∉ y.m) (h3 : C.H0 p = none) (h4 : y.H p ≠ none) (hc : CellR K cl y p c) : Sim K cl xa C ⟨y.F, y.H, y.m ++ [p]⟩ σ ρ (S ++ [c]) ∧ Gr y ⟨y.F, y.H, y.m ++ [p]⟩ := by
  have g : Gr y ⟨y.F, y.H, y.m ++ [p]⟩ := ⟨Ex.refl _, List.prefix_append _ _⟩
  refine ⟨⟨⟨s.bs.fz, by simp [s.bs.len], ?_, ?_, ?_⟩, ⟨s.fm.hf, s.fm.keep, s.fm.dom, s.fm.newF, fun a ha => ?_, s.fm.pre.trans g.m⟩, s.len, fun i w e => ?_⟩, g⟩
  · show (y.m ++ [p]).Nodup
    rw [List.nodup_append]
    exact ⟨s.bs.nd, by simp, fun a ha b hb => by simp at hb; subst hb; exact fun z => h2 (z ▸ ha)⟩
  · intro a ha
    rcases List.mem_append.mp ha with h | h
    · exact s.bs.has a h
    · simp at h; subst h; exact h4
  · intro n c' e d
    by_cases hn : n < S.length
    · rw [List.getElem?_append_left hn] at e
      obtain ⟨a, e1, e2, e3⟩ := s.bs.cell n c' e d
      exact ⟨a, pre_get g.m e1, e2, CellR.grow g (fun u z => z) e3⟩
    · have hl : n = S.length := by
        have := (List.getElem?_eq_some_iff.mp e).1
        simp at this; omega
      subst hl
      rw [List.getElem?_append_right (Nat.le_refl _)] at e
      simp at e
      subst e
      exact ⟨p, by show (y.m ++ [p])[S.length]? = some p; rw [← s.bs.len, List.getElem?_append_right (Nat.le_refl _)]; simp, .inl h1, CellR.grow g (fun u z => z) hc⟩
  · rcases List.mem_append.mp ha with h | h
    · exact s.fm.newC a h
    · simp at h; subst h; exact .inr h3
  · obtain ⟨v, e1, e2⟩ := s.slot i w e
    exact ⟨v, e1, e2.grow g⟩
/-- .. is frozen -/
theorem Sim.adoptF (s : Sim K cl xa C y σ ρ S) {p : Addr} {o : HO} (h1 : y.F p = none) (h2 : p ∉ y.m) (h3 : C.H0 p = none) (h4 : y.H p = some o) : Sim K cl xa C (y.fz p o) σ ρ S ∧ Gr y (y.fz p o) := by
  have ex : Ex y.F (upd y.F p o) := Ex.new h1
  have g : Gr y (y.fz p o) := ⟨ex, List.prefix_refl _⟩
  refine ⟨⟨⟨fun b u h => ?_, s.bs.len, s.bs.nd, s.bs.has, fun k d ek hd => ?_⟩, ⟨s.fm.hf.trans ex, s.fm.keep, s.fm.dom, fun b u h => ?_, s.fm.newC, s.fm.pre⟩, s.len, fun i w e => ?_⟩, g⟩
  · have h' : upd y.F p o b = some u := h
    by_cases z : b = p
    · subst z; rw [upd_same] at h'; cases h'; exact h4
    · rw [upd_ne z] at h'; exact s.bs.fz b u h'
  · obtain ⟨b, f1, f2, f3⟩ := s.bs.cell k d ek hd
    have nb : b ≠ p := fun z => h2 (z ▸ List.mem_of_getElem? f1)
    exact ⟨b, f1, f2.imp (fun q => by show upd y.F p o b = none; rw [upd_ne nb]; exact q) id, CellR.grow g (fun u q => q) f3⟩
  · have h' : upd y.F p o b = some u := h
    by_cases z : b = p
    · subst z; exact .inr (.inl h3)
    · rw [upd_ne z] at h'; exact s.fm.newF b u h'
  · obtain ⟨v, e1, e2⟩ := s.slot i w e
    exact ⟨v, e1, e2.grow g⟩
end
def wipeR (ρ : Rho) : List Nat → Rho
  | [] => ρ
  | v :: vs => (wipeR ρ vs).set v none
theorem wipeR_some {ρ : Rho} {i : Nat} {w : W} : ∀ {vs : List Nat}, (wipeR ρ vs)[i]? = some (some w) → ρ[i]? = some (some w) ∧ i ∉ vs
  | [], h => ⟨h, by simp⟩
  | v :: vs, h => by
    unfold wipeR at h
    by_cases e : v = i
    · subst e
      by_cases hl : v < (wipeR ρ vs).length
      · rw [List.getElem?_set_self hl] at h; cases h
      · rw [List.getElem?_eq_none (by rw [List.length_set]; omega)] at h; cases h
    · rw [List.getElem?_set_ne e] at h
      obtain ⟨h1, h2⟩ := wipeR_some h
      exact ⟨h1, by
        intro z
        rcases List.mem_cons.mp z with z | z
        · exact e z.symm
        · exact h2 z⟩
theorem wipeR_len (ρ : Rho) : ∀ vs : List Nat, (wipeR ρ vs).length = ρ.length
  | [] => rfl
  | v :: vs => by unfold wipeR; rw [List.length_set, wipeR_len ρ vs]
theorem Sim.wipe {K : PySem.W.Frag} {cl : Str → Option Addr} {xa : Option (Nat × Addr)} {C : Cn} {y : Y} {σ : St} {ρ : Rho} {S : Sto} (s : Sim K cl xa C y σ ρ S) (vs : List Nat) : Sim K cl xa C y (L2.wipe σ vs) (wipeR ρ vs) S :=
  ⟨s.bs, s.fm, by rw [wipeR_len, wipe_length]; exact s.len, fun i w e => by
    obtain ⟨h1, h2⟩ := wipeR_some e
    obtain ⟨v, e1, e2⟩ := s.slot i w h1
    exact ⟨v, by rw [wipe_out h2]; exact e1, e2⟩⟩
/-- readings that ask for no more than the meaning -/
def TEm (K : PySem.W.Frag) (cl : Str → Option Addr) (xa : Option (Nat × Addr)) (Wx : WX) (m : ME) : TE := fun σ H Q => ∃ C y ρ S, y.H = H ∧ Sim K cl xa C y σ ρ S ∧ Post K cl xa C Wx y σ ρ (m ρ S) (OkE K cl xa C y σ ρ Q)
def TTm (K : PySem.W.Frag) (cl : Str → Option Addr) (xa : Option (Nat × Addr)) (Wx : WX) (m : MT) : TT := fun σ H Q => ∃ C y ρ S, y.H = H ∧ Sim K cl xa C y σ ρ S ∧ Post K cl xa C Wx y σ ρ (m ρ S) (OkT K cl xa C y σ ρ Q)
theorem pe_m {X : Cx} {cl : Str → Option Addr} {xa : Option (Nat × Addr)} {Wx : WX} {e : Expr} {m : ME} (h : QE X cl xa Wx e m) : PE X e (TEm X.K cl xa Wx m) := ⟨fun pins s σ H Q I ⟨C, y, ρ, S, e1, sim, post⟩ => by
  subst e1
  obtain ⟨t, p, q⟩ := h
  exact p.run pins s σ _ Q I (q C y σ ρ S sim Q post)⟩
theorem pt_m {X : Cx} {cl : Str → Option Addr} {xa : Option (Nat × Addr)} {Wx : WX} {e : Expr} {m : MT} (h : QT X cl xa Wx e m) : PT X e (TTm X.K cl xa Wx m) := ⟨fun pins s σ H Q I ⟨C, y, ρ, S, e1, sim, post⟩ => by
  subst e1
  obtain ⟨t, p, q⟩ := h
  exact p.run pins s σ _ Q I (q C y σ ρ S sim Q post)⟩
/-- a target that stores in the block's own slots alone -/
def SGw (K : PySem.W.Frag) (cl : Str → Option Addr) (vs : List Nat) (tg : TG) (m : MG) : Prop := ∀ xa C y σ ρ S, Sim K cl xa C y σ ρ S → ∀ w v, RW K cl y w v → ∀ Q : St → Hp → Prop,
  (∃ ρ', m w ρ S = some ρ' ∧ ∀ σ', Sim K cl xa C y σ' ρ' S → L2.wipe σ' vs = L2.wipe σ vs → Q σ' y.H) → tg v σ y.H Q
def SGws (K : PySem.W.Frag) (cl : Str → Option Addr) (vs : List Nat) (tg : TGs) (m : MGs) : Prop := ∀ xa C y σ ρ S, Sim K cl xa C y σ ρ S → ∀ w v, RWL K cl y w v → ∀ Q : St → Hp → Prop,
  (∃ ρ', m w ρ S = some ρ' ∧ ∀ σ', Sim K cl xa C y σ' ρ' S → L2.wipe σ' vs = L2.wipe σ vs → Q σ' y.H) → tg v σ y.H Q
theorem set_wipe {σ : St} {i : Nat} {x : Option V} : ∀ {vs : List Nat}, i ∈ vs → L2.wipe (σ.set i x) vs = L2.wipe σ vs
  | [], h => by cases h
  | v :: vs, h => by
    show (L2.wipe (σ.set i x) vs).set v none = (L2.wipe σ vs).set v none
    by_cases k : i ∈ vs
    · rw [set_wipe k]
    · have e : i = v := by
        rcases List.mem_cons.mp h with z | z
        · exact z
        · exact absurd z k
      subst e
      apply List.ext_getElem?
      intro j
      by_cases hj : i = j
      · subst hj
        by_cases hl : i < σ.length
        · rw [List.getElem?_set_self (by rw [wipe_length, List.length_set]; exact hl), List.getElem?_set_self (by rw [wipe_length]; exact hl)]
        · rw [List.getElem?_eq_none (by rw [List.length_set, wipe_length, List.length_set]; omega), List.getElem?_eq_none (by rw [List.length_set, wipe_length]; omega)]
      · rw [List.getElem?_set_ne hj, List.getElem?_set_ne hj]
        have go : ∀ us : List Nat, (L2.wipe (σ.set i x) us)[j]? = (L2.wipe σ us)[j]? := fun us => by
          induction us with
          | nil => exact List.getElem?_set_ne hj
          | cons u us ih =>
            show ((L2.wipe (σ.set i x) us).set u none)[j]? = ((L2.wipe σ us).set u none)[j]?
            by_cases q : u = j
            · subst q
              by_cases hl : u < σ.length
              · rw [List.getElem?_set_self (by rw [wipe_length, List.length_set]; exact hl), List.getElem?_set_self (by rw [wipe_length]; exact hl)]
              · rw [List.getElem?_eq_none (by rw [List.length_set, wipe_length, List.length_set]; omega), List.getElem?_eq_none (by rw [List.length_set, wipe_length]; omega)]
            · rw [List.getElem?_set_ne q, List.getElem?_set_ne q]; exact ih
        exact go vs
theorem sgw_name {K : PySem.W.Frag} {cl : Str → Option Addr} {vs : List Nat} {i : Nat} (h : i ∈ vs) : SGw K cl vs (gName i) (gtName i) := fun xa C y σ ρ S s w v r Q ⟨ρ', e, k⟩ => by
  cases e
  exact k _ (s.set i r) (set_wipe h)
/-- a tuple unpacked -/
def gtTupT (n : Nat) (m : MGs) : MG := fun w ρ S => match tupW S w with
  | some ws => if ws.length = n then m ws ρ S else none
  | none => none
theorem sgws_nil {K : PySem.W.Frag} {cl : Str → Option Addr} {vs : List Nat} : SGws K cl vs gNil gtNil := fun xa C y σ ρ S s ws us r Q ⟨ρ', e, k⟩ => by
  unfold gtNil at e
  split at e
  · cases e
    cases r
    exact ⟨rfl, k _ s rfl⟩
  · cases e
theorem sgws_cons {K : PySem.W.Frag} {cl : Str → Option Addr} {vs : List Nat} {t : TG} {u : TGs} {g : MG} {gs : MGs} (h1 : SGw K cl vs t g) (h2 : SGws K cl vs u gs) : SGws K cl vs (gCons t u) (gtCons g gs) := fun xa C y σ ρ S s ws us r Q ⟨ρ', e, k⟩ => by
  unfold gtCons at e
  split at e
  · rename_i w rs _
    cases r with
    | cons r1 r2 =>
      obtain ⟨ρ1, e1, e2⟩ := Option.bind_eq_some_iff.mp e
      refine ⟨_, _, rfl, ?_⟩
      exact h1 xa C y σ ρ S s w _ r1 _ ⟨ρ1, e1, fun σ1 s1 w1 => h2 xa C y σ1 ρ1 S s1 rs _ r2 Q ⟨ρ', e2, fun σ2 s2 w2 => k σ2 s2 (w2.trans w1)⟩⟩
  · cases e
theorem sgw_tup {K : PySem.W.Frag} {cl : Str → Option Addr} {vs : List Nat} {u : TGs} {gs : MGs} {n : Nat} (h : SGws K cl vs u gs) : SGw K cl vs (gTup K n u) (gtTupT n gs) := fun xa C y σ ρ S s w v r Q ⟨ρ', e, k⟩ => by
  unfold gtTupT at e
  split at e
  · rename_i ws hw
    split at e
    · rename_i hl
      obtain ⟨a, us, rfl, t, l⟩ := tupW_ok s.bs r hw
      exact ⟨a, us, rfl, t, by rw [← Paired.length l]; exact hl, h xa C y σ ρ S s _ us l Q ⟨ρ', e, k⟩⟩
    · cases e
  · cases e
/-- the items that a comprehension makes -/
noncomputable def lcP (P : Sto → Prop) (g : MG) (mt : MT) (me : ME) (ρw : Rho) : List W → List W → Sto → Rs (List W)
  | [], acc, S => ifc (P S) (.ok acc S) .stuck
  | d :: ds, acc, S => ifc (P S) (match g d ρw S with
    | none => .stuck
    | some ρ2 => match mt ρ2 S with
      | .ok true S1 => match me ρ2 S1 with
        | .ok u S2 => ifc (acc.length < sizeLine) (lcP P g mt me ρw ds (acc ++ [u]) S2) .stuck
        | _ => .stuck
      | .ok false S1 => lcP P g mt me ρw ds acc S1
      | _ => .stuck) .stuck
noncomputable def lcM (g : MG) (mt : MT) (me : ME) (ρw : Rho) : List W → List W → Sto → Rs (List W)
  | [], acc, S => .ok acc S
  | d :: ds, acc, S => match g d ρw S with
    | none => .stuck
    | some ρ2 => match mt ρ2 S with
      | .ok true S1 => match me ρ2 S1 with
        | .ok u S2 => ifc (acc.length < sizeLine) (lcM g mt me ρw ds (acc ++ [u]) S2) .stuck
        | _ => .stuck
      | .ok false S1 => lcM g mt me ρw ds acc S1
      | _ => .stuck
theorem lcM_P (g : MG) (mt : MT) (me : ME) (ρw : Rho) : ∀ (ds acc : List W) (S : Sto), lcM g mt me ρw ds acc S = lcP (fun _ => True) g mt me ρw ds acc S
  | [], acc, S => by unfold lcM lcP; rw [ifc_true]
  | d :: ds, acc, S => by
    unfold lcM lcP
    rw [ifc_true]
    split
    · rfl
    · split
      · split
        · rw [lcM_P g mt me ρw ds _ _]
        · rfl
      · exact lcM_P g mt me ρw ds _ _
      · rfl
theorem lcP_at {P : Sto → Prop} {g : MG} {mt : MT} {me : ME} {ρw : Rho} {ds acc ys : List W} {S S' : Sto} (h : lcP P g mt me ρw ds acc S = .ok ys S') : P S := by
  cases ds with
  | nil =>
    rcases ifc_cases (P := fun r => r = Rs.ok ys S') h with ⟨a, _⟩ | ⟨_, b⟩
    · exact a
    · cases b
  | cons d ds =>
    rcases ifc_cases (P := fun r => r = Rs.ok ys S') h with ⟨a, _⟩ | ⟨_, b⟩
    · exact a
    · cases b
theorem lcP_noex {P : Sto → Prop} {g : MG} {mt : MT} {me : ME} {ρw : Rho} : ∀ (ds acc : List W) (S : Sto) (x : Exn) (S' : Sto), lcP P g mt me ρw ds acc S ≠ .ex x S'
  | [], acc, S, x, S' => by
    intro h
    rcases ifc_cases (P := fun r => r = Rs.ex x S') h with ⟨_, h⟩ | ⟨_, h⟩ <;> cases h
  | d :: ds, acc, S, x, S' => by
    intro h
    rcases ifc_cases (P := fun r => r = Rs.ex x S') h with ⟨_, h⟩ | ⟨_, h⟩
    · split at h
      · cases h
      · split at h
        · split at h
          · rcases ifc_cases (P := fun r => r = Rs.ex x S') h with ⟨_, h⟩ | ⟨_, h⟩
            · exact lcP_noex ds _ _ x S' h
            · cases h
          · cases h
        · exact lcP_noex ds _ _ x S' h
        · cases h
    · cases h
def mYes : MT := fun _ S => .ok true S
def mkLst (mk : Option Cell → Sto → Rs W) (ys : List W) (S : Sto) : Rs W := mk (some (.lst ys)) S
noncomputable def mLc (mk : Option Cell → Sto → Rs W) (e : ME) (vs : List Nat) (g : MG) (mt : MT) (me : ME) : ME := fun ρ S => (e ρ S).bind fun w S => match w with
  | .da d => match itemsD d with
    | some ws => (lcM g mt me (wipeR ρ vs) ws [] S).bind (mkLst mk)
    | none => .stuck
  | .lo n => match S[n]? with
    | some (.lst ws) => (lcP (fun S => S[n]? = some (.lst ws)) g mt me (wipeR ρ vs) ws [] S).bind (mkLst mk)
    | _ => .stuck
  | .xc => .stuck
noncomputable def mLcR (mk : Option Cell → Sto → Rs W) (rg : List W → Option (Int × Nat)) (a : MA) (vs : List Nat) (g : MG) (mt : MT) (me : ME) : ME := fun ρ S => (a ρ S).bind fun ws S => match rg ws with
  | some (lo, n) => (lcM g mt me (wipeR ρ vs) (intsW lo n) [] S).bind (mkLst mk)
  | none => .stuck
abbrev W0 : WX := fun _ _ _ _ => False
/-- between two turns: what is made stands at p, the rest gives ys -/
def LcAt (K : PySem.W.Frag) (cl : Str → Option Addr) (xa : Option (Nat × Addr)) (C : Cn) (y0 : Y) (σ : St) (ρ : Rho) (P : Sto → Prop) (vs : List Nat) (g : MG) (mt : MT) (me : ME) (ys : List W) (S' : Sto) (p : Addr) (ds : List W) (H : Hp) : Prop :=
  ∃ y acc vacc S, y.H = H ∧ Sim K cl xa C y σ ρ S ∧ Gr y0 y ∧ y.F p = none ∧ p ∉ y.m ∧ H p = some (.lst vacc) ∧ RWL K cl y acc vacc ∧ P S ∧ lcP P g mt me (wipeR ρ vs) ds acc S = .ok ys S'
section
variable {K : PySem.W.Frag} {cl : Str → Option Addr} {xa : Option (Nat × Addr)}
theorem wipe_wipe (σ : St) (vs : List Nat) : L2.wipe (L2.wipe σ vs) vs = L2.wipe σ vs := by
  apply List.ext_getElem?
  intro j
  by_cases k : j ∈ vs
  · have f : ∀ (τ : St) (ws : List Nat), j ∈ ws → (L2.wipe τ ws)[j]? = if j < τ.length then some none else none := fun τ ws => by
      induction ws with
      | nil => intro z; cases z
      | cons y ys ih =>
        intro z
        show ((L2.wipe τ ys).set y none)[j]? = _
        by_cases q : y = j
        · subst q
          by_cases hl : y < τ.length
          · rw [List.getElem?_set_self (by rw [wipe_length]; exact hl), if_pos hl]
          · rw [List.getElem?_eq_none (by rw [List.length_set, wipe_length]; omega), if_neg hl]
        · rw [List.getElem?_set_ne q]
          exact ih (by
            rcases List.mem_cons.mp z with z | z
            · exact absurd z.symm q
            · exact z)
    rw [f _ _ k, f _ _ k, wipe_length]
  · rw [wipe_out k]
/-- what a part that ran by itself leaves of a thing of ours -/
theorem keep_own {y z : Y} {p : Addr} {o : HO} (fz : Ex z.F z.H) (f : Fm y.cn z) (h1 : y.F p = none) (h2 : p ∉ y.m) (h3 : y.H p = some o) (hnt : ∀ xs, o ≠ .tup xs := by intro xs z; cases z) : z.H p = some o ∧ z.F p = none ∧ p ∉ z.m := by
  refine ⟨f.keep p o h3 h2, ?_, fun h => ?_⟩
  · cases e : z.F p with
    | none => rfl
    | some u =>
      rcases f.newF p u e with q | q | q | ⟨xs, q⟩
      · rw [show y.F p = some u from q] at h1; cases h1
      · rw [show y.H p = none from q] at h3; cases h3
      · exact absurd q h2
      · have k := f.keep p o h3 h2
        rw [fz p u e] at k
        cases k
        exact absurd q (hnt xs)
  · rcases f.newC p h with q | q
    · exact h2 q
    · rw [show y.H p = none from q] at h3; cases h3
theorem al_own {y : Y} {F' H' : Hp} {p : Addr} {o : HO} (a : Al y.F y.H F' H') (h1 : y.F p = none) (h3 : y.H p = some o) (hnt : ∀ xs, o ≠ .tup xs := by intro xs z; cases z) : H' p = some o ∧ F' p = none := by
  refine ⟨a.h p o h3, ?_⟩
  cases e : F' p with
  | none => rfl
  | some u =>
    rcases a.n p u e with q | q | ⟨xs, q⟩
    · rw [h1] at q; cases q
    · rw [h3] at q; cases q
    · have k := a.h p o h3
      rw [a.x p u e] at k
      cases k
      exact absurd q (hnt xs)
theorem run_lc {C : Cn} {y0 : Y} {σ : St} {ρ : Rho} {S S' : Sto} {P : Sto → Prop} {g : MG} {tg : TG} {J : It} {ws ys : List W} {G : Y → Sto → Prop} {mt : MT} {me : ME} {vs : List Nat} {Qd : Hp → Prop} {p : Addr} (hg : SGw K cl vs tg g) (wk : Wk K cl J ws G)
    (hG : ∀ y S, Gr y0 y → P S → G y S) (s : Sim K cl xa C y0 σ ρ S) (hp : y0.H p = none) (h : lcP P g mt me (wipeR ρ vs) ws [] S = .ok ys S')
    (hd : ∀ z vacc, Sim K cl xa C z σ ρ S' → Gr y0 z → z.F p = none → p ∉ z.m → C.H0 p = none → z.H p = some (.lst vacc) → RWL K cl z ys vacc → Qd z.H) :
    ∃ W : Nat → Nat → Hp → Prop, (∃ m, W 0 m (upd y0.H p (.lst []))) ∧ ∀ i m H, W i m H →
      (J.stop i H ∧ Qd H) ∨ (J.go i H ∧ ∃ Nx : Hp → Prop, (∀ H', Nx H' → ∃ m', m' < m ∧ W (i + 1) m' H') ∧ ∀ x H', J.yld i H x H' → tg x (L2.wipe σ vs) H' fun σ2 H2 => L2.wipe σ2 vs = L2.wipe σ vs ∧ TTm K cl xa W0 mt σ2 H2 fun b H3 =>
        if b = true then TEm K cl xa W0 me σ2 H3 fun u H4 => ∃ acc, H4 p = some (.lst acc) ∧ acc.length < sizeLine ∧ Nx (upd H4 p (.lst (acc ++ [u]))) else Nx H3) := by
  have c0 : C.H0 p = none := s.fm.dom p hp
  have fp0 : y0.F p = none := s.bs.fz.no hp
  have pm0 : p ∉ y0.m := fun z => s.bs.has p z hp
  refine ⟨fun i k H => k = ws.length - i ∧ i ≤ ws.length ∧ LcAt K cl xa C y0 σ ρ P vs g mt me ys S' p (ws.drop i) H, ⟨ws.length, by simp, Nat.zero_le _, y0.up p (.lst []), [], [], S, rfl, s.other fp0 pm0 c0, ⟨Ex.refl _, List.prefix_refl _⟩, fp0, pm0, upd_same, .nil, lcP_at h, h⟩, ?_⟩
  rintro i k H ⟨rfl, hi, y, acc, vacc, S1, rfl, s, x, fp, pm, hpp, ra, hP, q⟩
  by_cases hlt : i < ws.length
  · refine .inr ⟨wk.goes i y S1 hlt s.bs (hG y S1 x hP), LcAt K cl xa C y0 σ ρ P vs g mt me ys S' p (ws.drop (i + 1)), fun H' p' => ⟨ws.length - (i + 1), by omega, rfl, hlt, p'⟩, fun v H' hy => ?_⟩
    obtain ⟨F', w, al, ew, rw'⟩ := wk.yields i y S1 v H' hlt s.bs (hG y S1 x hP) hy
    rw [drop_cons ew] at q
    have s1 := s.al al
    obtain ⟨hp1, fp1⟩ := al_own al fp hpp
    rcases ifc_cases (P := fun r => r = Rs.ok ys S') q with ⟨_, q⟩ | ⟨_, q⟩
    · split at q
      · cases q
      · rename_i ρ2 e1
        refine hg xa _ ⟨F', H', y.m⟩ _ _ S1 (s1.wipe vs).rebase w v rw' _ ⟨ρ2, e1, fun σ2 s2 hw => ⟨hw.trans (wipe_wipe σ vs), ?_⟩⟩
        refine ⟨_, ⟨F', H', y.m⟩, ρ2, S1, rfl, s2, ?_⟩
        split at q
        · rename_i S2 e2
          rw [e2]
          intro z3 s3 g3
          rw [if_pos rfl]
          refine ⟨_, z3, ρ2, S2, rfl, s3, ?_⟩
          split at q
          · rename_i u S3 e3
            rw [e3]
            intro uv z4 s4 g4 ru
            obtain ⟨k1, k2, k3⟩ := keep_own s4.bs.fz s4.fm fp1 pm hp1
            rcases ifc_cases (P := fun r => r = Rs.ok ys S') q with ⟨hz, q⟩ | ⟨_, q⟩
            · have s5 := s1.after s4.bs s4.fm
              have gg : Gr y (z4.up p (.lst (vacc ++ [uv]))) := ⟨al.gr.f.trans s4.fm.gr.f, al.gr.m.trans s4.fm.gr.m⟩
              have g2 : Gr z4 (z4.up p (.lst (vacc ++ [uv]))) := ⟨Ex.refl _, List.prefix_refl _⟩
              exact ⟨vacc, k1, by rw [← Paired.length ra]; exact hz, z4.up p (.lst (vacc ++ [uv])), acc ++ [u], vacc ++ [uv], S3, rfl, s5.other k2 k3 c0, x.trans gg, k2, k3, upd_same, paired_append (RWL.grow gg ra) (.cons (ru.grow g2) .nil), lcP_at q, q⟩
            · cases q
          · cases q
        · rename_i S2 e2
          rw [e2]
          intro z3 s3 g3
          rw [if_neg (by simp)]
          obtain ⟨k1, k2, k3⟩ := keep_own s3.bs.fz s3.fm fp1 pm hp1
          have gg : Gr y z3 := al.gr.trans s3.fm.gr
          exact ⟨z3, acc, vacc, S2, rfl, s1.after s3.bs s3.fm, x.trans gg, k2, k3, k1, RWL.grow gg ra, lcP_at q, q⟩
        · cases q
    · cases q
  · have e : i = ws.length := by omega
    subst e
    have st := wk.stops y _ s.bs (hG y _ x hP)
    rw [List.drop_length] at q
    rcases ifc_cases (P := fun r => r = Rs.ok ys S') q with ⟨_, q⟩ | ⟨_, q⟩
    · cases q
      exact .inl ⟨st, hd y vacc s x fp pm c0 hpp ra⟩
    · cases q
/-- what comes of the list: a cell, or data -/
def MkOk (K : PySem.W.Frag) (cl : Str → Option Addr) (xa : Option (Nat × Addr)) (mk : Option Cell → Sto → Rs W) : Prop := ∀ (C : Cn) (Wx : WX) (y0 z : Y) (σ : St) (ρ : Rho) (S : Sto) (ys : List W) (vacc : List V) (p : Addr) (Q : VK), Sim K cl xa C z σ ρ S → Gr y0 z → z.F p = none → p ∉ z.m → C.H0 p = none → z.H p = some (.lst vacc) → RWL K cl z ys vacc →
  Post K cl xa C Wx y0 σ ρ (mk (some (.lst ys)) S) (OkE K cl xa C y0 σ ρ Q) → Q (.ref p) z.H
theorem mkC_ok : MkOk K cl xa mkC := fun C Wx y0 z σ ρ S ys vacc p Q s g h1 h2 h3 h4 r h => by
  obtain ⟨s2, g2⟩ := s.adoptC (c := .lst ys) h1 h2 h3 (by rw [h4]; simp) ⟨vacc, h4, r⟩
  exact h (.ref p) ⟨z.F, z.H, z.m ++ [p]⟩ s2 (g.trans g2) ⟨p, by rw [← s.bs.len]; simp, rfl⟩
theorem mkD_ok : MkOk K cl xa mkD := fun C Wx y0 z σ ρ S ys vacc p Q s g h1 h2 h3 h4 r h => by
  unfold mkD at h
  simp only at h
  split at h
  · rename_i d hd
    obtain ⟨s2, g2⟩ := s.adoptF h1 h2 h3 h4
    obtain ⟨ds, q, rfl⟩ := Option.map_eq_some_iff.mp hd
    exact h (.ref p) (z.fz p (.lst vacc)) s2 (g.trans g2) ⟨p, vacc, rfl, upd_same, RpL.xt g2.f _ _ (dats_ok r q)⟩
  · exact h.elim
end
section
variable {X : Cx} {cl : Str → Option Addr} {xa : Option (Nat × Addr)} {Wx : WX} {pos : Pos} {elt tg iter a : Expr} {ifs : List Expr} {scope : Scope} {own : List (Str × Nat)} {mi me : ME} {mr : MA} {mt : MT} {g : MG} {gt : TG} {mk : Option Cell → Sto → Rs W}
/-- any rule of an expression -/
def eAny (X : Cx) (e : Expr) : TE := fun σ H Q => ∃ t, PE X e t ∧ t σ H Q
theorem pe_anyE {e : Expr} : PE X e (eAny X e) := by
  constructor
  intro pins s σ H Q I ⟨t, p, h⟩
  exact p.run pins s σ H Q I h
theorem SE.badE {K : PySem.W.Frag} {t : TE} {C : Cn} {y : Y} {σ : St} {ρ : Rho} {S : Sto} {k : W → Sto → Rs W} {P : W → Sto → Prop} (q : SE K cl xa Wx t mi) (s : Sim K cl xa C y σ ρ S) (h : Post K cl xa C Wx y σ ρ ((mi ρ S).bind k) P) (hn : ∀ w S', mi ρ S ≠ .ok w S') (Q : VK) : t σ y.H Q := by
  refine q C y σ ρ S s Q ?_
  cases e : mi ρ S with
  | ok w S' => exact absurd e (hn w S')
  | ex x S' => rw [e] at h; exact h
  | stuck => rw [e] at h; exact h
/-- what a comprehension walks: the rule that fits the value -/
theorem walk_lc {t : TE} (hmk : MkOk X.K cl xa mk) (p : PE X iter t) (q : SE X.K cl xa Wx t mi) {vs0 : List Nat} (hsg : SGw X.K cl vs0 gt g) {C : Cn} {y : Y} {σ : St} {ρ : Rho} {S : Sto} (s : Sim X.K cl xa C y σ ρ S) {Q : VK}
    (h : Post X.K cl xa C Wx y σ ρ (mLc mk mi vs0 g mt me ρ S) (OkE X.K cl xa C y σ ρ Q)) : ∃ wi, PI X tg iter wi ∧ tLc wi gt (TTm X.K cl xa W0 mt) (TEm X.K cl xa W0 me) vs0 σ y.H Q := by
  unfold mLc at h
  by_cases bad : ∀ w S', mi ρ S ≠ .ok w S'
  · exact ⟨_, pi_list p, q.badE s h bad _⟩
  · cases e : mi ρ S with
    | stuck => exact absurd (by intro w S' z; rw [e] at z; cases z) bad
    | ex x S' => exact absurd (by intro w S' z; rw [e] at z; cases z) bad
    | ok w S0 =>
      rw [e] at h
      simp only [Rs.bind] at h
      have fin : ∀ {P : Sto → Prop} {ws : List W} {J : It} {G : Y → Sto → Prop} {z : Y} {pp : Addr}, Post X.K cl xa C Wx y σ ρ ((lcP P g mt me (wipeR ρ vs0) ws [] S0).bind (mkLst mk)) (OkE X.K cl xa C y σ ρ Q) → Wk X.K cl J ws G → (∀ y S, Gr z y → P S → G y S) → Sim X.K cl xa C z σ ρ S0 → Gr y z → z.H pp = none →
          ∃ W : Nat → Nat → Hp → Prop, (∃ m, W 0 m (upd z.H pp (.lst []))) ∧ ∀ i m H, W i m H →
            (J.stop i H ∧ Q (.ref pp) H) ∨ (J.go i H ∧ ∃ Nx : Hp → Prop, (∀ H', Nx H' → ∃ m', m' < m ∧ W (i + 1) m' H') ∧ ∀ x H', J.yld i H x H' → gt x (L2.wipe σ vs0) H' fun σ2 H2 => L2.wipe σ2 vs0 = L2.wipe σ vs0 ∧ TTm X.K cl xa W0 mt σ2 H2 fun b H3 =>
              if b = true then TEm X.K cl xa W0 me σ2 H3 fun u H4 => ∃ acc, H4 pp = some (.lst acc) ∧ acc.length < sizeLine ∧ Nx (upd H4 pp (.lst (acc ++ [u]))) else Nx H3) := fun {P ws J G z pp} h wk hG s1 g1 hp => by
        cases e2 : lcP P g mt me (wipeR ρ vs0) ws [] S0 with
        | stuck => rw [e2] at h; exact h.elim
        | ex x S' => exact absurd e2 (lcP_noex _ _ _ _ _)
        | ok ys S' =>
          rw [e2] at h
          exact run_lc hsg wk hG s1 hp e2 fun z2 vacc s2 g2 k1 k2 k3 k4 k5 => hmk C Wx y z2 σ ρ S' ys vacc pp Q s2 (g1.trans g2) k1 k2 k3 k4 k5 h
      cases w with
      | xc => exact h.elim
      | lo k =>
        simp only at h
        split at h
        · rename_i ws hk
          refine ⟨_, pi_list p, q.now s e fun v z s1 g1 r1 => ?_⟩
          obtain ⟨a, ea, rfl⟩ := r1
          obtain ⟨_, vs, hH, l⟩ := s1.bs.at hk (by intro z; cases z) ea
          refine ⟨a, rfl, ⟨vs, .inl (.inl hH)⟩, fun pp hp => fin h (wk_list (G := fun y S => Gr z y ∧ S[k]? = some (.lst ws)) ?_) (fun y S g p => ⟨g, p⟩) s1 g1 hp⟩
          rintro y S b ⟨g, hk2⟩
          obtain ⟨_, vs, h1, h2⟩ := b.at hk2 (by intro z; cases z) (pre_get g.m ea)
          exact ⟨vs, .inl (.inl h1), h2⟩
        · exact h.elim
      | da d =>
        simp only at h
        split at h
        · rename_i ws hd
          rw [lcM_P] at h
          unfold itemsD at hd
          split at hd
          · cases hd
            refine ⟨_, pi_list p, q.now s e fun v z s1 g1 r1 => ?_⟩
            obtain ⟨a, vs, rfl, tl, l⟩ := r1
            exact ⟨a, rfl, ⟨vs, .inl (.inl (s1.bs.fz _ _ tl))⟩, fun pp hp => fin h (wk_list (G := fun y S => Gr z y) fun y S b g => ⟨vs, .inl (.inl (b.fz _ _ (g.f _ _ tl))), rwl_da (RpL.xt g.f _ _ l)⟩) (fun y S g p => g) s1 g1 hp⟩
          · cases hd
            refine ⟨_, pi_list p, q.now s e fun v z s1 g1 r1 => ?_⟩
            obtain ⟨a, vs, rfl, tl, l⟩ := r1
            exact ⟨a, rfl, ⟨vs, sqL_xt s1.bs.fz tl⟩, fun pp hp => fin h (wk_list (G := fun y S => Gr z y) fun y S b g => ⟨vs, sqL_xt (g.f.trans b.fz) tl, rwl_da (RpL.xt g.f _ _ l)⟩) (fun y S g p => g) s1 g1 hp⟩
          · cases hd
            refine ⟨_, pi_tup p, q.now s e fun v z s1 g1 r1 => ?_⟩
            obtain ⟨a, vs, rfl, tl, l⟩ := r1
            exact ⟨a, rfl, ⟨vs, .inl (.inl (s1.bs.fz _ _ tl))⟩, fun pp hp => fin h (wk_tup (G := fun y S => Gr z y) fun y S b g => ⟨vs, .inl (.inl (b.fz _ _ (g.f _ _ tl))), rwl_da (RpL.xt g.f _ _ l)⟩) (fun y S g p => g) s1 g1 hp⟩
          · cases hd
            refine ⟨_, pi_tup p, q.now s e fun v z s1 g1 r1 => ?_⟩
            obtain ⟨a, vs, rfl, tl, l⟩ := r1
            exact ⟨a, rfl, ⟨vs, sqT_xt s1.bs.fz tl⟩, fun pp hp => fin h (wk_tup (G := fun y S => Gr z y) fun y S b g => ⟨vs, sqT_xt (g.f.trans b.fz) tl, rwl_da (RpL.xt g.f _ _ l)⟩) (fun y S g p => g) s1 g1 hp⟩
          · rename_i x
            cases hd
            refine ⟨_, pi_str p, q.now s e fun v z s1 g1 r1 => ?_⟩
            exact ⟨x, r1, fun pp hp => fin h (wk_str (G := fun y S => Gr z y)) (fun y S g p => g) s1 g1 hp⟩
          · rename_i ks ds
            cases hd
            refine ⟨_, pi_keys p, q.now s e fun v z s1 g1 r1 => ?_⟩
            obtain ⟨a, vs, rfl, ⟨o, tl⟩, nl, l⟩ := r1
            have ek : (ks.zip vs).map (·.1) = ks := List.map_fst_zip (by omega)
            have wk := wk_keys (cl := cl) (K := X.K) (d := a) (o := o) (kvs := ks.zip vs) (G := fun y S => Gr z y ∧ Ex y.F y.H) (fun y S g => g.2 _ _ (g.1.f _ _ tl))
            rw [ek] at wk
            refine ⟨a, o, rfl, .inl ⟨ks.zip vs, s1.bs.fz _ _ tl, fun pp hp => ?_⟩⟩
            exact fin h (G := fun y S => Gr z y) ⟨fun i y S hi b g => wk.goes i y S hi b ⟨g, b.fz⟩, fun y S b g => wk.stops y S b ⟨g, b.fz⟩, fun i y S x H' hi b g => wk.yields i y S x H' hi b ⟨g, b.fz⟩⟩ (fun y S g p => g) s1 g1 hp
          · cases hd
        · exact h.elim
theorem qe_lc (hmk : MkOk X.K cl xa mk) (hc : X.calm = true) (hN : X.N.Nodup) (hi : QE X cl xa Wx iter mi) (ok : BlkOk X.N X.env.scope scope own) (hsg : SGw X.K cl (own.map (·.2)) gt g)
    (hg : ∀ (s : Shared) (H : Hp) (A : Addr) (c2 : List (Str × Addr)) (fp : List Addr), PG (X.blk s H scope (compEnvC scope c2 A X.env) fp) tg gt)
    (ht : ∀ (s : Shared) (H : Hp) (A : Addr) (c2 : List (Str × Addr)) (fp : List Addr), PTs (X.blk s H scope (compEnvC scope c2 A X.env) fp) ifs (TTm X.K cl xa W0 mt))
    (he : ∀ (s : Shared) (H : Hp) (A : Addr) (c2 : List (Str × Addr)) (fp : List Addr), QE (X.blk s H scope (compEnvC scope c2 A X.env) fp) cl xa W0 elt me) (hs : ∀ x, foldedSetIterable iter X.env x = pure x := by intro _; rfl) :
    QE X cl xa Wx (.ListComp elt [⟨tg, iter, ifs, 0⟩] scope pos) (mLc mk mi (own.map (·.2)) g mt me) := by
  obtain ⟨t, p, q⟩ := hi
  refine ⟨_, pe_anyE, fun C y σ ρ S s Q h => ?_⟩
  obtain ⟨wi, hpi, hr⟩ := walk_lc (tg := tg) hmk p q hsg s h
  exact ⟨_, pe_lc (te := TEm X.K cl xa W0 me) hc hN hpi ok hg ht (fun s H A c2 fp => pe_m (he s H A c2 fp)) hs, hr⟩
theorem walk_lcR1 {t : TA} (hmk : MkOk X.K cl xa mk) (q : SA X.K cl xa Wx t mr) {vs0 : List Nat} (hsg : SGw X.K cl vs0 gt g) : SE X.K cl xa Wx (tLc (iRng1 t) gt (TTm X.K cl xa W0 mt) (TEm X.K cl xa W0 me) vs0) (mLcR mk rng1 mr vs0 g mt me) := by
  intro C y σ ρ S s Q h
  refine q C y σ ρ S s _ (Post.go h fun ws S1 h1 vs z s1 g1 r1 => ?_)
  have h2 := h1 z g1
  split at h2
  · rename_i lo k e
    unfold rng1 at e
    split at e
    · rename_i j
      obtain ⟨hj, e⟩ := ifc_some e
      cases e
      obtain ⟨v, rfl, rv⟩ := rwl1 r1
      cases (show v = .int j from rv)
      rw [lcM_P] at h2
      refine ⟨j, rfl, hj.1, hj.2, fun pp hp => ?_⟩
      cases e2 : lcP (fun _ => True) g mt me (wipeR ρ vs0) (intsW 0 j.toNat) [] S1 with
      | stuck => rw [e2] at h2; exact h2.elim
      | ex x S' => exact absurd e2 (lcP_noex _ _ _ _ _)
      | ok ys S' =>
        rw [e2] at h2
        exact run_lc hsg (wk_rng (G := fun y S => True)) (fun y S g p => trivial) s1 hp e2 fun z2 vacc s2 g2 k1 k2 k3 k4 k5 => hmk C Wx z z2 σ ρ S' ys vacc pp Q s2 g2 k1 k2 k3 k4 k5 (Post.re h2 g1)
    · cases e
  · exact h2.elim
theorem qe_lcR1 {p p' : Pos} (hmk : MkOk X.K cl xa mk) (hc : X.calm = true) (hN : X.N.Nodup) (hgl : Gl X "range") (hm : X.mg "range" = none) (ha : QA X cl xa Wx [a] mr) (ok : BlkOk X.N X.env.scope scope own) (hsg : SGw X.K cl (own.map (·.2)) gt g)
    (hg : ∀ (s : Shared) (H : Hp) (A : Addr) (c2 : List (Str × Addr)) (fp : List Addr), PG (X.blk s H scope (compEnvC scope c2 A X.env) fp) tg gt)
    (ht : ∀ (s : Shared) (H : Hp) (A : Addr) (c2 : List (Str × Addr)) (fp : List Addr), PTs (X.blk s H scope (compEnvC scope c2 A X.env) fp) ifs (TTm X.K cl xa W0 mt))
    (he : ∀ (s : Shared) (H : Hp) (A : Addr) (c2 : List (Str × Addr)) (fp : List Addr), QE (X.blk s H scope (compEnvC scope c2 A X.env) fp) cl xa W0 elt me)
    (hst : starEach [a] X.env = [(false, eval a X.env)] := by rfl) (hs : ∀ x, foldedSetIterable (.Call (.Name "range" p) [a] [] p') X.env x = pure x := by intro _; rfl) :
    QE X cl xa Wx (.ListComp elt [⟨tg, .Call (.Name "range" p) [a] [] p', ifs, 0⟩] scope pos) (mLcR mk rng1 mr (own.map (·.2)) g mt me) := by
  obtain ⟨t, pa, q⟩ := ha
  exact ⟨_, pe_lc (te := TEm X.K cl xa W0 me) hc hN (pi_range1 hgl hm pa hst) ok hg ht (fun s H A c2 fp => pe_m (he s H A c2 fp)) hs, walk_lcR1 hmk q hsg⟩
theorem ss_set {K : PySem.W.Frag} {t : TE} {i : Nat} (q : SE K cl xa Wx t me) : SS K cl xa Wx (tAsg t (gName i)) (mSet i me) := by
  intro C y σ ρ S s Z h
  refine q C y σ ρ S s _ (PostS.go h fun w S1 h1 v z s1 g1 r1 => ?_)
  exact h1 y (Gr.refl _) _ z (s1.set i r1) g1
theorem qs_setLc {i : Nat} {y' : Str} {py spos : Pos} (hmk : MkOk X.K cl xa mk) (hc : X.calm = true) (hN : X.N.Nodup) (hy : X.N[i]? = some y') (hyl : X.env.scope.names.lookup y' = some .local)
    (hsw : swapsWith (.ListComp elt [⟨tg, iter, ifs, 0⟩] scope pos) (some (.Name y' py)) spos.line X.env = pure true) (hi : QE X cl xa Wx iter mi) (ok : BlkOk X.N X.env.scope scope own) (hsg : SGw X.K cl (own.map (·.2)) gt g)
    (hg : ∀ (s : Shared) (H : Hp) (A : Addr) (c2 : List (Str × Addr)) (fp : List Addr), PG (X.blk s H scope (compEnvC scope c2 A X.env) fp) tg gt)
    (ht : ∀ (s : Shared) (H : Hp) (A : Addr) (c2 : List (Str × Addr)) (fp : List Addr), PTs (X.blk s H scope (compEnvC scope c2 A X.env) fp) ifs (TTm X.K cl xa W0 mt))
    (he : ∀ (s : Shared) (H : Hp) (A : Addr) (c2 : List (Str × Addr)) (fp : List Addr), QE (X.blk s H scope (compEnvC scope c2 A X.env) fp) cl xa W0 elt me) (hs : ∀ x, foldedSetIterable iter X.env x = pure x := by intro _; rfl) :
    QS X cl xa Wx (.Assign [.Name y' py] (.ListComp elt [⟨tg, iter, ifs, 0⟩] scope pos) spos) (mSet i (mLc mk mi (own.map (·.2)) g mt me)) := by
  obtain ⟨t, p, q⟩ := hi
  refine ⟨_, ps_anyS, fun C y σ ρ S s Z h => ?_⟩
  have h2 : Post X.K cl xa C Wx y σ ρ (mLc mk mi (own.map (·.2)) g mt me ρ S) (OkE X.K cl xa C y σ ρ fun v H => (gName i) v σ H fun σ' H' => Z.nx σ' H') := PostS.go h fun w S1 h1 v z s1 g1 r1 => h1 y (Gr.refl _) _ z (s1.set i r1) g1
  obtain ⟨wi, hpi, hr⟩ := walk_lc (tg := tg) hmk p q hsg s h2
  exact ⟨_, ps_setLc (te := TEm X.K cl xa W0 me) hc hN hy hyl hsw hpi ok hg ht (fun s H A c2 fp => pe_m (he s H A c2 fp)) hs, hr⟩
theorem qs_setLcR1 {i : Nat} {y : Str} {py spos p p' : Pos} (hmk : MkOk X.K cl xa mk) (hc : X.calm = true) (hN : X.N.Nodup) (hy : X.N[i]? = some y) (hyl : X.env.scope.names.lookup y = some .local)
    (hsw : swapsWith (.ListComp elt [⟨tg, .Call (.Name "range" p) [a] [] p', ifs, 0⟩] scope pos) (some (.Name y py)) spos.line X.env = pure true) (hgl : Gl X "range") (hm : X.mg "range" = none) (ha : QA X cl xa Wx [a] mr) (ok : BlkOk X.N X.env.scope scope own) (hsg : SGw X.K cl (own.map (·.2)) gt g)
    (hg : ∀ (s : Shared) (H : Hp) (A : Addr) (c2 : List (Str × Addr)) (fp : List Addr), PG (X.blk s H scope (compEnvC scope c2 A X.env) fp) tg gt)
    (ht : ∀ (s : Shared) (H : Hp) (A : Addr) (c2 : List (Str × Addr)) (fp : List Addr), PTs (X.blk s H scope (compEnvC scope c2 A X.env) fp) ifs (TTm X.K cl xa W0 mt))
    (he : ∀ (s : Shared) (H : Hp) (A : Addr) (c2 : List (Str × Addr)) (fp : List Addr), QE (X.blk s H scope (compEnvC scope c2 A X.env) fp) cl xa W0 elt me)
    (hst : starEach [a] X.env = [(false, eval a X.env)] := by rfl) (hs : ∀ x, foldedSetIterable (.Call (.Name "range" p) [a] [] p') X.env x = pure x := by intro _; rfl) :
    QS X cl xa Wx (.Assign [.Name y py] (.ListComp elt [⟨tg, .Call (.Name "range" p) [a] [] p', ifs, 0⟩] scope pos) spos) (mSet i (mLcR mk rng1 mr (own.map (·.2)) g mt me)) := by
  obtain ⟨t, pa, q⟩ := ha
  exact ⟨_, ps_setLc (te := TEm X.K cl xa W0 me) hc hN hy hyl hsw (pi_range1 hgl hm pa hst) ok hg ht (fun s H A c2 fp => pe_m (he s H A c2 fp)) hs, ss_set (walk_lcR1 hmk q hsg)⟩
theorem passW0 {X : Cx} {σ : St} : PassesAt (L2.CX X.prog X.w) X σ (WE W0 σ) := fun _ _ _ _ _ _ h => by
  obtain ⟨_, _, _, _, _, _, _, _, _, _, _, _, z⟩ := h
  exact z.elim
theorem pts_yes {X : Cx} {K : PySem.W.Frag} : PTs X [] (TTm K cl xa W0 mYes) := ⟨fun pins s σ H Q I ⟨C, y, ρ, S, e, sim, post⟩ => by
  subst e
  exact pts_nil.run pins s σ _ Q I (post y sim (Gr.refl _))⟩
end
end Ng
namespace Ng
open PySem L2
/-! ### methods of built-in types -/
def HMt (X : Cx) (cl : Str → Option Addr) (id : String) (F : W → List W → Sto → Rs W) : Prop := ∀ xa C Wx y σ ρ S, Sim X.K cl xa C y σ ρ S → ∀ w v, RW X.K cl y w v → ∀ ws vs, RWL X.K cl y ws vs → ∀ Q, Post X.K cl xa C Wx y σ ρ (F w ws S) (OkE X.K cl xa C y σ ρ Q) → mtAny X id v vs y.H Q
def tyM (S : Sto) : W → Option String
  | .da (.str _) => some "str"
  | .da (.lst _) => some "list"
  | .lo n => match S[n]? with
    | some (.lst _) => some "list"
    | some (.dk _) => some "dict"
    | some (.dt _) => some "dict"
    | _ => none
  | _ => none
def mMt (T : String) (F : W → List W → Sto → Rs W) (mo : ME) (mr : MA) : ME := fun ρ S => (mo ρ S).bind fun w S => if tyM S w = some T then (mr ρ S).bind fun ws S => F w ws S else .stuck
section
variable {X : Cx} {cl : Str → Option Addr} {xa : Option (Nat × Addr)} {Wx : WX} {pos apos cpos : Pos} {a b c e o : Expr} {es : List Expr} {ma mb mc me mi mo : ME} {mr : MA} {ta tb tc : MT} {st : Stmt} {rest body : List Stmt} {m n : MS}
theorem tyM_ok {K : PySem.W.Frag} {y : Y} {S : Sto} (b : Bs K cl y S) {w : W} {v : V} {T : String} (r : RW K cl y w v) (h : tyM S w = some T) : tyV K T v y.H := by
  unfold tyM at h
  split at h
  · cases h; cases (show v = .str _ from r); exact rfl
  · cases h; obtain ⟨a, vs, rfl, t, l⟩ := r; exact .inl ⟨rfl, vs, .inl (.inl (b.fz _ _ t))⟩
  · obtain ⟨a, ea, rfl⟩ := r
    split at h
    · rename_i ws hc
      cases h
      obtain ⟨_, vs, e2, l⟩ := b.at hc (by intro z; cases z) ea
      exact .inl ⟨rfl, vs, .inl (.inl e2)⟩
    · rename_i ws hc
      cases h
      obtain ⟨_, vs, e2, l⟩ := b.at hc (by intro z; cases z) ea
      exact .inr (.inr (.inl ⟨rfl, .inl ⟨vs, e2⟩⟩))
    · rename_i ws hc
      cases h
      obtain ⟨_, vs, e2, l⟩ := b.at hc (by intro z; cases z) ea
      exact .inr (.inr (.inl ⟨rfl, .inr ⟨vs, e2⟩⟩))
    · cases h
  · cases h
theorem qe_bm {T id : String} {name : Str} {F : W → List W → Sto → Rs W} (pa : PlainAttrs T) (slot : Slot T name id) (hty : typeOf (.builtin id) = pure (.type "method_descriptor")) (hm : HMt X cl id F) (ho : QE X cl xa Wx o mo) (ha : QA X cl xa Wx (e :: es) mr)
    (hbase : attributeBase o name X.env (eval o X.env) = eval o X.env := by rfl)
    (hfew : ((backTo cpos (starEach (e :: es) X.env)).all (fun x => !x.1) && (backToKw cpos (keywordEach [] X.env)).all (fun x => x.1.isSome) && decide ((e :: es).length + ([] : List Keyword).length + (if ([] : List Keyword).isEmpty then 0 else 1) < 30)) = true := by rfl)
    (hline : (apos.endLine == cpos.line) = true := by rfl) (hs : starEach (e :: es) X.env = (false, eval e X.env) :: starEach es X.env := by rfl) (hplain : (backTo cpos (starEach es X.env)).any (·.1) = false := by rfl) :
    QE X cl xa Wx (.Call (.Attribute o name apos) (e :: es) [] cpos) (mMt T F mo mr) := by
  obtain ⟨t, p, q⟩ := ho
  obtain ⟨t2, p2, q2⟩ := ha
  refine ⟨_, pe_bm pa slot hty mt_any p p2 hbase hfew hline hs hplain, fun C y σ ρ S s Q h => ?_⟩
  refine q C y σ ρ S s _ (Post.go h fun w S1 h1 v z s1 g1 r1 => ?_)
  have h2 := h1 z g1
  split at h2
  · rename_i ht
    refine ⟨tyM_ok s1.bs r1 ht, ?_⟩
    refine q2 C z σ ρ S1 s1 _ (Post.go h2 fun ws S2 h3 vs z2 s2 g2 r2 => ?_)
    exact hm xa C Wx z2 σ ρ S2 s2 w v (r1.grow g2) ws vs r2 Q (Post.re (h3 z2 g2) (g1.trans g2))
  · exact h2.elim
theorem qe_bm0 {T id : String} {name : Str} {F : W → List W → Sto → Rs W} (pa : PlainAttrs T) (slot : Slot T name id) (hty : typeOf (.builtin id) = pure (.type "method_descriptor")) (hm : HMt X cl id F) (ho : QE X cl xa Wx o mo)
    (hbase : attributeBase o name X.env (eval o X.env) = eval o X.env := by rfl) (hline : (apos.endLine == cpos.line) = true := by rfl) :
    QE X cl xa Wx (.Call (.Attribute o name apos) [] [] cpos) (mMt T F mo mNil) := by
  obtain ⟨t, p, q⟩ := ho
  refine ⟨_, pe_bm0 pa slot hty mt_any p hbase hline, fun C y σ ρ S s Q h => ?_⟩
  refine q C y σ ρ S s _ (Post.go h fun w S1 h1 v z s1 g1 r1 => ?_)
  have h2 := h1 z g1
  split at h2
  · rename_i ht
    exact ⟨tyM_ok s1.bs r1 ht, hm xa C Wx z σ ρ S1 s1 w v r1 [] [] .nil Q (Post.re h2 g1)⟩
  · exact h2.elim
/-- a list that is a cell is changed: what comes, what it holds then -/
def chL (f : List W → List W → Option (W × List W)) : W → List W → Sto → Rs W := fun w as S => match w with
  | .lo n => match S[n]? with
    | some (.lst ws) => match f ws as with
      | some (u, ws') => .ok u (S.set n (.lst ws'))
      | none => .stuck
    | _ => .stuck
  | _ => .stuck
theorem hm_chL {id : String} {f : List W → List W → Option (W × List W)}
    (h : ∀ (y : Y) (a : Addr) (ws : List W) (vs : List V) (as : List W) (bs : List V) (u : W) (ws' : List W) (Q : VK), y.H a = some (.lst vs) → RWL X.K cl y ws vs → RWL X.K cl y as bs → f ws as = some (u, ws') → (∀ uv vs', RW X.K cl y u uv → RWL X.K cl y ws' vs' → Q uv (upd y.H a (.lst vs'))) → mtAny X id (.ref a) bs y.H Q) : HMt X cl id (chL f) := by
  intro xa C Wx y σ ρ S s w v r as bs ra Q hp
  unfold chL at hp
  split at hp
  · rename_i n
    obtain ⟨a, ea, rfl⟩ := r
    split at hp
    · rename_i ws hc
      split at hp
      · rename_i u ws' hf
        obtain ⟨_, vs, hH, l⟩ := s.bs.at hc (by intro z; cases z) ea
        refine h y a ws vs as bs u ws' Q hH l ra hf fun uv vs' ru rv => ?_
        have g : Gr y (y.up a (.lst vs')) := ⟨Ex.refl _, List.prefix_refl _⟩
        exact hp uv (y.up a (.lst vs')) (s.upCell hc (by intro z; cases z) ea ⟨vs', upd_same, RWL.grow g rv⟩) g (ru.grow g)
      · exact hp.elim
    · exact hp.elim
  · exact hp.elim
noncomputable def appL (ws as : List W) : Option (W × List W) := match as with
  | [x] => ifc (ws.length < sizeLine) (some (.da .non, ws ++ [x])) none
  | _ => none
theorem hm_append : HMt X cl "list.append" (chL appL) := hm_chL fun y a ws vs as bs u ws' Q hH l ra hf k => by
  unfold appL at hf
  split at hf
  · obtain ⟨hz, e⟩ := ifc_some hf
    cases e
    obtain ⟨v, rfl, r⟩ := rwl1 ra
    exact ⟨_, mt_append, a, vs, v, rfl, rfl, hH, by rw [← Paired.length l]; exact hz, k .non _ rfl (paired_append l (.cons r .nil))⟩
  · cases hf
theorem paired_take {α β : Type} {R : α → β → Prop} : ∀ {a : List α} {b : List β} (n : Nat), Paired R a b → Paired R (a.take n) (b.take n)
  | _, _, 0, _ => by simp only [List.take_zero]; exact .nil
  | _, _, n + 1, .nil => .nil
  | _, _, n + 1, .cons r t => .cons r (paired_take n t)
theorem paired_drop {α β : Type} {R : α → β → Prop} : ∀ {a : List α} {b : List β} (n : Nat), Paired R a b → Paired R (a.drop n) (b.drop n)
  | _, _, 0, h => h
  | _, _, n + 1, .nil => .nil
  | _, _, n + 1, .cons r t => paired_drop n t
theorem paired_rev {α β : Type} {R : α → β → Prop} : ∀ {a : List α} {b : List β}, Paired R a b → Paired R a.reverse b.reverse
  | _, _, .nil => .nil
  | _, _, .cons r t => by
    rw [List.reverse_cons, List.reverse_cons]
    exact paired_append (paired_rev t) (.cons r .nil)
noncomputable def insL (ws as : List W) : Option (W × List W) := match as with
  | [.da (.int i), x] => ifc (ws.length < sizeLine ∧ 0 ≤ i ∧ i < 2 ^ 63) (some (.da .non, ws.take i.toNat ++ [x] ++ ws.drop i.toNat)) none
  | _ => none
theorem hm_insert : HMt X cl "list.insert" (chL insL) := hm_chL fun y a ws vs as bs u ws' Q hH l ra hf k => by
  unfold insL at hf
  split at hf
  · rename_i i x
    obtain ⟨hz, e⟩ := ifc_some hf
    cases e
    obtain ⟨v, v2, rfl, r, r2⟩ := rwl2 ra
    cases (show v = .int i from r)
    exact ⟨_, mt_insert, a, vs, i, v2, rfl, rfl, hH, by rw [← Paired.length l]; exact hz.1, hz.2.1, hz.2.2, k .non _ rfl (paired_append (paired_append (paired_take _ l) (.cons r2 .nil)) (paired_drop _ l))⟩
  · cases hf
def revL (ws as : List W) : Option (W × List W) := match as with
  | [] => some (.da .non, ws.reverse)
  | _ => none
theorem hm_reverse : HMt X cl "list.reverse" (chL revL) := hm_chL fun y a ws vs as bs u ws' Q hH l ra hf k => by
  unfold revL at hf
  split at hf
  · cases hf
    cases ra
    exact ⟨_, mt_reverse, a, vs, rfl, rfl, hH, k .non _ rfl (paired_rev l)⟩
  · cases hf
def popL (ws as : List W) : Option (W × List W) := match as with
  | [] => match ws[ws.length - 1]? with
    | some u => some (u, ws.dropLast)
    | none => none
  | _ => none
theorem hm_pop : HMt X cl "list.pop" (chL popL) := hm_chL fun y a ws vs as bs u ws' Q hH l ra hf k => by
  unfold popL at hf
  split at hf
  · split at hf
    · rename_i w hw
      cases hf
      cases ra
      obtain ⟨v, e1, e2⟩ := RWL.get l hw
      rw [Paired.length l] at e1
      refine ⟨_, mt_pop, a, vs, v, rfl, rfl, hH, e1, k v _ e2 ?_⟩
      rw [List.dropLast_eq_take, List.dropLast_eq_take, Paired.length l]
      exact paired_take _ l
    · cases hf
  · cases hf
/-! ### stores -/
/-- in its place where the key is there, else at the end -/
def putW {κ : Type} [DecidableEq κ] (kws : List (κ × W)) (k : κ) (w : W) : List (κ × W) :=
  if kws.any (fun q => decide (q.1 = k)) = true then kws.map (fun q => if q.1 = k then (q.1, w) else q) else kws ++ [(k, w)]
noncomputable def setW (o i w : W) (S : Sto) : Option Sto := match o with
  | .lo n => match S[n]? with
    | some (.lst ws) => match i with
      | .da (.int k) => match ixN ws.length k with
        | some j => some (S.set n (.lst (ws.set j w)))
        | none => none
      | _ => none
    | some (.dk kws) => match keyW i with
      | some k => ifc (kws.length < sizeLine) (some (S.set n (.dk (putW kws k w)))) none
      | none => none
    | some (.dt kws) => match keysW i with
      | some k => ifc (kws.length < sizeLine) (some (S.set n (.dt (putW kws k w)))) none
      | none => none
    | _ => none
  | _ => none
noncomputable def mSetIx (mo mi me : ME) : MS := fun ρ S => (me ρ S).out ρ fun w S => (mo ρ S).out ρ fun o S => (mi ρ S).out ρ fun i S => match setW o i w S with
  | some S' => .nx ρ S'
  | none => .stuck
theorem RWP.anyK {κ : Type} [DecidableEq κ] {K : PySem.W.Frag} {y : Y} {k : κ} : ∀ {kws : List (κ × W)} {kvs : List (κ × V)}, RWP K cl y kws kvs → kws.any (fun q => decide (q.1 = k)) = kvs.any (fun q => decide (q.1 = k))
  | _, _, .nil => rfl
  | (j, _) :: _, (j', _) :: _, .cons h t => by
    cases (show j = j' from h.1)
    simp only [List.any_cons, RWP.anyK t]
theorem RWP.repl {κ : Type} [DecidableEq κ] {K : PySem.W.Frag} {y : Y} {k : κ} {w : W} {v : V} (r : RW K cl y w v) : ∀ {kws : List (κ × W)} {kvs : List (κ × V)}, RWP K cl y kws kvs → RWP K cl y (kws.map (fun q => if q.1 = k then (q.1, w) else q)) (kvs.map (fun q => if q.1 = k then (q.1, v) else q))
  | _, _, .nil => .nil
  | (j, u) :: _, (j', z) :: _, .cons h t => by
    cases (show j = j' from h.1)
    simp only [List.map_cons]
    refine .cons ?_ (RWP.repl r t)
    by_cases e : j = k
    · rw [if_pos e, if_pos e]; exact ⟨rfl, r⟩
    · rw [if_neg e, if_neg e]; exact h
theorem RWP.put {κ : Type} [DecidableEq κ] {K : PySem.W.Frag} {y : Y} {k : κ} {w : W} {v : V} (r : RW K cl y w v) {kws : List (κ × W)} {kvs : List (κ × V)} (h : RWP K cl y kws kvs) : RWP K cl y (putW kws k w) (putK kvs k v) := by
  unfold putW putK
  rw [RWP.anyK h]
  split
  · exact RWP.repl r h
  · exact paired_append h (.cons ⟨rfl, r⟩ .nil)
theorem RWL.setAt {K : PySem.W.Frag} {y : Y} {w : W} {v : V} (r : RW K cl y w v) : ∀ {ws : List W} {vs : List V} (j : Nat), RWL K cl y ws vs → RWL K cl y (ws.set j w) (vs.set j v)
  | _, _, _, .nil => .nil
  | _, _, 0, .cons _ t => .cons r t
  | _, _, j + 1, .cons a t => .cons a (RWL.setAt r j t)
/-- any rule of a store -/
def pAny (X : Cx) : V → V → V → Hp → (Hp → Prop) → Prop := fun o i v H Q => ∃ t, PSet X t ∧ t o i v H Q
theorem set_any : PSet X (pAny X) := fun pins s σ H o i v ov iv u Q I ro ri rv ⟨t, p, h⟩ => p pins s σ H o i v ov iv u Q I ro ri rv h
theorem qs_setIx {ix : Expr} {p1 : Pos} (hu : Hu X) (ho : QE X cl xa Wx o mo) (hi : QE X cl xa Wx ix mi) (he : QE X cl xa Wx e me)
    (hs : swapsWithSole [.Subscript o ix p1] e pos.line X.env = pure false := by rfl) (hw : swappedStores [.Subscript o ix p1] e X.env = pure none := by rfl)
    (h1 : (assignEach [.Subscript o ix p1] X.env).map (·.2) = [assign (.Subscript o ix p1) X.env] := by rfl)
    (ha : ∀ v, assign (.Subscript o ix p1) X.env v = (do
      let ov ← holding [v] (eval o X.env)
      let iv ← holding [v, ov] (eval ix X.env)
      standAt p1
      holding [v, ov, iv] (setItem ov iv v)
      release [v, ov, iv] []) := by intro _; rfl) :
    QS X cl xa Wx (.Assign [.Subscript o ix p1] e pos) (mSetIx mo mi me) := by
  obtain ⟨t, p, q⟩ := he
  obtain ⟨t2, p2, q2⟩ := ho
  obtain ⟨t3, p3, q3⟩ := hi
  refine ⟨_, ps_asg p (pg_sub p2 p3 set_any ha) hs hw h1, fun C y σ ρ S s Z h => ?_⟩
  refine q C y σ ρ S s _ (PostS.go h fun w S1 h1 v z s1 g1 r1 => ?_)
  refine q2 C z σ ρ S1 s1 _ (PostS.go (h1 z g1) fun w2 S2 h2 v2 z2 s2 g2 r2 => ?_)
  refine q3 C z2 σ ρ S2 s2 _ (PostS.go (h2 z2 g2) fun w3 S3 h3 v3 z3 s3 g3 r3 => ?_)
  have h4 := h3 z3 g3
  have hu1 : X.A.units + 1 < cLine := by have : X.A.units + 200 < cLine := hu; omega
  split at h4
  · rename_i S' hS
    have rw3 := r1.grow (g2.trans g3)
    have ro3 := r2.grow g3
    unfold setW at hS
    split at hS
    · rename_i n
      obtain ⟨a, ea, rfl⟩ := ro3
      split at hS
      · rename_i ws hc
        split at hS
        · rename_i k
          cases (show v3 = .int k from r3)
          split at hS
          · rename_i j hj
            cases hS
            obtain ⟨_, vs, hH, l⟩ := s3.bs.at hc (by intro z; cases z) ea
            have g : Gr z3 (z3.up a (.lst (vs.set j v))) := ⟨Ex.refl _, List.prefix_refl _⟩
            refine ⟨_, set_list, a, vs, k, j, rfl, rfl, hH, by rw [← Paired.length l]; exact hj, ?_⟩
            exact h4 σ _ (s3.upCell hc (by intro z; cases z) ea ⟨_, upd_same, RWL.grow g (RWL.setAt rw3 j l)⟩) g
          · cases hS
        · cases hS
      · rename_i kws hc
        split at hS
        · rename_i k hk
          obtain ⟨hz, e⟩ := ifc_some hS
          cases e
          obtain ⟨_, kvs, hH, l⟩ := s3.bs.at hc (by intro z; cases z) ea
          have g : Gr z3 (z3.up a (.dK (putK kvs k v))) := ⟨Ex.refl _, List.prefix_refl _⟩
          refine ⟨_, set_dict hu1, a, _, rfl, .inl ⟨kvs, k, hH, keyW_ok r3 hk, by rw [← Paired.length l]; exact hz, rfl⟩, ?_⟩
          exact h4 σ _ (s3.upCell hc (by intro z; cases z) ea ⟨_, upd_same, RWP.grow g (RWP.put rw3 l)⟩) g
        · cases hS
      · rename_i kws hc
        split at hS
        · rename_i k hk
          obtain ⟨hz, e⟩ := ifc_some hS
          cases e
          obtain ⟨_, kvs, hH, l⟩ := s3.bs.at hc (by intro z; cases z) ea
          obtain ⟨b, hb, hb2⟩ := keysW_ok s3.bs r3 hk
          have g : Gr z3 (z3.up a (.dT (putK kvs k v))) := ⟨Ex.refl _, List.prefix_refl _⟩
          refine ⟨_, set_dict hu1, a, _, rfl, .inr ⟨kvs, k, b, hH, hb, hb2, by rw [← Paired.length l]; exact hz, rfl⟩, ?_⟩
          exact h4 σ _ (s3.upCell hc (by intro z; cases z) ea ⟨_, upd_same, RWP.grow g (RWP.put rw3 l)⟩) g
        · cases hS
      · cases hS
    · cases hS
  · exact h4.elim
/-! {} -/
def newDK : List W → Sto → Option Cell
  | [], _ => some (.dk [])
  | _, _ => none
def newDT : List W → Sto → Option Cell
  | [], _ => some (.dt [])
  | _, _ => none
theorem qe_newDK : QE X cl xa Wx (.Dict [] [] pos) (mCall (ncN newDK) mNil) :=
  ⟨_, pe_dnewK, fun C y σ ρ S s Q h => fun p hp => h (.ref p) _ (s.newCell (o := .dK []) hp ⟨[], upd_same, .nil⟩) (y.gr_new p _) ⟨p, by rw [← s.bs.len]; simp [Y.new], rfl⟩⟩
theorem qe_newDT : QE X cl xa Wx (.Dict [] [] pos) (mCall (ncN newDT) mNil) :=
  ⟨_, pe_dnewT, fun C y σ ρ S s Q h => fun p hp => h (.ref p) _ (s.newCell (o := .dT []) hp ⟨[], upd_same, .nil⟩) (y.gr_new p _) ⟨p, by rw [← s.bs.len]; simp [Y.new], rfl⟩⟩
end
/-! ### own errors: raised, caught, asked -/
def veB : List Value := [.type "ValueError", .type "Exception", .type "BaseException", .type "object"]
structure ExcAt (K : PySem.W.Frag) (mg : Str → Option Value) (cl : Str → Option Addr) (c : Str) (C : Addr) : Prop where
  at_ : cl c = some C
  mgd : mg c = some (.ref C)
  ex : PySem.W.excIn K C veB "ValueError.__new__" = true
  kp : PySem.W.keepIn K (.ref C) = true
  sb : PySem.W.subIn K (.ref C) (.type "BaseException") = some true
  ty : PySem.W.typeIn K (.ref C) = some (.type "type")
def mRaise (c : Str) : MS := fun ρ S => .ex ⟨c, [], []⟩ ρ S
def outOff (i : Nat) : Out → Out
  | .nx r s => .nx (r.set i none) s
  | .bk r s => .bk (r.set i none) s
  | .ct r s => .ct (r.set i none) s
  | .rt w s => .rt w s
  | _ => .stuck
def mTryAs (hit : Str → Option Bool) (i : Nat) (mb : MS) (ms : Exn → MS) : MS := fun ρ S => match mb ρ S with
  | .ex x ρ' S' => match hit x.c with
    | some true => outOff i (ms x (ρ'.set i (some .xc)) S')
    | some false => .ex x ρ' S'
    | none => .stuck
  | r => r
section
variable {K : PySem.W.Frag} {cl : Str → Option Addr} {C : Cn} {y : Y} {σ : St} {ρ : Rho} {S : Sto}
theorem Sim.catch (s : Sim K cl none C y σ ρ S) (i : Nat) (a : Addr) : Sim K cl (some (i, a)) C y (σ.set i (some (.ref a))) (ρ.set i (some .xc)) S :=
  ⟨s.bs, s.fm, by rw [List.length_set, List.length_set]; exact s.len, fun j u e => by
    by_cases h : i = j
    · subst h
      by_cases hl : i < ρ.length
      · rw [List.getElem?_set_self hl] at e
        cases e
        exact ⟨_, List.getElem?_set_self (by rw [s.len]; exact hl), a, rfl, rfl⟩
      · rw [List.getElem?_eq_none (by rw [List.length_set]; omega)] at e
        cases e
    · rw [List.getElem?_set_ne h] at e
      obtain ⟨u', e1, e2⟩ := s.slot j u e
      refine ⟨u', by rw [List.getElem?_set_ne h]; exact e1, ?_⟩
      cases u with
      | da d => exact e2
      | lo n => exact e2
      | xc => obtain ⟨a', q, _⟩ := e2; cases q⟩
theorem Sim.uncatch {i : Nat} {a : Addr} (s : Sim K cl (some (i, a)) C y σ ρ S) : Sim K cl none C y (σ.set i none) (ρ.set i none) S :=
  ⟨s.bs, s.fm, by rw [List.length_set, List.length_set]; exact s.len, fun j u e => by
    by_cases h : i = j
    · subst h
      by_cases hl : i < ρ.length
      · rw [List.getElem?_set_self hl] at e
        cases e
      · rw [List.getElem?_eq_none (by rw [List.length_set]; omega)] at e
        cases e
    · rw [List.getElem?_set_ne h] at e
      obtain ⟨u', e1, e2⟩ := s.slot j u e
      refine ⟨u', by rw [List.getElem?_set_ne h]; exact e1, ?_⟩
      cases u with
      | da d => exact e2
      | lo n => exact e2
      | xc => obtain ⟨a', q, _⟩ := e2; cases q; exact absurd rfl h⟩
end
/-- readings of a block that ask for no more than the meaning -/
def TSm (K : PySem.W.Frag) (cl : Str → Option Addr) (xa : Option (Nat × Addr)) (Wx : WX) (m : MS) : TS := fun D σ H => ∃ C y ρ S, y.H = H ∧ Sim K cl xa C y σ ρ S ∧ PostS K cl xa C Wx y (m ρ S) D
section
variable {X : Cx} {cl : Str → Option Addr} {xa : Option (Nat × Addr)} {Wx : WX} {pos : Pos} {a b c e : Expr} {es : List Expr} {ma mb mc me mi : ME} {mr : MA} {ta tb tc : MT} {st : Stmt} {rest body : List Stmt} {m n : MS}
theorem pss_m (h : QB X cl xa Wx body m) : PSs X body (TSm X.K cl xa Wx m) := ⟨fun pins s σ H D I ⟨C, y, ρ, S, e, sim, post⟩ => by
  subst e
  obtain ⟨t, p, q⟩ := h
  exact p.run pins s σ _ D I (q C y σ ρ S sim D post)⟩
theorem qs_raise {x m : Str} {j : Nat} {p p2 p3 : Pos} {E : Addr} (hc : X.calm = true) (tk : Takes X Wx) (A : ExcAt X.K X.mg cl x E) (hg : Gl X x) (hdb : (x == ("__debug__" : Str)) = false := by decide) :
    QS X cl xa Wx (.Raise (some (.Call (.Name x p) [.Constant (.str m) j p2] [] p3)) none pos) (mRaise x) :=
  ⟨_, ps_raise hc tk (pmk_own PySem.F.excBase_ValueError A.ex A.mgd A.kp (raises_own A.sb A.ty) hg hdb), fun C y σ ρ S s Z h => h (.ref E) none σ y s (Gr.refl _) ⟨E, A.at_, rfl, .inl ⟨rfl, rfl⟩⟩⟩
theorem qs_tryAs {x nm : Str} {cv : Value} {i : Nat} {b₀ : Stmt} {suite : List Stmt} {np pos' : Pos} {hit : Str → Option Bool} {mb : MS} {mx : Exn → MS}
    (hs : X.stack = X.env :: X.outer) (hf : X.env.frame = some X.env.locals) (hN : X.N.Nodup) (hi : X.N[i]? = some nm) (hln : X.env.kindOf nm = some .local) (hc : Names X x cv) (tk : Takes X Wx)
    (hh : ∀ y b, hit y = some b → ∀ D, cl y = some D → PySem.W.exmOne X.K (.ref D) cv = some b)
    (hb : ∀ (W : WX) (pn : List (Addr × Obj)) (xe : Value → Shared → Prop), Takes (X.tr pn xe) W → PassesOwn (model X.prog X.w) X.A X.env xe → QB (X.tr pn xe) cl none W body mb)
    (hsu : ∀ (a : Addr) (oe : Obj) (E : Addr) (d : Option Addr) (y : Exn) (pn : List (Addr × Obj)), Zc (.ref E) d oe → (∃ vs, oe.data = .fields vs) → cl y.c = some E → (y.fs = [] → d = none) → QB (X.suite a ((a, oe) :: pn)) cl (some (i, a)) W0 (b₀ :: suite) (mx y)) :
    QS X cl none Wx (.Try body [.ExceptHandler (some (.Name x np)) (some nm) (b₀ :: suite) pos'] [] [] pos) (mTryAs hit i mb mx) := by
  refine ⟨_, ps_try_as (tb := fun W => TSm X.K cl none W mb) (ts := fun a cls d D σ H => ∃ y E, cls = .ref E ∧ cl y.c = some E ∧ (y.fs = [] → d = none) ∧ TSm X.K cl (some (i, a)) W0 (mx y) D σ H) (Wout := Wx) hs hf hN hi hln hc tk
    (fun W pn xe t1 t2 => pss_m (hb W pn xe t1 t2)) (fun a oe cls d pn hz hv => ⟨fun pins s σ H D I ⟨y, E, e1, e2, e3, h⟩ => ?_⟩), fun C y σ ρ S s Z h => ?_⟩
  · subst e1
    exact (pss_m (hsu a oe E d y pn hz hv e2 e3)).run pins s σ H D I h
  · refine ⟨C, y, ρ, S, rfl, s, ?_⟩
    unfold mTryAs at h
    cases e : mb ρ S with
    | nx r t => rw [e] at h; exact h
    | rt r t => rw [e] at h; exact h
    | bk r t => rw [e] at h; exact h
    | ct r t => rw [e] at h; exact h
    | stuck => rw [e] at h; exact h
    | ex x r t =>
      rw [e] at h
      intro cls dd σ' z s' g' xr
      obtain ⟨E, q1, rfl, q2⟩ := xr
      cases eh : hit x.c with
      | none => simp only [eh] at h; exact h.elim
      | some b =>
        refine ⟨b, hh x.c b eh E q1, fun hb1 a ha => ?_, fun hb0 => ?_⟩
        · subst hb1
          simp only [eh] at h
          refine ⟨x, E, rfl, q1, fun z => ?_, ?_⟩
          · rcases q2 with ⟨_, q2⟩ | ⟨q3, _⟩
            · exact q2
            · exact absurd z q3
          · refine ⟨C, z, _, t, rfl, s'.catch i a, ?_⟩
            have h' := PostS.mono g' h
            cases eo : mx x (r.set i (some .xc)) t with
            | nx r2 t2 => rw [eo] at h'; exact fun σ2 z2 s2 g2 => h' _ z2 s2.uncatch g2
            | bk r2 t2 => rw [eo] at h'; exact fun σ2 z2 s2 g2 => h' _ z2 s2.uncatch g2
            | ct r2 t2 => rw [eo] at h'; exact fun σ2 z2 s2 g2 => h' _ z2 s2.uncatch g2
            | rt w t2 => rw [eo] at h'; exact fun v σ2 ρ2 z2 s2 g2 r2 => h' v _ _ z2 s2.uncatch g2 r2
            | ex y2 r2 t2 => rw [eo] at h'; exact h'.elim
            | stuck => rw [eo] at h'; exact h'.elim
        · subst hb0
          simp only [eh] at h
          exact h _ dd σ' z s' g' ⟨E, q1, rfl, q2⟩
/-! classes by their names -/
def hitL : List (Str × Bool) → Str → Option Bool
  | [], _ => none
  | (x, b) :: r, y => if y = x then some b else hitL r y
/-- an except clause of the class cv: which errors it takes -/
def Hits (K : PySem.W.Frag) (cl : Str → Option Addr) (cv : Value) (l : List (Str × Bool)) : Prop := ∀ y b, hitL l y = some b → ∀ D, cl y = some D → PySem.W.exmOne K (.ref D) cv = some b
theorem hits_nil {K : PySem.W.Frag} {cv : Value} : Hits K cl cv [] := fun y b e => by cases e
theorem hits_cons {K : PySem.W.Frag} {cv : Value} {x : Str} {b : Bool} {C : Addr} {l : List (Str × Bool)} (A : cl x = some C) (e : PySem.W.exmOne K (.ref C) cv = some b) (h : Hits K cl cv l) : Hits K cl cv ((x, b) :: l) := fun y b' e' D hD => by
  simp only [hitL] at e'
  split at e'
  · rename_i hy
    cases e'
    subst hy
    rw [A] at hD
    cases hD
    exact e
  · exact h y b' e' D hD
/-- isinstance(e, cv) -/
def Isis (K : PySem.W.Frag) (cl : Str → Option Addr) (cv : Value) (l : List (Str × Bool)) : Prop := ∀ y b, hitL l y = some b → ∀ D, cl y = some D → ExcC K D ∧ PySem.W.kitOne K (.ref D) cv = some b
theorem isis_nil {K : PySem.W.Frag} {cv : Value} : Isis K cl cv [] := fun y b e => by cases e
theorem isis_cons {K : PySem.W.Frag} {cv : Value} {x : Str} {b : Bool} {C : Addr} {l : List (Str × Bool)} (A : cl x = some C) (E : ExcC K C) (e : PySem.W.kitOne K (.ref C) cv = some b) (h : Isis K cl cv l) : Isis K cl cv ((x, b) :: l) := fun y b' e' D hD => by
  simp only [hitL] at e'
  split at e'
  · rename_i hy
    cases e'
    subst hy
    rw [A] at hD
    cases hD
    exact ⟨E, e⟩
  · exact h y b' e' D hD
/-- the caught error x is asked of its class: the answer by the classes' names -/
def mIsE (i : Nat) (l : List (Str × Bool)) (x : Exn) : ME := fun ρ S => match ρ[i]? with
  | some (some .xc) => if x.fs.isEmpty = true then (match hitL l x.c with
    | some k => .ok (.da (.bl k)) S
    | none => .stuck) else .stuck
  | _ => .stuck
theorem qe_isE {i : Nat} {nm x : Str} {p p2 p3 : Pos} {ea E : Addr} {oe : Obj} {pn : List (Addr × Obj)} {d : Option Addr} {l : List (Str × Bool)} {cv : Value} {u : V} {y' : Exn} (hl : Isis X.K cl cv l) (hz : Zc (.ref E) d oe) (hf : ∃ vs, oe.data = .fields vs) (hc : cl y'.c = some E) (hd : y'.fs = [] → d = none)
    (hN : X.N[i]? = some nm) (hv : Vis X.env.scope nm) (hg : Gl X "isinstance") (hm : X.mg "isinstance" = none) (hx : PE (X.suite ea ((ea, oe) :: pn)) (.Name x p2) (tC u)) (hcv : ∀ w, RelV u w → w = cv)
    (hdb : (nm == ("__debug__" : Str)) = false := by decide) (hcd : (nm == ("__classdict__" : Str)) = false := by decide)
    (hs : starEach [.Name nm p3, .Name x p2] (X.suite ea ((ea, oe) :: pn)).env = (false, eval (.Name nm p3) (X.suite ea ((ea, oe) :: pn)).env) :: starEach [.Name x p2] (X.suite ea ((ea, oe) :: pn)).env := by rfl)
    (hs2 : starEach [.Name x p2] (X.suite ea ((ea, oe) :: pn)).env = (false, eval (.Name x p2) (X.suite ea ((ea, oe) :: pn)).env) :: starEach [] (X.suite ea ((ea, oe) :: pn)).env := by rfl)
    (hpl : (backTo pos (starEach [.Name x p2] (X.suite ea ((ea, oe) :: pn)).env)).any (·.1) = false := by rfl) (hbv : bootBuiltins "isinstance" = some (.builtin "isinstance") := by decide +kernel) :
    QE (X.suite ea ((ea, oe) :: pn)) cl (some (i, ea)) Wx (.Call (.Name "isinstance" p) [.Name nm p3, .Name x p2] [] pos) (mIsE i l y') := by
  refine ⟨_, pe_anyE, fun C y σ ρ S s Q h => ?_⟩
  unfold mIsE at h
  split at h
  · rename_i hr
    split at h
    · rename_i hfs
      split at h
      · rename_i k hk
        obtain ⟨EC, hkit⟩ := hl y'.c k hk E hc
        have hd' : d = none := hd (by cases q : y'.fs <;> simp_all)
        subst hd'
        refine ⟨_, pe_callB (X := X.suite ea ((ea, oe) :: pn)) (call_isE EC hz hf) hg hm hbv (pa_cons (pe_var (X := X.suite ea ((ea, oe) :: pn)) (i := i) hN hv hdb hcd) (pa_cons hx pa_nil hs2) hs) (by decide) (by decide) hs hpl, ?_⟩
        obtain ⟨v, e1, a', e2, rfl⟩ := s.slot i _ hr
        cases e2
        exact ⟨_, e1, u, cv, k, rfl, hcv, hkit, h (.bl k) y s (Gr.refl _) rfl⟩
      · exact h.elim
    · exact h.elim
  · exact h.elim
theorem pe_cls {X : Cx} {x : Str} {C : Addr} {p : Pos} (hg : Gl X x) (hm : X.mg x = some (.ref C)) (hd : (x == ("__debug__" : Str)) = false := by decide) : PE X (.Name x p) (tC (.ref C)) := pe_glob hg hm rfl hd
theorem relv_ref {C : Addr} : ∀ w, RelV (.ref C) w → w = Value.ref C := fun _ h => h
theorem relv_ty {n : String} : ∀ w, RelV (.ty n) w → w = Value.type n := fun _ h => h
/-! ### a thing in a slot is frozen from here on -/
def mFrz (i : Nat) (m : MS) : MS := fun ρ S => match ρ[i]? with
  | some (some (.lo n)) => match datW 5 S (.lo n) with
    | some (d, S') => m (ρ.set i (some (.da d))) S'
    | none => .stuck
  | some (some (.da _)) => m ρ S
  | _ => .stuck
def tLkS (t : TS) : TS := fun D σ H => Lks (fun H' => t D σ H') H
theorem pss_lk {t : TS} (h : PSs X body t) : PSs X body (tLkS t) := ⟨fun pins s σ H D I hw => by
  obtain ⟨H2, I2, q2⟩ := Lks.run hw I
  exact h.run pins s σ H2 D I2 q2⟩
theorem qb_frz (i : Nat) (h : QB X cl xa Wx body m) : QB X cl xa Wx body (mFrz i m) := by
  obtain ⟨t, p, q⟩ := h
  refine ⟨_, pss_lk p, fun C y σ ρ S s Z h => ?_⟩
  unfold mFrz at h
  split at h
  · rename_i k hk
    split at h
    · rename_i d S' hd
      obtain ⟨v, e1, e2⟩ := s.slot i _ hk
      have r0 : RW X.K cl y (.lo k) v := e2
      refine datW_ok 5 y S (.lo k) v d S' s r0 hd _ fun z s2 g2 r2 => .now ?_
      have s3 := s2.set (w := .da d) (v := v) i r2
      have es : σ.set i (some v) = σ := by
        obtain ⟨hl, hv⟩ := List.getElem?_eq_some_iff.mp e1
        rw [← hv]
        exact List.set_getElem_self hl
      rw [es] at s3
      exact q C z σ _ S' s3 Z (PostS.mono g2 h)
    · exact h.elim
  · exact .now (q C y σ ρ S s Z h)
  · exact h.elim
end
/-! ### the end -/
theorem clOf_at {K : PySem.W.Frag} {x : Str} {a : Addr} (h : PySem.W.nsIn K mainGlobals x = some (some (.ref a))) : clOf K x = some a := by
  unfold clOf
  rw [h]
theorem law_end {K : PySem.W.Frag} {H : Hp} {a : Addr} {ns : List Int} {cl : Str → Option Addr} {p : List D → Re D} (hS : SqL K H a (ns.map V.int)) (h : p [.scr (ns.map .int)] = .ok (.bl true)) : SpP K cl p [.ref a] H (fun v _ => v = .bl true) fun _ _ _ => False := by
  have rl : ∀ ns : List Int, RpL K cl H (ns.map .int) (ns.map V.int) := fun ns => by
    induction ns with
    | nil => exact rfl
    | cons x r ih => exact ⟨_, _, rfl, rfl, ih⟩
  refine ⟨H, [.scr (ns.map .int)], Ex.refl H, ⟨_, _, rfl, ⟨a, ns.map V.int, rfl, hS, rl ns⟩, rfl⟩, ?_⟩
  rw [h]
  exact fun v F' H' _ r => r
open PySem.Spec PyProof.Rows in
/-- the law's plain function tells True of every script -/
theorem walk_ng {l : PySem.W.OpenLaw} {q : Program} {loose : List Str} {XP : (Str → Option Value) → Heap → Prop} {YP : World → Heap → Prop} {d : DefRec} {K : Params → PySem.W.Frag} {k : Nat} {x : Str} {p : List D → Re D}
    (hn : l.most = some 63) (hdf : d.params.defaults = []) (hr : Room k callerA) (hY : ∀ (w : World) (h : Heap), YP w h → (K w.params).In h)
    (F : ∀ (w : World) (mg : Str → Option Value) (fa : Addr) (h : Heap), (K w.params).In h → h.Ns mainGlobals mg → mg d.name = some (.ref fa) →
      ∃ fd : FuncData, (∀ (s : Shared) (u : Value), BindsTo s fd ⟨[u], []⟩ [(x, u)]) ∧ ∀ base : Heap, (K w.params).In base → base.Ns mainGlobals mg → FnOk l.prog w (K w.params) mg base (L2.CX l.prog w) k fa fd [x] (SpP (K w.params) (clOf (K w.params)) p))
    (hp : ∀ ns : List Int, ns.length ≤ 63 → p [.scr (ns.map .int)] = .ok (.bl true)) : PySem.W.WalkO q loose XP YP l.row.toRowW d [] (fun f vs => PySem.call f vs) :=
  L2.walk_of (n := 63) (k := k) (x := x) (CX := fun w => L2.CX l.prog w) (sp := fun w => SpP (K w.params) (clOf (K w.params)) p) hn (by decide) hdf hr hY F (fun w H a ns hl _ hS => law_end hS (hp ns hl)) (fun _ _ _ _ _ h => by
    obtain ⟨_, _, _, _, _, _, _, _, _, _, _, _, z⟩ := h
    exact z)
end Ng
namespace Ng
open PySem L2
/-! ### dict displays -/
abbrev MP := Rho → Sto → Rs (List (W × W))
def mpNil : MP := fun _ S => .ok [] S
def mpCons (mk mv : ME) (mr : MP) : MP := fun ρ S => (mk ρ S).bind fun k S => (mv ρ S).bind fun v S => (mr ρ S).bind fun r S => .ok ((k, v) :: r) S
def RWW (K : PySem.W.Frag) (cl : Str → Option Addr) (y : Y) (wws : List (W × W)) (vvs : List (V × V)) : Prop := Paired (fun p q => RW K cl y p.1 q.1 ∧ RW K cl y p.2 q.2) wws vvs
def SPr (K : PySem.W.Frag) (cl : Str → Option Addr) (xa : Option (Nat × Addr)) (Wx : WX) (trs : List (TE × TE)) (m : MP) : Prop := ∀ C y σ ρ S, Sim K cl xa C y σ ρ S → ∀ Q, Post K cl xa C Wx y σ ρ (m ρ S) (fun wws S' => ∀ vvs z, Sim K cl xa C z σ ρ S' → Gr y z → RWW K cl z wws vvs → Q vvs z.H) → tPairs trs σ y.H Q
def QPr (X : Cx) (cl : Str → Option Addr) (xa : Option (Nat × Addr)) (Wx : WX) (pos : Pos) (ks : List (Option Expr)) (vs : List Expr) (m : MP) : Prop := ∃ trs, PPs X pos ks vs trs ∧ SPr X.K cl xa Wx trs m
def mergeW (kws more : List (Key × W)) : List (Key × W) := more.foldl (fun acc kw => putW acc kw.1 kw.2) kws
def keysP : List (W × W) → Option (List (Key × W))
  | [] => some []
  | (k, w) :: r => match keyW k, keysP r with
    | some j, some t => some ((j, w) :: t)
    | _, _ => none
def dispC (wws : List (W × W)) : Option Cell := match keysP wws with
  | some kws => if kws.length ≤ 15 then some (.dk (mergeW [] kws)) else none
  | none => none
def mDisp (mk : Option Cell → Sto → Rs W) (mp : MP) : ME := fun ρ S => (mp ρ S).bind fun wws S => mk (dispC wws) S
section
variable {X : Cx} {cl : Str → Option Addr} {xa : Option (Nat × Addr)} {Wx : WX} {pos : Pos} {k v : Expr} {ks : List (Option Expr)} {vs : List Expr} {mk mv : ME} {mr : MP}
theorem RWW.grow {K : PySem.W.Frag} {y z : Y} (g : Gr y z) {a : List (W × W)} {b : List (V × V)} (h : RWW K cl y a b) : RWW K cl z a b := Paired.mapP h fun _ _ q => ⟨q.1.grow g, q.2.grow g⟩
theorem qpr_nil : QPr X cl xa Wx pos [] [] mpNil := ⟨_, pps_nil, fun C y σ ρ S s Q h => h [] y s (Gr.refl _) .nil⟩
theorem qpr_cons (hk : QE X cl xa Wx k mk) (hv : QE X cl xa Wx v mv) (hr : QPr X cl xa Wx pos ks vs mr) : QPr X cl xa Wx pos (some k :: ks) (v :: vs) (mpCons mk mv mr) := by
  obtain ⟨t, p, q⟩ := hk
  obtain ⟨t2, p2, q2⟩ := hv
  obtain ⟨t3, p3, q3⟩ := hr
  refine ⟨_, pps_cons p p2 p3, fun C y σ ρ S s Q h => ?_⟩
  refine q C y σ ρ S s _ (Post.go h fun w S1 h1 x z s1 g1 r1 => ?_)
  refine q2 C z σ ρ S1 s1 _ (Post.go (h1 z g1) fun w2 S2 h2 x2 z2 s2 g2 r2 => ?_)
  refine q3 C z2 σ ρ S2 s2 _ (Post.go (h2 z2 g2) fun w3 S3 h3 x3 z3 s3 g3 r3 => ?_)
  exact h3 z3 g3 _ z3 s3 ((g1.trans g2).trans g3) (.cons ⟨r1.grow (g2.trans g3), r2.grow g3⟩ r3)
theorem Post.rebase {α : Type} {K : PySem.W.Frag} {C : Cn} {y z : Y} {σ : St} {ρ : Rho} {S : Sto} {r : Rs α} {P P' : α → Sto → Prop} (s : Sim K cl xa C z σ ρ S) (g : Gr y z) (h : Post K cl xa C Wx y σ ρ r P) (k : ∀ w S, P w S → P' w S) : Post K cl xa z.cn Wx z σ ρ r P' := by
  cases r with
  | ok w S => exact k w S h
  | ex x S => exact fun cls dd u su gu xr => h cls dd u (s.after su.bs su.fm) (g.trans gu) xr
  | stuck => exact h
theorem keysP_ok {K : PySem.W.Frag} {y : Y} : ∀ {wws : List (W × W)} {vvs : List (V × V)} {kws : List (Key × W)}, RWW K cl y wws vvs → keysP wws = some kws → ∃ kvs : List (Key × V), vvs = kvs.map (fun kv => (kV kv.1, kv.2)) ∧ RWP K cl y kws kvs
  | _, _, _, .nil, h => by cases h; exact ⟨[], rfl, .nil⟩
  | (a, w) :: r, (b, u) :: t, kws, .cons h1 h2, h => by
    simp only [keysP] at h
    split at h
    · rename_i j t' e1 e2
      cases h
      obtain ⟨kvs, rfl, r2⟩ := keysP_ok h2 e2
      refine ⟨(j, u) :: kvs, ?_, .cons ⟨rfl, h1.2⟩ r2⟩
      rw [List.map_cons, ← keyW_ok h1.1 e1]
    · cases h
theorem merge_ok {K : PySem.W.Frag} {y : Y} : ∀ {more : List (Key × W)} {more' : List (Key × V)} {kws : List (Key × W)} {kvs : List (Key × V)}, RWP K cl y more more' → RWP K cl y kws kvs → RWP K cl y (mergeW kws more) (mergeK kvs more')
  | _, _, _, _, .nil, h => h
  | (j, w) :: r, (j', u) :: r', kws, kvs, .cons h1 h2, h => by
    cases (show j = j' from h1.1)
    show RWP K cl y (mergeW (putW kws j w) r) (mergeK (putK kvs j u) r')
    exact merge_ok h2 (RWP.put h1.2 h)
/-- what comes of a new dict: a cell, or data that is locked for good -/
def MkDk (K : PySem.W.Frag) (cl : Str → Option Addr) (xa : Option (Nat × Addr)) (mk : Option Cell → Sto → Rs W) (wrap : VK → VK) : Prop := ∀ (C : Cn) (Wx : WX) (y0 z : Y) (σ : St) (ρ : Rho) (S : Sto) (kws : List (Key × W)) (kvs : List (Key × V)) (p : Addr) (Q : VK), Sim K cl xa C z σ ρ S → Gr y0 z → z.F p = none → p ∉ z.m → C.H0 p = none → z.H p = some (.dK kvs) → RWP K cl z kws kvs →
  Post K cl xa C Wx y0 σ ρ (mk (some (.dk kws)) S) (OkE K cl xa C y0 σ ρ Q) → wrap Q (.ref p) z.H
theorem dkC_ok {K : PySem.W.Frag} : MkDk K cl xa mkC (fun Q => Q) := fun C Wx y0 z σ ρ S kws kvs p Q s g h1 h2 h3 h4 r h => by
  obtain ⟨s2, g2⟩ := s.adoptC (c := .dk kws) h1 h2 h3 (by rw [h4]; simp) ⟨kvs, h4, r⟩
  exact h (.ref p) ⟨z.F, z.H, z.m ++ [p]⟩ s2 (g.trans g2) ⟨p, by rw [← s.bs.len]; simp, rfl⟩
theorem dkL_ok {K : PySem.W.Frag} : MkDk K cl xa mkL (fun Q v H => Lks (Q v) H) := fun C Wx y0 z σ ρ S kws kvs p Q s g h1 h2 h3 h4 r h => by
  unfold mkL at h
  simp only at h
  split at h
  · rename_i d hd
    obtain ⟨ds, q, rfl⟩ := Option.map_eq_some_iff.mp hd
    refine .lock p _ h4 trivial fun od => .now ?_
    have s2 := s.other (o := .frz od (.dK kvs)) h1 h2 h3
    obtain ⟨s3, g3⟩ := s2.adoptF h1 h2 h3 upd_same
    have g2 : Gr z (z.up p (.frz od (.dK kvs))) := ⟨Ex.refl _, List.prefix_refl _⟩
    obtain ⟨z1, z2⟩ := rwp_zip r
    refine h (.ref p) _ s3 (g.trans (g2.trans g3)) ⟨p, kvs.map (·.2), rfl, ⟨od, ?_⟩, ?_, RpL.xt (g2.trans g3).f _ _ (dats_ok z1 q)⟩
    · rw [← z2]; exact upd_same
    · rw [List.length_map, List.length_map]; exact Paired.length r
  · exact h.elim
theorem se_disp {trs : List (TE × TE)} {m : MP} {mkf : Option Cell → Sto → Rs W} {wrap : VK → VK} (hmk : MkDk X.K cl xa mkf wrap) (h0 : ∀ S, mkf none S = .stuck) (q : SPr X.K cl xa Wx trs m) {C : Cn} {y : Y} {σ : St} {ρ : Rho} {S : Sto} (s : Sim X.K cl xa C y σ ρ S) {Q : VK}
    (h : Post X.K cl xa C Wx y σ ρ (mDisp mkf m ρ S) (OkE X.K cl xa C y σ ρ Q)) : tDisp trs σ y.H (wrap Q) := by
  intro p hp
  have c0 : C.H0 p = none := s.fm.dom p hp
  have fp0 : y.F p = none := s.bs.fz.no hp
  have pm0 : p ∉ y.m := fun z => s.bs.has p z hp
  have s1 := s.other (o := .dK []) fp0 pm0 c0
  have g1 : Gr y (y.up p (.dK [])) := ⟨Ex.refl _, List.prefix_refl _⟩
  refine q _ (y.up p (.dK [])) σ ρ S s1.rebase _ (Post.rebase s1 g1 (Post.bind h) fun wws S1 h1 vvs z s2 g2 r2 => ?_)
  obtain ⟨k1, k2, k3⟩ := keep_own s2.bs.fz s2.fm fp0 pm0 upd_same
  have s3 := s1.after s2.bs s2.fm
  refine ⟨k1, ?_⟩
  unfold dispC at h1
  split at h1
  · rename_i kws hk
    obtain ⟨kvs, ek, rk⟩ := keysP_ok r2 hk
    split at h1
    · rename_i hl
      refine ⟨kvs, ek, by rw [← Paired.length rk]; exact hl, ?_⟩
      have g3 : Gr z (z.up p (.dK (mergeK [] kvs))) := ⟨Ex.refl _, List.prefix_refl _⟩
      exact hmk C Wx y (z.up p (.dK (mergeK [] kvs))) σ ρ S1 (mergeW [] kws) (mergeK [] kvs) p Q (s3.other k2 k3 c0) ((g1.trans g2).trans g3) k2 k3 c0 upd_same (RWP.grow g3 (merge_ok rk .nil)) h1
    · rw [h0] at h1; exact h1.elim
  · rw [h0] at h1; exact h1.elim
theorem qe_dispC {m : MP} (h : QPr X cl xa Wx pos ks vs m) (hall : ks.all (·.isSome) = true := by rfl) (hl : ks.length = vs.length := by rfl) (hne : ks ≠ [] := by simp) (h15 : ks.length ≤ 15 := by decide) : QE X cl xa Wx (.Dict ks vs pos) (mDisp mkC m) := by
  obtain ⟨t, p, q⟩ := h
  exact ⟨_, pe_disp p hall hl hne h15, fun C y σ ρ S s Q h => se_disp dkC_ok (fun _ => rfl) q s h⟩
theorem qe_dispL {m : MP} (h : QPr X cl xa Wx pos ks vs m) (hall : ks.all (·.isSome) = true := by rfl) (hl : ks.length = vs.length := by rfl) (hne : ks ≠ [] := by simp) (h15 : ks.length ≤ 15 := by decide) : QE X cl xa Wx (.Dict ks vs pos) (mDisp mkL m) := by
  obtain ⟨t, p, q⟩ := h
  exact ⟨_, pe_lk (pe_disp p hall hl hne h15), fun C y σ ρ S s Q h => se_disp dkL_ok (fun _ => rfl) q s h⟩
end
end Ng
namespace Ng
open PySem L2
/-! ### methods that change nothing -/
def vmt (f : W → List W → Sto → Option W) : W → List W → Sto → Rs W := fun w ws S => lift (f w ws S) S
def strsW : List W → Option (List Str)
  | [] => some []
  | .da (.str x) :: r => match strsW r with
    | some t => some (x :: t)
    | none => none
  | _ => none
section
variable {X : Cx} {cl : Str → Option Addr} {xa : Option (Nat × Addr)} {Wx : WX} {pos apos cpos : Pos} {a b c e o : Expr} {es : List Expr} {ma mb mc me mi mo : ME} {mr : MA} {ta tb tc : MT} {st : Stmt} {rest body : List Stmt} {m n : MS}
theorem hm_val {id : String} {f : W → List W → Sto → Option W}
    (h : ∀ (y : Y) (S : Sto) (w : W) (v : V) (ws : List W) (vs : List V) (u : W) (Q : VK), Bs X.K cl y S → RW X.K cl y w v → RWL X.K cl y ws vs → f w ws S = some u → Gv X.K cl y u Q → mtAny X id v vs y.H Q) : HMt X cl id (vmt f) := by
  intro xa C Wx y σ ρ S s w v r as bs ra Q hp
  obtain ⟨u, e, g⟩ := post_val s hp
  exact h y S w v as bs u Q s.bs r ra e g
theorem strsW_ok {K : PySem.W.Frag} {y : Y} : ∀ {ws : List W} {vs : List V} {ys : List Str}, RWL K cl y ws vs → strsW ws = some ys → vs = ys.map V.str
  | [], _, _, .nil, h => by cases h; rfl
  | w :: ws, _, ys, .cons r t, h => by
    unfold strsW at h
    split at h
    · rename_i e
      cases e
    · rename_i x r' e
      cases e
      split at h
      · rename_i t' ht
        cases h
        rw [strsW_ok t ht]
        cases r
        rfl
      · cases h
    · cases h
noncomputable def joinW (w : W) (ws : List W) (S : Sto) : Option W := match w, ws with
  | .da (.str a), [x] => match seqW S x with
    | some us => match strsW us with
      | some ys => ifc ((ys.map (·.length)).sum + ys.length * a.length ≤ 16777216) (some (.da (.str (Txt.join a ys)))) none
      | none => none
    | none => none
  | _, _ => none
theorem hm_join : HMt X cl "str.join" (vmt joinW) := hm_val fun y S w v ws vs u Q b r rs e g => by
  unfold joinW at e
  split at e
  · rename_i a x
    cases (show v = .str a from r)
    obtain ⟨v, rfl, r1⟩ := rwl1 rs
    split at e
    · rename_i us q
      split at e
      · rename_i ys hys
        obtain ⟨hz, rfl⟩ := ifc_some e
        obtain ⟨p, vs, rfl, t, l⟩ := seqW_ok b r1 q
        cases strsW_ok l hys
        exact ⟨_, mt_join, a, p, ys, rfl, rfl, t, hz, gv_da b g rfl⟩
      · cases e
    · cases e
  · cases e
end
end Ng
namespace Ng
open PySem L2
/-! ### sorted -/
noncomputable def sortD (ds : List D) : List D := ds.mergeSort (PySem.W.dataLe false toPy)
noncomputable def sortC : List W → Sto → Option Cell
  | [w], S => match lstW S w with
    | some ws => match dats ws with
      | some ds => ifc (PySem.W.AllAlike (ds.map toPy) ∧ PySem.W.Sortable (ds.map toPy) ∧ (∀ d ∈ ds, (toPy d).canLay0 = true ∧ (toPy d).depth ≤ 64)) (some (.lst ((sortD ds).map .da))) none
      | none => none
    | none => none
  | _, _ => none
section
variable {X : Cx} {cl : Str → Option Addr} {xa : Option (Nat × Addr)} {Wx : WX}
/-- V beside what it is worth -/
theorem each_zip {pins : List (Addr × Obj)} {σ : St} {H : Hp} {s : Shared} (I : Inv X pins σ H s) : ∀ {vs : List V} {us : List Value} {ps : List PyData}, Vals vs us → DpAll X.K H vs ps →
    PySem.W.EachIs (fun u (b : V × PyData) => RelV b.1 u) us (vs.zip ps) ∧ PySem.W.EachIs (fun u (b : V × PyData) => ∃ as, Reads s.heap u b.2 as) us (vs.zip ps) ∧ ps.length = vs.length
  | _, _, _, .nil, .nil => ⟨.nil, .nil, rfl⟩
  | _, _, _, .cons r t, .cons d t2 => by
    obtain ⟨a, b, c⟩ := each_zip I t t2
    exact ⟨.cons r a, .cons (Dp.reads I _ _ _ d r) b, by simp [c]⟩
theorem vals_each : ∀ {us : List Value} {bs : List (V × PyData)}, PySem.W.EachIs (fun u (b : V × PyData) => RelV b.1 u) us bs → Vals (bs.map (·.1)) us
  | _, _, .nil => .nil
  | _, _, .cons r t => .cons r (vals_each t)
def rSortD (K : PySem.W.Frag) : List V → Hp → VK → Prop := fun vs H Q => ∃ (a : Addr) (xs : List V) (ps : List PyData), vs = [.ref a] ∧ SqL K H a xs ∧ DpAll K H xs ps ∧ PySem.W.AllAlike ps ∧ PySem.W.Sortable ps ∧ (∀ d ∈ ps, d.depth ≤ 64) ∧
  ∀ p, H p = none → Q (.ref p) (upd H p (.lst (((xs.zip ps).mergeSort (PySem.W.dataLe false (·.2))).map (·.1))))
theorem cr_sortD (hu : Hu X) : CallR X (.builtin "sorted") (rSortD X.K) := by
  intro pins s σ H vs us Q I r h
  obtain ⟨a, xs, ps, rfl, hs, hd, hal, hk, hdep, q⟩ := h
  obtain ⟨its, rv, hl, hz⟩ := I.list hs
  rw [Vals.ref1 r]
  obtain ⟨e1, e2, e3⟩ := each_zip I rv hd
  have em : (xs.zip ps).map (·.2) = ps := List.map_snd_zip (Nat.le_of_eq e3)
  have hu' : X.A.units + 200 < cLine := hu
  have hb : (xs.zip ps).length = xs.length := by rw [List.length_zip, e3, Nat.min_self]
  refine PySem.W.sorted_data (enc := (·.2)) hl.isList e1 e2 (by rw [em]; exact hal) (by rw [em]; exact hk) (by rw [hb]; exact hz) (fun b hb => ?_) fun out ho eo => ?_
  · have := hdep b.2 (by rw [← em]; exact List.mem_map.mpr ⟨b, hb, rfl⟩)
    omega
  · obtain ⟨ep, he'⟩ := PyProof.Rows.sortedAll_at s.heap its out.toArray
    refine ⟨.ref _, _, I.laid (t' := s.toks) (o := .lst (((xs.zip ps).mergeSort (PySem.W.dataLe false (·.2))).map (·.1))) (fun _ _ => PyProof.Rows.sortedAll_old) (Nat.le_succ _) ⟨?_, out, ep, vals_each eo, he'⟩, rfl, q _ (I.hok.fresh (Nat.le_succ _))⟩
    rw [List.length_map, List.length_mergeSort, hb]
    exact hz
theorem toPyL_all {K : PySem.W.Frag} {H : Hp} : ∀ (ds : List D) (vs : List V), (∀ d ∈ ds, (toPy d).canLay0 = true) → RpL K cl H ds vs → DpAll K H vs (ds.map toPy)
  | [], vs, _, r => by cases (show vs = [] from r); exact .nil
  | d :: ds, vs, h, r => by
    obtain ⟨v, t, rfl, r1, r2⟩ := r
    exact .cons (toPy_ok d v (h d (by simp)) r1) (toPyL_all ds t (fun x hx => h x (by simp [hx])) r2)
theorem rpl_zip {K : PySem.W.Frag} {F : Hp} : ∀ (ds : List D) (vs : List V), RpL K cl F ds vs → ds.length = vs.length ∧ ∀ p ∈ vs.zip ds, Rp K cl F p.2 p.1
  | [], vs, r => by cases (show vs = [] from r); exact ⟨rfl, by simp⟩
  | d :: ds, vs, r => by
    obtain ⟨v, t, rfl, r1, r2⟩ := r
    obtain ⟨a, b⟩ := rpl_zip ds t r2
    refine ⟨by simp [a], fun p hp => ?_⟩
    rw [List.zip_cons_cons] at hp
    rcases List.mem_cons.mp hp with rfl | hp
    · exact r1
    · exact b p hp
theorem zip_rpl {K : PySem.W.Frag} {F : Hp} : ∀ (ps : List (V × D)), (∀ p ∈ ps, Rp K cl F p.2 p.1) → RpL K cl F (ps.map (·.2)) (ps.map (·.1))
  | [], _ => rfl
  | p :: ps, h => ⟨_, _, rfl, h p (by simp), zip_rpl ps (fun q hq => h q (by simp [hq]))⟩
/-- the sort goes along -/
theorem sort_rp {K : PySem.W.Frag} {F : Hp} {ds : List D} {vs : List V} (r : RpL K cl F ds vs) : RpL K cl F (sortD ds) (((vs.zip (ds.map toPy)).mergeSort (PySem.W.dataLe false (·.2))).map (·.1)) := by
  obtain ⟨hl, hz⟩ := rpl_zip ds vs r
  have e1 : ((vs.zip ds).mergeSort (PySem.W.dataLe false (fun p => toPy p.2))).map (·.2) = sortD ds := by
    unfold sortD
    rw [List.map_mergeSort (r := PySem.W.dataLe false (fun p : V × D => toPy p.2)) (s := PySem.W.dataLe false toPy) (f := fun p : V × D => p.2) (fun a _ b _ => rfl), List.map_snd_zip (Nat.le_of_eq hl)]
  have e2 : ((vs.zip ds).mergeSort (PySem.W.dataLe false (fun p => toPy p.2))).map (·.1) = ((vs.zip (ds.map toPy)).mergeSort (PySem.W.dataLe false (·.2))).map (·.1) := by
    have : vs.zip (ds.map toPy) = (vs.zip ds).map (fun p => (p.1, toPy p.2)) := by
      rw [List.zip_map_right]
      rfl
    rw [this, ← List.map_mergeSort (r := PySem.W.dataLe false (fun p : V × D => toPy p.2)) (f := fun p : V × D => (p.1, toPy p.2)) (fun a _ b _ => rfl), List.map_map]
    rfl
  rw [← e1, ← e2]
  exact zip_rpl _ fun p hp => hz p ((List.mergeSort_perm _ _).mem_iff.mp hp)
theorem cn_sorted (hu : Hu X) : CN X cl (cAny X (.builtin "sorted")) sortC := fun y S b ws vs rs c e Q g => by
  unfold sortC at e
  split at e
  · rename_i w
    obtain ⟨v, rfl, r⟩ := rwl1 rs
    split at e
    · rename_i us q
      split at e
      · rename_i ds hd
        obtain ⟨⟨h1, h2, h3⟩, rfl⟩ := ifc_some e
        obtain ⟨p, vs, rfl, t, l⟩ := lstW_ok b r q
        have rp := dats_ok l hd
        refine ⟨_, cr_sortD hu, p, vs, ds.map toPy, rfl, .inl (.inl t), toPyL_all ds vs (fun d hd => (h3 d hd).1) (RpL.xt b.fz _ _ rp), h1, h2, fun d hd => ?_, fun p hp => g p _ hp ⟨_, upd_same, upd_rw (rwl_da (sort_rp rp))⟩⟩
        obtain ⟨x, hx, rfl⟩ := List.mem_map.mp hd
        exact (h3 x hx).2
      · cases e
    · cases e
  · cases e
end
end Ng
namespace Ng
open PySem L2
/-! ### what is not walked -/
def mNoE : ME := fun _ _ => .stuck
def mNoT : MT := fun _ _ => .stuck
def mNoS : MS := fun _ _ => .stuck
section
variable {X : Cx} {cl : Str → Option Addr} {xa : Option (Nat × Addr)} {Wx : WX} {pos p2 apos cpos : Pos} {a b c e o : Expr} {es : List Expr} {ma mb mc me mi mo : ME} {mr : MA} {ta tb tc : MT} {st : Stmt} {rest body : List Stmt} {m n : MS}
theorem qe_no : QE X cl xa Wx e mNoE := ⟨fun _ _ _ => False, ⟨fun _ _ _ _ _ _ h => h.elim⟩, fun C y σ ρ S s Q h => h⟩
theorem qt_no : QT X cl xa Wx e mNoT := ⟨fun _ _ _ => False, ⟨fun _ _ _ _ _ _ h => h.elim⟩, fun C y σ ρ S s Q h => h⟩
theorem qs_no : QS X cl xa Wx st mNoS := ⟨fun _ _ _ => False, ⟨fun _ _ _ _ _ _ h => h.elim⟩, fun C y σ ρ S s Q h => h⟩
/-! ### slices -/
def cutL {α : Type} (xs : List α) (lo hi : Option Int) : List α := (xs.drop (HT.sIx xs.length 0 lo)).take (HT.sIx xs.length xs.length hi - HT.sIx xs.length 0 lo)
abbrev MO := Rho → Sto → Rs (Option Int)
def moN : MO := fun _ S => .ok none S
def moS (m : ME) : MO := fun ρ S => (m ρ S).bind fun w S => match w with
  | .da (.int i) => .ok (some i) S
  | _ => .stuck
def SO (K : PySem.W.Frag) (cl : Str → Option Addr) (xa : Option (Nat × Addr)) (Wx : WX) (t : TO) (m : MO) : Prop := ∀ C y σ ρ S, Sim K cl xa C y σ ρ S → ∀ Q, Post K cl xa C Wx y σ ρ (m ρ S) (fun i S' => ∀ z, Sim K cl xa C z σ ρ S' → Gr y z → Q i z.H) → t σ y.H Q
def QO (X : Cx) (cl : Str → Option Addr) (xa : Option (Nat × Addr)) (Wx : WX) (lo : Option Expr) (m : MO) : Prop := ∃ t, PO X lo t ∧ SO X.K cl xa Wx t m
theorem qo_none : QO X cl xa Wx none moN := ⟨_, po_none, fun C y σ ρ S s Q h => h y s (Gr.refl _)⟩
theorem qo_some (h : QE X cl xa Wx e me) : QO X cl xa Wx (some e) (moS me) := by
  obtain ⟨t, p, q⟩ := h
  refine ⟨_, po_some p, fun C y σ ρ S s Q h => ?_⟩
  refine q C y σ ρ S s _ (Post.go h fun w S1 h1 v z s1 g1 r1 => ?_)
  have h2 := h1 z g1
  split at h2
  · cases (show v = .int _ from r1)
    exact ⟨_, rfl, h2 z s1 g1⟩
  · exact h2.elim
/-- any rule of a slice -/
def slAny (X : Cx) : V → Option Int → Option Int → Hp → VK → Prop := fun x lo hi H Q => ∃ r, SlR X r ∧ r x lo hi H Q
theorem sl_any : SlR X (slAny X) := fun pins s σ H x v vl vu lo hi sl Q I rx hs pl pu ⟨r, o, h⟩ => o pins s σ H x v vl vu lo hi sl Q I rx hs pl pu h
/-- what a slice is: a value, or a new list or tuple -/
noncomputable def slV (w : W) (lo hi : Option Int) (S : Sto) : Option (W ⊕ Cell) := match w with
  | .da (.str z) => ifc (z.length ≤ sizeLine) (some (.inl (.da (.str (cutS z lo hi))))) none
  | _ => match lstW S w with
    | some ws => some (.inr (.lst (cutL ws lo hi)))
    | none => match tupW S w with
      | some ws => if HT.sIx ws.length 0 lo = 0 ∧ HT.sIx ws.length ws.length hi = ws.length then some (.inl w) else some (.inr (.tup (cutL ws lo hi)))
      | none => none
noncomputable def slF (mk : Option Cell → Sto → Rs W) (w : W) (lo hi : Option Int) (S : Sto) : Rs W := match slV w lo hi S with
  | some (.inl u) => .ok u S
  | some (.inr c) => mk (some c) S
  | none => .stuck
noncomputable def mSl (mk : Option Cell → Sto → Rs W) (me : ME) (ml mh : MO) : ME := fun ρ S => (me ρ S).bind fun w S => (ml ρ S).bind fun lo S => (mh ρ S).bind fun hi S => slF mk w lo hi S
theorem cut_rw {K : PySem.W.Frag} {y : Y} {ws : List W} {vs : List V} (l : RWL K cl y ws vs) (lo hi : Option Int) : RWL K cl y (cutL ws lo hi) (cutV vs lo hi) := by
  unfold cutL cutV
  rw [Paired.length l]
  exact paired_take _ (paired_drop _ l)
def GG (K : PySem.W.Frag) (cl : Str → Option Addr) (y : Y) (Q : VK) : W ⊕ Cell → Prop
  | .inl u => Gv K cl y u Q
  | .inr c => Gn K cl y c Q
theorem slV_ok {y : Y} {S : Sto} (b : Bs X.K cl y S) {w : W} {v : V} (r : RW X.K cl y w v) {lo hi : Option Int} {z : W ⊕ Cell} (h : slV w lo hi S = some z) {Q : VK} (g : GG X.K cl y Q z) : slAny X v lo hi y.H Q := by
  unfold slV at h
  split at h
  · obtain ⟨hz, rfl⟩ := ifc_some h
    cases (show v = .str _ from r)
    exact ⟨_, sl_str, _, rfl, hz, gv_da b g rfl⟩
  · split at h
    · rename_i ws q
      cases h
      obtain ⟨p, vs, rfl, t, l⟩ := lstW_ok b r q
      exact ⟨_, sl_list, p, vs, rfl, .inl (.inl t), fun p hp => g p _ hp ⟨_, upd_same, upd_rw (cut_rw l lo hi)⟩⟩
    · split at h
      · rename_i ws q
        obtain ⟨p, vs, rfl, t, l⟩ := tupW_ok b r q
        have hl := Paired.length l
        split at h
        · rename_i hw
          cases h
          rw [hl] at hw
          exact ⟨_, sl_tupA, p, vs, rfl, t, fun _ => gv_w b g r, fun hn => absurd hw hn⟩
        · rename_i hw
          cases h
          rw [hl] at hw
          exact ⟨_, sl_tupA, p, vs, rfl, t, fun hn => absurd hn hw, fun _ p hp => g p _ hp ⟨_, upd_same, upd_rw (cut_rw l lo hi)⟩⟩
      · cases h
theorem qe_sl {lo hi : Option Expr} {ml mh : MO} {mk : Option Cell → Sto → Rs W} (hmk : ∀ (C : Cn) (y : Y) (σ : St) (ρ : Rho) (S : Sto) (o : Option Cell) (Q : VK), Sim X.K cl xa C y σ ρ S → Post X.K cl xa C Wx y σ ρ (mk o S) (OkE X.K cl xa C y σ ρ Q) → ∃ c, o = some c ∧ Gn X.K cl y c Q)
    (he : QE X cl xa Wx e me) (hl : QO X cl xa Wx lo ml) (hh : QO X cl xa Wx hi mh) : QE X cl xa Wx (.Subscript e (.Slice lo hi none p2) pos) (mSl mk me ml mh) := by
  obtain ⟨t, p, q⟩ := he
  obtain ⟨t1, p1, q1⟩ := hl
  obtain ⟨t2, p2, q2⟩ := hh
  refine ⟨_, pe_slice sl_any p p1 p2, fun C y σ ρ S s Q h => ?_⟩
  refine q C y σ ρ S s _ (Post.go h fun w S1 h1 v z s1 g1 r1 => ?_)
  refine q1 C z σ ρ S1 s1 _ (Post.go (h1 z g1) fun lo S2 h2 z2 s2 g2 => ?_)
  refine q2 C z2 σ ρ S2 s2 _ (Post.go (h2 z2 g2) fun hi S3 h3 z3 s3 g3 => ?_)
  have h4 := Post.re (h3 z3 g3) (g1.trans (g2.trans g3))
  have r3 := r1.grow (g2.trans g3)
  unfold slF at h4
  split at h4
  · rename_i u hu
    exact slV_ok s3.bs r3 hu (by
      obtain ⟨u', e, g⟩ := post_val (o := some u) s3 h4
      cases e
      exact g)
  · rename_i c hc
    exact slV_ok s3.bs r3 hc (by
      obtain ⟨c', e, g⟩ := hmk C z3 σ ρ S3 _ Q s3 h4
      cases e
      exact g)
  · exact h4.elim
theorem qe_slD {lo hi : Option Expr} {ml mh : MO} (he : QE X cl xa Wx e me) (hl : QO X cl xa Wx lo ml) (hh : QO X cl xa Wx hi mh) : QE X cl xa Wx (.Subscript e (.Slice lo hi none p2) pos) (mSl mkD me ml mh) := qe_sl (fun C y σ ρ S o Q s h => post_newD s h) he hl hh
theorem qe_slC {lo hi : Option Expr} {ml mh : MO} (he : QE X cl xa Wx e me) (hl : QO X cl xa Wx lo ml) (hh : QO X cl xa Wx hi mh) : QE X cl xa Wx (.Subscript e (.Slice lo hi none p2) pos) (mSl mkC me ml mh) := qe_sl (fun C y σ ρ S o Q s h => post_newC s h) he hl hh
end
end Ng
namespace Ng
open PySem L2
/-! ### min of a list -/
mutual
def plainD : D → Bool
  | .non => true
  | .bl _ => true
  | .int _ => true
  | .str _ => true
  | .tup ds => plainL ds
  | .lst ds => plainL ds
  | _ => false
def plainL : List D → Bool
  | [] => true
  | d :: ds => plainD d && plainL ds
end
mutual
theorem toPy_inj : ∀ a b : D, plainD a = true → plainD b = true → toPy a = toPy b → a = b
  | .non, b, _, hb, e => by cases b <;> simp [toPy, plainD] at e hb; rfl
  | .bl x, b, _, hb, e => by cases b <;> simp [toPy, plainD] at e hb; rw [e]
  | .int x, b, _, hb, e => by cases b <;> simp [toPy, plainD] at e hb; rw [e]
  | .str x, b, _, hb, e => by cases b <;> simp [toPy, plainD] at e hb; rw [e]
  | .tup x, b, ha, hb, e => by
    cases b <;> simp [toPy, plainD] at e hb ha
    rw [toPyL_inj _ _ ha hb e]
  | .lst x, b, ha, hb, e => by
    cases b <;> simp [toPy, plainD] at e hb ha
    rw [toPyL_inj _ _ ha hb e]
  | .wt _, _, ha, _, _ => by simp [plainD] at ha
  | .scr _, _, ha, _, _ => by simp [plainD] at ha
  | .dk _ _, _, ha, _, _ => by simp [plainD] at ha
  | .dt _ _, _, ha, _, _ => by simp [plainD] at ha
  | .obj _ _ _, _, ha, _, _ => by simp [plainD] at ha
theorem toPyL_inj : ∀ a b : List D, plainL a = true → plainL b = true → toPyL a = toPyL b → a = b
  | [], [], _, _, _ => rfl
  | [], _ :: _, _, _, e => by simp [toPyL] at e
  | _ :: _, [], _, _, e => by simp [toPyL] at e
  | a :: as, b :: bs, ha, hb, e => by
    simp only [plainL, Bool.and_eq_true] at ha hb
    simp only [toPyL, List.cons.injEq] at e
    rw [toPy_inj a b ha.1 hb.1 e.1, toPyL_inj as bs ha.2 hb.2 e.2]
end
def minDD (d : D) (ds : List D) : D := ds.foldl (fun a y => if PySem.W.dataLt (toPy y) (toPy a) then y else a) d
theorem minDD_py : ∀ (ds : List D) (d : D), toPy (minDD d ds) = PySem.W.minD (toPy d) (ds.map toPy)
  | [], _ => rfl
  | y :: ds, d => by
    have := minDD_py ds (if PySem.W.dataLt (toPy y) (toPy d) then y else d)
    unfold minDD PySem.W.minD at *
    simp only [List.foldl_cons, List.map_cons]
    rw [this]
    congr 1
    split <;> rfl
theorem minDD_mem : ∀ (ds : List D) (d : D), minDD d ds ∈ d :: ds
  | [], _ => by simp [minDD]
  | y :: ds, d => by
    have := minDD_mem ds (if PySem.W.dataLt (toPy y) (toPy d) then y else d)
    unfold minDD at *
    simp only [List.foldl_cons]
    rcases List.mem_cons.mp this with h | h
    · rw [h]
      split <;> simp
    · simp [h]
noncomputable def minLW : List W → Sto → Option W
  | [w], S => match lstW S w with
    | some ws => match dats ws with
      | some (d :: ds) => ifc (PySem.W.AlikeAll ((d :: ds).map toPy) ∧ plainL (d :: ds) = true ∧ (∀ x ∈ d :: ds, (toPy x).canLay0 = true) ∧ PyData.depthAll ((d :: ds).map toPy) ≤ 64) (some (.da (minDD d ds))) none
      | _ => none
    | none => none
  | _, _ => none
section
variable {X : Cx} {cl : Str → Option Addr} {xa : Option (Nat × Addr)} {Wx : WX} {pos p2 apos cpos : Pos} {a b c e o : Expr} {es : List Expr} {ma mb mc me mi mo : ME} {mr : MA}
theorem plainL_mem : ∀ {ds : List D} {d : D}, plainL ds = true → d ∈ ds → plainD d = true
  | x :: ds, d, h, hm => by
    simp only [plainL, Bool.and_eq_true] at h
    rcases List.mem_cons.mp hm with rfl | hm
    · exact h.1
    · exact plainL_mem h.2 hm
def rMinD (K : PySem.W.Frag) : List V → Hp → VK → Prop := fun vs H Q => ∃ (a : Addr) (xs : List V) (p : PyData) (ps : List PyData), vs = [.ref a] ∧ SqL K H a xs ∧ DpAll K H xs (p :: ps) ∧ PySem.W.AlikeAll (p :: ps) ∧ PyData.depthAll (p :: ps) ≤ 64 ∧
  ∀ (i : Nat) (v : V), xs[i]? = some v → (p :: ps)[i]? = some (PySem.W.minD p ps) → Q v H
theorem vals_get : ∀ {vs : List V} {us : List Value} {i : Nat} {u : Value}, Vals vs us → us[i]? = some u → ∃ v, vs[i]? = some v ∧ RelV v u
  | _, _, 0, u, .cons r t, h => by cases h; exact ⟨_, rfl, r⟩
  | _, _, i + 1, u, .cons r t, h => vals_get (i := i) t (by simpa using h)
  | _, _, _, u, .nil, h => by simp at h
theorem reads_get {h : Heap} : ∀ {us : List Value} {ds : List PyData} {as : List Addr} {i : Nat} {u : Value}, ReadsAll h us ds as → us[i]? = some u → ∃ d bs, ds[i]? = some d ∧ Reads h u d bs
  | _, _, _, 0, u, .cons r t, e => by cases e; exact ⟨_, _, rfl, r⟩
  | _, _, _, i + 1, u, .cons r t, e => reads_get (i := i) t (by simpa using e)
  | _, _, _, _, u, .nil, e => by simp at e
theorem minP_mem : ∀ (ds : List PyData) (d : PyData), PySem.W.minD d ds ∈ d :: ds
  | [], _ => by simp [PySem.W.minD]
  | y :: ds, d => by
    have := minP_mem ds (if PySem.W.dataLt y d then y else d)
    unfold PySem.W.minD at *
    simp only [List.foldl_cons]
    rcases List.mem_cons.mp this with h | h
    · rw [h]
      split <;> simp
    · simp [h]
theorem cr_minD (hc : X.calm = true) (hu : Hu X) : CallR X (.builtin "min") (rMinD X.K) := by
  intro pins s σ H vs us Q I r h
  obtain ⟨a, xs, p, ps, rfl, hs, hd, hal, hdep, q⟩ := h
  obtain ⟨its, rv, hl, hz⟩ := I.list hs
  rw [Vals.ref1 r]
  obtain ⟨as, hr⟩ := Dp.readsAll I (p :: ps) xs its hd rv
  have hu' : X.A.units + 200 < cLine := hu
  refine PySem.W.min_list_data (vs := its.toArray) (I.ok.hd hc) hl.isList hr hal (by omega) fun i u h' tk bs hi hrd kp => ?_
  have hi' : its[i]? = some u := by simpa using hi
  obtain ⟨v, e1, e2⟩ := vals_get rv hi'
  refine ⟨v, H, I.kept (t' := tk) kp, e2, q i v e1 ?_⟩
  obtain ⟨d, bs', e3, e4⟩ := reads_get hr hi'
  rw [e3, PySem.W.alike_unique d _ u bs' bs (hal.1 d (List.mem_of_getElem? e3) _ (minP_mem ps p)) (PyProof.Rows.Reads.keeps kp e4) hrd]
theorem cw_minL (hc : X.calm = true) (hu : Hu X) : HCall X cl (.builtin "min") (vlN minLW) := VN.h fun y S b ws vs rs u e Q g => by
  unfold minLW at e
  split at e
  · rename_i w
    obtain ⟨v, rfl, r⟩ := rwl1 rs
    split at e
    · rename_i us q
      split at e
      · rename_i d ds hd
        obtain ⟨⟨h1, h2, h3, h4⟩, rfl⟩ := ifc_some e
        obtain ⟨p, vs, rfl, t, l⟩ := lstW_ok b r q
        have rp := dats_ok l hd
        refine ⟨_, cr_minD hc hu, p, vs, toPy d, ds.map toPy, rfl, .inl (.inl t), toPyL_all (d :: ds) vs h3 (RpL.xt b.fz _ _ rp), h1, h4, fun i v hv hm => ?_⟩
        have hm' : ((d :: ds).map toPy)[i]? = some (PySem.W.minD (toPy d) (ds.map toPy)) := hm
        rw [List.getElem?_map] at hm'
        obtain ⟨x, hx, ex⟩ := Option.map_eq_some_iff.mp hm'
        have hxe : x = minDD d ds := toPy_inj x _ (plainL_mem h2 (List.mem_of_getElem? hx)) (plainL_mem h2 (minDD_mem ds d)) (ex.trans (minDD_py ds d).symm)
        have rw1 : RW X.K cl y (.da x) v := by
          obtain ⟨v', e1, e2⟩ := RWL.get (rwl_da rp) (show ((d :: ds).map W.da)[i]? = some (.da x) by rw [List.getElem?_map, hx]; rfl)
          rw [hv] at e1
          cases e1
          exact e2
        rw [← hxe] at g
        exact gv_w b g rw1
      · cases e
    · cases e
  · cases e
/-! ### tuple(x), str(x), int(x) -/
def tupleF (mk : Option Cell → Sto → Rs W) : List W → Sto → Rs W := fun ws S => match ws with
  | [w] => match lstW S w with
    | some us => mk (some (.tup us)) S
    | none => match tupW S w with
      | some _ => .ok w S
      | none => .stuck
  | _ => .stuck
theorem hc_tuple {mk : Option Cell → Sto → Rs W} (hmk : ∀ (xa : Option (Nat × Addr)) (Wx : WX) (C : Cn) (y : Y) (σ : St) (ρ : Rho) (S : Sto) (o : Option Cell) (Q : VK), Sim X.K cl xa C y σ ρ S → Post X.K cl xa C Wx y σ ρ (mk o S) (OkE X.K cl xa C y σ ρ Q) → ∃ c, o = some c ∧ Gn X.K cl y c Q) :
    HCall X cl (.type "tuple") (tupleF mk) := fun xa C Wx y σ ρ S s ws vs rs Q h => by
  unfold tupleF at h
  split at h
  · rename_i w
    obtain ⟨v, rfl, r⟩ := rwl1 rs
    split at h
    · rename_i us q
      obtain ⟨p, vs, rfl, t, l⟩ := lstW_ok s.bs r q
      obtain ⟨c, e, g⟩ := hmk xa Wx C y σ ρ S _ Q s h
      cases e
      exact ⟨_, call_tuple_of, p, vs, rfl, .inl ⟨.inl (.inl t), fun q hq => g q _ hq ⟨_, upd_same, upd_rw l⟩⟩⟩
    · split at h
      · rename_i us q
        obtain ⟨p, vs, rfl, t, l⟩ := tupW_ok s.bs r q
        obtain ⟨u', e, g⟩ := post_val (o := some w) s h
        cases e
        exact ⟨_, call_tuple_of, p, vs, rfl, .inr ⟨t, gv_w s.bs g r⟩⟩
      · exact h.elim
  · exact h.elim
theorem hc_tupleD : HCall X cl (.type "tuple") (tupleF mkD) := hc_tuple fun xa Wx C y σ ρ S o Q s h => post_newD s h
theorem hc_tupleC : HCall X cl (.type "tuple") (tupleF mkC) := hc_tuple fun xa Wx C y σ ρ S o Q s h => post_newC s h
noncomputable def strW : List W → Sto → Option W
  | [.da (.int i)], _ => ifc (i.natAbs.log2 < 1920) (some (.da (.str (toString i)))) none
  | [.da (.str x)], _ => some (.da (.str x))
  | _, _ => none
theorem cw_str : HCall X cl (.type "str") (vlN strW) := VN.h fun y S b ws vs rs u e Q g => by
  unfold strW at e
  split at e
  · obtain ⟨hz, rfl⟩ := ifc_some e
    obtain ⟨v, rfl, r⟩ := rwl1 rs
    cases r
    exact ⟨_, call_str_int, _, rfl, hz, gv_da b g rfl⟩
  · cases e
    obtain ⟨v, rfl, r⟩ := rwl1 rs
    cases r
    exact ⟨_, SkE.call_str_str, _, rfl, gv_da b g rfl⟩
  · cases e
noncomputable def intSW : List W → Sto → Option W
  | [.da (.str a)], _ => match PySem.intText? a with
    | some n => ifc (a.length ≤ 640) (some (.da (.int n))) none
    | none => none
  | ws, S => intW ws S
theorem cw_intS : HCall X cl (.type "int") (vlN intSW) := fun xa C Wx y σ ρ S s ws vs rs Q h => by
  unfold vlN at h
  obtain ⟨u, e, g⟩ := post_val s h
  unfold intSW at e
  split at e
  · split at e
    · rename_i n hn
      obtain ⟨hz, rfl⟩ := ifc_some e
      obtain ⟨v, rfl, r⟩ := rwl1 rs
      cases r
      exact ⟨_, call_int_str, _, _, rfl, hn, hz, gv_da s.bs g rfl⟩
    · cases e
  · rename_i hne
    refine cw_int xa C Wx y σ ρ S s ws vs rs Q ?_
    have e2 : intSW ws S = intW ws S := by
      unfold intSW
      split
      · exact (hne _ rfl).elim
      · rfl
    show Post X.K cl xa C Wx y σ ρ (lift (intW ws S) S) _
    rw [← e2]
    exact h
/-! ### more of texts -/
def swW (w : W) (ws : List W) (_ : Sto) : Option W := match w, ws with
  | .da (.str a), [.da (.str b)] => some (.da (.bl (Txt.startswith a b)))
  | _, _ => none
theorem hm_startswith : HMt X cl "str.startswith" (vmt swW) := hm_val fun y S w v ws vs u Q b r rs e g => by
  unfold swW at e
  split at e
  · cases e
    cases r
    obtain ⟨v, rfl, r1⟩ := rwl1 rs
    cases r1
    exact ⟨_, mt_startswith, _, _, rfl, rfl, gv_da b g rfl⟩
  · cases e
noncomputable def splitC (w : W) (ws : List W) : Option Cell := match w, ws with
  | .da (.str a), [.da (.str b)] => ifc ((b.length == 0) = false ∧ a.length + 2 ≤ sizeLine) (some (.lst ((Txt.split a b).map fun s => .da (.str s)))) none
  | _, _ => none
noncomputable def splF (mk : Option Cell → Sto → Rs W) : W → List W → Sto → Rs W := fun w ws S => mk (splitC w ws) S
theorem rwl_strs {K : PySem.W.Frag} {y : Y} : ∀ ys : List Str, RWL K cl y (ys.map fun s => .da (.str s)) (ys.map V.str)
  | [] => .nil
  | _ :: ys => .cons rfl (rwl_strs ys)
theorem hm_splitD : HMt X cl "str.split" (splF mkD) := fun xa C Wx y σ ρ S s w v r ws vs rs Q h => by
  obtain ⟨c, e, g⟩ := post_newD s h
  unfold splitC at e
  split at e
  · obtain ⟨hz, rfl⟩ := ifc_some e
    cases r
    obtain ⟨v, rfl, r1⟩ := rwl1 rs
    cases r1
    exact ⟨_, mt_split, _, _, rfl, rfl, hz.1, hz.2, fun p hp => g p _ hp ⟨_, upd_same, upd_rw (rwl_strs _)⟩⟩
  · cases e
/-! ### f-texts -/
noncomputable def fmtW (w : W) : Option Str := match w with
  | .da (.str y) => ifc (y.length ≤ sizeLine) (some y) none
  | .da (.int i) => ifc (i.natAbs.log2 < 1920) (some (toString i)) none
  | _ => none
noncomputable def mFmt (m : ME) : ME := fun ρ S => (m ρ S).bind fun w S => match fmtW w with
  | some y => .ok (.da (.str y)) S
  | none => .stuck
theorem qe_fmt (h : QE X cl xa Wx e me) : QE X cl xa Wx (.FormattedValue e (-1) none pos) (mFmt me) := by
  obtain ⟨t, p, q⟩ := h
  refine ⟨_, pe_fmt p, fun C y σ ρ S s Q h => ?_⟩
  refine q C y σ ρ S s _ (Post.go h fun w S1 h1 v z s1 g1 r1 => ?_)
  have h2 := h1 z g1
  split at h2
  · rename_i yy hy
    unfold fmtW at hy
    split at hy
    · obtain ⟨hz, e⟩ := ifc_some hy
      cases e
      cases r1
      exact .inl ⟨_, rfl, hz, h2 _ z s1 g1 rfl⟩
    · obtain ⟨hz, e⟩ := ifc_some hy
      cases e
      cases r1
      exact .inr ⟨_, rfl, hz, h2 _ z s1 g1 rfl⟩
    · cases hy
  · exact h2.elim
abbrev MJ := Str → Rho → Sto → Rs Str
def mjNil : MJ := fun acc _ S => .ok acc S
noncomputable def mjCons (m : ME) (r : MJ) : MJ := fun acc ρ S => (m ρ S).bind fun w S => match w with
  | .da (.str y) => ifc ((acc ++ y).length ≤ sizeLine) (r (acc ++ y) ρ S) .stuck
  | _ => .stuck
def SJ (K : PySem.W.Frag) (cl : Str → Option Addr) (xa : Option (Nat × Addr)) (Wx : WX) (ts : List TE) (m : MJ) : Prop := ∀ acc C y σ ρ S, Sim K cl xa C y σ ρ S → ∀ Q, Post K cl xa C Wx y σ ρ (m acc ρ S) (fun t S' => ∀ z, Sim K cl xa C z σ ρ S' → Gr y z → Q t z.H) → tJs ts acc σ y.H Q
def QJ (X : Cx) (cl : Str → Option Addr) (xa : Option (Nat × Addr)) (Wx : WX) (es : List Expr) (m : MJ) : Prop := ∃ ts, PJ X es ts ∧ SJ X.K cl xa Wx ts m
theorem qj_nil : QJ X cl xa Wx [] mjNil := ⟨_, .nil, fun acc C y σ ρ S s Q h => h y s (Gr.refl _)⟩
theorem ifc_post {K : PySem.W.Frag} {α : Type} {C : Cn} {y : Y} {σ : St} {ρ : Rho} {p : Prop} {r : Rs α} {k : α → Sto → Prop} (h : Post K cl xa C Wx y σ ρ (ifc p r .stuck) k) : p ∧ Post K cl xa C Wx y σ ρ r k := by
  by_cases hp : p
  · rw [ifc_pos hp] at h; exact ⟨hp, h⟩
  · rw [ifc_neg hp] at h; exact h.elim
theorem qj_cons {mr : MJ} (h : QE X cl xa Wx e me) (hr : QJ X cl xa Wx es mr) : QJ X cl xa Wx (e :: es) (mjCons me mr) := by
  obtain ⟨t, p, q⟩ := h
  obtain ⟨ts, ps, qs⟩ := hr
  refine ⟨_, .cons p ps, fun acc C y σ ρ S s Q h => ?_⟩
  refine q C y σ ρ S s _ (Post.go h fun w S1 h1 v z s1 g1 r1 => ?_)
  have h2 := h1 z g1
  split at h2
  · rename_i yy
    cases (show v = .str yy from r1)
    obtain ⟨hz, h3⟩ := ifc_post h2
    exact ⟨yy, rfl, hz, qs _ C z σ ρ S1 s1 Q (Post.imp h3 fun t S2 h4 z2 s2 g2 => h4 z2 s2 (g1.trans g2))⟩
  · exact h2.elim
noncomputable def mJoined (m : MJ) : ME := fun ρ S => (m Str.empty ρ S).bind fun t S => .ok (.da (.str t)) S
theorem qe_joined {v1 v2 : Expr} {rest : List Expr} {m : MJ} (h : QJ X cl xa Wx (v1 :: v2 :: rest) m) : QE X cl xa Wx (.JoinedStr (v1 :: v2 :: rest) pos) (mJoined m) := by
  obtain ⟨ts, ps, qs⟩ := h
  refine ⟨_, pe_joined ps, fun C y σ ρ S s Q h => ?_⟩
  exact qs Str.empty C y σ ρ S s _ (Post.go h fun t S1 h1 z s1 g1 => h1 z g1 _ z s1 g1 rfl)
end
end Ng
namespace Ng
open PySem L2
/-! ### comprehensions over range(a, b) -/
section
variable {X : Cx} {cl : Str → Option Addr} {xa : Option (Nat × Addr)} {Wx : WX} {pos : Pos} {elt tg iter a b : Expr} {ifs : List Expr} {scope : Scope} {own : List (Str × Nat)} {mi me : ME} {mr : MA} {mt : MT} {g : MG} {gt : TG} {mk : Option Cell → Sto → Rs W}
theorem walk_lcR2 {t : TA} (hmk : MkOk X.K cl xa mk) (q : SA X.K cl xa Wx t mr) {vs0 : List Nat} (hsg : SGw X.K cl vs0 gt g) : SE X.K cl xa Wx (tLc (iRng2 t) gt (TTm X.K cl xa W0 mt) (TEm X.K cl xa W0 me) vs0) (mLcR mk rng2 mr vs0 g mt me) := by
  intro C y σ ρ S s Q h
  refine q C y σ ρ S s _ (Post.go h fun ws S1 h1 vs z s1 g1 r1 => ?_)
  have h2 := h1 z g1
  split at h2
  · rename_i lo k e
    unfold rng2 at e
    split at e
    · rename_i i j
      obtain ⟨hj, e⟩ := ifc_some e
      cases e
      obtain ⟨v, v2, rfl, rv, rv2⟩ := rwl2 r1
      cases (show v = .int lo from rv)
      cases (show v2 = .int j from rv2)
      rw [lcM_P] at h2
      refine ⟨lo, j, rfl, hj, fun pp hp => ?_⟩
      cases e2 : lcP (fun _ => True) g mt me (wipeR ρ vs0) (intsW lo (j - lo).toNat) [] S1 with
      | stuck => rw [e2] at h2; exact h2.elim
      | ex x S' => exact absurd e2 (lcP_noex _ _ _ _ _)
      | ok ys S' =>
        rw [e2] at h2
        exact run_lc hsg (wk_rng (G := fun y S => True)) (fun y S g p => trivial) s1 hp e2 fun z2 vacc s2 g2 k1 k2 k3 k4 k5 => hmk C Wx z z2 σ ρ S' ys vacc pp Q s2 g2 k1 k2 k3 k4 k5 (Post.re h2 g1)
    · cases e
  · exact h2.elim
theorem qe_lcR2 {p p' : Pos} (hmk : MkOk X.K cl xa mk) (hc : X.calm = true) (hN : X.N.Nodup) (hgl : Gl X "range") (hm : X.mg "range" = none) (ha : QA X cl xa Wx [a, b] mr) (ok : BlkOk X.N X.env.scope scope own) (hsg : SGw X.K cl (own.map (·.2)) gt g)
    (hg : ∀ (s : Shared) (H : Hp) (A : Addr) (c2 : List (Str × Addr)) (fp : List Addr), PG (X.blk s H scope (compEnvC scope c2 A X.env) fp) tg gt)
    (ht : ∀ (s : Shared) (H : Hp) (A : Addr) (c2 : List (Str × Addr)) (fp : List Addr), PTs (X.blk s H scope (compEnvC scope c2 A X.env) fp) ifs (TTm X.K cl xa W0 mt))
    (he : ∀ (s : Shared) (H : Hp) (A : Addr) (c2 : List (Str × Addr)) (fp : List Addr), QE (X.blk s H scope (compEnvC scope c2 A X.env) fp) cl xa W0 elt me)
    (hst : starEach [a, b] X.env = [(false, eval a X.env), (false, eval b X.env)] := by rfl) (hst2 : starEach [b] X.env = [(false, eval b X.env)] := by rfl) (hs : ∀ x, foldedSetIterable (.Call (.Name "range" p) [a, b] [] p') X.env x = pure x := by intro _; rfl) :
    QE X cl xa Wx (.ListComp elt [⟨tg, .Call (.Name "range" p) [a, b] [] p', ifs, 0⟩] scope pos) (mLcR mk rng2 mr (own.map (·.2)) g mt me) := by
  obtain ⟨t, pa, q⟩ := ha
  exact ⟨_, pe_lc (te := TEm X.K cl xa W0 me) hc hN (pi_range2 hgl hm pa hst hst2) ok hg ht (fun s H A c2 fp => pe_m (he s H A c2 fp)) hs, walk_lcR2 hmk q hsg⟩
theorem qs_setLcR2 {i : Nat} {y : Str} {py spos p p' : Pos} (hmk : MkOk X.K cl xa mk) (hc : X.calm = true) (hN : X.N.Nodup) (hy : X.N[i]? = some y) (hyl : X.env.scope.names.lookup y = some .local)
    (hsw : swapsWith (.ListComp elt [⟨tg, .Call (.Name "range" p) [a, b] [] p', ifs, 0⟩] scope pos) (some (.Name y py)) spos.line X.env = pure true) (hgl : Gl X "range") (hm : X.mg "range" = none) (ha : QA X cl xa Wx [a, b] mr) (ok : BlkOk X.N X.env.scope scope own) (hsg : SGw X.K cl (own.map (·.2)) gt g)
    (hg : ∀ (s : Shared) (H : Hp) (A : Addr) (c2 : List (Str × Addr)) (fp : List Addr), PG (X.blk s H scope (compEnvC scope c2 A X.env) fp) tg gt)
    (ht : ∀ (s : Shared) (H : Hp) (A : Addr) (c2 : List (Str × Addr)) (fp : List Addr), PTs (X.blk s H scope (compEnvC scope c2 A X.env) fp) ifs (TTm X.K cl xa W0 mt))
    (he : ∀ (s : Shared) (H : Hp) (A : Addr) (c2 : List (Str × Addr)) (fp : List Addr), QE (X.blk s H scope (compEnvC scope c2 A X.env) fp) cl xa W0 elt me)
    (hst : starEach [a, b] X.env = [(false, eval a X.env), (false, eval b X.env)] := by rfl) (hst2 : starEach [b] X.env = [(false, eval b X.env)] := by rfl) (hs : ∀ x, foldedSetIterable (.Call (.Name "range" p) [a, b] [] p') X.env x = pure x := by intro _; rfl) :
    QS X cl xa Wx (.Assign [.Name y py] (.ListComp elt [⟨tg, .Call (.Name "range" p) [a, b] [] p', ifs, 0⟩] scope pos) spos) (mSet i (mLcR mk rng2 mr (own.map (·.2)) g mt me)) := by
  obtain ⟨t, pa, q⟩ := ha
  exact ⟨_, ps_setLc (te := TEm X.K cl xa W0 me) hc hN hy hyl hsw (pi_range2 hgl hm pa hst hst2) ok hg ht (fun s H A c2 fp => pe_m (he s H A c2 fp)) hs, ss_set (walk_lcR2 hmk q hsg)⟩
end
/-! ### a text so many times -/
noncomputable def mulSW (x y : W) (S : Sto) : Option W := match x, y with
  | .da (.str z), .da (.int n) => ifc (PySem.MulOk z n) (some (.da (.str (Txt.mul z n)))) none
  | _, _ => mulW x y S
section
variable {X : Cx} {cl : Str → Option Addr}
theorem op_mulS : OpR X (binaryOp .Mult) (fun x y H Q => ∃ z n, x = .str z ∧ y = .int n ∧ PySem.MulOk z n ∧ Q (.str (Txt.mul z n)) H) := by
  intro pins s σ H x y v u Q I rx ry h
  obtain ⟨z, n, rfl, rfl, hz, q⟩ := h
  obtain ⟨t, rfl⟩ := rx
  obtain ⟨t2, rfl⟩ := ry
  exact SB.mul hz fun t' k => ⟨.str _, H, I.tok k, ⟨t', rfl⟩, q⟩
theorem ow_mulS : HOp X cl (binaryOp .Mult) (vl2 mulSW) := fun xa C Wx y σ ρ S s w w' v v' r r' Q h => by
  obtain ⟨u, e, g⟩ := post_val s h
  by_cases hs : ∃ z n, w = .da (.str z) ∧ w' = .da (.int n)
  · obtain ⟨z, n, rfl, rfl⟩ := hs
    unfold mulSW at e
    obtain ⟨hz, rfl⟩ := ifc_some e
    cases r
    cases r'
    exact ⟨_, op_mulS, z, n, rfl, rfl, hz, gv_da s.bs g rfl⟩
  · have e2 : mulSW w w' S = mulW w w' S := by
      unfold mulSW
      split
      · exact absurd ⟨_, _, rfl, rfl⟩ hs
      · rfl
    refine ow_mul xa C Wx y σ ρ S s w w' v v' r r' Q ?_
    show Post X.K cl xa C Wx y σ ρ (lift (mulW w w' S) S) _
    rw [← e2]
    exact h
end
end Ng
namespace Ng
open PySem PySem.Spec PyProof.Rows L2
/-! ### d.items() of locked dicts -/
/-- the pairs of a locked dict of tuple keys, each a new tuple of the key's own tuple and the value -/
def Itit (d : Addr) (o : Obj) (kvs : List (List Key × V)) : It :=
  ⟨fun i H => H d = some (.frz o (.dT kvs)) ∧ i < kvs.length, fun i H x H' => ∃ (T : Addr) (q : Addr) (k : List Key) (v : V), kvs[i]? = some (k, v) ∧ x = .ref T ∧ H q = some (.tup (k.map kV)) ∧ H T = none ∧ H' = upd H T (.tup [.ref q, v]), fun i H => H d = some (.frz o (.dT kvs)) ∧ kvs.length ≤ i⟩
section
variable {X : Cx} {pins : List (Addr × Obj)} {σ : L2.St} {H : Hp} {s : Shared} {d : Addr} {o : Obj}
theorem inv_frzT {kvs : List (List Key × V)} (I : Inv X pins σ H s) (h : H d = some (.frz o (.dT kvs))) :
    (d == sysModules) = false ∧ ∃ (es : Array DictEntry) (ep : Nat), s.heap.DictRaw d es ep ∧ o.data = .dict es ep ∧ es.size = kvs.length ∧
      ∀ (i : Nat) (k : List Key) (v : V), kvs[i]? = some (k, v) → ∃ (en : DictEntry) (q : Addr), es[i]? = some en ∧ en.key = .ref q ∧ H q = some (.tup (k.map kV)) ∧ RelV v en.val := by
  obtain ⟨hd, z, hs, xs, pr, o', es, ep, ho, hx, hdt, he, _⟩ := I.hok d _ h
  rw [hd] at ho
  cases ho
  refine ⟨hs, es, ep, ⟨o, hd, hx, hdt⟩, hdt, ?_, fun i k v e => ?_⟩
  · have l1 : es.size = xs.length := size_of_entries he
    have l2 : kvs.length = xs.length := Paired.length pr
    omega
  · obtain ⟨b, hb, e1, e2, e3⟩ := L2.paired_get pr e
    have q := entry_at he i
    rw [hb] at q
    exact ⟨_, b.2.1, q, rfl, e2, e3⟩
end
section
variable {P : Program} {w : World} {K : PySem.W.Frag} {tg : Expr} {d : Addr} {o : Obj} {es : Array DictEntry} {ep : Nat}
theorem turn_itemsT {kvs : List (List Key × V)} {elts : List Expr} {kk : Nat} {tpos : Pos} (it : Addr) (hod : o.data = .dict es ep) :
    Turn P w K (.Tuple elts kk tpos) (Itit d o kvs) [it] it (fun i h => ∃ ok ov, IsItemIter h it d i kvs.length ep ok ov) where
  mem := by simp
  obj := fun i h st b hb => by
    have e : b = it := by simpa using hb
    subst e
    obtain ⟨ok, ov, e⟩ := st
    exact ⟨_, e, fun v z => nomatch z⟩
  keep := fun i h h' st k => let ⟨ok, ov, e⟩ := st; ⟨ok, ov, k it (by simp) _ e⟩
  item := by
    intro X hP hw hK hc i pins s σ H E I hf st hg
    subst hP hw hK
    obtain ⟨hd, hi⟩ := hg
    obtain ⟨hs, es', ep', hraw, hdt, hsz, ent⟩ := inv_frzT I hd
    obtain ⟨rfl, rfl⟩ := dict_ep hod hdt
    obtain ⟨⟨k, v⟩, hkv⟩ : ∃ p, kvs[i]? = some p := ⟨kvs[i], List.getElem?_eq_getElem hi⟩
    obtain ⟨en, q, hen, hkey, hq, ru⟩ := ent i k v hkv
    have hi' : i < es'.size := by omega
    have hen' : es'[i] = en := by
      have z := Array.getElem?_eq_getElem hi'
      rw [hen] at z
      exact (Option.some.inj z).symm
    obtain ⟨ok, ov, he⟩ := st
    rw [← hsz] at he
    have hlt : it < s.heap.objs.size := Heap.lt_size he
    refine wpAny_pyNext_items_item_raw he hraw hi' fun h' ho hT hz hk => ?_
    rw [hen', hkey] at ho hT
    refine ⟨_, rfl, wpAny_letOwnedTupleGo_items (s := { s with heap := h' }) ho fun h'' he' sb => ?_⟩
    have hT2 : h''.get? s.heap.objs.size = some { cls := .type "tuple", data := .seq #[.ref q, en.val] } := (sb.2 _ (Nat.ne_of_gt hlt)).trans hT
    have new : ObjOk X.prog X.w (upd H s.heap.objs.size (.tup [.ref q, v])) h'' s.heap.objs.size (.tup [.ref q, v]) :=
      ⟨by show 2 ≤ sizeLine; decide, [.ref q, en.val], .cons (show RelV (.ref q) (.ref q) from rfl) (.cons ru .nil), ⟨_, hT2, rfl, _, rfl⟩⟩
    have I1 : Inv X pins σ (upd H s.heap.objs.size (.tup [.ref q, v])) { s with heap := h'' } :=
      I.turnedNew (t' := s.toks) (ch := [it]) (fun b ob hb e => (sb.2 b (by simpa using hb)).trans (hk b ob (by simpa using hb) e)) hf (Nat.le_refl _) new
    refine ⟨.ref s.heap.objs.size, _, I1, rfl, ⟨_, q, k, v, hkv, rfl, hq, I.hok.fresh (Nat.le_refl _), rfl⟩, ⟨.ref q, en.val, ?_⟩, fun b hb => ?_⟩
    · rw [← hsz]; exact he'
    · have e : b = it := by simpa using hb
      rw [e, upd_ne (Nat.ne_of_lt hlt)]
      exact (hf it (by simp)).1
  done := by
    intro X hP hw hK hc i pins s σ H E I hf st hg
    subst hP hw hK
    obtain ⟨hd, hi⟩ := hg
    obtain ⟨f0, f1, f2, f3, f4, f5⟩ := hf it (by simp)
    obtain ⟨hs, es', ep', hraw, hdt, hsz, ent⟩ := inv_frzT I hd
    obtain ⟨rfl, rfl⟩ := dict_ep hod hdt
    obtain ⟨ok, ov, he⟩ := st
    rw [← hsz] at he
    exact wpAny_pyNext_items_end_raw (I.ok.hd hc) he hraw (by omega) fun h' eb => ⟨rfl, I.turned (t' := s.toks) (fun b ob hb e => eb b ob hb e) f0 f1 f3 f4 f5⟩
  self := fun A i s Q E st h => let ⟨_, _, e⟩ := st; PySem.W.kcp_self e h
end
def iItemsT (td : TE) : TI := fun σ H R => td σ H fun x H1 => ∃ d o kvs, x = .ref d ∧ H1 d = some (.frz o (.dT kvs)) ∧ R (Itit d o kvs) H1
theorem pi_itemsT {X : Cx} {e : Expr} {td : TE} {apos cpos : Pos} {elts : List Expr} {kk : Nat} {tpos : Pos} (he : PE X e td) (hbase : attributeBase e "items" X.env (eval e X.env) = eval e X.env := by rfl) (hline : (apos.endLine == cpos.line) = true := by rfl) :
    PI X (.Tuple elts kk tpos) (.Call (.Attribute e "items" apos) [] [] cpos) (iItemsT td) := by
  refine ⟨fun pins s σ H R I h => ?_⟩
  refine wpAny_Call_method (T := "dict") (id := "dict.items") hbase rfl hline F.plainAttrs_dict F.slot_dict_items F.type_dict_items (thn (he.run pins s σ H _ I h) fun u s1 ⟨x, H1, I1, rx, d, o, kvs, ex, hd, q⟩ => ?_)
  subst ex
  obtain rfl : u = Value.ref d := rx
  obtain ⟨hs, es, ep, hraw, hdt, hsz, ent⟩ := inv_frzT I1 hd
  refine ⟨hraw.typeIs, (fun a ea => by cases ea; exact (let ⟨_, h1, h2, _⟩ := hraw; ⟨_, h1, h2.2.1⟩)), ?_⟩
  have I2 : Inv X pins σ H1 { s1 with heap := s1.heap.push { cls := .type "dict_items", data := .fields #[.ref d] } } := I1.kept (t' := s1.toks) fun b ob q => Heap.get?_push_of_some _ q
  have fin : wpAny (model X.prog X.w) X.A (pyIter (.ref s1.heap.objs.size)) (PIE X pins σ (.Tuple elts kk tpos) R) X.xe { s1 with heap := s1.heap.push { cls := .type "dict_items", data := .fields #[.ref d] } } := by
    refine wpAny_pyIter_items_raw (d := d) ⟨_, Heap.get?_push_size _ rfl, rfl, rfl⟩ (hraw.at fun o h => Heap.get?_push_of_some _ h) (pi_one (tk := s1.toks) I2 _ (turn_itemsT _ hdt) ⟨.none, .none, ?_⟩ q)
    rw [← hsz]
    exact Heap.get?_push_size _ rfl
  show wpAny _ _ (callWith cpos (.builtin "dict.items") [.ref d] [] []) _ X.xe s1
  exact method_meetsIn F.slot_dict_items F.entry_dict_items rfl (PySem.evalArgs_none ⟨rfl, hraw.typeIs, F.args_dict_items_1 _, _, meets_dict_items_raw d hs, ⟨es, ep, hraw⟩, fin⟩)
/-- the pairs of data -/
def pairsD : D → Option (List W)
  | .dk ks ds => some ((ks.zip ds).map fun p => .da (.tup [kD p.1, p.2]))
  | .dt ks ds => some ((ks.zip ds).map fun p => .da (.tup [.tup (p.1.map kD), p.2]))
  | _ => none
theorem rpl_kD {K : PySem.W.Frag} {cl : Str → Option Addr} {F : Hp} : ∀ ks : List Key, RpL K cl F (ks.map kD) (ks.map kV)
  | [] => rfl
  | k :: ks => ⟨_, _, rfl, kD_ok k, rpl_kD ks⟩
section
variable {cl : Str → Option Addr}
theorem zip_get {α β : Type} : ∀ {ks : List α} {vs : List β} {i : Nat} {k : α} {v : β}, (ks.zip vs)[i]? = some (k, v) → ks[i]? = some k ∧ vs[i]? = some v
  | [], _, i, k, v, h => by simp at h
  | _ :: _, [], i, k, v, h => by simp at h
  | a :: ks, b :: vs, 0, k, v, h => by simp at h; exact ⟨by simp [h.1], by simp [h.2]⟩
  | a :: ks, b :: vs, i + 1, k, v, h => by
    rw [List.zip_cons_cons, List.getElem?_cons_succ] at h
    obtain ⟨h1, h2⟩ := zip_get h
    exact ⟨by simpa using h1, by simpa using h2⟩
theorem zip_at {α β : Type} {ks : List α} {vs : List β} {i : Nat} {k : α} {v : β} (h1 : ks[i]? = some k) (h2 : vs[i]? = some v) : (ks.zip vs)[i]? = some (k, v) := by
  rw [List.getElem?_zip_eq_some]
  exact ⟨h1, h2⟩
theorem wk_items {K : PySem.W.Frag} {d : Addr} {o : Obj} {ks : List Key} {ds : List D} {vs : List V} {G : Y → Sto → Prop} (hn : ks.length = vs.length) (h : ∀ y S, Bs K cl y S → G y S → y.H d = some (.frz o (.dK (ks.zip vs))) ∧ RpL K cl y.F ds vs) :
    Wk K cl (Iti d o (ks.zip vs)) ((ks.zip ds).map fun p => .da (.tup [kD p.1, p.2])) G := by
  have len : ∀ y S, Bs K cl y S → G y S → ((ks.zip ds).map fun p => W.da (.tup [kD p.1, p.2])).length = (ks.zip vs).length := fun y S b g => by
    have := (h y S b g).2.length
    simp [this]
  refine ⟨fun i y S hi b g => ⟨(h y S b g).1, by rw [len y S b g] at hi; exact hi⟩, fun y S b g => ⟨(h y S b g).1, by rw [len y S b g]; exact Nat.le_refl _⟩, fun i y S x H' hi b g hy => ?_⟩
  obtain ⟨T, k, v, hk, rfl, hT, rfl⟩ := hy
  obtain ⟨h1, h2⟩ := zip_get hk
  have r := (h y S b g).2
  have hd : i < ds.length := by rw [r.length]; exact (List.getElem?_eq_some_iff.mp h2).1
  obtain ⟨v', e1, e2⟩ := RpL.get r (List.getElem?_eq_getElem hd)
  rw [h2] at e1
  cases e1
  have al := Al.new (o := .tup [kV k, v]) b.fz hT
  refine ⟨_, .da (.tup [kD k, ds[i]]), al, by rw [List.getElem?_map, zip_at h1 (List.getElem?_eq_getElem hd)]; rfl, ⟨T, _, rfl, upd_same, _, _, rfl, kD_ok k, _, _, rfl, Rp.xt al.f _ _ e2, rfl⟩⟩
theorem wk_itemsT {K : PySem.W.Frag} {d : Addr} {o : Obj} {ks : List (List Key)} {ds : List D} {vs : List V} {G : Y → Sto → Prop} (hn : ks.length = vs.length) (h : ∀ y S, Bs K cl y S → G y S → y.H d = some (.frz o (.dT (ks.zip vs))) ∧ RpL K cl y.F ds vs) :
    Wk K cl (Itit d o (ks.zip vs)) ((ks.zip ds).map fun p => .da (.tup [.tup (p.1.map kD), p.2])) G := by
  have len : ∀ y S, Bs K cl y S → G y S → ((ks.zip ds).map fun p => W.da (.tup [.tup (p.1.map kD), p.2])).length = (ks.zip vs).length := fun y S b g => by
    have := (h y S b g).2.length
    simp [this]
  refine ⟨fun i y S hi b g => ⟨(h y S b g).1, by rw [len y S b g] at hi; exact hi⟩, fun y S b g => ⟨(h y S b g).1, by rw [len y S b g]; exact Nat.le_refl _⟩, fun i y S x H' hi b g hy => ?_⟩
  obtain ⟨T, q, k, v, hk, rfl, hq, hT, rfl⟩ := hy
  obtain ⟨h1, h2⟩ := zip_get hk
  have r := (h y S b g).2
  have hd : i < ds.length := by rw [r.length]; exact (List.getElem?_eq_some_iff.mp h2).1
  obtain ⟨v', e1, e2⟩ := RpL.get r (List.getElem?_eq_getElem hd)
  rw [h2] at e1
  cases e1
  have a1 := Al.tup b.fz hq
  have a2 := Al.new (o := .tup [.ref q, v]) a1.x hT
  refine ⟨_, .da (.tup [.tup (k.map kD), ds[i]]), a1.trans a2, by rw [List.getElem?_map, zip_at h1 (List.getElem?_eq_getElem hd)]; rfl, ⟨T, _, rfl, upd_same, _, _, rfl, ⟨q, _, rfl, a2.f q _ upd_same, rpl_kD k⟩, _, _, rfl, Rp.xt (a1.trans a2).f _ _ e2, rfl⟩⟩
end
noncomputable def mForI (e : ME) (g : MG) (body : MS) : MS := fun ρ S => (e ρ S).out ρ fun w S => match w with
  | .da d => match pairsD d with
    | some ws => loopM g body ws ρ S
    | none => .stuck
  | _ => .stuck
noncomputable def mLcI (mk : Option Cell → Sto → Rs W) (e : ME) (vs : List Nat) (g : MG) (mt : MT) (me : ME) : ME := fun ρ S => (e ρ S).bind fun w S => match w with
  | .da d => match pairsD d with
    | some ws => (lcM g mt me (wipeR ρ vs) ws [] S).bind (mkLst mk)
    | none => .stuck
  | _ => .stuck
section
variable {X : Cx} {cl : Str → Option Addr} {xa : Option (Nat × Addr)} {Wx : WX} {pos apos cpos tpos : Pos} {a b c e elt : Expr} {es elts ifs : List Expr} {kk : Nat} {ma mb mc me mi : ME} {mr : MA} {mt : MT} {st : Stmt} {body : List Stmt} {m n : MS} {g : MG} {gt : TG} {scope : Scope} {own : List (Str × Nat)} {mk : Option Cell → Sto → Rs W}
theorem qs_forI (hp : PassesOwn (model X.prog X.w) X.A X.env X.xe) (hc : X.calm = true) (hi : QE X cl xa Wx e me) (hg : QG X cl xa (.Tuple elts kk tpos) g) (hb : QB X cl xa Wx body m)
    (hbase : attributeBase e "items" X.env (eval e X.env) = eval e X.env := by rfl) (hline : (apos.endLine == cpos.line) = true := by rfl)
    (hs : ∀ x, foldedSetIterable (.Call (.Attribute e "items" apos) [] [] cpos) X.env x = pure x := by intro _; rfl) : QS X cl xa Wx (.For (.Tuple elts kk tpos) (.Call (.Attribute e "items" apos) [] [] cpos) body [] pos) (mForI me g m) := by
  obtain ⟨t, p, q⟩ := hi
  obtain ⟨t2, p2, q2⟩ := hg
  obtain ⟨t3, p3, q3⟩ := hb
  refine ⟨_, ps_anyS, fun C y σ ρ S s Z h => ?_⟩
  by_cases bad : ∀ w S', me ρ S ≠ .ok w S'
  · exact ⟨_, ps_for hp hc (pi_items p hbase hline) p2 p3 hs, q.bad s h bad _⟩
  · cases e0 : me ρ S with
    | stuck => exact absurd (by intro w S' z; rw [e0] at z; cases z) bad
    | ex x S' => exact absurd (by intro w S' z; rw [e0] at z; cases z) bad
    | ok w S0 =>
      unfold mForI at h
      rw [e0] at h
      simp only [Rs.out] at h
      cases w with
      | xc => exact h.elim
      | lo k => exact h.elim
      | da d =>
        simp only at h
        split at h
        · rename_i ws hd
          rw [loopM_P] at h
          unfold pairsD at hd
          split at hd
          · cases hd
            refine ⟨_, ps_for hp hc (pi_items p hbase hline) p2 p3 hs, q.now s e0 fun v z s1 g1 r1 => ?_⟩
            obtain ⟨a, vs, rfl, ⟨o, tl⟩, nl, l⟩ := r1
            exact ⟨a, o, _, rfl, s1.bs.fz _ _ tl, run_for q2 q3 (wk_items (G := fun y S => Gr z y) nl fun y S b g => ⟨b.fz _ _ (g.f _ _ tl), RpL.xt g.f _ _ l⟩) (fun y S g p => g) s1 (PostS.mono g1 h)⟩
          · cases hd
            refine ⟨_, ps_for hp hc (pi_itemsT p hbase hline) p2 p3 hs, q.now s e0 fun v z s1 g1 r1 => ?_⟩
            obtain ⟨a, vs, rfl, ⟨o, tl⟩, nl, l⟩ := r1
            exact ⟨a, o, _, rfl, s1.bs.fz _ _ tl, run_for q2 q3 (wk_itemsT (G := fun y S => Gr z y) nl fun y S b g => ⟨b.fz _ _ (g.f _ _ tl), RpL.xt g.f _ _ l⟩) (fun y S g p => g) s1 (PostS.mono g1 h)⟩
          · cases hd
        · exact h.elim
theorem walk_lcI {t : TE} (hmk : MkOk X.K cl xa mk) (p : PE X e t) (q : SE X.K cl xa Wx t mi) {vs0 : List Nat} (hsg : SGw X.K cl vs0 gt g) {C : Cn} {y : Y} {σ : L2.St} {ρ : Rho} {S : Sto} (s : Sim X.K cl xa C y σ ρ S) {Q : VK}
    (h : Post X.K cl xa C Wx y σ ρ (mLcI mk mi vs0 g mt me ρ S) (OkE X.K cl xa C y σ ρ Q)) (hbase : attributeBase e "items" X.env (eval e X.env) = eval e X.env) (hline : (apos.endLine == cpos.line) = true) :
    ∃ wi, PI X (.Tuple elts kk tpos) (.Call (.Attribute e "items" apos) [] [] cpos) wi ∧ tLc wi gt (TTm X.K cl xa W0 mt) (TEm X.K cl xa W0 me) vs0 σ y.H Q := by
  unfold mLcI at h
  by_cases bad : ∀ w S', mi ρ S ≠ .ok w S'
  · exact ⟨_, pi_items p hbase hline, q.badE s h bad _⟩
  · cases e0 : mi ρ S with
    | stuck => exact absurd (by intro w S' z; rw [e0] at z; cases z) bad
    | ex x S' => exact absurd (by intro w S' z; rw [e0] at z; cases z) bad
    | ok w S0 =>
      rw [e0] at h
      simp only [Rs.bind] at h
      have fin : ∀ {ws : List W} {J : It} {G : Y → Sto → Prop} {z : Y} {pp : Addr}, Post X.K cl xa C Wx y σ ρ ((lcM g mt me (wipeR ρ vs0) ws [] S0).bind (mkLst mk)) (OkE X.K cl xa C y σ ρ Q) → Wk X.K cl J ws G → (∀ y S, Gr z y → True → G y S) → Sim X.K cl xa C z σ ρ S0 → Gr y z → z.H pp = none →
          ∃ W : Nat → Nat → Hp → Prop, (∃ m, W 0 m (upd z.H pp (.lst []))) ∧ ∀ i m H, W i m H →
            (J.stop i H ∧ Q (.ref pp) H) ∨ (J.go i H ∧ ∃ Nx : Hp → Prop, (∀ H', Nx H' → ∃ m', m' < m ∧ W (i + 1) m' H') ∧ ∀ x H', J.yld i H x H' → gt x (L2.wipe σ vs0) H' fun σ2 H2 => L2.wipe σ2 vs0 = L2.wipe σ vs0 ∧ TTm X.K cl xa W0 mt σ2 H2 fun b H3 =>
              if b = true then TEm X.K cl xa W0 me σ2 H3 fun u H4 => ∃ acc, H4 pp = some (.lst acc) ∧ acc.length < sizeLine ∧ Nx (upd H4 pp (.lst (acc ++ [u]))) else Nx H3) := fun {ws J G z pp} h wk hG s1 g1 hp => by
        rw [lcM_P] at h
        cases e2 : lcP (fun _ => True) g mt me (wipeR ρ vs0) ws [] S0 with
        | stuck => rw [e2] at h; exact h.elim
        | ex x S' => exact absurd e2 (lcP_noex _ _ _ _ _)
        | ok ys S' =>
          rw [e2] at h
          exact run_lc hsg wk hG s1 hp e2 fun z2 vacc s2 g2 k1 k2 k3 k4 k5 => hmk C Wx y z2 σ ρ S' ys vacc pp Q s2 (g1.trans g2) k1 k2 k3 k4 k5 h
      cases w with
      | xc => exact h.elim
      | lo k => exact h.elim
      | da d =>
        simp only at h
        split at h
        · rename_i ws hd
          unfold pairsD at hd
          split at hd
          · cases hd
            refine ⟨_, pi_items p hbase hline, q.now s e0 fun v z s1 g1 r1 => ?_⟩
            obtain ⟨a, vs, rfl, ⟨o, tl⟩, nl, l⟩ := r1
            exact ⟨a, o, _, rfl, s1.bs.fz _ _ tl, fun pp hp => fin h (wk_items (G := fun y S => Gr z y) nl fun y S b g => ⟨b.fz _ _ (g.f _ _ tl), RpL.xt g.f _ _ l⟩) (fun y S g p => g) s1 g1 hp⟩
          · cases hd
            refine ⟨_, pi_itemsT p hbase hline, q.now s e0 fun v z s1 g1 r1 => ?_⟩
            obtain ⟨a, vs, rfl, ⟨o, tl⟩, nl, l⟩ := r1
            exact ⟨a, o, _, rfl, s1.bs.fz _ _ tl, fun pp hp => fin h (wk_itemsT (G := fun y S => Gr z y) nl fun y S b g => ⟨b.fz _ _ (g.f _ _ tl), RpL.xt g.f _ _ l⟩) (fun y S g p => g) s1 g1 hp⟩
          · cases hd
        · exact h.elim
theorem qe_lcI (hmk : MkOk X.K cl xa mk) (hc : X.calm = true) (hN : X.N.Nodup) (hi : QE X cl xa Wx e mi) (ok : BlkOk X.N X.env.scope scope own) (hsg : SGw X.K cl (own.map (·.2)) gt g)
    (hg : ∀ (s : Shared) (H : Hp) (A : Addr) (c2 : List (Str × Addr)) (fp : List Addr), PG (X.blk s H scope (compEnvC scope c2 A X.env) fp) (.Tuple elts kk tpos) gt)
    (ht : ∀ (s : Shared) (H : Hp) (A : Addr) (c2 : List (Str × Addr)) (fp : List Addr), PTs (X.blk s H scope (compEnvC scope c2 A X.env) fp) ifs (TTm X.K cl xa W0 mt))
    (he : ∀ (s : Shared) (H : Hp) (A : Addr) (c2 : List (Str × Addr)) (fp : List Addr), QE (X.blk s H scope (compEnvC scope c2 A X.env) fp) cl xa W0 elt me)
    (hbase : attributeBase e "items" X.env (eval e X.env) = eval e X.env := by rfl) (hline : (apos.endLine == cpos.line) = true := by rfl)
    (hs : ∀ x, foldedSetIterable (.Call (.Attribute e "items" apos) [] [] cpos) X.env x = pure x := by intro _; rfl) :
    QE X cl xa Wx (.ListComp elt [⟨.Tuple elts kk tpos, .Call (.Attribute e "items" apos) [] [] cpos, ifs, 0⟩] scope pos) (mLcI mk mi (own.map (·.2)) g mt me) := by
  obtain ⟨t, p, q⟩ := hi
  refine ⟨_, pe_anyE, fun C y σ ρ S s Q h => ?_⟩
  obtain ⟨wi, hpi, hr⟩ := walk_lcI (elts := elts) (kk := kk) (tpos := tpos) (apos := apos) (cpos := cpos) hmk p q hsg s h hbase hline
  exact ⟨_, pe_lc (te := TEm X.K cl xa W0 me) hc hN hpi ok hg ht (fun s H A c2 fp => pe_m (he s H A c2 fp)) hs, hr⟩
theorem qs_setLcI {i : Nat} {y' : Str} {py spos : Pos} (hmk : MkOk X.K cl xa mk) (hc : X.calm = true) (hN : X.N.Nodup) (hy : X.N[i]? = some y') (hyl : X.env.scope.names.lookup y' = some .local)
    (hsw : swapsWith (.ListComp elt [⟨.Tuple elts kk tpos, .Call (.Attribute e "items" apos) [] [] cpos, ifs, 0⟩] scope pos) (some (.Name y' py)) spos.line X.env = pure true) (hi : QE X cl xa Wx e mi) (ok : BlkOk X.N X.env.scope scope own) (hsg : SGw X.K cl (own.map (·.2)) gt g)
    (hg : ∀ (s : Shared) (H : Hp) (A : Addr) (c2 : List (Str × Addr)) (fp : List Addr), PG (X.blk s H scope (compEnvC scope c2 A X.env) fp) (.Tuple elts kk tpos) gt)
    (ht : ∀ (s : Shared) (H : Hp) (A : Addr) (c2 : List (Str × Addr)) (fp : List Addr), PTs (X.blk s H scope (compEnvC scope c2 A X.env) fp) ifs (TTm X.K cl xa W0 mt))
    (he : ∀ (s : Shared) (H : Hp) (A : Addr) (c2 : List (Str × Addr)) (fp : List Addr), QE (X.blk s H scope (compEnvC scope c2 A X.env) fp) cl xa W0 elt me)
    (hbase : attributeBase e "items" X.env (eval e X.env) = eval e X.env := by rfl) (hline : (apos.endLine == cpos.line) = true := by rfl)
    (hs : ∀ x, foldedSetIterable (.Call (.Attribute e "items" apos) [] [] cpos) X.env x = pure x := by intro _; rfl) :
    QS X cl xa Wx (.Assign [.Name y' py] (.ListComp elt [⟨.Tuple elts kk tpos, .Call (.Attribute e "items" apos) [] [] cpos, ifs, 0⟩] scope pos) spos) (mSet i (mLcI mk mi (own.map (·.2)) g mt me)) := by
  obtain ⟨t, p, q⟩ := hi
  refine ⟨_, ps_anyS, fun C y σ ρ S s Z h => ?_⟩
  have h2 : Post X.K cl xa C Wx y σ ρ (mLcI mk mi (own.map (·.2)) g mt me ρ S) (OkE X.K cl xa C y σ ρ fun v H => (gName i) v σ H fun σ' H' => Z.nx σ' H') := PostS.go h fun w S1 h1 v z s1 g1 r1 => h1 y (Gr.refl _) _ z (s1.set i r1) g1
  obtain ⟨wi, hpi, hr⟩ := walk_lcI (elts := elts) (kk := kk) (tpos := tpos) (apos := apos) (cpos := cpos) hmk p q hsg s h2 hbase hline
  exact ⟨_, ps_setLc (te := TEm X.K cl xa W0 me) hc hN hy hyl hsw hpi ok hg ht (fun s H A c2 fp => pe_m (he s H A c2 fp)) hs, hr⟩
end
end Ng
namespace Ng
open PySem PySem.Spec PyProof.Rows L2
/-! ### plain functions called by lists that are cells: what comes out holds no list -/
mutual
def noL : D → Bool
  | .non => true
  | .bl _ => true
  | .int _ => true
  | .str _ => true
  | .tup ds => noLs ds
  | .wt ds => noLs ds
  | .lst _ => false
  | .scr _ => false
  | .dk _ ds => noLs ds
  | .dt _ ds => noLs ds
  | .obj _ _ ds => noLs ds
def noLs : List D → Bool
  | [] => true
  | d :: ds => noL d && noLs ds
end
def noLW : W → Bool
  | .da d => noL d
  | _ => false
def isLT : Option HO → Prop
  | some (.lst _) => True
  | some (.tup _) => True
  | _ => False
open Classical in
/-- list and tuple cells as if they were frozen -/
noncomputable def Y.fzLT (y : Y) : Hp := fun b => if b ∈ y.m ∧ y.F b = none ∧ isLT (y.H b) then y.H b else y.F b
open Classical in
/-- .. and the lists taken out again -/
noncomputable def Y.unL (y : Y) (F' : Hp) : Hp := fun b => if b ∈ y.m ∧ y.F b = none ∧ ∃ vs, y.H b = some (.lst vs) then none else F' b
theorem Y.fzLT_ex (y : Y) : Ex y.F y.fzLT := fun b o e => by
  unfold Y.fzLT
  rw [if_neg (by rintro ⟨_, h, _⟩; rw [e] at h; cases h)]
  exact e
theorem Y.fzLT_h {y : Y} (x : Ex y.F y.H) : Ex y.fzLT y.H := fun b o e => by
  unfold Y.fzLT at e
  split at e
  · exact e
  · exact x b o e
section
variable {K : PySem.W.Frag} {cl : Str → Option Addr} {y : Y} {S : Sto}
theorem fzLT_at (b : Bs K cl y S) {n : Nat} {c : Cell} {a : Addr} (hc : S[n]? = some c) (hd : c ≠ .dead) (ea : y.m[n]? = some a) (hl : isLT (y.H a)) : y.fzLT a = y.H a := by
  unfold Y.fzLT
  cases h : y.F a with
  | none => rw [if_pos ⟨List.mem_of_getElem? ea, rfl, hl⟩]
  | some o => rw [if_neg (fun z => nomatch z.2.1), b.fz a o h]
theorem valLT_ok (b : Bs K cl y S) {w : W} {v : V} {d : D} (r : RW K cl y w v) (h : valW S w = some d) : Rp K cl y.fzLT d v := by
  unfold valW at h
  split at h
  · cases h; exact Rp.xt y.fzLT_ex _ _ r
  · obtain ⟨a, e, rfl⟩ := r
    split at h
    · rename_i ws hc
      obtain ⟨_, vs, e2, l⟩ := b.at hc (by intro z; cases z) e
      obtain ⟨ds, q, rfl⟩ := Option.map_eq_some_iff.mp h
      exact ⟨a, vs, rfl, by rw [fzLT_at b hc (by intro z; cases z) e (by rw [e2]; trivial)]; exact e2, RpL.xt y.fzLT_ex _ _ (dats_ok l q)⟩
    · rename_i ws hc
      obtain ⟨_, vs, e2, l⟩ := b.at hc (by intro z; cases z) e
      obtain ⟨ds, q, rfl⟩ := Option.map_eq_some_iff.mp h
      exact ⟨a, vs, rfl, by rw [fzLT_at b hc (by intro z; cases z) e (by rw [e2]; trivial)]; exact e2, RpL.xt y.fzLT_ex _ _ (dats_ok l q)⟩
    · cases h
  · cases h
theorem valsLT_ok (b : Bs K cl y S) : ∀ {ws : List W} {vs : List V} {ds : List D}, RWL K cl y ws vs → valsW S ws = some ds → RpL K cl y.fzLT ds vs
  | _, _, ds, .nil, h => by cases h; exact rfl
  | w :: ws, _, ds, .cons r t, h => by
    simp only [valsW] at h
    split at h
    · rename_i d ds' e1 e2
      cases h
      exact ⟨_, _, rfl, valLT_ok b r e1, valsLT_ok b t e2⟩
    · cases h
variable {F' H' : Hp}
theorem unL_al (x : Ex y.F y.H) (a : Al y.fzLT y.H F' H') : Al y.F y.H (y.unL F') H' :=
  ⟨fun b o e => by
    unfold Y.unL
    rw [if_neg (by rintro ⟨_, h, _⟩; rw [e] at h; cases h)]
    exact a.f b o (y.fzLT_ex b o e), a.h, fun b o e => by
    unfold Y.unL at e
    split at e
    · cases e
    · exact a.x b o e, fun b o e => by
    unfold Y.unL at e
    split at e
    · cases e
    · rename_i hn
      rcases a.n b o e with z | z | z
      · unfold Y.fzLT at z
        split at z
        · rename_i hc
          right; right
          have hl := hc.2.2
          rw [z] at hl
          cases o with
          | tup xs => exact ⟨xs, rfl⟩
          | lst xs => exact absurd ⟨hc.1, hc.2.1, xs, z⟩ hn
          | _ => exact hl.elim
        · exact .inl z
      · exact .inr (.inl z)
      · exact .inr (.inr z)⟩
theorem unL_keep (a : Al y.fzLT y.H F' H') {b : Addr} {o : HO} (e : F' b = some o) (hn : ∀ xs, o ≠ .lst xs) : y.unL F' b = some o := by
  unfold Y.unL
  rw [if_neg]
  · exact e
  · rintro ⟨_, _, vs, h⟩
    have h1 := a.h b _ h
    rw [a.x b o e] at h1
    cases h1
    exact hn vs rfl
mutual
theorem unL_rp (a : Al y.fzLT y.H F' H') : ∀ (d : D) (v : V), noL d = true → Rp K cl F' d v → Rp K cl (y.unL F') d v
  | .non, v, _, h => h
  | .bl b, v, _, h => h
  | .int i, v, _, h => h
  | .str s, v, _, h => h
  | .tup ds, v, n, h => by
    obtain ⟨p, vs, e, q, r⟩ := h
    exact ⟨p, vs, e, unL_keep a q (by intro xs z; cases z), unL_rpl a ds vs (by simpa [noL] using n) r⟩
  | .wt ds, v, n, h => by
    obtain ⟨p, vs, e, q, r⟩ := h
    refine ⟨p, vs, e, ?_, unL_rpl a ds vs (by simpa [noL] using n) r⟩
    refine q.imp (fun q => ?_) id
    rcases q with q | ⟨u, q⟩
    · exact .inl (unL_keep a q (by intro xs z; cases z))
    · exact .inr ⟨u, unL_keep a q (by intro xs z; cases z)⟩
  | .lst ds, v, n, h => by simp [noL] at n
  | .scr ds, v, n, h => by simp [noL] at n
  | .dk ks ds, v, n, h => by
    obtain ⟨p, vs, e, ⟨o, q⟩, l, r⟩ := h
    exact ⟨p, vs, e, ⟨o, unL_keep a q (by intro xs z; cases z)⟩, l, unL_rpl a ds vs (by simpa [noL] using n) r⟩
  | .dt ks ds, v, n, h => by
    obtain ⟨p, vs, e, ⟨o, q⟩, l, r⟩ := h
    exact ⟨p, vs, e, ⟨o, unL_keep a q (by intro xs z; cases z)⟩, l, unL_rpl a ds vs (by simpa [noL] using n) r⟩
  | .obj c fs ds, v, n, h => by
    obtain ⟨p, C, dx, vs, e, q, l, n2, r⟩ := h
    exact ⟨p, C, dx, vs, e, q, unL_keep a l (by intro xs z; cases z), n2, unL_rpl a ds vs (by simpa [noL] using n) r⟩
theorem unL_rpl (a : Al y.fzLT y.H F' H') : ∀ (ds : List D) (vs : List V), noLs ds = true → RpL K cl F' ds vs → RpL K cl (y.unL F') ds vs
  | [], vs, _, h => h
  | d :: ds, vs, n, h => by
    obtain ⟨v, r, e, q, t⟩ := h
    have n' : noL d = true ∧ noLs ds = true := by simpa [noLs] using n
    exact ⟨v, r, e, unL_rp a d v n'.1 q, unL_rpl a ds r n'.2 t⟩
end
theorem unL_rwl {m : List Addr} (a : Al y.fzLT y.H F' H') : ∀ {ws : List W} {vs : List V}, ws.all noLW = true → RWL K cl ⟨F', H', []⟩ ws vs → RWL K cl ⟨y.unL F', H', m⟩ ws vs
  | _, _, _, .nil => .nil
  | w :: ws, _, n, .cons r t => by
    simp only [List.all_cons, Bool.and_eq_true] at n
    refine .cons ?_ (unL_rwl a n.2 t)
    cases w with
    | da d => exact unL_rp a d _ n.1 r
    | lo k => cases n.1
    | xc => cases n.1
end
def reN (r : Re D) (S : Sto) : Rs W := match r with
  | .ok d => if noL d = true then .ok (.da d) S else .stuck
  | .ex x => if x.ws.all noLW = true then .ex x S else .stuck
  | .stuck => .stuck
def callN (p : List D → Re D) (ws : List W) (S : Sto) : Rs W := match dats ws with
  | some ds => reK (p ds) S
  | none => match valsW S ws with
    | some ds => reN (p ds) S
    | none => .stuck
def mCallN (p : List D → Re D) (mr : MA) : ME := mCall (callN p) mr
section
variable {X : Cx} {cl : Str → Option Addr} {xa : Option (Nat × Addr)} {Wx : WX}
theorem useN {K : PySem.W.Frag} {C : Cn} {y : Y} {σ : L2.St} {ρ : Rho} {S : Sto} {ws : List W} {vs : List V} {p : List D → Re D} {Q : VK} (s : Sim K cl xa C y σ ρ S) (r : RWL K cl y ws vs) (h : Post K cl xa C Wx y σ ρ (callN p ws S) (OkE K cl xa C y σ ρ Q)) : SpP K cl p vs y.H Q (WE Wx σ) := by
  unfold callN at h
  split at h
  · rename_i ds hd
    refine ⟨y.F, ds, s.bs.fz, dats_ok r hd, ?_⟩
    cases e : p ds with
    | ok d => rw [e] at h; exact fun v F' H' al rd => h v _ (s.al al) al.gr rd
    | ex x => rw [e] at h; exact fun cls dd F' H' al xr => h cls dd _ (s.al al) al.gr (XR.grow (y := ⟨F', H', []⟩) ⟨Ex.refl _, List.nil_prefix⟩ xr)
    | stuck => rw [e] at h; exact h
  · split at h
    · rename_i ds hd
      refine ⟨y.fzLT, ds, y.fzLT_h s.bs.fz, valsLT_ok s.bs r hd, ?_⟩
      cases e : p ds with
      | ok d =>
        rw [e] at h
        simp only [reN] at h
        split at h
        · rename_i hf
          intro v F' H' al rd
          have al2 := unL_al s.bs.fz al
          exact h v _ (s.al al2) al2.gr (unL_rp al d v hf rd)
        · exact h.elim
      | ex x =>
        rw [e] at h
        simp only [reN] at h
        split at h
        · rename_i hf
          intro cls dd F' H' al xr
          have al2 := unL_al s.bs.fz al
          obtain ⟨C', h1, h2, h3⟩ := xr
          refine h cls dd _ (s.al al2) al2.gr ⟨C', h1, h2, h3.imp id ?_⟩
          rintro ⟨h4, d, vs, h5, h6, h7, h8⟩
          exact ⟨h4, d, vs, h5, unL_keep al h6 (by intro xs z; cases z), h7, unL_rwl al hf h8⟩
        · exact h.elim
      | stuck => rw [e] at h; exact h
    · exact h.elim
variable {CX : CXT} {k : Nat} {f : Addr} {fd : FuncData} {ps : List Str} {x : Str} {pp pos : Pos} {e : Expr} {es : List Expr} {mr : MA} {p : List D → Re D} {pS : List W → Sto → Rs W}
theorem qe_callN (G : FnOk X.prog X.w X.K X.mg X.base CX k f fd ps (SpP X.K cl p)) (hr : Room k X.A) (hg : Gl X x) (hm : X.mg x = some (.ref f)) (hk : PySem.W.keepIn X.K (.ref f) = true) (hb : Binds X.K fd ps []) (px : ∀ σ, PassesAt CX X σ (WE Wx σ))
    (ha : QA X cl xa Wx (e :: es) mr) (hdb : (x == ("__debug__" : Str)) = false := by decide) (he : starEach (e :: es) X.env = (false, eval e X.env) :: starEach es X.env := by rfl) (hpl : (backTo pos (starEach es X.env)).any (·.1) = false := by rfl) :
    QE X cl xa Wx (.Call (.Name x pp) (e :: es) [] pos) (mCallN p mr) := by
  obtain ⟨t, pa, q⟩ := ha
  refine ⟨_, pe_callS G hr hg hm hk hb px pa hdb he hpl, fun C y σ ρ S s Q h => ?_⟩
  refine q C y σ ρ S s _ (Post.go h fun ws S1 h1 vs z s1 g1 r1 => ?_)
  exact useN s1 r1 (Post.re (h1 z g1) g1)
end

/-! ### classes -/
structure ClsAt (K : PySem.W.Frag) (mg : Str → Option Value) (cl : Str → Option Addr) (c : Str) (C : Addr) : Prop where
  at_ : cl c = some C
  mgd : mg c = some (.ref C)
  cls : Cls K C
/-- a method of a class of the text's top -/
structure MethAt (K : PySem.W.Frag) (m qual : Str) (st : Stmt) (ps : List Str) (C : Addr) (f : Addr) (fd : FuncData) : Prop where
  fn : Fun K m qual st f fd
  mt : Meth K C m f
  bd : Binds K fd ps []
/-- the classes of which f is a field -/
def FldOk (K : PySem.W.Frag) (cl : Str → Option Addr) (f : Str) (cs : List Str) : Prop := ∀ c ∈ cs, ∀ C, cl c = some C → Cls K C ∧ NoAttr K C f
theorem fldOk_nil {K : PySem.W.Frag} {cl : Str → Option Addr} {f : Str} : FldOk K cl f [] := fun c h => by cases h
theorem fldOk_cons {K : PySem.W.Frag} {cl : Str → Option Addr} {f c : Str} {cs : List Str} {C : Addr} (h : cl c = some C) (hc : Cls K C) (hn : NoAttr K C f) (r : FldOk K cl f cs) : FldOk K cl f (c :: cs) := fun x hx D hD => by
  rcases List.mem_cons.mp hx with rfl | hx
  · rw [h] at hD; cases hD; exact ⟨hc, hn⟩
  · exact r x hx D hD
theorem lookup_look {K : PySem.W.Frag} {cl : Str → Option Addr} {y : Y} {f : Str} : ∀ {fws : List (Str × W)} {fvs : List (Str × V)}, RWP K cl y fws fvs → (∀ w, look fws f = some w → ∃ v, fvs.lookup f = some v ∧ RW K cl y w v) ∧ (look fws f = none → fvs.lookup f = none)
  | _, _, .nil => ⟨fun w e => (by cases e), fun _ => rfl⟩
  | (j, w) :: fws, (j', v) :: fvs, .cons ⟨e, r⟩ t => by
    cases (show j = j' from e)
    simp only [look, List.lookup_cons]
    by_cases h : j = f
    · subst h
      rw [if_pos rfl, beq_self_eq_true]
      refine ⟨fun u e => ?_, fun e => by cases e⟩
      cases e
      exact ⟨v, rfl, r⟩
    · have : (f == j) = false := by simp; exact fun z => h z.symm
      rw [if_neg h, this]
      exact lookup_look t
/-- an instance: its class and its fields -/
def insW (S : Sto) : W → Option (Str × List (Str × W))
  | .da (.obj c fs ds) => some (c, fs.zip (ds.map .da))
  | .lo n => match S[n]? with
    | some (.ins c fws) => some (c, fws)
    | _ => none
  | _ => none
theorem insW_ok {K : PySem.W.Frag} {cl : Str → Option Addr} {y : Y} {S : Sto} (b : Bs K cl y S) {w : W} {v : V} {c : Str} {fws : List (Str × W)} (r : RW K cl y w v) (h : insW S w = some (c, fws)) : ∃ a C dx fvs, v = .ref a ∧ cl c = some C ∧ y.H a = some (.ins C dx fvs) ∧ RWP K cl y fws fvs := by
  unfold insW at h
  split at h
  · cases h
    obtain ⟨a, C, dx, vs, e, q, l, n, t⟩ := r
    exact ⟨a, C, dx, _, e, q, b.fz _ _ l, rwp_of (rwl_da t) n⟩
  · obtain ⟨a, e, rfl⟩ := r
    split at h
    · rename_i hc
      cases h
      obtain ⟨_, C, dx, fvs, k, e2, l⟩ := b.at hc (by intro z; cases z) e
      exact ⟨a, C, dx, fvs, rfl, k, e2, l⟩
    · cases h
  · cases h
def fldW (cs : List Str) (f : Str) (w : W) (S : Sto) : Option W := match insW S w with
  | some (c, fws) => if c ∈ cs then look fws f else none
  | none => none
def mFld (cs : List Str) (f : Str) (me : ME) : ME := mUn (vl1 (fldW cs f)) me
section
variable {X : Cx} {cl : Str → Option Addr} {xa : Option (Nat × Addr)} {Wx : WX} {pos pos' apos cpos : Pos} {e o value : Expr} {es : List Expr} {me mo mv : ME} {mr : MA} {f : Str} {cs : List Str}
theorem qe_fld (hf : FldOk X.K cl f cs) (he : QE X cl xa Wx e me) (hb : attributeBase e f X.env (eval e X.env) = eval e X.env := by rfl) : QE X cl xa Wx (.Attribute e f pos) (mFld cs f me) := by
  obtain ⟨t, p, q⟩ := he
  refine ⟨_, pe_fld p hb, se_un (X := X) (r := fun x H Q => ∃ a C dx fs v, x = .ref a ∧ H a = some (.ins C dx fs) ∧ Cls X.K C ∧ NoAttr X.K C f ∧ fs.lookup f = some v ∧ Q v H) (V1.h ?_) q⟩
  intro y S b w v r u e Q g
  unfold fldW at e
  split at e
  · rename_i c fws hi
    split at e
    · rename_i hc
      obtain ⟨a, C, dx, fvs, rfl, h1, h2, h3⟩ := insW_ok b r hi
      obtain ⟨z, l1, l2⟩ := (lookup_look h3).1 u e
      obtain ⟨k1, k2⟩ := hf c hc C h1
      exact ⟨a, C, dx, fvs, z, rfl, h2, k1, k2, l1, gv_w b g l2⟩
    · cases e
  · cases e
/-- o.f = value -/
def putFW (f : Str) (w : W) : List (Str × W) → List (Str × W)
  | [] => [(f, w)]
  | (g, u) :: r => if g = f then (g, w) :: r else (g, u) :: putFW f w r
theorem putF_rwp {K : PySem.W.Frag} {y : Y} {w : W} {v : V} (rw' : RW K cl y w v) : ∀ {fws : List (Str × W)} {fvs : List (Str × V)}, RWP K cl y fws fvs → RWP K cl y (putFW f w fws) (putF f v fvs)
  | _, _, .nil => .cons ⟨rfl, rw'⟩ .nil
  | (j, u) :: fws, (j', z) :: fvs, .cons ⟨e, r⟩ t => by
    cases (show j = j' from e)
    unfold putFW putF
    by_cases h : j = f
    · subst h
      rw [if_pos rfl, if_pos rfl]
      exact .cons ⟨rfl, rw'⟩ t
    · rw [if_neg h, if_neg h]
      exact .cons ⟨rfl, r⟩ (putF_rwp rw' t)
noncomputable def setFW (cs : List Str) (f : Str) (o w : W) (S : Sto) : Option Sto := match o with
  | .lo n => match S[n]? with
    | some (.ins c fws) => ifc (c ∈ cs ∧ fws.length < 1000) (some (S.set n (.ins c (putFW f w fws)))) none
    | _ => none
  | _ => none
noncomputable def mSetF (cs : List Str) (f : Str) (mo mv : ME) : MS := fun ρ S => (mv ρ S).out ρ fun w S => (mo ρ S).out ρ fun o S => match setFW cs f o w S with
  | some S' => .nx ρ S'
  | none => .stuck
theorem qs_fld (hf : FldOk X.K cl f cs) (ho : QE X cl xa Wx o mo) (hv : QE X cl xa Wx value mv) (hs : swapsWith value (some (.Attribute o f pos')) pos.line X.env = pure false := by rfl) : QS X cl xa Wx (.Assign [.Attribute o f pos'] value pos) (mSetF cs f mo mv) := by
  obtain ⟨t, p, q⟩ := hv
  obtain ⟨t2, p2, q2⟩ := ho
  refine ⟨_, ps_fld p2 p hs, fun C y σ ρ S s Z h => ?_⟩
  refine q C y σ ρ S s _ (PostS.go h fun w S1 h1 v z s1 g1 r1 => ?_)
  refine q2 C z σ ρ S1 s1 _ (PostS.go (h1 z g1) fun w2 S2 h2 v2 z2 s2 g2 r2 => ?_)
  have h4 := h2 z2 g2
  split at h4
  · rename_i S' hS
    unfold setFW at hS
    split at hS
    · rename_i n
      obtain ⟨a, ea, rfl⟩ := r2
      split at hS
      · rename_i c fws hc
        obtain ⟨hz, e⟩ := ifc_some hS
        cases e
        obtain ⟨_, CC, dx, fvs, k, hH, l⟩ := s2.bs.at hc (by intro z; cases z) ea
        obtain ⟨k1, k2⟩ := hf c hz.1 CC k
        have g : Gr z2 (z2.up a (.ins CC dx (putF f v fvs))) := ⟨Ex.refl _, List.prefix_refl _⟩
        refine ⟨a, CC, dx, fvs, rfl, hH, k1, k2, by rw [← Paired.length l]; exact hz.2, ?_⟩
        exact h4 σ _ (s2.upCell hc (by intro z; cases z) ea ⟨CC, dx, _, k, upd_same, RWP.grow g (putF_rwp (r1.grow g2) l)⟩) g
      · cases hS
    · cases hS
  · exact h4.elim
end
/-! methods and makers, with what an error may do at the slots -/
section
variable {X : Cx} {CX : CXT} {k : Nat} {f C : Addr} {fd : FuncData} {ps : List Str} {sp : Sp} {E : L2.St → XK} {x m : Str} {p pos apos : Pos} {e o : Expr} {es : List Expr} {ta : TE} {t : TA}
def tMethS (C : Addr) (m : Str) (sp : Sp) (E : L2.St → XK) (ta : TE) (t : TA) : TE := fun σ H Q => ta σ H fun x H1 => ∃ a dx fs, x = .ref a ∧ H1 a = some (.ins C dx fs) ∧ fs.lookup m = none ∧ t σ H1 fun vs H2 => sp (x :: vs) H2 Q (E σ)
theorem pe_methX {pl : Sem Bool} (he : PE X o ta) (c : Cls X.K C) (hm : Meth X.K C m f) (F : FnOk X.prog X.w X.K X.mg X.base CX k f fd ps sp) (hr : Room k X.A) (hb : Binds X.K fd ps []) (hx : ∀ σ, PassesAt CX X σ (E σ)) (ha : PA X (e :: es) t)
    (hst : starEach (e :: es) X.env = (false, eval e X.env) :: starEach es X.env := by rfl) (hpl : (backTo pos (starEach es X.env)).any (·.1) = false := by rfl)
    (ht : eval (.Call (.Attribute o m apos) (e :: es) [] pos) X.env = (do
      let ov ← eval o X.env
      standAt apos.atName
      let (f, first) ← holding [ov] (getMethod ov m pl)
      callWith pos f first (backTo pos (starEach (e :: es) X.env)) (backToKw pos (keywordEach [] X.env))) := by rfl) :
    PE X (.Call (.Attribute o m apos) (e :: es) [] pos) (tMethS C m sp E ta t) := by
  refine ⟨fun pins s σ H Q I h => ?_⟩
  refine PySem.W.methodCall_KW (pl := pl) (thn (he.run pins s σ H _ I h) fun u s1 ⟨x, H1, I1, rx, a, dx, fs, ex, ea, l, q⟩ => ?_) ht
  subst ex
  obtain rfl : u = Value.ref a := rx
  refine getmeth_ok I1 ea c hm l ?_
  refine PySem.W.callWith_K (first := [.ref a]) (h₀ := X.base) I.ok.mod.kin hm.kp (thn (ha.run pos pins s1 σ H1 _ I1 q) fun us s2 ⟨vs, H2, I2, r, q2⟩ => ⟨I2.kIn, ?_⟩) hst hpl
  exact run_fnS (us := .ref a :: us) (vs := .ref a :: vs) F hr hb (hx σ) I2 (.cons rfl r) q2
theorem pe_methX0 {pl : Sem Bool} (he : PE X o ta) (c : Cls X.K C) (hm : Meth X.K C m f) (F : FnOk X.prog X.w X.K X.mg X.base CX k f fd ps sp) (hr : Room k X.A) (hb : Binds X.K fd ps []) (hx : ∀ σ, PassesAt CX X σ (E σ))
    (ht : eval (.Call (.Attribute o m apos) [] [] pos) X.env = (do
      let ov ← eval o X.env
      standAt apos.atName
      let (f, first) ← holding [ov] (getMethod ov m pl)
      callWith pos f first (backTo pos (starEach [] X.env)) (backToKw pos (keywordEach [] X.env))) := by rfl) :
    PE X (.Call (.Attribute o m apos) [] [] pos) (tMethS C m sp E ta tNil) := by
  refine ⟨fun pins s σ H Q I h => ?_⟩
  refine PySem.W.methodCall_KW (pl := pl) (thn (he.run pins s σ H _ I h) fun u s1 ⟨x, H1, I1, rx, a, dx, fs, ex, ea, l, q⟩ => ?_) ht
  subst ex
  obtain rfl : u = Value.ref a := rx
  refine getmeth_ok I1 ea c hm l ?_
  exact PySem.W.callWith_K0 (first := [.ref a]) I1.kIn hm.kp (run_fnS (us := [.ref a]) (vs := [.ref a]) F hr hb (hx σ) I1 (.cons rfl .nil) q)
def tMakeS (C : Addr) (sp : Sp) (E : L2.St → XK) (t : TA) : TE := fun σ H Q => t σ H fun vs H1 => ∀ x dx, H1 x = none → H1 dx = none → dx ≠ x →
  sp (.ref x :: vs) (upd (upd H1 dx (.own x)) x (.ins C dx [])) (fun v H2 => v = .non ∧ Q (.ref x) H2) (E σ)
theorem run_makeX {pins : List (Addr × Obj)} {σ : L2.St} {H : Hp} {s : Shared} {Q : VK} {us : List Value} {vs : List V} {E : XK} (M : Mk X.K C f) (F : FnOk X.prog X.w X.K X.mg X.base CX k f fd ps sp) (hr : Room (k + 1) X.A) (hb : Binds X.K fd ps [])
    (hx : PassesAt CX X σ E) (I : Inv X pins σ H s) (r : Vals vs us)
    (h : ∀ x dx, H x = none → H dx = none → dx ≠ x → sp (.ref x :: vs) (upd (upd H dx (.own x)) x (.ins C dx [])) (fun v H2 => v = .non ∧ Q (.ref x) H2) E) :
    wpAny (model X.prog X.w) X.A (call (.ref C) us) (EP X pins σ Q) X.xe s := by
  have hq := h (s.heap.objs.size + 1) s.heap.objs.size (I.hok.fresh (Nat.le_succ _)) (I.hok.fresh (Nat.le_refl _)) (Nat.ne_of_lt (Nat.lt_succ_self _))
  have I2 := Inv.made (C := C) I
  have r2 : Vals (V.ref (s.heap.objs.size + 1) :: vs) (Value.ref (s.heap.objs.size + 1) :: us) := .cons rfl r
  have hl : (Value.ref (s.heap.objs.size + 1) :: us).length = ps.length := by
    have e := r2.length
    rw [F.len _ _ _ _ hq] at e
    exact e.symm
  have b := hb { s with heap := (s.heap.push PySem.W.emptyDict).push (PySem.W.instObj C s.heap.objs.size) } (Value.ref (s.heap.objs.size + 1) :: us) I2.kIn (by rw [List.append_nil]; exact hl)
  rw [List.append_nil] at b
  refine wpAny_call (make_map (f := f) I.kIn M.makes M.init (beq_iff_eq.mp M.fn) (codeAny_mono (F.run _ X.stack _ _ ⟨Value.ref (s.heap.objs.size + 1) :: us, []⟩ (Value.ref (s.heap.objs.size + 1) :: us) _ _ E (hr.make C us [])
    (I2.env0.make C us []) b r2 hq) fun r s' hq' => ?_))
  cases r with
  | error e => exact hx pins _ _ e s' I2 hq'
  | ok fl =>
    cases fl with
    | ret u =>
      obtain ⟨v, H', I3, rv, ev, q3⟩ := I2.after hq'
      subst ev
      exact ⟨rv, ⟨V.ref (s.heap.objs.size + 1), H', I3, rfl, q3⟩⟩
    | next => exact False.elim hq'
    | brk => exact False.elim hq'
    | cont => exact False.elim hq'
theorem pe_makeX (M : Mk X.K C f) (F : FnOk X.prog X.w X.K X.mg X.base CX k f fd ps sp) (hr : Room (k + 1) X.A) (hg : Gl X x) (hm : X.mg x = some (.ref C)) (hb : Binds X.K fd ps []) (hx : ∀ σ, PassesAt CX X σ (E σ))
    (ha : PA X (e :: es) t) (hdb : (x == ("__debug__" : Str)) = false := by decide) (he : starEach (e :: es) X.env = (false, eval e X.env) :: starEach es X.env := by rfl) (hpl : (backTo pos (starEach es X.env)).any (·.1) = false := by rfl) :
    PE X (.Call (.Name x p) (e :: es) [] pos) (tMakeS C sp E t) := by
  refine ⟨fun pins s σ H Q I h => ?_⟩
  refine wpAny_Call_Name_kw (ld_glob I hg hm ?_ hdb)
  refine PySem.W.callWith_K (h₀ := X.base) I.ok.mod.kin M.kp (thn (ha.run pos pins s σ H _ I h) fun us s1 ⟨vs, H1, I1, r, q⟩ => ⟨I1.kIn, ?_⟩) he hpl
  exact run_makeX M F hr hb (hx σ) I1 r q
theorem pe_makeX0 (M : Mk X.K C f) (F : FnOk X.prog X.w X.K X.mg X.base CX k f fd ps sp) (hr : Room (k + 1) X.A) (hg : Gl X x) (hm : X.mg x = some (.ref C)) (hb : Binds X.K fd ps []) (hx : ∀ σ, PassesAt CX X σ (E σ))
    (hdb : (x == ("__debug__" : Str)) = false := by decide) : PE X (.Call (.Name x p) [] [] pos) (tMakeS C sp E tNil) := by
  refine ⟨fun pins s σ H Q I h => ?_⟩
  refine wpAny_Call_Name_kw (ld_glob I hg hm ?_ hdb)
  exact PySem.W.callWith_K0 I.kIn M.kp (run_makeX (us := []) M F hr hb (hx σ) I .nil h)
end
/-! a thing made and frozen: a plain function -/
noncomputable def makeP (c : Str) (q : List W → Sto → Rs W) (ds : List D) : Re D := match q (.lo 0 :: ds.map .da) [.ins c []] with
  | .ok (.da .non) S => match datW 5 S (.lo 0) with
    | some (d, _) => .ok d
    | none => .stuck
  | .ex x _ => ifc (x.ws.all isDa = true) (.ex x) .stuck
  | _ => .stuck
theorem upd2_ex {H : Hp} {x dx : Addr} {o o' : HO} (h1 : H x = none) (h2 : H dx = none) : Ex H (upd (upd H dx o) x o') := fun b u e => by
  rw [upd_ne (ne_of_none e h1), upd_ne (ne_of_none e h2)]
  exact e
theorem makeP_ok {K : PySem.W.Frag} {cl : Str → Option Addr} {c : Str} {C : Addr} (hc : cl c = some C) {q : List W → Sto → Rs W} {vs : List V} {H : Hp} {Q : VK} {E : XK} (h : SpP K cl (makeP c q) vs H Q E) {x dx : Addr} (h1 : H x = none) (h2 : H dx = none) (hne : dx ≠ x) :
    SpS K cl q (.ref x :: vs) (upd (upd H dx (.own x)) x (.ins C dx [])) (fun v H2 => v = .non ∧ Lks (Q (.ref x)) H2) E := by
  obtain ⟨F, ds, hx, hr, hp⟩ := h
  have ex := upd2_ex (o := .own x) (o' := .ins C dx []) h1 h2
  have fx : F x = none := hx.no h1
  have b : Bs K cl ⟨F, upd (upd H dx (.own x)) x (.ins C dx []), [x]⟩ [.ins c []] := by
    refine ⟨hx.trans ex, rfl, by simp, fun a ha => ?_, fun n cc e hd => ?_⟩
    · simp at ha; subst ha; show upd _ _ _ _ ≠ none; rw [upd_same]; simp
    · cases n with
      | zero => simp at e; subst e; exact ⟨x, rfl, .inl fx, C, dx, [], hc, upd_same, .nil⟩
      | succ n => simp at e
  refine ⟨_, _, .lo 0 :: ds.map .da, rfl, b, .cons ⟨x, rfl, rfl⟩ (rwl_da hr), ?_⟩
  have al : ∀ z : Y, Ex z.F z.H → Fm (Y.cn ⟨F, upd (upd H dx (.own x)) x (.ins C dx []), [x]⟩) z → Al F H z.F z.H := fun z fz f => by
    refine ⟨f.hf, fun b o e => f.keep b o (ex b o e) (by simp [Y.cn]; exact fun z => by rw [z, h1] at e; cases e), fz, fun b o e => ?_⟩
    rcases f.newF b o e with t | t | t | t
    · exact .inl t
    · right; left
      cases q : H b with
      | none => rfl
      | some u => rw [show (Y.cn ⟨F, upd (upd H dx (.own x)) x (.ins C dx []), [x]⟩).H0 b = some u from ex b u q] at t; cases t
    · simp [Y.cn] at t; subst t; exact .inr (.inl h1)
    · exact .inr (.inr t)
  unfold makeP at hp
  cases e : q (.lo 0 :: ds.map .da) [.ins c []] with
  | stuck => rw [e] at hp; exact hp.elim
  | ex xx S =>
    rw [e] at hp
    simp only at hp
    intro cls dd z bz fz xr
    by_cases ha : xx.ws.all isDa = true
    · rw [ifc_pos ha] at hp
      exact hp cls dd z.F z.H (al z bz.fz fz) (xr_cut ha xr)
    · rw [ifc_neg ha] at hp
      exact hp.elim
  | ok w S =>
    rw [e] at hp
    intro v z bz fz rz
    cases w with
    | xc => exact rz.elim
    | lo k => exact hp.elim
    | da d =>
      cases d with
      | non =>
        refine ⟨rz, ?_⟩
        simp only at hp
        cases e2 : datW 5 S (.lo 0) with
        | none => rw [e2] at hp; exact hp.elim
        | some dS =>
          obtain ⟨d, S2⟩ := dS
          rw [e2] at hp
          have sim : Sim K cl none z.cn z ([] : L2.St) ([] : Rho) S := bz.rebase rfl (fun i w e => by simp at e)
          have r0 : RW K cl z (.lo 0) (.ref x) := ⟨x, pre_get fz.pre rfl, rfl⟩
          refine datW_ok 5 z S (.lo 0) (.ref x) d S2 sim r0 e2 _ fun z2 s2 g2 r2 => .now ?_
          exact hp (.ref x) z2.F z2.H (al z2 s2.bs.fz (fz.trans s2.fm)) r2
      | _ => exact hp.elim
section
variable {X : Cx} {cl : Str → Option Addr} {xa : Option (Nat × Addr)} {Wx : WX} {CX : CXT} {k : Nat} {f C : Addr} {fd : FuncData} {ps : List Str} {c x m : Str} {pp pos apos : Pos} {e o : Expr} {es : List Expr} {mr : MA} {mo : ME} {p : List D → Re D} {pS : List W → Sto → Rs W}
/-- C(..): made, frozen -/
theorem qe_makeP (A : ClsAt X.K X.mg cl c C) (M : Mk X.K C f) (G : FnOk X.prog X.w X.K X.mg X.base CX k f fd ps (SpS X.K cl pS)) (hr : Room (k + 1) X.A) (hg : Gl X c) (hb : Binds X.K fd ps []) (px : ∀ σ, PassesAt CX X σ (WE Wx σ))
    (ha : QA X cl xa Wx (e :: es) mr) (hdb : (c == ("__debug__" : Str)) = false := by decide) (he : starEach (e :: es) X.env = (false, eval e X.env) :: starEach es X.env := by rfl) (hpl : (backTo pos (starEach es X.env)).any (·.1) = false := by rfl) :
    QE X cl xa Wx (.Call (.Name c pp) (e :: es) [] pos) (mCallN (makeP c pS) mr) := by
  obtain ⟨t, pa, q⟩ := ha
  refine ⟨_, pe_lk (pe_makeX M G hr hg A.mgd hb px pa hdb he hpl), fun C y σ ρ S s Q h => ?_⟩
  refine q C y σ ρ S s _ (Post.go h fun ws S1 h1 vs z s1 g1 r1 => ?_)
  exact fun x dx k1 k2 k3 => makeP_ok A.at_ (useN s1 r1 (Post.re (h1 z g1) g1)) k1 k2 k3
/-- .. a cell -/
noncomputable def makeS (c : Str) (q : List W → Sto → Rs W) (ws : List W) (S : Sto) : Rs W := match q (.lo S.length :: ws) (S ++ [.ins c []]) with
  | .ok (.da .non) S' => .ok (.lo S.length) S'
  | .ex x S' => .ex x S'
  | _ => .stuck
theorem useMk {K : PySem.W.Frag} {C : Cn} {y : Y} {σ : L2.St} {ρ : Rho} {S : Sto} {ws : List W} {vs : List V} {q : List W → Sto → Rs W} {Q : VK} {CC : Addr} (hc : cl c = some CC) (s : Sim K cl xa C y σ ρ S) (r : RWL K cl y ws vs) (h : Post K cl xa C Wx y σ ρ (makeS c q ws S) (OkE K cl xa C y σ ρ Q))
    {x dx : Addr} (h1 : y.H x = none) (h2 : y.H dx = none) (hne : dx ≠ x) : SpS K cl q (.ref x :: vs) (upd (upd y.H dx (.own x)) x (.ins CC dx [])) (fun v H2 => v = .non ∧ Q (.ref x) H2) (WE Wx σ) := by
  have sd := s.other (o := .own x) (s.bs.fz.no h2) (fun z => s.bs.has dx z h2) (s.fm.dom dx h2)
  have gd : Gr y (y.up dx (.own x)) := ⟨Ex.refl _, List.prefix_refl _⟩
  have hx' : (y.up dx (.own x)).H x = none := by show upd y.H dx (.own x) x = none; rw [upd_ne hne.symm]; exact h1
  have sn := sd.newCell (o := .ins CC dx []) (c := .ins c []) hx' ⟨CC, dx, [], hc, upd_same, .nil⟩
  have gn := gd.trans ((y.up dx (.own x)).gr_new x (.ins CC dx []))
  have hlen : ((y.up dx (.own x)).new x (.ins CC dx [])).m[S.length]? = some x := by
    show (y.m ++ [x])[S.length]? = some x
    rw [← s.bs.len]; simp
  refine ⟨(y.up dx (.own x)).new x (.ins CC dx []), S ++ [.ins c []], .lo S.length :: ws, rfl, sn.bs, .cons ⟨x, hlen, rfl⟩ (RWL.grow gn r), ?_⟩
  unfold makeS at h
  cases e : q (.lo S.length :: ws) (S ++ [.ins c []]) with
  | stuck => rw [e] at h; exact h.elim
  | ex xx S' =>
    rw [e] at h
    exact fun cls dd z bz fz xr => h cls dd z (sn.after bz fz) (gn.trans fz.gr) xr
  | ok w S' =>
    rw [e] at h
    intro v z bz fz rz
    cases w with
    | xc => exact rz.elim
    | lo k => exact h.elim
    | da d =>
      cases d with
      | non => exact ⟨rz, h (.ref x) z (sn.after bz fz) (gn.trans fz.gr) ⟨x, pre_get fz.pre hlen, rfl⟩⟩
      | _ => exact h.elim
theorem qe_makeS (A : ClsAt X.K X.mg cl c C) (M : Mk X.K C f) (G : FnOk X.prog X.w X.K X.mg X.base CX k f fd ps (SpS X.K cl pS)) (hr : Room (k + 1) X.A) (hg : Gl X c) (hb : Binds X.K fd ps []) (px : ∀ σ, PassesAt CX X σ (WE Wx σ))
    (ha : QA X cl xa Wx (e :: es) mr) (hdb : (c == ("__debug__" : Str)) = false := by decide) (he : starEach (e :: es) X.env = (false, eval e X.env) :: starEach es X.env := by rfl) (hpl : (backTo pos (starEach es X.env)).any (·.1) = false := by rfl) :
    QE X cl xa Wx (.Call (.Name c pp) (e :: es) [] pos) (mCall (makeS c pS) mr) := by
  obtain ⟨t, pa, q⟩ := ha
  refine ⟨_, pe_makeX M G hr hg A.mgd hb px pa hdb he hpl, fun C y σ ρ S s Q h => ?_⟩
  refine q C y σ ρ S s _ (Post.go h fun ws S1 h1 vs z s1 g1 r1 => ?_)
  exact fun x dx k1 k2 k3 => useMk A.at_ s1 r1 (Post.re (h1 z g1) g1) k1 k2 k3
theorem qe_makeS0 (A : ClsAt X.K X.mg cl c C) (M : Mk X.K C f) (G : FnOk X.prog X.w X.K X.mg X.base CX k f fd ps (SpS X.K cl pS)) (hr : Room (k + 1) X.A) (hg : Gl X c) (hb : Binds X.K fd ps []) (px : ∀ σ, PassesAt CX X σ (WE Wx σ))
    (hdb : (c == ("__debug__" : Str)) = false := by decide) : QE X cl xa Wx (.Call (.Name c pp) [] [] pos) (mCall (makeS c pS) mNil) :=
  ⟨_, pe_makeX0 M G hr hg A.mgd hb px hdb, fun C y σ ρ S s Q h => fun x dx k1 k2 k3 => useMk A.at_ s .nil h k1 k2 k3⟩
/-- o.m(..) of an instance of the class c -/
def mMeth (c m : Str) (F : List W → Sto → Rs W) (mo : ME) (mr : MA) : ME := fun ρ S => (mo ρ S).bind fun w S => match insW S w with
  | some (c', fws) => if c' = c ∧ look fws m = none then (mr ρ S).bind fun ws S => F (w :: ws) S else .stuck
  | none => .stuck
theorem se_meth {K : PySem.W.Frag} {ta : TE} {t : TA} {sp : Sp} {F : List W → Sto → Rs W} (hc : cl c = some C) (q : SE K cl xa Wx ta mo) (q2 : SA K cl xa Wx t mr)
    (hu : ∀ (C : Cn) (y : Y) (σ : L2.St) (ρ : Rho) (S : Sto) (ws : List W) (vs : List V) (Q : VK), Sim K cl xa C y σ ρ S → RWL K cl y ws vs → Post K cl xa C Wx y σ ρ (F ws S) (OkE K cl xa C y σ ρ Q) → sp vs y.H Q (WE Wx σ)) :
    SE K cl xa Wx (tMethS C m sp (WE Wx) ta t) (mMeth c m F mo mr) := by
  intro Cn' y σ ρ S s Q h
  refine q Cn' y σ ρ S s _ (Post.go h fun w S1 h1 v z s1 g1 r1 => ?_)
  have h2 := h1 z g1
  split at h2
  · rename_i c' fws hi
    split at h2
    · rename_i hcc
      obtain ⟨rfl, hl⟩ := hcc
      obtain ⟨a, CC, dx, fvs, rfl, k1, k2, k3⟩ := insW_ok s1.bs r1 hi
      rw [hc] at k1
      cases k1
      refine ⟨a, dx, fvs, rfl, k2, (lookup_look k3).2 hl, ?_⟩
      refine q2 Cn' z σ ρ S1 s1 _ (Post.go h2 fun ws S2 h3 vs z2 s2 g2 r2 => ?_)
      exact hu Cn' z2 σ ρ S2 (w :: ws) (.ref a :: vs) Q s2 (.cons (r1.grow g2) r2) (Post.re (h3 z2 g2) (g1.trans g2))
    · exact h2.elim
  · exact h2.elim
theorem qe_methP {pl : Sem Bool} (A : ClsAt X.K X.mg cl c C) (hm : Meth X.K C m f) (G : FnOk X.prog X.w X.K X.mg X.base CX k f fd ps (SpP X.K cl p)) (hr : Room k X.A) (hb : Binds X.K fd ps []) (px : ∀ σ, PassesAt CX X σ (WE Wx σ)) (ho : QE X cl xa Wx o mo) (ha : QA X cl xa Wx (e :: es) mr)
    (hst : starEach (e :: es) X.env = (false, eval e X.env) :: starEach es X.env := by rfl) (hpl : (backTo pos (starEach es X.env)).any (·.1) = false := by rfl)
    (ht : eval (.Call (.Attribute o m apos) (e :: es) [] pos) X.env = (do
      let ov ← eval o X.env
      standAt apos.atName
      let (f, first) ← holding [ov] (getMethod ov m pl)
      callWith pos f first (backTo pos (starEach (e :: es) X.env)) (backToKw pos (keywordEach [] X.env))) := by rfl) :
    QE X cl xa Wx (.Call (.Attribute o m apos) (e :: es) [] pos) (mMeth c m (callN p) mo mr) := by
  obtain ⟨t, pe, q⟩ := ho
  obtain ⟨t2, pa, q2⟩ := ha
  exact ⟨_, pe_methX (pl := pl) pe A.cls hm G hr hb px pa hst hpl ht, se_meth A.at_ q q2 fun C y σ ρ S ws vs Q s r h => useN s r h⟩
theorem qe_methP0 {pl : Sem Bool} (A : ClsAt X.K X.mg cl c C) (hm : Meth X.K C m f) (G : FnOk X.prog X.w X.K X.mg X.base CX k f fd ps (SpP X.K cl p)) (hr : Room k X.A) (hb : Binds X.K fd ps []) (px : ∀ σ, PassesAt CX X σ (WE Wx σ)) (ho : QE X cl xa Wx o mo)
    (ht : eval (.Call (.Attribute o m apos) [] [] pos) X.env = (do
      let ov ← eval o X.env
      standAt apos.atName
      let (f, first) ← holding [ov] (getMethod ov m pl)
      callWith pos f first (backTo pos (starEach [] X.env)) (backToKw pos (keywordEach [] X.env))) := by rfl) :
    QE X cl xa Wx (.Call (.Attribute o m apos) [] [] pos) (mMeth c m (callN p) mo mNil) := by
  obtain ⟨t, pe, q⟩ := ho
  exact ⟨_, pe_methX0 (pl := pl) pe A.cls hm G hr hb px ht, se_meth A.at_ q sa_nil fun C y σ ρ S ws vs Q s r h => useN s r h⟩
theorem qe_methS {pl : Sem Bool} (A : ClsAt X.K X.mg cl c C) (hm : Meth X.K C m f) (G : FnOk X.prog X.w X.K X.mg X.base CX k f fd ps (SpS X.K cl pS)) (hr : Room k X.A) (hb : Binds X.K fd ps []) (px : ∀ σ, PassesAt CX X σ (WE Wx σ)) (ho : QE X cl xa Wx o mo) (ha : QA X cl xa Wx (e :: es) mr)
    (hst : starEach (e :: es) X.env = (false, eval e X.env) :: starEach es X.env := by rfl) (hpl : (backTo pos (starEach es X.env)).any (·.1) = false := by rfl)
    (ht : eval (.Call (.Attribute o m apos) (e :: es) [] pos) X.env = (do
      let ov ← eval o X.env
      standAt apos.atName
      let (f, first) ← holding [ov] (getMethod ov m pl)
      callWith pos f first (backTo pos (starEach (e :: es) X.env)) (backToKw pos (keywordEach [] X.env))) := by rfl) :
    QE X cl xa Wx (.Call (.Attribute o m apos) (e :: es) [] pos) (mMeth c m pS mo mr) := by
  obtain ⟨t, pe, q⟩ := ho
  obtain ⟨t2, pa, q2⟩ := ha
  exact ⟨_, pe_methX (pl := pl) pe A.cls hm G hr hb px pa hst hpl ht, se_meth A.at_ q q2 fun C y σ ρ S ws vs Q s r h => useS s r h⟩
theorem qe_methS0 {pl : Sem Bool} (A : ClsAt X.K X.mg cl c C) (hm : Meth X.K C m f) (G : FnOk X.prog X.w X.K X.mg X.base CX k f fd ps (SpS X.K cl pS)) (hr : Room k X.A) (hb : Binds X.K fd ps []) (px : ∀ σ, PassesAt CX X σ (WE Wx σ)) (ho : QE X cl xa Wx o mo)
    (ht : eval (.Call (.Attribute o m apos) [] [] pos) X.env = (do
      let ov ← eval o X.env
      standAt apos.atName
      let (f, first) ← holding [ov] (getMethod ov m pl)
      callWith pos f first (backTo pos (starEach [] X.env)) (backToKw pos (keywordEach [] X.env))) := by rfl) :
    QE X cl xa Wx (.Call (.Attribute o m apos) [] [] pos) (mMeth c m pS mo mNil) := by
  obtain ⟨t, pe, q⟩ := ho
  exact ⟨_, pe_methX0 (pl := pl) pe A.cls hm G hr hb px ht, se_meth A.at_ q sa_nil fun C y σ ρ S ws vs Q s r h => useS s r h⟩
end
end Ng
namespace Ng
open PySem PySem.Spec PyProof.Rows L2
/-! ### defs that give a new list or dict of data -/
def daC : Cell → Bool
  | .lst ws => ws.all isDa
  | .dk kws => (kws.map (·.2)).all isDa
  | .dt kws => (kws.map (·.2)).all isDa
  | _ => false
noncomputable def newOf (q : List W → Sto → Rs W) (ds : List D) : Re Cell := match q (ds.map .da) [] with
  | .ok (.lo n) S => match S[n]? with
    | some c => if daC c = true then .ok c else .stuck
    | none => .stuck
  | .ex x _ => ifc (x.ws.all isDa = true) (.ex x) .stuck
  | _ => .stuck
def SpL (K : PySem.W.Frag) (cl : Str → Option Addr) (p : List D → Re Cell) : Sp := fun vs H Q E => ∃ F ds, Ex F H ∧ RpL K cl F ds vs ∧ match p ds with
  | .ok c => ∀ a F' H', Al F H F' H' → H a = none → F' a = none → daC c = true → CellR K cl ⟨F', H', []⟩ a c → Q (.ref a) H'
  | .ex x => ∀ cls dd F' H', Al F H F' H' → XR K cl ⟨F', H', []⟩ x cls dd → E cls dd H'
  | .stuck => False
section
variable {K : PySem.W.Frag} {cl : Str → Option Addr}
theorem rwp_da_cut {κ : Type} {z : Y} {m : List Addr} : ∀ {ws : List (κ × W)} {vs : List (κ × V)}, (ws.map (·.2)).all isDa = true → RWP K cl z ws vs → RWP K cl ⟨z.F, z.H, m⟩ ws vs
  | _, _, _, .nil => .nil
  | (k, w) :: ws, _, h, .cons r t => by
    simp only [List.map_cons, List.all_cons, Bool.and_eq_true] at h
    refine .cons ⟨r.1, ?_⟩ (rwp_da_cut h.2 t)
    cases w with
    | da d => exact r.2
    | lo n => cases h.1
    | xc => cases h.1
theorem cell_da_cut {z : Y} {m : List Addr} {a : Addr} : ∀ {c : Cell}, daC c = true → CellR K cl z a c → CellR K cl ⟨z.F, z.H, m⟩ a c
  | .lst ws, h, ⟨vs, e, r⟩ => ⟨vs, e, rwl_da_cut h r⟩
  | .dk ws, h, ⟨vs, e, r⟩ => ⟨vs, e, rwp_da_cut h r⟩
  | .dt ws, h, ⟨vs, e, r⟩ => ⟨vs, e, rwp_da_cut h r⟩
  | .tup _, h, _ => by cases h
  | .ins _ _, h, _ => by cases h
  | .dead, h, _ => by cases h
theorem daC_live {c : Cell} (h : daC c = true) : c ≠ .dead ∧ ∀ ws, c ≠ .tup ws := ⟨(by intro z; subst z; cases h), (by intro ws z; subst z; cases h)⟩
end
section
variable {P : Program} {w : World} {K : PySem.W.Frag} {mg : Str → Option Value} {base : Heap} {cl : Str → Option Addr}
theorem fnL {f : Addr} {fd : FuncData} {ps : List Str} {k : Nat} {p : List W → Sto → Rs W} (F : FnOk P w K mg base (L2.CX P w) k f fd ps (SpS K cl p)) : FnOk P w K mg base (L2.CX P w) k f fd ps (SpL K cl (newOf p)) := by
  refine FnOk.weak F fun vs H Q E h => ?_
  obtain ⟨G, ds, x, r, q⟩ := h
  refine ⟨⟨G, H, []⟩, [], ds.map .da, rfl, ⟨x, rfl, List.nodup_nil, (by intro a ha; cases ha), (by intro n c e; cases e)⟩, rwl_da r, ?_⟩
  unfold newOf at q
  cases e : p (ds.map .da) [] with
  | stuck => rw [e] at q; exact q.elim
  | ex y S =>
    rw [e] at q
    simp only at q
    intro cls dd z bz fz xr
    by_cases ha : y.ws.all isDa = true
    · rw [ifc_pos ha] at q
      exact q cls dd z.F z.H (fz.al0 bz.fz) (xr_cut ha xr)
    · rw [ifc_neg ha] at q
      exact q.elim
  | ok w S =>
    rw [e] at q
    cases w with
    | da d => exact q.elim
    | xc => exact fun v z bz fz rz => rz.elim
    | lo n =>
      simp only at q
      intro v z bz fz rz
      obtain ⟨a, ea, rfl⟩ := rz
      cases hc : S[n]? with
      | none => rw [hc] at q; exact q.elim
      | some c =>
        rw [hc] at q
        simp only at q
        split at q
        · rename_i c' hd
          split at hd
          · rename_i hda
            cases hd
            obtain ⟨l1, l2⟩ := daC_live hda
            obtain ⟨b1, b2⟩ := bz.at hc l1 ea
            have hf : z.F a = none := b1.elim id fun ⟨ws, z⟩ => absurd z (l2 ws)
            have hn : H a = none := by
              rcases fz.newC a (List.mem_of_getElem? ea) with t | t
              · cases t
              · exact t
            exact q a z.F z.H (fz.al0 bz.fz) hn hf hda (cell_da_cut hda b2)
          · cases hd
        · rename_i hd
          split at hd <;> cases hd
        · exact q.elim
end
/-- the cell's items hold no list -/
def noLC : Cell → Bool
  | .lst ws => ws.all noLW
  | .dk kws => (kws.map (·.2)).all noLW
  | .dt kws => (kws.map (·.2)).all noLW
  | _ => false
/-- what is made of a new cell -/
noncomputable def callL (mk : Option Cell → Sto → Rs W) (p : List D → Re Cell) (ws : List W) (S : Sto) : Rs W := match dats ws with
  | some ds => match p ds with
    | .ok c => mk (some c) S
    | .ex x => .ex x S
    | .stuck => .stuck
  | none => match valsW S ws with
    | some ds => match p ds with
      | .ok c => if noLC c = true then mk (some c) S else .stuck
      | .ex x => if x.ws.all noLW = true then .ex x S else .stuck
      | .stuck => .stuck
    | none => .stuck
noncomputable def mCallL (mk : Option Cell → Sto → Rs W) (p : List D → Re Cell) (mr : MA) : ME := mCall (callL mk p) mr
section
variable {K : PySem.W.Frag} {cl : Str → Option Addr} {xa : Option (Nat × Addr)} {Wx : WX} {y : Y}
theorem unL_rwp {κ : Type} {F' H' : Hp} {m : List Addr} (a : Al y.fzLT y.H F' H') : ∀ {ws : List (κ × W)} {vs : List (κ × V)}, (ws.map (·.2)).all noLW = true → RWP K cl ⟨F', H', []⟩ ws vs → RWP K cl ⟨y.unL F', H', m⟩ ws vs
  | _, _, _, .nil => .nil
  | (k, w) :: ws, _, n, .cons r t => by
    simp only [List.map_cons, List.all_cons, Bool.and_eq_true] at n
    refine .cons ⟨r.1, ?_⟩ (unL_rwp a n.2 t)
    cases w with
    | da d => exact unL_rp a d _ n.1 r.2
    | lo k => cases n.1
    | xc => cases n.1
theorem unL_cell {F' H' : Hp} {m : List Addr} {p : Addr} (a : Al y.fzLT y.H F' H') : ∀ {c : Cell}, noLC c = true → CellR K cl ⟨F', H', []⟩ p c → CellR K cl ⟨y.unL F', H', m⟩ p c
  | .lst ws, h, ⟨vs, e, r⟩ => ⟨vs, e, unL_rwl a h r⟩
  | .dk ws, h, ⟨vs, e, r⟩ => ⟨vs, e, unL_rwp a h r⟩
  | .dt ws, h, ⟨vs, e, r⟩ => ⟨vs, e, unL_rwp a h r⟩
  | .tup _, h, _ => by cases h
  | .ins _ _, h, _ => by cases h
  | .dead, h, _ => by cases h
theorem cell_more {F H : Hp} {p : Addr} {m : List Addr} : ∀ {c : Cell}, CellR K cl ⟨F, H, []⟩ p c → CellR K cl ⟨F, H, m⟩ p c := fun h => CellR.grow (y := ⟨F, H, []⟩) (z := ⟨F, H, m⟩) ⟨Ex.refl _, List.nil_prefix⟩ (fun _ e => e) h
/-- what comes of a new cell: a cell, data, locked data -/
def MkN (K : PySem.W.Frag) (cl : Str → Option Addr) (xa : Option (Nat × Addr)) (mk : Option Cell → Sto → Rs W) (Lk : VK → VK) : Prop := ∀ (C : Cn) (Wx : WX) (y : Y) (σ : L2.St) (ρ : Rho) (S : Sto) (c : Cell) (Q : VK) (p : Addr), Sim K cl xa C y σ ρ S → y.F p = none → p ∉ y.m → C.H0 p = none → daC c = true → CellR K cl y p c →
  Post K cl xa C Wx y σ ρ (mk (some c) S) (OkE K cl xa C y σ ρ Q) → Lk Q (.ref p) y.H
theorem mkC_n : MkN K cl xa mkC (fun Q => Q) := fun C Wx y σ ρ S c Q p s h1 h2 h3 h4 hc h => by
  obtain ⟨o, ho⟩ := CellR.there (daC_live h4).1 hc
  obtain ⟨s2, g2⟩ := s.adoptC h1 h2 h3 (by rw [ho]; simp) hc
  exact h (.ref p) ⟨y.F, y.H, y.m ++ [p]⟩ s2 g2 ⟨p, by rw [← s.bs.len]; simp, rfl⟩
theorem mkD_n : MkN K cl xa mkD (fun Q => Q) := fun C Wx y σ ρ S c Q p s h1 h2 h3 h4 hc h => by
  unfold mkD at h
  simp only at h
  split at h
  · rename_i d hd
    obtain ⟨o, ho, _, hr⟩ := datC_ok hc hd
    obtain ⟨s2, g2⟩ := s.adoptF h1 h2 h3 ho
    exact h (.ref p) (y.fz p o) s2 g2 (hr _ g2.f upd_same)
  · exact h.elim
theorem rwp_zipE {κ : Type} {kws : List (κ × W)} {kvs : List (κ × V)} {ds : List D} (r : RWP K cl y kws kvs) (h : dats (kws.map (·.2)) = some ds) : ∃ vs, kvs = (kws.map (·.1)).zip vs ∧ (kws.map (·.1)).length = vs.length ∧ RpL K cl y.F ds vs := by
  obtain ⟨z1, z2⟩ := rwp_zip r
  exact ⟨kvs.map (·.2), z2, by rw [List.length_map, List.length_map]; exact Paired.length r, dats_ok z1 h⟩
theorem mkL_n : MkN K cl xa mkL (fun Q v H => Lks (Q v) H) := fun C Wx y σ ρ S c Q p s h1 h2 h3 h4 hc h => by
  unfold mkL at h
  simp only at h
  split at h
  · rename_i d hd
    obtain ⟨o, ho⟩ := CellR.there (daC_live h4).1 hc
    obtain ⟨s2, g2⟩ := s.adoptC h1 h2 h3 (by rw [ho]; simp) hc
    have hS : (S ++ [c])[S.length]? = some c := by simp
    have hm : (y.m ++ [p])[S.length]? = some p := by rw [← s.bs.len]; simp
    have fin : ∀ od u, CellR K cl y p c → y.H p = some u → Mut (some u) → (∀ F', Ex y.F F' → F' p = some (.frz od u) → Rp K cl F' d (.ref p)) → Q (.ref p) (upd y.H p (.frz od u)) := fun od u _ hu mu hr => by
      have a1 := s.other (o := .frz od u) h1 h2 h3
      obtain ⟨s3, g3⟩ := a1.adoptF (o := .frz od u) h1 h2 h3 (show upd y.H p (.frz od u) p = _ from upd_same)
      exact h (.ref p) ((y.up p (.frz od u)).fz p (.frz od u)) s3 ⟨g3.f, g3.m⟩ (hr _ g3.f upd_same)
    cases c with
    | dk kws =>
      obtain ⟨kvs, e1, e2⟩ := hc
      obtain ⟨ds, q, rfl⟩ := Option.map_eq_some_iff.mp hd
      obtain ⟨vs, z1, z2, z3⟩ := rwp_zipE e2 q
      refine .lock p _ e1 trivial fun od => .now (fin od _ ⟨kvs, e1, e2⟩ e1 trivial fun F' x e => ⟨p, vs, rfl, ⟨od, by rw [← z1]; exact e⟩, z2, RpL.xt x _ _ z3⟩)
    | dt kws =>
      obtain ⟨kvs, e1, e2⟩ := hc
      obtain ⟨ds, q, rfl⟩ := Option.map_eq_some_iff.mp hd
      obtain ⟨vs, z1, z2, z3⟩ := rwp_zipE e2 q
      refine .lock p _ e1 trivial fun od => .now (fin od _ ⟨kvs, e1, e2⟩ e1 trivial fun F' x e => ⟨p, vs, rfl, ⟨od, by rw [← z1]; exact e⟩, z2, RpL.xt x _ _ z3⟩)
    | lst _ => cases hd
    | tup _ => cases hd
    | ins _ _ => cases hd
    | dead => cases hd
  · exact h.elim
theorem useL {mk : Option Cell → Sto → Rs W} {Lk : VK → VK} (hmk : MkN K cl xa mk Lk) {C : Cn} {y : Y} {σ : L2.St} {ρ : Rho} {S : Sto} {ws : List W} {vs : List V} {p : List D → Re Cell} {Q : VK} (s : Sim K cl xa C y σ ρ S) (r : RWL K cl y ws vs) (h : Post K cl xa C Wx y σ ρ (callL mk p ws S) (OkE K cl xa C y σ ρ Q)) : SpL K cl p vs y.H (Lk Q) (WE Wx σ) := by
  unfold callL at h
  split at h
  · rename_i ds hd
    refine ⟨y.F, ds, s.bs.fz, dats_ok r hd, ?_⟩
    cases e : p ds with
    | ok c =>
      rw [e] at h
      intro a F' H' al hn hf hda hc
      exact hmk C Wx ⟨F', H', y.m⟩ σ ρ S c Q a (s.al al) hf (fun z => s.bs.has a z hn) (s.fm.dom a hn) hda (cell_more hc) (Post.re (Post.mono al.gr h) al.gr)
    | ex x => rw [e] at h; exact fun cls dd F' H' al xr => h cls dd _ (s.al al) al.gr (XR.grow (y := ⟨F', H', []⟩) ⟨Ex.refl _, List.nil_prefix⟩ xr)
    | stuck => rw [e] at h; exact h
  · split at h
    · rename_i ds hd
      refine ⟨y.fzLT, ds, y.fzLT_h s.bs.fz, valsLT_ok s.bs r hd, ?_⟩
      cases e : p ds with
      | ok c =>
        rw [e] at h
        simp only at h
        split at h
        · rename_i hf
          intro a F' H' al hn hfa hda hc
          have al2 := unL_al s.bs.fz al
          have hu : y.unL F' a = none := by
            unfold Y.unL
            split
            · rfl
            · exact hfa
          exact hmk C Wx ⟨y.unL F', H', y.m⟩ σ ρ S c Q a (s.al al2) hu (fun z => s.bs.has a z hn) (s.fm.dom a hn) hda (unL_cell al hf hc) (Post.re (Post.mono al2.gr h) al2.gr)
        · exact h.elim
      | ex x =>
        rw [e] at h
        simp only at h
        split at h
        · rename_i hf
          intro cls dd F' H' al xr
          have al2 := unL_al s.bs.fz al
          obtain ⟨C', h1, h2, h3⟩ := xr
          refine h cls dd _ (s.al al2) al2.gr ⟨C', h1, h2, h3.imp id ?_⟩
          rintro ⟨h4, d, vs, h5, h6, h7, h8⟩
          exact ⟨h4, d, vs, h5, unL_keep al h6 (by intro xs z; cases z), h7, unL_rwl al hf h8⟩
        · exact h.elim
      | stuck => rw [e] at h; exact h
    · exact h.elim
end
section
variable {X : Cx} {cl : Str → Option Addr} {xa : Option (Nat × Addr)} {Wx : WX} {CX : CXT} {k : Nat} {f C : Addr} {fd : FuncData} {ps : List Str} {c x m : Str} {pp pos apos : Pos} {e o : Expr} {es : List Expr} {mr : MA} {mo : ME} {p : List D → Re Cell} {mk : Option Cell → Sto → Rs W}
theorem qe_callL (hmk : MkN X.K cl xa mk (fun Q => Q)) (G : FnOk X.prog X.w X.K X.mg X.base CX k f fd ps (SpL X.K cl p)) (hr : Room k X.A) (hg : Gl X x) (hm : X.mg x = some (.ref f)) (hk : PySem.W.keepIn X.K (.ref f) = true) (hb : Binds X.K fd ps []) (px : ∀ σ, PassesAt CX X σ (WE Wx σ))
    (ha : QA X cl xa Wx (e :: es) mr) (hdb : (x == ("__debug__" : Str)) = false := by decide) (he : starEach (e :: es) X.env = (false, eval e X.env) :: starEach es X.env := by rfl) (hpl : (backTo pos (starEach es X.env)).any (·.1) = false := by rfl) :
    QE X cl xa Wx (.Call (.Name x pp) (e :: es) [] pos) (mCallL mk p mr) := by
  obtain ⟨t, pa, q⟩ := ha
  refine ⟨_, pe_callS G hr hg hm hk hb px pa hdb he hpl, fun C y σ ρ S s Q h => ?_⟩
  refine q C y σ ρ S s _ (Post.go h fun ws S1 h1 vs z s1 g1 r1 => ?_)
  exact useL hmk s1 r1 (Post.re (h1 z g1) g1)
theorem qe_callLk (G : FnOk X.prog X.w X.K X.mg X.base CX k f fd ps (SpL X.K cl p)) (hr : Room k X.A) (hg : Gl X x) (hm : X.mg x = some (.ref f)) (hk : PySem.W.keepIn X.K (.ref f) = true) (hb : Binds X.K fd ps []) (px : ∀ σ, PassesAt CX X σ (WE Wx σ))
    (ha : QA X cl xa Wx (e :: es) mr) (hdb : (x == ("__debug__" : Str)) = false := by decide) (he : starEach (e :: es) X.env = (false, eval e X.env) :: starEach es X.env := by rfl) (hpl : (backTo pos (starEach es X.env)).any (·.1) = false := by rfl) :
    QE X cl xa Wx (.Call (.Name x pp) (e :: es) [] pos) (mCallL mkL p mr) := by
  obtain ⟨t, pa, q⟩ := ha
  refine ⟨_, pe_lk (pe_callS G hr hg hm hk hb px pa hdb he hpl), fun C y σ ρ S s Q h => ?_⟩
  refine q C y σ ρ S s _ (Post.go h fun ws S1 h1 vs z s1 g1 r1 => ?_)
  exact useL mkL_n s1 r1 (Post.re (h1 z g1) g1)
theorem qe_methL {pl : Sem Bool} (hmk : MkN X.K cl xa mk (fun Q => Q)) (A : ClsAt X.K X.mg cl c C) (hm : Meth X.K C m f) (G : FnOk X.prog X.w X.K X.mg X.base CX k f fd ps (SpL X.K cl p)) (hr : Room k X.A) (hb : Binds X.K fd ps []) (px : ∀ σ, PassesAt CX X σ (WE Wx σ)) (ho : QE X cl xa Wx o mo) (ha : QA X cl xa Wx (e :: es) mr)
    (hst : starEach (e :: es) X.env = (false, eval e X.env) :: starEach es X.env := by rfl) (hpl : (backTo pos (starEach es X.env)).any (·.1) = false := by rfl)
    (ht : eval (.Call (.Attribute o m apos) (e :: es) [] pos) X.env = (do
      let ov ← eval o X.env
      standAt apos.atName
      let (f, first) ← holding [ov] (getMethod ov m pl)
      callWith pos f first (backTo pos (starEach (e :: es) X.env)) (backToKw pos (keywordEach [] X.env))) := by rfl) :
    QE X cl xa Wx (.Call (.Attribute o m apos) (e :: es) [] pos) (mMeth c m (callL mk p) mo mr) := by
  obtain ⟨t, pe, q⟩ := ho
  obtain ⟨t2, pa, q2⟩ := ha
  exact ⟨_, pe_methX (pl := pl) pe A.cls hm G hr hb px pa hst hpl ht, se_meth A.at_ q q2 fun C y σ ρ S ws vs Q s r h => useL hmk s r h⟩
theorem qe_methL0 {pl : Sem Bool} (hmk : MkN X.K cl xa mk (fun Q => Q)) (A : ClsAt X.K X.mg cl c C) (hm : Meth X.K C m f) (G : FnOk X.prog X.w X.K X.mg X.base CX k f fd ps (SpL X.K cl p)) (hr : Room k X.A) (hb : Binds X.K fd ps []) (px : ∀ σ, PassesAt CX X σ (WE Wx σ)) (ho : QE X cl xa Wx o mo)
    (ht : eval (.Call (.Attribute o m apos) [] [] pos) X.env = (do
      let ov ← eval o X.env
      standAt apos.atName
      let (f, first) ← holding [ov] (getMethod ov m pl)
      callWith pos f first (backTo pos (starEach [] X.env)) (backToKw pos (keywordEach [] X.env))) := by rfl) :
    QE X cl xa Wx (.Call (.Attribute o m apos) [] [] pos) (mMeth c m (callL mk p) mo mNil) := by
  obtain ⟨t, pe, q⟩ := ho
  exact ⟨_, pe_methX0 (pl := pl) pe A.cls hm G hr hb px ht, se_meth A.at_ q sa_nil fun C y σ ρ S ws vs Q s r h => useL hmk s r h⟩
end
/-! ### min of a list, by its place -/
noncomputable def bestI (ds : List D) : Nat := argBest (fun i j => PySem.W.dataLt ((ds.map toPy).getD i .none) ((ds.map toPy).getD j .none)) (ds.length - 1)
noncomputable def minIW : List W → Sto → Option W
  | [w], S => match lstW S w with
    | some ws => match valsW S ws with
      | some ds => ifc (ds ≠ [] ∧ PySem.W.AlikeAll (ds.map toPy) ∧ (∀ x ∈ ds, (toPy x).canLay0 = true) ∧ PyData.depthAll (ds.map toPy) ≤ 64) (ws[bestI ds]?) none
      | none => none
    | none => none
  | _, _ => none
section
variable {X : Cx} {cl : Str → Option Addr} {xa : Option (Nat × Addr)} {Wx : WX}
def rMinI (K : PySem.W.Frag) : List V → Hp → VK → Prop := fun vs H Q => ∃ (a : Addr) (xs : List V) (ps : List PyData), vs = [.ref a] ∧ SqL K H a xs ∧ DpAll K H xs ps ∧ ps ≠ [] ∧ PySem.W.AlikeAll ps ∧ PyData.depthAll ps ≤ 64 ∧
  ∀ v, xs[argBest (fun i j => PySem.W.dataLt (ps.getD i .none) (ps.getD j .none)) (ps.length - 1)]? = some v → Q v H
theorem cr_minI (hc : X.calm = true) (hu : Hu X) : CallR X (.builtin "min") (rMinI X.K) := by
  intro pins s σ H vs us Q I r h
  obtain ⟨a, xs, ps, rfl, hs, hd, hne, hal, hdep, q⟩ := h
  obtain ⟨its, rv, hl, hz⟩ := I.list hs
  rw [Vals.ref1 r]
  obtain ⟨as, hr⟩ := Dp.readsAll I ps xs its hd rv
  have hu' : X.A.units + 200 < cLine := hu
  have hn : its.toArray.size = ps.length := PySem.W.readsAll_len hr
  have hpos : 0 < ps.length := List.length_pos_iff.mpr hne
  refine call_min_walkH (PySem.W.iter_listW (A := X.A.in1) (I.ok.hd hc) hl.isList fun s₂ e W st hfp hw hk => ?_)
  refine ⟨_, _, _, _, _, _, _, s.heap, _, rfl, W, st, hfp, by omega, hw, hk, PySem.W.cmpIn_lt (A := X.A.in1) hr hal (by show X.A.units + 1 + _ < _; omega), fun v s' hP m => ?_⟩
  obtain ⟨h', tk, rfl, hk'⟩ := PySem.W.moved_old e rfl m
  rw [hn] at hP
  obtain ⟨v', e1, e2⟩ := vals_get rv (show its[_]? = some v by simpa using hP)
  exact ⟨v', H, I.kept (t' := tk) hk', e2, q v' e1⟩
theorem valsW_len {S : Sto} : ∀ {ws : List W} {ds : List D}, valsW S ws = some ds → ws.length = ds.length
  | [], ds, h => by cases h; rfl
  | w :: ws, ds, h => by
    simp only [valsW] at h
    split at h
    · rename_i d ds' e1 e2
      cases h
      simp [valsW_len e2]
    · cases h
theorem valsH_ok {K : PySem.W.Frag} {y : Y} {S : Sto} (b : Bs K cl y S) : ∀ {ws : List W} {vs : List V} {ds : List D}, RWL K cl y ws vs → valsW S ws = some ds → RpL K cl y.H ds vs
  | _, _, ds, .nil, h => by cases h; exact rfl
  | w :: ws, _, ds, .cons r t, h => by
    simp only [valsW] at h
    split at h
    · rename_i d ds' e1 e2
      cases h
      exact ⟨_, _, rfl, valW_ok b r e1, valsH_ok b t e2⟩
    · cases h
theorem cw_minI (hc : X.calm = true) (hu : Hu X) : HCall X cl (.builtin "min") (vlN minIW) := VN.h fun y S b ws vs rs u e Q g => by
  unfold minIW at e
  split at e
  · rename_i w
    obtain ⟨v, rfl, r⟩ := rwl1 rs
    split at e
    · rename_i us q
      split at e
      · rename_i ds hd
        rcases ifc_cases (P := fun r => r = some u) e with ⟨⟨h1, h2, h3, h4⟩, e⟩ | ⟨_, e⟩
        · obtain ⟨p, vs, rfl, t, l⟩ := lstW_ok b r q
          have rp := valsH_ok b l hd
          refine ⟨_, cr_minI hc hu, p, vs, ds.map toPy, rfl, .inl (.inl t), toPyL_all ds vs h3 rp, by simpa using h1, h2, h4, fun v hv => ?_⟩
          obtain ⟨v', e1, e2⟩ := RWL.get l e
          unfold bestI at e1
          rw [List.length_map] at hv
          rw [hv] at e1
          cases e1
          exact gv_w b g e2
        · cases e
      · cases e
    · cases e
  · cases e
theorem bestI_lt {d : D} {ds : List D} : bestI (d :: ds) < (d :: ds).length := by
  have := (PySem.W.argBest_fold PySem.W.dataLt PyData.none (toPy d) (ds.map toPy) (ds.map toPy).length (Nat.le_refl _)).1
  unfold bestI
  simp only [List.map_cons, List.length_cons, Nat.add_sub_cancel, List.length_map] at this ⊢
  omega
/-- .. it is the least -/
theorem bestI_py {d : D} {ds : List D} : ((d :: ds).map toPy).getD (bestI (d :: ds)) .none = PySem.W.minD (toPy d) (ds.map toPy) := by
  have := (PySem.W.argBest_fold PySem.W.dataLt PyData.none (toPy d) (ds.map toPy) (ds.map toPy).length (Nat.le_refl _)).2
  unfold bestI
  simp only [List.map_cons, List.length_cons, Nat.add_sub_cancel, List.length_map, List.take_length] at this ⊢
  rw [List.take_of_length_le (by simp)] at this
  exact this
end
end Ng
namespace Ng
open PySem PySem.Spec PyProof.Rows L2
/-! ### kinds of data: compared, sorted, the least, sought (plain) -/
abbrev tk (d : D) : List (Int ⊕ List Nat) := PySem.W.keyToks (toPy d)
abbrev tks (ds : List D) : List (Int ⊕ List Nat) := PySem.W.keyToksAll (toPyL ds)
structure Enc {α : Type} (e : α → D) (n : Nat) : Prop where
  pre : ∀ a b r r', tk (e a) ++ r = tk (e b) ++ r' → a = b ∧ r = r'
  al : ∀ a b, PySem.W.alike (toPy (e a)) (toPy (e b)) = true
  dep : ∀ a, (toPy (e a)).depth ≤ n
  pl : ∀ a, plainD (e a) = true
  ne : ∀ a, toPy (e a) ≠ .none
structure EncL {α : Type} (f : α → List D) (n : Nat) : Prop where
  pre : ∀ a b r r', tks (f a) ++ r = tks (f b) ++ r' → a = b ∧ r = r'
  al : ∀ a b, PySem.W.alikeAll (toPyL (f a)) (toPyL (f b)) = true
  dep : ∀ a, PyData.depthAll (toPyL (f a)) ≤ n
  pl : ∀ a, plainL (f a) = true
theorem enc_int : Enc D.int 0 := ⟨fun a b r r' h => (by
  simp only [tk, toPy, PySem.W.keyToks, List.cons_append, List.nil_append, List.cons.injEq, Sum.inl.injEq] at h
  exact h), fun a b => (by simp [toPy, PySem.W.alike]), fun a => (by simp [toPy, PyData.depth]), fun a => rfl, fun a => (by simp [toPy])⟩
theorem enc_str : Enc D.str 0 := ⟨fun a b r r' h => (by
  simp only [tk, toPy, PySem.W.keyToks, List.cons_append, List.nil_append, List.cons.injEq, Sum.inr.injEq] at h
  exact ⟨PySem.W.str_of_cps h.1, h.2⟩), fun a b => (by simp [toPy, PySem.W.alike]), fun a => (by simp [toPy, PyData.depth]), fun a => rfl, fun a => (by simp [toPy])⟩
theorem Enc.comp {α β : Type} {e : α → D} {n : Nat} (E : Enc e n) {g : β → α} (hg : ∀ a b, g a = g b → a = b) : Enc (fun b => e (g b)) n :=
  ⟨fun a b r r' h => (let q := E.pre _ _ _ _ h; ⟨hg _ _ q.1, q.2⟩), fun a b => E.al _ _, fun a => E.dep _, fun a => E.pl _, fun a => E.ne _⟩
theorem EncL.comp {α β : Type} {f : α → List D} {n : Nat} (E : EncL f n) {g : β → α} (hg : ∀ a b, g a = g b → a = b) : EncL (fun b => f (g b)) n :=
  ⟨fun a b r r' h => (let q := E.pre _ _ _ _ h; ⟨hg _ _ q.1, q.2⟩), fun a b => E.al _ _, fun a => E.dep _, fun a => E.pl _⟩
theorem Enc.up {α : Type} {e : α → D} {n m : Nat} (E : Enc e n) (h : n ≤ m) : Enc e m := ⟨E.pre, E.al, fun a => Nat.le_trans (E.dep a) h, E.pl, E.ne⟩
theorem EncL.up {α : Type} {f : α → List D} {n m : Nat} (E : EncL f n) (h : n ≤ m) : EncL f m := ⟨E.pre, E.al, fun a => Nat.le_trans (E.dep a) h, E.pl⟩
theorem EncL.one {α : Type} {e : α → D} {n : Nat} (E : Enc e n) : EncL (fun a => [e a]) n :=
  ⟨fun a b r r' h => (by
    simp only [tks, toPyL, PySem.W.keyToksAll, List.cons_append, List.append_assoc, List.cons.injEq, true_and] at h
    obtain ⟨h1, h2⟩ := E.pre _ _ _ _ h
    simp at h2
    exact ⟨h1, h2⟩), fun a b => (by simp [toPyL, PySem.W.alikeAll, E.al]), fun a => (by simp [toPyL, PyData.depthAll]; exact E.dep a), fun a => (by simp [plainL, E.pl])⟩
theorem EncL.cons {α β : Type} {e : α → D} {f : β → List D} {n : Nat} (E : Enc e n) (F : EncL f n) : EncL (fun p : α × β => e p.1 :: f p.2) n :=
  ⟨fun a b r r' h => (by
    simp only [tks, toPyL, PySem.W.keyToksAll, List.cons_append, List.append_assoc, List.cons.injEq, true_and] at h
    obtain ⟨h1, h2⟩ := E.pre _ _ _ _ h
    obtain ⟨h3, h4⟩ := F.pre _ _ _ _ h2
    exact ⟨Prod.ext h1 h3, h4⟩), fun a b => (by simp [toPyL, PySem.W.alikeAll, E.al, F.al]), fun a => (by simp only [toPyL, PyData.depthAll]; exact Nat.max_le.mpr ⟨E.dep _, F.dep _⟩), fun a => (by simp [plainL, E.pl, F.pl])⟩
theorem EncL.tup {α : Type} {f : α → List D} {n : Nat} (F : EncL f n) : Enc (fun a => .tup (f a)) (n + 1) :=
  ⟨fun a b r r' h => F.pre a b r r' (by simpa [tk, toPy, PySem.W.keyToks] using h), fun a b => (by simp [toPy, PySem.W.alike, F.al]), fun a => (by simp only [toPy, PyData.depth]; exact Nat.succ_le_succ (F.dep a)), fun a => (by simp [plainD, F.pl]), fun a => (by simp [toPy])⟩
theorem EncL.lst {α : Type} {f : α → List D} {n : Nat} (F : EncL f n) : Enc (fun a => .lst (f a)) (n + 1) :=
  ⟨fun a b r r' h => F.pre a b r r' (by simpa [tk, toPy, PySem.W.keyToks] using h), fun a b => (by simp [toPy, PySem.W.alike, F.al]), fun a => (by simp only [toPy, PyData.depth]; exact Nat.succ_le_succ (F.dep a)), fun a => (by simp [plainD, F.pl]), fun a => (by simp [toPy])⟩
theorem EncL.many {α : Type} {e : α → D} {n : Nat} (E : Enc e n) : EncL (fun l : List α => l.map e) n :=
  ⟨fun a => (by
    induction a with
    | nil =>
      intro b r r' h
      cases b with
      | nil => simp only [tks, toPyL, List.map_nil, PySem.W.keyToksAll, List.cons_append, List.nil_append, List.cons.injEq, true_and] at h; exact ⟨rfl, h⟩
      | cons y b => simp [tks, toPyL, PySem.W.keyToksAll] at h
    | cons x a ih =>
      intro b r r' h
      cases b with
      | nil => simp [tks, toPyL, PySem.W.keyToksAll] at h
      | cons y b =>
        simp only [tks, toPyL, List.map_cons, PySem.W.keyToksAll, List.cons_append, List.append_assoc, List.cons.injEq, true_and] at h
        obtain ⟨h1, h2⟩ := E.pre _ _ _ _ h
        obtain ⟨h3, h4⟩ := ih b r r' h2
        exact ⟨by rw [h1, h3], h4⟩), fun a => (by
    induction a with
    | nil => intro b; cases b <;> simp [toPyL, PySem.W.alikeAll]
    | cons x a ih =>
      intro b
      cases b with
      | nil => simp [toPyL, PySem.W.alikeAll]
      | cons y b => simp [toPyL, PySem.W.alikeAll, E.al, ih b]), fun a => (by
    induction a with
    | nil => simp [toPyL, PyData.depthAll]
    | cons x a ih => simp only [List.map_cons, toPyL, PyData.depthAll]; exact Nat.max_le.mpr ⟨E.dep _, ih⟩), fun a => (by
    induction a with
    | nil => rfl
    | cons x a ih => simp [plainL, E.pl, ih])⟩
section
variable {α : Type} {e : α → D} {n : Nat}
theorem Enc.inj (E : Enc e n) {a b : α} (h : tk (e a) = tk (e b)) : a = b := (E.pre a b [] [] (by rw [h])).1
theorem Enc.injD (E : Enc e n) {a b : α} (h : e a = e b) : a = b := E.inj (by rw [h])
theorem Enc.eqv (E : Enc e n) (a b : α) : PyData.eqv (toPy (e a)) (toPy (e b)) = dec (a = b) := by
  have q := (PySem.W.toks_eqv _ _ (E.al a b)).1
  by_cases h : a = b
  · subst h
    rw [dec_pos rfl]
    exact PySem.W.eqv_refl_alike _ (E.al a a)
  · rw [dec_neg h]
    cases z : PyData.eqv (toPy (e a)) (toPy (e b)) with
    | false => rfl
    | true => exact absurd (E.inj (q z)) h
/-! sorting -/
noncomputable def leE (e : α → D) (a b : α) : Bool := PySem.W.dataLe false toPy (e a) (e b)
noncomputable def sortE (e : α → D) (l : List α) : List α := l.mergeSort (leE e)
theorem leE_total (e : α → D) : PySem.W.TotalLe (leE e) := PySem.W.sortLe_total (PyProof.Rows.listOrd PyProof.Rows.itemOrd) false (fun a => tk (e a))
theorem leE_lt (e : α → D) (a b : α) : leE e a b = !PySem.W.dataLt (toPy (e b)) (toPy (e a)) := rfl
theorem leE_anti (E : Enc e n) {a b : α} (h1 : leE e a b = true) (h2 : leE e b a = true) : a = b := by
  rw [leE_lt, Bool.not_eq_true'] at h1 h2
  exact E.inj ((PyProof.Rows.listOrd PyProof.Rows.itemOrd).total _ _ h2 h1)
theorem sortE_perm (E : Enc e n) {l m : List α} (h : l.Perm m) : sortE e l = sortE e m := by
  refine List.Perm.eq_of_pairwise (le := fun a b => leE e a b = true) (fun a b _ _ h1 h2 => leE_anti E h1 h2) (PySem.W.sort_pairwise (leE_total e) l) (PySem.W.sort_pairwise (leE_total e) m) ?_
  exact (List.mergeSort_perm _ _).trans (h.trans (List.mergeSort_perm _ _).symm)
theorem sortE_is (l : List α) : (sortE e l).Perm l := List.mergeSort_perm _ _
theorem sortE_mem {l : List α} {a : α} : a ∈ sortE e l ↔ a ∈ l := (sortE_is l).mem_iff
theorem sortE_len (l : List α) : (sortE e l).length = l.length := (sortE_is l).length_eq
theorem sortE_sorted (l : List α) : (sortE e l).Pairwise (fun a b => leE e a b = true) := PySem.W.sort_pairwise (leE_total e) l
theorem sortE_self {l : List α} (h : l.Pairwise (fun a b => leE e a b = true)) : sortE e l = l := List.mergeSort_of_pairwise h
theorem sortE_idem (l : List α) : sortE e (sortE e l) = sortE e l := sortE_self (sortE_sorted l)
theorem sortD_map (e : α → D) (l : List α) : sortD (l.map e) = (sortE e l).map e := by
  unfold sortD sortE
  exact (List.map_mergeSort (r := leE e) (s := PySem.W.dataLe false toPy) (f := e) fun a _ b _ => rfl).symm
/-- tuples with items; no tuples -/
def Sk (e : α → D) : Prop := (∀ a, ∃ x r, toPy (e a) = .tuple (x :: r)) ∨ ∀ a xs, toPy (e a) ≠ .tuple xs
def Lay (e : α → D) (l : List α) : Prop := ∀ a ∈ l, (toPy (e a)).canLay0 = true
theorem sortC_ok (E : Enc e n) (hn : n ≤ 60) (k : Sk e) {l : List α} (hl : Lay e l) {w : W} {S : Sto} (hw : lstW S w = some (l.map fun a => .da (e a))) : sortC [w] S = some (.lst ((sortE e l).map fun a => .da (e a))) := by
  have hd : dats (l.map fun a => .da (e a)) = some (l.map e) := by
    rw [show (l.map fun a => W.da (e a)) = (l.map e).map .da by simp]
    exact dats_da _
  unfold sortC
  simp only [hw, hd]
  rw [ifc_pos]
  · rw [sortD_map]; simp
  · refine ⟨?_, ?_, ?_⟩
    · intro d hd d' hd'
      simp only [List.map_map, List.mem_map, Function.comp] at hd hd'
      obtain ⟨a, _, rfl⟩ := hd
      obtain ⟨b, _, rfl⟩ := hd'
      exact E.al a b
    · rcases k with k | k
      · left
        intro d hd
        simp only [List.map_map, List.mem_map, Function.comp] at hd
        obtain ⟨a, _, rfl⟩ := hd
        exact k a
      · right
        intro d hd
        simp only [List.map_map, List.mem_map, Function.comp] at hd
        obtain ⟨a, _, rfl⟩ := hd
        exact ⟨E.ne a, k a⟩
    · intro d hd
      simp only [List.mem_map] at hd
      obtain ⟨a, ha, rfl⟩ := hd
      exact ⟨hl a ha, Nat.le_trans (E.dep a) (by omega)⟩
theorem lstW_da (S : Sto) (l : List α) : lstW S (.da (.lst (l.map e))) = some (l.map fun a => .da (e a)) := by simp [lstW]
theorem sort_d (E : Enc e n) (hn : n ≤ 60) (k : Sk e) {l : List α} (hl : Lay e l) {w : W} {S : Sto} (hw : lstW S w = some (l.map fun a => .da (e a))) : ndN sortC [w] S = .ok (.da (.lst ((sortE e l).map e))) S := by
  unfold ndN mkD
  rw [sortC_ok E hn k hl hw]
  simp only [datC]
  rw [show ((sortE e l).map fun a => W.da (e a)) = ((sortE e l).map e).map .da by simp, dats_da]
  rfl
theorem sort_c (E : Enc e n) (hn : n ≤ 60) (k : Sk e) {l : List α} (hl : Lay e l) {w : W} {S : Sto} (hw : lstW S w = some (l.map fun a => .da (e a))) : ncN sortC [w] S = .ok (.lo S.length) (S ++ [.lst ((sortE e l).map fun a => .da (e a))]) := by
  unfold ncN mkC
  rw [sortC_ok E hn k hl hw]
/-! the least -/
def minE (e : α → D) (a : α) (l : List α) : α := l.foldl (fun a y => if PySem.W.dataLt (toPy (e y)) (toPy (e a)) then y else a) a
theorem minDD_map (e : α → D) : ∀ (l : List α) (a : α), minDD (e a) (l.map e) = e (minE e a l)
  | [], a => rfl
  | y :: l, a => by
    have := minDD_map e l (if PySem.W.dataLt (toPy (e y)) (toPy (e a)) then y else a)
    unfold minDD minE at *
    simp only [List.map_cons, List.foldl_cons]
    rw [← this]
    congr 1
    split <;> rfl
theorem minE_mem (e : α → D) : ∀ (l : List α) (a : α), minE e a l ∈ a :: l
  | [], _ => by simp [minE]
  | y :: l, a => by
    have := minE_mem e l (if PySem.W.dataLt (toPy (e y)) (toPy (e a)) then y else a)
    unfold minE at *
    simp only [List.foldl_cons]
    rcases List.mem_cons.mp this with h | h
    · rw [h]; split <;> simp
    · simp [h]
theorem minE_le (e : α → D) : ∀ (l : List α) (a : α), ∀ y ∈ a :: l, leE e (minE e a l) y = true
  | [], a, y, h => by
    simp at h; subst h
    exact (leE_total e).refl _
  | z :: l, a, y, h => by
    have ih := minE_le e l (if PySem.W.dataLt (toPy (e z)) (toPy (e a)) then z else a)
    show leE e (minE e (if PySem.W.dataLt (toPy (e z)) (toPy (e a)) then z else a) l) y = true
    have h0 := ih _ (List.mem_cons_self)
    have step : leE e (if PySem.W.dataLt (toPy (e z)) (toPy (e a)) then z else a) a = true ∧ leE e (if PySem.W.dataLt (toPy (e z)) (toPy (e a)) then z else a) z = true := by
      cases q : PySem.W.dataLt (toPy (e z)) (toPy (e a)) with
      | true =>
        refine ⟨?_, (leE_total e).refl _⟩
        rcases (leE_total e).total z a with t | t
        · exact t
        · rw [leE_lt, q] at t; cases t
      | false =>
        refine ⟨(leE_total e).refl _, ?_⟩
        show leE e a z = true
        rw [leE_lt, q]; rfl
    rcases List.mem_cons.mp h with rfl | h
    · exact (leE_total e).trans _ _ _ h0 step.1
    · rcases List.mem_cons.mp h with rfl | h
      · exact (leE_total e).trans _ _ _ h0 step.2
      · exact ih y (List.mem_cons_of_mem _ h)
/-- the same things, in any order -/
theorem minE_same (E : Enc e n) {a b : α} {l m : List α} (h1 : ∀ x ∈ a :: l, x ∈ b :: m) (h2 : ∀ x ∈ b :: m, x ∈ a :: l) : minE e a l = minE e b m :=
  leE_anti E (minE_le e l a _ (h2 _ (minE_mem e m b))) (minE_le e m b _ (h1 _ (minE_mem e l a)))
theorem alikeAll_of (E : Enc e n) (l : List α) : PySem.W.AlikeAll ((l.map e).map toPy) := by
  refine ⟨?_, ?_⟩
  · intro d hd d' hd'
    simp only [List.map_map, List.mem_map, Function.comp] at hd hd'
    obtain ⟨a, _, rfl⟩ := hd
    obtain ⟨b, _, rfl⟩ := hd'
    exact E.al a b
  · intro d hd
    simp only [List.map_map, List.mem_map, Function.comp] at hd
    obtain ⟨a, _, rfl⟩ := hd
    exact E.ne a
theorem depthAll_of (E : Enc e n) : ∀ l : List α, PyData.depthAll ((l.map e).map toPy) ≤ n
  | [] => by simp [PyData.depthAll]
  | a :: l => by simp only [List.map_cons, PyData.depthAll]; exact Nat.max_le.mpr ⟨E.dep a, depthAll_of E l⟩
theorem plainL_of (E : Enc e n) : ∀ l : List α, plainL (l.map e) = true
  | [] => rfl
  | a :: l => by simp [plainL, E.pl, plainL_of E l]
theorem min_d (E : Enc e n) (hn : n ≤ 60) {a : α} {l : List α} (hl : Lay e (a :: l)) {w : W} {S : Sto} (hw : lstW S w = some ((a :: l).map fun a => .da (e a))) : vlN minLW [w] S = .ok (.da (e (minE e a l))) S := by
  have hd : dats ((a :: l).map fun a => .da (e a)) = some (e a :: l.map e) := by
    rw [show ((a :: l).map fun a => W.da (e a)) = ((a :: l).map e).map .da by simp]
    exact dats_da _
  unfold vlN minLW
  simp only [hw, hd]
  rw [ifc_pos, minDD_map]
  · rfl
  · refine ⟨alikeAll_of E (a :: l), plainL_of E (a :: l), ?_, Nat.le_trans (depthAll_of E (a :: l)) (by omega)⟩
    intro x hx
    rw [← List.map_cons] at hx
    obtain ⟨b, hb, rfl⟩ := List.mem_map.mp hx
    exact hl b hb
/-! == and in -/
theorem shaped_of (E : Enc e n) (hn : n ≤ 60) {a : α} (hl : (toPy (e a)).canLay0 = true) : SeqAt.shaped (toPy (e a)) = true := by
  unfold SeqAt.shaped
  rw [hl, decide_eq_true (Nat.le_trans (E.dep a) (by omega))]
  rfl
theorem eqB_of (E : Enc e n) (hn : n ≤ 60) {a b : α} (ha : (toPy (e a)).canLay0 = true) (hb : (toPy (e b)).canLay0 = true) {x y : W} {S : Sto} (hx : valW S x = some (e a)) (hy : valW S y = some (e b)) : eqB x y S = some (dec (a = b)) := by
  unfold eqB
  simp only [hx, hy]
  unfold eqD
  split
  · rename_i i j h1 h2
    have := E.eqv a b
    rw [h1, h2] at this
    simp only [toPy, PyData.eqv] at this
    rw [← this]
    by_cases q : i = j
    · subst q; simp [dec_pos]
    · rw [dec_neg q]; simp [q]
  · rename_i i j h1 h2
    have := E.eqv a b
    rw [h1, h2] at this
    simp only [toPy, PyData.eqv] at this
    rw [← this]
    by_cases q : i = j
    · subst q; simp [dec_pos]
    · rw [dec_neg q]; simp [q]
  · rename_i i j h1 h2
    have := E.eqv a b
    rw [h1, h2] at this
    simp only [toPy, PyData.eqv] at this
    rw [← this]
    by_cases q : i = j
    · subst q; simp [dec_pos]
    · rw [dec_neg q]; simp [q]
  · rw [ifc_pos ⟨shaped_of E hn ha, shaped_of E hn hb⟩, E.eqv]
theorem eq_e (E : Enc e n) (hn : n ≤ 60) {a b : α} (ha : (toPy (e a)).canLay0 = true) (hb : (toPy (e b)).canLay0 = true) (S : Sto) : vl2 eqW (.da (e a)) (.da (e b)) S = .ok (.da (.bl (dec (a = b)))) S := by
  unfold vl2 eqW
  rw [eqB_of E hn ha hb rfl rfl]
  rfl
theorem ne_e (E : Enc e n) (hn : n ≤ 60) {a b : α} (ha : (toPy (e a)).canLay0 = true) (hb : (toPy (e b)).canLay0 = true) (S : Sto) : vl2 neW (.da (e a)) (.da (e b)) S = .ok (.da (.bl (!dec (a = b)))) S := by
  unfold vl2 neW
  rw [eqB_of E hn ha hb rfl rfl]
  rfl
theorem layAll_of : ∀ {l : List α}, Lay e l → PyData.canLayAll0 (toPyL (l.map e)) = true
  | [], _ => rfl
  | a :: l, h => by simp [toPyL, PyData.canLayAll0, h a (by simp), layAll_of (l := l) fun b hb => h b (by simp [hb])]
theorem shapedL_of (E : Enc e n) (hn : n ≤ 60) {l : List α} (hl : Lay e l) : SeqAt.shaped (.list (toPyL (l.map e))) = true := by
  unfold SeqAt.shaped
  have h1 : (PyData.list (toPyL (l.map e))).canLay0 = true := by simp only [PyData.canLay0, layAll_of hl]
  have h2 : (PyData.list (toPyL (l.map e))).depth ≤ 64 := by
    simp only [PyData.depth, toPyL_map]
    have := depthAll_of E l
    omega
  rw [h1, decide_eq_true h2]
  rfl
theorem any_of (E : Enc e n) (a : α) : ∀ l : List α, ((l.map e).any fun z => PyData.eqv (toPy z) (toPy (e a))) = dec (a ∈ l)
  | [] => by rw [dec_neg (by simp)]; rfl
  | b :: l => by
    simp only [List.map_cons, List.any_cons, any_of E a l, E.eqv]
    by_cases h : b = a
    · subst h; rw [dec_pos rfl, dec_pos (List.mem_cons_self)]; rfl
    · rw [dec_neg h]
      by_cases q : a ∈ l
      · rw [dec_pos q, dec_pos (List.mem_cons_of_mem _ q)]; rfl
      · rw [dec_neg q, dec_neg (fun z => (List.mem_cons.mp z).elim (fun z => h z.symm) q)]; rfl
theorem inB_lst (d : D) (ds : List D) (S : Sto) : inB (.da d) (.da (.lst ds)) S = ifc (SeqAt.shaped (toPy d) = true ∧ SeqAt.shaped (.list (toPyL ds)) = true) (some (ds.any fun z => PyData.eqv (toPy z) (toPy d))) none := by cases d <;> rfl
theorem inB_of (E : Enc e n) (hn : n ≤ 60) {a : α} {l : List α} (ha : (toPy (e a)).canLay0 = true) (hl : Lay e l) {S : Sto} : inB (.da (e a)) (.da (.lst (l.map e))) S = some (dec (a ∈ l)) := by
  rw [inB_lst, ifc_pos ⟨shaped_of E hn ha, shapedL_of E hn hl⟩, any_of E]
theorem in_e (E : Enc e n) (hn : n ≤ 60) {a : α} {l : List α} (ha : (toPy (e a)).canLay0 = true) (hl : Lay e l) (S : Sto) : vl2 inW (.da (e a)) (.da (.lst (l.map e))) S = .ok (.da (.bl (dec (a ∈ l)))) S := by
  unfold vl2 inW
  rw [inB_of E hn ha hl]
  rfl
theorem notin_e (E : Enc e n) (hn : n ≤ 60) {a : α} {l : List α} (ha : (toPy (e a)).canLay0 = true) (hl : Lay e l) (S : Sto) : vl2 notinW (.da (e a)) (.da (.lst (l.map e))) S = .ok (.da (.bl (!dec (a ∈ l)))) S := by
  unfold vl2 notinW
  rw [inB_of E hn ha hl]
  rfl
end
end Ng
namespace Ng
open PySem PySem.Spec PyProof.Rows L2
/-! ### sorted(xs, key=f), f a def that gives ints or texts -/
def keyV (v : V) (k : PyData) : Prop := (∃ n, v = .int n ∧ k = .int n) ∨ (∃ x, v = .str x ∧ k = .str x)
def keyU (u : Value) (k : PyData) : Prop := (∃ n t, u = .int n t ∧ k = .int n) ∨ (∃ x t, u = .str x t ∧ k = .str x)
theorem keyV_u {v : V} {u : Value} {k : PyData} (h : keyV v k) (r : RelV v u) : keyU u k := by
  rcases h with ⟨n, rfl, rfl⟩ | ⟨x, rfl, rfl⟩
  · obtain ⟨t, rfl⟩ := r
    exact .inl ⟨n, t, rfl, rfl⟩
  · obtain ⟨t, rfl⟩ := r
    exact .inr ⟨x, t, rfl, rfl⟩
theorem keyU_reads {u : Value} {k : PyData} (h : keyU u k) (hp : Heap) : ∃ as, Reads hp u k as := by
  rcases h with ⟨n, t, rfl, rfl⟩ | ⟨x, t, rfl, rfl⟩
  · exact ⟨[], .int n t⟩
  · exact ⟨[], .str x t⟩
/-- the keys, one call behind the other -/
def keysR (sp : Sp) (Q : List PyData → Hp → Prop) : List V → List PyData → Hp → Prop
  | [], acc, H => Q acc H
  | x :: xs, acc, H => sp [x] H (fun v H' => ∃ k, keyV v k ∧ keysR sp Q xs (acc ++ [k]) H') (fun _ _ _ => False)
def rSortK (K : PySem.W.Frag) (sp : Sp) (f : Addr) : List V → List V → Hp → VK → Prop := fun vs zs H Q => ∃ (a : Addr) (xs : List V), vs = [.ref a] ∧ zs = [.ref f] ∧ SqL K H a xs ∧
  keysR sp (fun ks H' => PySem.W.AllAlike ks ∧ PySem.W.Sortable ks ∧ (∀ k ∈ ks, k.depth ≤ 64) ∧ ∀ p, H' p = none → Q (.ref p) (upd H' p (.lst (((xs.zip ks).mergeSort (PySem.W.dataLe false (·.2))).map (·.1))))) xs [] H
theorem each_pair {α β : Type} {R : α → β → Prop} {as : List α} {bs : List β} (h : Paired R as bs) : PySem.W.EachIs (fun b a => R a b) bs as := by
  induction h with
  | nil => exact .nil
  | cons r t ih => exact .cons r ih
theorem each_zipK : ∀ {vs : List V} {us : List Value} {ks : List PyData}, Vals vs us → vs.length = ks.length → PySem.W.EachIs (fun u (b : V × PyData) => RelV b.1 u) us (vs.zip ks)
  | _, _, [], .nil, _ => .nil
  | _, _, k :: ks, .nil, h => by simp at h
  | _, _, [], .cons r t, h => by simp at h
  | _, _, k :: ks, .cons r t, h => .cons r (each_zipK t (by simpa using h))
section
variable {X : Cx} {CXp : CXT} {k : Nat} {f : Addr} {fd : FuncData} {ps : List Str} {sp : Sp}
theorem run_key (G : FnOk X.prog X.w X.K X.mg X.base (L2.CX X.prog X.w) k f fd ps sp) {A : Around} (hr : Room k A) (hb : Binds X.K fd ps []) {pins : List (Addr × Obj)} {σ : L2.St} {H : Hp} {s : Shared} (I : Inv X pins σ H s) (he : Env0 X.prog X.w X.K X.mg X.base A X.stack s H) {x : V} {u : Value} (r : RelV x u) {Q : VK}
    (h : sp [x] H Q (fun _ _ _ => False)) : wpAny (model X.prog X.w) A (call (.ref f) [u]) (EP X pins σ Q) (fun _ _ => False) s := by
  have hl : ([u] ++ []).length = ps.length := by rw [← G.len _ _ _ _ h]; rfl
  refine wpAny_call (codeAny_mono (G.run A X.stack s H ⟨[u], []⟩ [u] [x] Q _ hr he (hb s [u] I.kIn hl) (.cons r .nil) h) fun r s' hq => ?_)
  cases r with
  | error e =>
    obtain ⟨_, _, _, _, _, _, _, _, _, _, _, _, z⟩ := hq
    exact z
  | ok fl =>
    cases fl with
    | ret u => exact I.after hq
    | next => exact False.elim hq
    | brk => exact False.elim hq
    | cont => exact False.elim hq
theorem cr_sortK (hu : Hu X) (G : FnOk X.prog X.w X.K X.mg X.base (L2.CX X.prog X.w) k f fd ps sp) (hr : Room (k + 2) X.A) (hb : Binds X.K fd ps []) : CallRK X (.builtin "sorted") [Str.ofString "key"] (rSortK X.K sp f) := by
  intro pins s σ H vs zs us ws Q I r rz h
  obtain ⟨a, xs, rfl, rfl, hs, hq⟩ := h
  obtain ⟨its, rv, hl, hz⟩ := I.list hs
  rw [Vals.ref1 r, Vals.ref1 rz]
  have hlen : its.length ≤ sizeLine := by rw [← rv.length]; exact hz
  show wpAny _ _ (call (.builtin "sorted") [.ref a] [(Str.ofString "key", .ref f)]) _ _ _
  refine PySem.W.sorted_of_sort hl.isList hlen (ksk_s1 _ _) (fun _ => ksk_l1 _ _) fun E' => ?_
  rw [ksk_t1]
  obtain ⟨D, hD⟩ : ∃ D, D = s.heap.objs.size + 1 := ⟨_, rfl⟩
  rw [← hD]
  have ho : (PySem.W.copyHeap s.heap its).get? D = some (seqObj "list" its.toArray 0) := by rw [hD]; exact PySem.W.copyHeap_at s.heap its
  have hDs : D < (PySem.W.copyHeap s.heap its).objs.size := Heap.lt_size ho
  obtain ⟨e1, ho1⟩ : ∃ e1, ((PySem.W.copyHeap s.heap its).update D (Obj.mapSeq fun _ => (#[] : Array Value))).get? D = some (seqObj "list" #[] e1) := ⟨_, get?_update_seq ho fun _ => #[]⟩
  have hkS : (((PySem.W.copyHeap s.heap its).update D (Obj.mapSeq fun _ => (#[] : Array Value))).push (seqObj "tuple" its.toArray 0)).objs.size = (PySem.W.copyHeap s.heap its).objs.size + 1 := by rw [size_push', Heap.size_update]
  unfold ksk_tree
  refine wpAny_bind (listItems_at ho rfl ?_)
  refine wpAny_bind (listUpdate_at ho rfl ?_ (by rw [List.size_toArray]; exact hlen) (Nat.zero_le _))
  refine wpAny_bind (seqEpoch_at ho1 rfl ?_)
  refine wpAny_bind (wpAny_newTuple ?_ (by show its.length ≤ _; exact hlen))
  refine wpAny_bind (wpAny_newList ?_ (Nat.zero_le _))
  refine wpAny_holding ?_
  obtain ⟨K0, hK0⟩ : ∃ K0, K0 = (((PySem.W.copyHeap s.heap its).update D (Obj.mapSeq fun _ => (#[] : Array Value))).push (seqObj "tuple" its.toArray 0)).objs.size := ⟨_, rfl⟩
  have hDK : D < K0 := by rw [hK0, hkS]; omega
  have hsD : s.heap.objs.size ≤ D := by omega
  have keep : ∀ b o, s.heap.get? b = some o → ((((PySem.W.copyHeap s.heap its).update D (Obj.mapSeq fun _ => (#[] : Array Value))).push (seqObj "tuple" its.toArray 0)).push (seqObj "list" #[] 0)).get? b = some o := fun b o q =>
    PySem.W.sortingHeap_old (h := PySem.W.copyHeap s.heap its) (a := D) (vs := its) (Nat.ne_of_lt (Nat.lt_of_lt_of_le (Heap.lt_size q) hsD)) (PySem.W.copyHeap_old q)
  obtain ⟨hp1, hhp1⟩ : ∃ hp1, hp1 = ((((PySem.W.copyHeap s.heap its).update D (Obj.mapSeq fun _ => (#[] : Array Value))).push (seqObj "tuple" its.toArray 0)).push (seqObj "list" #[] 0)) := ⟨_, rfl⟩
  have nk : hp1.get? K0 = some (seqObj "list" #[] 0) := by rw [hhp1, hK0]; exact Heap.get?_push_size _ rfl
  have na : hp1.get? D = some (seqObj "list" #[] e1) := by rw [hhp1]; exact Heap.get?_push_of_some _ (Heap.get?_push_of_some _ ho1)
  rw [← hK0]
  show wpAny _ _ _ _ _ { s with heap := ((((PySem.W.copyHeap s.heap its).update D (Obj.mapSeq fun _ => (#[] : Array Value))).push (seqObj "tuple" its.toArray 0)).push (seqObj "list" #[] 0)) }
  rw [← hhp1] at keep ⊢
  have I1 : Inv X pins σ H { s with heap := hp1 } := I.kept (t' := s.toks) keep
  have ltL := I.lt
  have neDL : D ≠ X.env.locals := Nat.ne_of_gt (Nat.lt_of_lt_of_le ltL hsD)
  have neKL : K0 ≠ X.env.locals := Nat.ne_of_gt (Nat.lt_of_lt_of_le ltL (Nat.le_trans hsD (Nat.le_of_lt hDK)))
  have neDK : D ≠ K0 := Nat.ne_of_lt hDK
  have np : ∀ p ∈ X.pn ++ pins, p.1 < s.heap.objs.size := fun p hp => Heap.lt_size (I.pin p hp).1
  have npD : ∀ p ∈ X.pn ++ pins, p.1 ≠ D := fun p hp => Nat.ne_of_lt (Nat.lt_of_lt_of_le (np p hp) hsD)
  have npK : ∀ p ∈ X.pn ++ pins, p.1 ≠ K0 := fun p hp => Nat.ne_of_lt (Nat.lt_trans (Nat.lt_of_lt_of_le (np p hp) hsD) hDK)
  have nDf : D ∉ X.fs := I.nofs hsD
  have nKf : K0 ∉ X.fs := I.nofs (by omega)
  have seqN : ∀ (ar : Array Value) (e : Nat) (v : Option Value), (seqObj "list" ar e).data ≠ .cell v := fun ar e v z => by cases z
  have pin2 : ∀ {H' : Hp} {s' : Shared} {kA : Array Value} {e : Nat}, Inv X pins σ H' s' → H' D = none → H' K0 = none → s'.heap.get? D = some (seqObj "list" #[] e1) → s'.heap.get? K0 = some (seqObj "list" kA e) →
      Inv X (pins ++ [(D, seqObj "list" #[] e1), (K0, seqObj "list" kA e)]) σ H' s' := fun {H' s' kA e} I' d1 d2 d3 d4 => I'.pins_of fun p hp => by
    rcases List.mem_append.mp hp with hp | hp
    · exact I'.pin p (List.mem_append_right _ hp)
    · simp only [List.mem_cons, List.not_mem_nil, or_false] at hp
      rcases hp with rfl | rfl
      · exact ⟨d3, d1, neDL, nDf, seqN _ _⟩
      · exact ⟨d4, d2, neKL, nKf, seqN _ _⟩
  unfold ksk_rest
  refine wpAny_bind (wpAny_rule ?_)
  first
    | rw [List.forIn_toArray]
    | (rw [← Array.forIn_toList]; simp only [List.toList_toArray])
    | rw [← Array.forIn_toList]
  refine wpAny_bind (ksk_fold (fun i s' => ∃ Hi kA e ks, Inv X (pins ++ [(D, seqObj "list" #[] e1), (K0, seqObj "list" kA e)]) σ Hi s' ∧ PySem.W.EachIs keyU kA.toList ks ∧ ks.length = i ∧
      keysR sp (fun ks H' => PySem.W.AllAlike ks ∧ PySem.W.Sortable ks ∧ (∀ k ∈ ks, k.depth ≤ 64) ∧ ∀ p, H' p = none → Q (.ref p) (upd H' p (.lst (((xs.zip ks).mergeSort (PySem.W.dataLe false (·.2))).map (·.1))))) (xs.drop i) ks Hi) its 0 _
    ⟨H, #[], 0, [], pin2 I1 (I.hok.fresh hsD) (I.hok.fresh (by omega)) na nk, .nil, rfl, hq⟩ ?step ?done)
  case step =>
    rintro j u s' hx ⟨Hi, kA, e, ks, Ii, hk, hkl, hr'⟩
    simp only [Nat.zero_add] at hkl hr' ⊢
    have hj : j < its.length := (List.getElem?_eq_some_iff.mp hx).1
    have hj' : j < xs.length := by rw [rv.length]; exact hj
    have hxj : xs[j]? = some xs[j] := List.getElem?_eq_getElem hj'
    obtain ⟨u', hu', rx⟩ := Vals.get rv hxj
    rw [hx] at hu'
    cases hu'
    rw [List.drop_eq_getElem_cons hj'] at hr'
    refine wpAny_bind (wpAny_attempt (wpAny_mono (run_key G (A := X.A.in1.in1) hr.in1.in1 hb Ii Ii.env0.in1.in1 rx hr') (fun v s'' he => ?_) fun _ _ hF => hF.elim))
    obtain ⟨v', H', I', r', kd, hkd, hrest⟩ := he
    try dsimp only
    have pK := I'.pin (K0, seqObj "list" kA e) (by simp)
    have pD := I'.pin (D, seqObj "list" #[] e1) (by simp)
    have hz' : kA.size ≤ its.length := by
      have := hk.length
      rw [Array.length_toList] at this
      omega
    have s1 := Heap.SameBut.update s''.heap K0 (Obj.mapSeq (·.push v))
    obtain ⟨c2, hc2⟩ : ∃ c2, (s''.heap.update K0 (Obj.mapSeq (·.push v))).get? K0 = some (seqObj "list" (kA.push v) c2) := ⟨_, get?_update_seq pK.1 (·.push v)⟩
    refine wpAny_bind (listUpdate_at pK.1 rfl ?_ (Nat.le_trans hz' hlen) (Nat.le_trans (Nat.le_of_eq (Array.size_push ..)) (Nat.succ_le_succ (Nat.le_trans hz' hlen))))
    have I'' : Inv X pins σ H' { s'' with heap := s''.heap.update K0 (Obj.mapSeq (·.push v)) } := Inv.turned (t' := s''.toks) (it := K0) I'.unpinned (fun b o hb e => (s1.2 b hb).trans e) pK.2.1 neKL (.inr (by have := I.sz; omega))
      (fun x c hc z => by
        obtain ⟨v, o, h1, h2⟩ := I'.cell x c hc
        rw [z, pK.1] at h1
        cases h1
        exact seqN _ _ _ h2)
      npK
    refine wpAny_pure ⟨rfl, H', kA.push v, c2, ks ++ [kd], pin2 I'' pD.2.1 pK.2.1 ((s1.2 D neDK).trans pD.1) hc2, ?_, by simp [hkl], hrest⟩
    have ea : (kA.push v).toList = kA.toList ++ [v] := by simp
    rw [ea]
    exact PySem.W.each_snoc (keyV_u hkd r') hk
  case done =>
    rintro s' ⟨Hi, kA, e, ks, Ii, hk, hkl, hr'⟩
    simp only [Nat.zero_add] at hkl hr'
    rw [List.drop_of_length_le (by rw [rv.length]; exact Nat.le_refl _)] at hr'
    obtain ⟨hal, hso, hdp, q⟩ := hr'
    have pK := Ii.pin (K0, seqObj "list" kA e) (by simp)
    have pD := Ii.pin (D, seqObj "list" #[] e1) (by simp)
    have hk' : PySem.W.EachIs (fun v k => ∃ as, Reads s'.heap v k as) kA.toList ks := hk.mono fun v k q => keyU_reads q _
    have hsz : kA.size = its.length := by
      have := hk.length
      rw [Array.length_toList] at this
      omega
    try dsimp only
    refine wpAny_bind (listItems_at pK.1 rfl ?_)
    obtain ⟨G1, g1, g2⟩ := restrict s'.heap (fun b => b != K0)
    have kp : PySem.W.KeepsBut D G1 s'.heap := fun b o hb e => by
      by_cases hbk : b = K0
      · rw [g2 b (by simp [hbk])] at e; cases e
      · rw [← g1 b (by simp [hbk])]; exact e
    have hu' : X.A.units + 200 < cLine := hu
    refine PySem.W.keyH_end (κ := PySem.W.dataKind s'.heap ks) (h₁ := G1) kp (g2 K0 (by simp)) pK.1 pD.1 neDK.symm (PySem.W.SortsAt.data (s := s') hk' hal hso fun d hd => ?_) hsz hlen fun h3 tk3 c k3 n3 => ?_
    · have := hdp d hd
      show X.A.units + 1 + 1 + d.depth < cLine
      omega
    · have eo := PySem.W.keyedOut_each (rev := false) (k := fun b : V × PyData => b.2) (bs := xs.zip ks) (vs := its) (R := fun u (b : V × PyData) => RelV b.1 u) (out := PySem.W.sortVals (PySem.W.dataKind s'.heap ks) false kA.toList its)
        ⟨s'.heap, kA.toList, by rw [List.map_snd_zip (by rw [rv.length]; omega)]; exact hal, by rw [List.map_snd_zip (by rw [rv.length]; omega)], by rw [List.map_snd_zip (by rw [rv.length]; omega)]; exact hk'⟩ (each_zipK rv (by rw [rv.length]; omega))
      have hnew : ObjOk X.prog X.w (upd Hi D (.lst (((xs.zip ks).mergeSort (PySem.W.dataLe false (·.2))).map (·.1)))) h3 D (.lst (((xs.zip ks).mergeSort (PySem.W.dataLe false (·.2))).map (·.1))) := by
        refine ⟨?_, _, c, vals_each eo, n3⟩
        rw [List.length_map, List.length_mergeSort, List.length_zip]
        omega
      refine ⟨rfl, .ref D, _, ?_, rfl, q D pD.2.1⟩
      have k4 : ∀ b o, b ≠ D → b ≠ K0 → s'.heap.get? b = some o → h3.get? b = some o := fun b o h1 h2 e => k3 b o h1 (by rw [g1 b (by simp [h2])]; exact e)
      have nt : ∀ b o, Hi b = some o → b ≠ D ∧ b ≠ K0 := fun b o e => ⟨(fun z => by rw [z, pD.2.1] at e; cases e), (fun z => by rw [z, pK.2.1] at e; cases e)⟩
      refine Inv.step (g' := s'.gens) (d' := s'.drawn) (t' := tk3) (ch := [D, K0]) Ii.unpinned (fun b hb => ?_) (fun b o _ _ hc e _ => k4 b o (fun z => hc (by simp [z])) (fun z => hc (by simp [z])) e) (fun b o _ _ hc e _ => ⟨o.slots, k4 b o (fun z => hc (by simp [z])) (fun z => hc (by simp [z])) e⟩)
        (fun b o hc _ n => by rw [upd_ne (fun z => hc (by simp [z]))]; exact n) (fun b o hc e => ⟨o, k4 b o (fun z => hc (by simp [z])) (fun z => hc (by simp [z])) e⟩)
        (fun b xs e => by rw [upd_ne (nt _ _ e).1]; exact e) (fun b o u e => by rw [upd_ne (nt _ _ e).1]; exact e) (fun b ps e => ⟨#[], by rw [upd_ne (nt _ _ e).1, e]; simp⟩) (fun m hm => ?_) (fun b u e => ?_) Ii.bare
      · have e : b = D ∨ b = K0 := by simpa using hb
        have cellN : ∀ x c, X.env.cells.lookup x = some c → c ≠ b := fun x c hc z => by
          obtain ⟨v, o, h1, h2⟩ := Ii.cell x c hc
          rw [z] at h1
          rcases e with rfl | rfl
          · rw [pD.1] at h1; cases h1; exact seqN _ _ _ h2
          · rw [pK.1] at h1; cases h1; exact seqN _ _ _ h2
        have := I.sz
        exact ⟨.inr (by rcases e with rfl | rfl <;> omega), (by rcases e with rfl | rfl; exact neDL; exact neKL), cellN, (by rcases e with rfl | rfl; exact npD; exact npK)⟩
      · obtain ⟨o, es, ep, ho, r⟩ := hm
        exact ⟨o, es, ep, k4 _ o neDL.symm neKL.symm ho, r⟩
      · by_cases hb : b = D
        · subst hb
          rw [upd_same] at e
          cases e
          exact hnew
        · rw [upd_ne hb] at e
          refine (Ii.hok b u e).stay (fun c v hc q => ?_) (fun c q => by rw [upd_ne (nt _ _ q).1]; exact q) (fun c xs q => by rw [upd_ne (nt _ _ q).1]; exact q)
          rcases hc with rfl | hc
          · exact k4 c v (nt _ _ e).1 (nt _ _ e).2 q
          · exact k4 c v (nt _ _ hc).1 (nt _ _ hc).2 q
end
/-! .. over data -/
def kyD : D → Bool
  | .int _ => true
  | .str _ => true
  | _ => false
def kysD (p : List D → Re D) : List D → Option (List D)
  | [] => some []
  | d :: ds => match p [d] with
    | .ok k => if kyD k = true then (kysD p ds).map (k :: ·) else none
    | _ => none
noncomputable def sortZ (ds ks : List D) : List D := ((ds.zip ks).mergeSort (PySem.W.dataLe false (fun q => toPy q.2))).map (·.1)
noncomputable def sortK (p : List D → Re D) : List D → Re Cell
  | [.lst ds] => match kysD p ds with
    | some ks => ifc (PySem.W.AllAlike (ks.map toPy) ∧ PySem.W.Sortable (ks.map toPy)) (.ok (.lst ((sortZ ds ks).map .da))) .stuck
    | none => .stuck
  | _ => .stuck
section
variable {K : PySem.W.Frag} {cl : Str → Option Addr}
theorem kysD_len {p : List D → Re D} : ∀ {ds ks : List D}, kysD p ds = some ks → ks.length = ds.length ∧ ∀ k ∈ ks, kyD k = true
  | [], ks, h => by cases h; exact ⟨rfl, by simp⟩
  | d :: ds, ks, h => by
    unfold kysD at h
    split at h
    · rename_i k e
      split at h
      · rename_i hk
        obtain ⟨t, ht, rfl⟩ := Option.map_eq_some_iff.mp h
        obtain ⟨a, b⟩ := kysD_len ht
        exact ⟨by simp [a], fun x hx => by rcases List.mem_cons.mp hx with rfl | hx; exact hk; exact b x hx⟩
      · cases h
    · cases h
theorem kyD_v {F : Hp} {k : D} {v : V} (h : kyD k = true) (r : Rp K cl F k v) : keyV v (toPy k) := by
  cases k <;> first | cases h | skip
  · cases (show v = .int _ from r); exact .inl ⟨_, rfl, rfl⟩
  · cases (show v = .str _ from r); exact .inr ⟨_, rfl, rfl⟩
theorem kyD_depth {k : D} (h : kyD k = true) : (toPy k).depth ≤ 64 := by
  cases k <;> first | cases h | skip
  all_goals simp [toPy, PyData.depth]
theorem keys_run {p : List D → Re D} {Qk : List PyData → Hp → Prop} : ∀ {ds ks : List D} {xs : List V} {F H : Hp} {acc : List PyData}, Ex F H → RpL K cl F ds xs → kysD p ds = some ks → (∀ F' H', Al F H F' H' → Qk (acc ++ ks.map toPy) H') → keysR (SpP K cl p) Qk xs acc H
  | [], ks, xs, F, H, acc, x, r, e, h => by
    cases (show xs = [] from r)
    cases e
    have := h F H (Al.refl x)
    simpa [keysR] using this
  | d :: ds, ks, xs, F, H, acc, x, r, e, h => by
    obtain ⟨v, t, rfl, r1, r2⟩ := r
    unfold kysD at e
    split at e
    · rename_i k ek
      split at e
      · rename_i hk
        obtain ⟨kt, ht, rfl⟩ := Option.map_eq_some_iff.mp e
        refine ⟨F, [d], x, ⟨v, [], rfl, r1, rfl⟩, ?_⟩
        rw [ek]
        intro u F' H' al rp
        refine ⟨toPy k, kyD_v hk rp, keys_run al.x (RpL.xt al.f _ _ r2) ht fun F2 H2 al2 => ?_⟩
        have := h F2 H2 (al.trans al2)
        simpa using this
      · cases e
    · cases e
theorem sortZ_rp {F : Hp} {ds ks : List D} {vs : List V} (r : RpL K cl F ds vs) (hk : ks.length = ds.length) : RpL K cl F (sortZ ds ks) (((vs.zip (ks.map toPy)).mergeSort (PySem.W.dataLe false (·.2))).map (·.1)) := by
  obtain ⟨hl, hz⟩ := rpl_zip ds vs r
  have l1 : (ds.zip ks).length = vs.length := by rw [List.length_zip]; omega
  have e1 : ((vs.zip (ds.zip ks)).mergeSort (PySem.W.dataLe false (fun t => toPy t.2.2))).map (fun t => t.2.1) = sortZ ds ks := by
    unfold sortZ
    have : (vs.zip (ds.zip ks)).map (fun t => t.2) = ds.zip ks := List.map_snd_zip (Nat.le_of_eq l1)
    rw [← this, ← List.map_mergeSort (r := PySem.W.dataLe false (fun t : V × D × D => toPy t.2.2)) (s := PySem.W.dataLe false (fun q : D × D => toPy q.2)) (f := fun t : V × D × D => t.2) (fun a _ b _ => rfl), List.map_map, this]
    rfl
  have e2 : ((vs.zip (ds.zip ks)).mergeSort (PySem.W.dataLe false (fun t => toPy t.2.2))).map (fun t => t.1) = ((vs.zip (ks.map toPy)).mergeSort (PySem.W.dataLe false (·.2))).map (·.1) := by
    have h0 : (ds.zip ks).map (fun q => toPy q.2) = ks.map toPy := by
      rw [show (fun q : D × D => toPy q.2) = toPy ∘ (fun q : D × D => q.2) from rfl, ← List.map_map, List.map_snd_zip (Nat.le_of_eq hk)]
    have : vs.zip (ks.map toPy) = (vs.zip (ds.zip ks)).map (fun t => (t.1, toPy t.2.2)) := by
      rw [← h0, List.zip_map_right]
      rfl
    rw [this, ← List.map_mergeSort (r := PySem.W.dataLe false (fun t : V × D × D => toPy t.2.2)) (f := fun t : V × D × D => (t.1, toPy t.2.2)) (fun a _ b _ => rfl), List.map_map]
    rfl
  rw [← e1, ← e2]
  have := zip_rpl (K := K) (cl := cl) (F := F) (((vs.zip (ds.zip ks)).mergeSort (PySem.W.dataLe false (fun t => toPy t.2.2))).map (fun t => (t.1, t.2.1))) fun p hp => by
    obtain ⟨t, ht, rfl⟩ := List.mem_map.mp hp
    have h1 := (List.mergeSort_perm _ _).mem_iff.mp ht
    refine hz (t.1, t.2.1) ?_
    have h2 : vs.zip ds = (vs.zip (ds.zip ks)).map (fun t => (t.1, t.2.1)) := by
      have : (ds.zip ks).map (fun q => q.1) = ds := List.map_fst_zip (by omega)
      conv => lhs; rw [← this, List.zip_map_right]
      rfl
    rw [h2]
    exact List.mem_map.mpr ⟨t, h1, rfl⟩
  simpa [List.map_map, Function.comp_def] using this
theorem spl_sortK {p : List D → Re D} {f : Addr} {vs : List V} {H : Hp} {Q : VK} {E : XK} (h : SpL K cl (sortK p) vs H Q E) : rSortK K (SpP K cl p) f vs [.ref f] H Q := by
  obtain ⟨F, ds0, x, r, q⟩ := h
  cases e : sortK p ds0 with
  | stuck => rw [e] at q; exact q.elim
  | ex _ =>
    unfold sortK at e
    split at e
    · split at e
      · unfold ifc at e
        split at e <;> cases e
      · cases e
    · cases e
  | ok c =>
    rw [e] at q
    unfold sortK at e
    split at e
    · rename_i ds
      split at e
      · rename_i ks hks
        unfold ifc at e
        split at e
        · rename_i hc
          cases e
          obtain ⟨v, t, rfl, ⟨a, xs, rfl, hF, rl⟩, rt⟩ := r
          cases (show t = [] from rt)
          obtain ⟨kl, kk⟩ := kysD_len hks
          refine ⟨a, xs, rfl, rfl, .inl (.inl (x a _ hF)), keys_run x rl hks fun F' H' al => ?_⟩
          simp only [List.nil_append]
          refine ⟨hc.1, hc.2, fun k hk => ?_, fun p hp => ?_⟩
          · obtain ⟨d, hd, rfl⟩ := List.mem_map.mp hk
            exact kyD_depth (kk d hd)
          · have x' : Ex H' (upd H' p (.lst (((xs.zip (ks.map toPy)).mergeSort (PySem.W.dataLe false (·.2))).map (·.1)))) := Ex.new hp
            refine q p F' _ ⟨al.f, al.h.trans x', al.x.trans x', al.n⟩ (al.h.no hp) (al.x.no hp) ?_ ⟨_, upd_same, rwl_da (sortZ_rp (RpL.xt al.f _ _ rl) kl)⟩
            simp [daC, isDa]
        · cases e
      · cases e
    · cases e
end
section
variable {X : Cx} {cl : Str → Option Addr} {xa : Option (Nat × Addr)} {Wx : WX} {k : Nat} {f : Addr} {fd : FuncData} {ps : List Str} {x : Str} {pp pos kp fp : Pos} {e : Expr} {mr : MA} {p : List D → Re D} {mk : Option Cell → Sto → Rs W}
theorem qe_sortK (hu : Hu X) (hmk : MkN X.K cl xa mk (fun Q => Q)) (G : FnOk X.prog X.w X.K X.mg X.base (L2.CX X.prog X.w) k f fd ps (SpP X.K cl p)) (hr : Room (k + 2) X.A) (hg : Gl X x) (hm : X.mg x = some (.ref f)) (hb : Binds X.K fd ps []) (hgs : Gl X "sorted") (hms : X.mg "sorted" = none)
    (ha : QA X cl xa Wx [e] mr) (hdb : (x == ("__debug__" : Str)) = false := by decide)
    (h1 : backTo pos (starEach [e] X.env) = (false, eval e X.env) :: backTo pos (starEach [] X.env) := by rfl) (h2 : (backTo pos (starEach [e] X.env)).any (·.1) = false := by rfl)
    (hall : (backToKw pos (keywordEach [⟨some "key", .Name x fp, kp⟩] X.env)).all (·.1.isSome) = true := by rfl) (hnone : (backToKw pos (keywordEach [⟨some "key", .Name x fp, kp⟩] X.env)).any (·.1.isNone) = false := by rfl) (hks : (backToKw pos (keywordEach [⟨some "key", .Name x fp, kp⟩] X.env)).filterMap (·.1) = [Str.ofString "key"] := by rfl) :
    QE X cl xa Wx (.Call (.Name "sorted" pp) [e] [⟨some "key", .Name x fp, kp⟩] pos) (mCallL mk (sortK p) mr) := by
  obtain ⟨t, pa, q⟩ := ha
  refine ⟨_, pe_callBK (cr_sortK hu G hr hb) hgs hms (by rfl) pa (pk_cons (pe_glob (v := .ref f) hg hm rfl hdb) pk_nil) (by decide) (by decide) h1 h2 hall hnone hks, fun C y σ ρ S s Q h => ?_⟩
  refine q C y σ ρ S s _ (Post.go h fun ws S1 h1 vs z s1 g1 r1 => ?_)
  exact spl_sortK (useL hmk s1 r1 (Post.re (h1 z g1) g1))
end
end Ng
namespace Ng
open PySem PySem.Spec PyProof.Rows L2
/-! ### xs[::-1] -/
def revF (mk : Option Cell → Sto → Rs W) (w : W) (S : Sto) : Rs W := match lstW S w with
  | some ws => mk (some (.lst ws.reverse)) S
  | none => .stuck
def mRev (mk : Option Cell → Sto → Rs W) (me : ME) : ME := fun ρ S => (me ρ S).bind fun w S => revF mk w S
section
variable {X : Cx} {cl : Str → Option Addr} {xa : Option (Nat × Addr)} {Wx : WX} {e : Expr} {me : ME} {k : Nat} {p1 p2 p3 pos : Pos}
theorem qe_rev {mk : Option Cell → Sto → Rs W} (hmk : ∀ (C : Cn) (y : Y) (σ : L2.St) (ρ : Rho) (S : Sto) (o : Option Cell) (Q : VK), Sim X.K cl xa C y σ ρ S → Post X.K cl xa C Wx y σ ρ (mk o S) (OkE X.K cl xa C y σ ρ Q) → ∃ c, o = some c ∧ Gn X.K cl y c Q)
    (he : QE X cl xa Wx e me) : QE X cl xa Wx (.Subscript e (.Slice none none (some (.UnaryOp .USub (.Constant (.int 1) k p1) p2)) p3) pos) (mRev mk me) := by
  obtain ⟨t, p, q⟩ := he
  refine ⟨_, pe_revL p, fun C y σ ρ S s Q h => ?_⟩
  refine q C y σ ρ S s _ (Post.go h fun w S1 h1 v z s1 g1 r1 => ?_)
  have h4 := Post.re (h1 z g1) g1
  unfold revF at h4
  split at h4
  · rename_i ws hw
    obtain ⟨c', e, g⟩ := hmk C z σ ρ S1 _ Q s1 h4
    cases e
    obtain ⟨a, vs, rfl, t, l⟩ := lstW_ok s1.bs r1 hw
    exact ⟨a, vs, rfl, .inl (.inl t), fun p hp => g p _ hp ⟨_, upd_same, upd_rw (paired_rev l)⟩⟩
  · exact h4.elim
theorem qe_revD (he : QE X cl xa Wx e me) : QE X cl xa Wx (.Subscript e (.Slice none none (some (.UnaryOp .USub (.Constant (.int 1) k p1) p2)) p3) pos) (mRev mkD me) := qe_rev (fun C y σ ρ S o Q s h => post_newD s h) he
theorem qe_revC (he : QE X cl xa Wx e me) : QE X cl xa Wx (.Subscript e (.Slice none none (some (.UnaryOp .USub (.Constant (.int 1) k p1) p2)) p3) pos) (mRev mkC me) := qe_rev (fun C y σ ρ S o Q s h => post_newC s h) he
end
/-! ### d.get(k, x) -/
def dctW (S : Sto) (w : W) : Bool := (dkW S w).isSome || (dtW S w).isSome
def getF (w k x : W) (S : Sto) : Rs W := match dget w k S with
  | some (some u) => .ok u S
  | some none => .ok x S
  | none => .stuck
def mGet2 (md mk mx : ME) : ME := fun ρ S => (md ρ S).bind fun w S => if dctW S w = true then (mk ρ S).bind fun k S => (mx ρ S).bind fun x S => getF w k x S else .stuck
def mGet1 (md mk : ME) : ME := fun ρ S => (md ρ S).bind fun w S => if dctW S w = true then (mk ρ S).bind fun k S => getF w k (.da .non) S else .stuck
section
variable {X : Cx} {cl : Str → Option Addr} {xa : Option (Nat × Addr)} {Wx : WX} {o e f : Expr} {md mk mx : ME} {apos cpos : Pos}
theorem dct_ok {K : PySem.W.Frag} {y : Y} {S : Sto} (b : Bs K cl y S) {w : W} {v : V} (r : RW K cl y w v) (h : dctW S w = true) : ∃ a, v = .ref a ∧ IsD y.H a := by
  unfold dctW at h
  cases e : dkW S w with
  | some kws =>
    obtain ⟨a, kvs, e, t, l⟩ := dkW_ok b r e
    exact ⟨a, e, .inl ⟨_, t⟩⟩
  | none =>
    rw [e] at h
    cases e2 : dtW S w with
    | some kws =>
      obtain ⟨a, kvs, e, t, l⟩ := dtW_ok b r e2
      exact ⟨a, e, .inr ⟨_, t⟩⟩
    | none => rw [e2] at h; cases h
theorem qe_get2 (hu : Hu X) (ho : QE X cl xa Wx o md) (he : QE X cl xa Wx e mk) (hf : QE X cl xa Wx f mx) (m : M2 X o "get" apos e f cpos) : QE X cl xa Wx (.Call (.Attribute o "get" apos) [e, f] [] cpos) (mGet2 md mk mx) := by
  obtain ⟨t, p, q⟩ := ho
  obtain ⟨t1, p1, q1⟩ := he
  obtain ⟨t2, p2, q2⟩ := hf
  have hu' : X.A.units + 200 < cLine := hu
  refine ⟨_, pe_dget2 (by omega) p p1 p2 m, fun C y σ ρ S s Q h => ?_⟩
  refine q C y σ ρ S s _ (Post.go h fun w S1 h1 v z s1 g1 r1 => ?_)
  have h1' := h1 z g1
  split at h1'
  · rename_i hd
    obtain ⟨a, rfl, hD⟩ := dct_ok s1.bs r1 hd
    refine ⟨a, rfl, hD, ?_⟩
    refine q1 C z σ ρ S1 s1 _ (Post.go h1' fun k S2 h2 vk z2 s2 g2 r2 => ?_)
    refine q2 C z2 σ ρ S2 s2 _ (Post.go (h2 z2 g2) fun x S3 h3 vx z3 s3 g3 r3 => ?_)
    have h4 := Post.re (h3 z3 g3) (g1.trans (g2.trans g3))
    unfold getF at h4
    split at h4
    · rename_i u hu
      obtain ⟨a', ov, e, g, q1, _⟩ := dget_ok s3.bs (r1.grow (g2.trans g3)) (r2.grow g3) hu
      cases e
      obtain ⟨v, rfl, rv⟩ := q1 u rfl
      exact ⟨_, g, h4 v z3 s3 (Gr.refl z3) rv⟩
    · rename_i hu
      obtain ⟨a', ov, e, g, _, q2⟩ := dget_ok s3.bs (r1.grow (g2.trans g3)) (r2.grow g3) hu
      cases e
      refine ⟨ov, g, ?_⟩
      rw [q2 rfl]
      exact h4 vx z3 s3 (Gr.refl z3) r3
    · exact h4.elim
  · exact h1'.elim
theorem qe_get1 (hu : Hu X) (ho : QE X cl xa Wx o md) (he : QE X cl xa Wx e mk) (m : M1 X o "get" apos e cpos) : QE X cl xa Wx (.Call (.Attribute o "get" apos) [e] [] cpos) (mGet1 md mk) := by
  obtain ⟨t, p, q⟩ := ho
  obtain ⟨t1, p1, q1⟩ := he
  have hu' : X.A.units + 200 < cLine := hu
  refine ⟨_, pe_dget1 (by omega) p p1 m, fun C y σ ρ S s Q h => ?_⟩
  refine q C y σ ρ S s _ (Post.go h fun w S1 h1 v z s1 g1 r1 => ?_)
  have h1' := h1 z g1
  split at h1'
  · rename_i hd
    obtain ⟨a, rfl, hD⟩ := dct_ok s1.bs r1 hd
    refine ⟨a, rfl, hD, ?_⟩
    refine q1 C z σ ρ S1 s1 _ (Post.go h1' fun k S2 h2 vk z2 s2 g2 r2 => ?_)
    have h4 := Post.re (h2 z2 g2) (g1.trans g2)
    unfold getF at h4
    split at h4
    · rename_i u hu
      obtain ⟨a', ov, e, g, q1, _⟩ := dget_ok s2.bs (r1.grow g2) r2 hu
      cases e
      obtain ⟨v, rfl, rv⟩ := q1 u rfl
      exact ⟨_, g, h4 v z2 s2 (Gr.refl z2) rv⟩
    · rename_i hu
      obtain ⟨a', ov, e, g, _, q2⟩ := dget_ok s2.bs (r1.grow g2) r2 hu
      cases e
      refine ⟨ov, g, ?_⟩
      rw [q2 rfl]
      exact h4 .non z2 s2 (Gr.refl z2) rfl
    · exact h4.elim
  · exact h1'.elim
end
end Ng
namespace Ng
open PySem PySem.Spec PyProof.Rows L2
/-! ### sorted(d) of a dict whose keys are texts or ints -/
abbrev kPy (k : Key) : PyData := toPy (kD k)
noncomputable def sortDC : List W → Sto → Option Cell
  | [w], S => match dkW S w with
    | some kws => ifc (PySem.W.AllAlike ((kws.map (·.1)).map kPy) ∧ PySem.W.Sortable ((kws.map (·.1)).map kPy)) (some (.lst (((kws.map (·.1)).mergeSort (PySem.W.dataLe false kPy)).map fun k => .da (kD k)))) none
    | none => none
  | _, _ => none
section
variable {X : Cx} {cl : Str → Option Addr}
theorem kPy_depth (k : Key) : (kPy k).depth ≤ 64 := by cases k <;> simp [kPy, kD, toPy, PyData.depth]
theorem kPy_reads {k : Key} {u : Value} (r : RelV (kV k) u) (h : Heap) : Reads h u (kPy k) [] := by
  cases k with
  | inl i => obtain ⟨t, rfl⟩ := (show ∃ t, u = Value.int i t from r); exact .int i t
  | inr x => obtain ⟨t, rfl⟩ := (show ∃ t, u = Value.str x t from r); exact .str x t
theorem each_of_at {α : Type} {R : Value → α → Prop} : ∀ {us : List Value} {bs : List α}, us.length = bs.length → (∀ (j : Nat) (u : Value) (b : α), us[j]? = some u → bs[j]? = some b → R u b) → PySem.W.EachIs R us bs
  | [], [], _, _ => .nil
  | u :: us, b :: bs, h, q => .cons (q 0 u b rfl rfl) (each_of_at (by simpa using h) fun j u b h1 h2 => q (j + 1) u b (by simpa using h1) (by simpa using h2))
  | [], _ :: _, h, _ => by simp at h
  | _ :: _, [], h, _ => by simp at h
theorem vals_keys : ∀ {us : List Value} {bs : List Key}, PySem.W.EachIs (fun u k => RelV (kV k) u) us bs → Vals (bs.map kV) us
  | _, _, .nil => .nil
  | _, _, .cons r t => .cons r (vals_keys t)
theorem cr_sortDk (hu : Hu X) (hc : X.calm = true) : CallR X (.builtin "sorted") (fun xs H Q => ∃ p kvs, xs = [V.ref p] ∧ Rd H p (.dK kvs) ∧ PySem.W.AllAlike ((kvs.map (·.1)).map kPy) ∧ PySem.W.Sortable ((kvs.map (·.1)).map kPy) ∧
    ∀ q, H q = none → Q (.ref q) (upd H q (.lst (((kvs.map (·.1)).mergeSort (PySem.W.dataLe false kPy)).map kV)))) := by
  intro pins s σ H xs us Q I r ⟨p, kvs, e, hk, ha, hso, q⟩
  subst e
  obtain ⟨u, rfl, rx⟩ := vals1 r
  cases (show u = Value.ref p from rx)
  obtain ⟨z, lo, vs, rk, hd⟩ := dk_rd I.hok hk
  obtain ⟨ep, hat⟩ := hd.dictAt
  have hl : kvs.length = vs.length := Paired.length rk
  have hu' : X.A.units + 200 < cLine := hu
  refine PySem.Calls.call_function_entry kind_sorted plain_sorted entry_sorted (args_sorted1 _) ?_
  unfold Builtin.«sorted»
  refine wpAny_bind (m := checkCount "sorted" 1 1 _) (wpAny_pure ?_)
  refine wpAny_bind (PySem.W.kdu_collect (A := X.A.in1) (PySem.W.kdl_dict (knd := mixKind X.prog X.w) (kvs := vs) (ep := ep) lo) (I.ok.hd hc) hat (by omega) fun h' tk acc hkeep hacc => ?_)
  have hal : acc.toList.length = (kvs.map (·.1)).length := by rw [Array.length_toList, hacc.1, List.length_map, hl]
  have hz : acc.toList.length ≤ sizeLine := by rw [hal, List.length_map]; exact z
  refine wpAny_bind (wpAny_newList ?_ hz)
  refine wpAny_bind (wpAny_holding ?_)
  have each : PySem.W.EachIs (fun u k => RelV (kV k) u) acc.toList (kvs.map (·.1)) := each_of_at hal fun j u b h1 h2 => by
    obtain ⟨k, y, hky, hi⟩ := hacc.2 j u (by rw [← Array.getElem?_toList]; exact h1)
    have e1 : (kvs.map (·.1))[j]? = some k := by
      rw [KV.keys rk, List.getElem?_map, hky]; rfl
    rw [e1] at h2
    cases h2
    exact keyIs_rel hi
  have ho : (h'.push { cls := .type "list", data := .seq acc.toList.toArray }).get? h'.objs.size = some (seqObj "list" acc.toList.toArray 0) := Heap.get?_push_size _ rfl
  refine PySem.W.list_sort_data (A := X.A.in1) (R := fun u k => RelV (kV k) u) (bs := kvs.map (·.1)) (enc := kPy) (vs := acc.toList) ho each (each.mono fun u k r => ⟨[], kPy_reads r _, by simp⟩) ha hso (by rw [List.length_map]; exact z) (fun b _ => ?_) fun out ho' eo => ?_
  · have := kPy_depth b
    show X.A.units + 1 + 1 + (kPy b).depth < cLine
    omega
  · obtain ⟨ep', he'⟩ := PyProof.Rows.sortedHeap_at (h := h'.push { cls := .type "list", data := .seq acc.toList.toArray }) (out := out.toArray) ho
    have I1 : Inv X pins σ H { s with heap := h', toks := tk } := I.kept hkeep
    refine wpAny_pure ⟨_, rfl, .ref h'.objs.size, _, I1.laid (t' := tk) (a := h'.objs.size) (o := .lst (((kvs.map (·.1)).mergeSort (PySem.W.dataLe false kPy)).map kV)) (fun b o e => (PyProof.Rows.sortedHeap_old (Nat.ne_of_lt (Heap.lt_size e)) (Heap.lt_size (Heap.get?_push_of_some _ e))).trans (Heap.get?_push_of_some _ e)) (Nat.le_refl _) ⟨?_, out, ep', vals_keys eo, he'⟩, rfl, q _ (I1.hok.fresh (Nat.le_refl _))⟩
    rw [List.length_map, List.length_mergeSort, List.length_map]
    exact z
theorem cn_sortedD (hu : Hu X) (hc : X.calm = true) : CN X cl (cAny X (.builtin "sorted")) sortDC := fun y S b ws vs rs c e Q g => by
  unfold sortDC at e
  split at e
  · rename_i w
    obtain ⟨v, rfl, r⟩ := rwl1 rs
    split at e
    · rename_i kws q
      obtain ⟨⟨h1, h2⟩, rfl⟩ := ifc_some e
      obtain ⟨a, kvs, rfl, t, l⟩ := dkW_ok b r q
      have ek : kws.map (·.1) = kvs.map (·.1) := by
        clear e q t g h1 h2 r rs
        induction l with
        | nil => rfl
        | cons h _ ih => simp [ih, h.1]
      rw [ek] at h1 h2
      refine ⟨_, cr_sortDk hu hc, a, kvs, rfl, t, h1, h2, fun p hp => g p _ hp ⟨_, upd_same, upd_rw ?_⟩⟩
      rw [ek]
      generalize (kvs.map (·.1)).mergeSort (PySem.W.dataLe false kPy) = ks
      induction ks with
      | nil => exact .nil
      | cons k ks ih => exact .cons (kD_ok k) ih
    · cases e
  · cases e
end
end Ng
namespace Ng
open PySem PySem.Spec PyProof.Rows L2
/-! ### d == e, two dicts of the same keys in the same order, their values the same data -/
def selfD (d : D) : Bool := PySem.W.alike (toPy d) (toPy d) && PyData.eqv (toPy d) (toPy d) && (toPy d).canLay0 && decide ((toPy d).depth ≤ 64)
noncomputable def eqDkW (x y : W) (S : Sto) : Option W := match x, y with
  | .da (.dk ks ds), .da (.dk ks' ds') => ifc (ks = ks' ∧ ds = ds' ∧ ks.Nodup ∧ ∀ d ∈ ds, selfD d = true) (some (.da (.bl true))) none
  | _, _ => none
section
variable {X : Cx} {cl : Str → Option Addr}
theorem hits_same {pins : List (Addr × Obj)} {σ : L2.St} {H : Hp} {s : Shared} (I : Inv X pins σ H s) {A : Around} (hu : A.units + 64 < cLine) {VB : List (Key × Value)} : ∀ {ds : List D} {ka kb : List (Key × V)} {va vb : List (Key × Value)}, KV ka va → KV kb vb → ka.map (·.1) = kb.map (·.1) →
    DpAll X.K H (ka.map (·.2)) (ds.map toPy) → DpAll X.K H (kb.map (·.2)) (ds.map toPy) → (∀ d ∈ ds, selfD d = true) → (∀ q ∈ vb, valueAt VB q.1 = some q.2) → PySem.W.KeqHitsP X.prog X.w A s VB va true
  | ds, [], kb, _, vb, .nil, rb, ek, da, db, hd, hv => .nil
  | [], (k, x) :: ka, kb, _, vb, .cons r t, rb, ek, da, db, hd, hv => by cases da
  | d :: ds, (k, x) :: ka, [], _, vb, .cons r t, rb, ek, da, db, hd, hv => by cases ek
  | d :: ds, (k, x) :: ka, (k', z) :: kb, (k1, u) :: va, (k2, y) :: vb, .cons r t, .cons r' t', ek, da, db, hd, hv => by
    simp only [List.map_cons, List.cons.injEq] at ek
    cases da with
    | cons a1 a2 =>
      cases db with
      | cons b1 b2 =>
        obtain ⟨as, ra⟩ := Dp.reads I _ _ _ a1 r.2
        obtain ⟨bs, rb⟩ := Dp.reads I _ _ _ b1 r'.2
        have hs := hd d (by simp)
        unfold selfD at hs
        simp only [Bool.and_eq_true, decide_eq_true_eq] at hs
        have e := PySem.W.eqAt_alike _ _ A s u y as bs ra rb hs.1.1.1 (by rw [Nat.min_self]; omega)
        rw [hs.1.1.2] at e
        have hk : k1 = k2 := by rw [← show k = k1 from r.1, ← show k' = k2 from r'.1]; exact ek.1
        have := hits_same I hu (VB := VB) t t' ek.2 a2 b2 (fun d hd' => hd d (by simp [hd'])) (fun q hq => hv q (by simp [hq]))
        have hit := PySem.W.KeqHitsP.hit (prog := X.prog) (w := X.w) (A := A) (s := s) (k := k1) (v := u) (y := y) (by rw [hk]; exact hv (k2, y) (by simp)) e.eqP this
        exact hit
theorem op_eqDk (hu : Hu X) : OpR X (compareOp .Eq) (fun x y H Q => ∃ (a b : Addr) (ka kb : List (Key × V)) (ds : List D), x = .ref a ∧ y = .ref b ∧ Rd H a (.dK ka) ∧ Rd H b (.dK kb) ∧ ka.map (·.1) = kb.map (·.1) ∧ (kb.map (·.1)).Nodup ∧
    DpAll X.K H (ka.map (·.2)) (ds.map toPy) ∧ DpAll X.K H (kb.map (·.2)) (ds.map toPy) ∧ (∀ d ∈ ds, selfD d = true) ∧ Q (.bl true) H) := by
  intro pins s σ H x y v u Q I rx ry h
  obtain ⟨a, b, ka, kb, ds, rfl, rfl, ha, hb, ek, nd, da, db, hd, q⟩ := h
  cases (show v = Value.ref a from rx)
  cases (show u = Value.ref b from ry)
  obtain ⟨_, ya, va, ra, dda⟩ := dk_rd I.hok ha
  obtain ⟨_, yb, vb, rb, ddb⟩ := dk_rd I.hok hb
  have hu' : X.A.units + 200 < cLine := hu
  have nd' : (vb.map (·.1)).Nodup := by rw [← KV.keys rb]; exact nd
  refine PySem.W.rcP_dicts (knd := mixKind X.prog X.w) (r := true) ya yb dda ddb (by omega) (fun _ => hits_same I (A := X.A.in1) (by show X.A.units + 1 + 64 < cLine; omega) ra rb ek da db hd fun q hq => valueAt_of_mem nd' hq) _ _ ?_
  have e : va.length = vb.length := by
    rw [← ra.length, ← rb.length]
    have := congrArg List.length ek
    simpa using this
  rw [show (va.length == vb.length && true) = true from by rw [e]; simp]
  exact ⟨.bl true, H, I, rfl, q⟩
theorem ow_eqDk (hu : Hu X) : HOp X cl (compareOp .Eq) (vl2 eqDkW) := V2.h fun y S b w w' v v' r r' u e Q g => by
  unfold eqDkW at e
  split at e
  · rename_i ks ds ks' ds'
    obtain ⟨⟨rfl, rfl, nd, hd⟩, rfl⟩ := ifc_some e
    obtain ⟨a, vs, rfl, ⟨o, ha⟩, la, ra⟩ := r
    obtain ⟨a', vs', rfl, ⟨o', ha'⟩, la', ra'⟩ := r'
    have lay : ∀ d ∈ ds, (toPy d).canLay0 = true := fun d hd' => by
      have := hd d hd'
      unfold selfD at this
      simp only [Bool.and_eq_true] at this
      exact this.1.2
    refine ⟨_, op_eqDk hu, a, a', ks.zip vs, ks.zip vs', ds, rfl, rfl, .inr ⟨o, b.fz _ _ ha⟩, .inr ⟨o', b.fz _ _ ha'⟩, ?_, ?_, ?_, ?_, hd, gv_da b g rfl⟩
    · rw [List.map_fst_zip (Nat.le_of_eq la), List.map_fst_zip (Nat.le_of_eq la')]
    · rw [List.map_fst_zip (Nat.le_of_eq la')]; exact nd
    · rw [List.map_snd_zip (Nat.le_of_eq la.symm)]; exact toPyL_all ds vs lay (RpL.xt b.fz _ _ ra)
    · rw [List.map_snd_zip (Nat.le_of_eq la'.symm)]; exact toPyL_all ds vs' lay (RpL.xt b.fz _ _ ra')
  · cases e
end
end Ng
namespace Ng
open PySem PySem.Spec PyProof.Rows L2
/-! ### sorted(d) of a locked dict whose keys are tuples -/
abbrev kDT (k : List Key) : D := .tup (k.map kD)
abbrev kPyT (k : List Key) : PyData := toPy (kDT k)
noncomputable def sortDT : List D → Re Cell
  | [.dt ks ds] => ifc (PySem.W.AllAlike (ks.map kPyT) ∧ PySem.W.Sortable (ks.map kPyT) ∧ ks.length = ds.length) (.ok (.lst ((ks.mergeSort (PySem.W.dataLe false kPyT)).map fun k => .da (kDT k)))) .stuck
  | _ => .stuck
theorem toPyL_kD : ∀ ks : List Key, toPyL (ks.map kD) = ks.map kPy
  | [] => rfl
  | k :: ks => by simp only [List.map_cons, toPyL, toPyL_kD ks]
theorem kPyT_depth (k : List Key) : (kPyT k).depth ≤ 64 := by
  have h : ∀ ks : List Key, PyData.depthAll (ks.map kPy) ≤ 1 := fun ks => by
    induction ks with
    | nil => simp [PyData.depthAll]
    | cons k ks ih => cases k <;> simp [PyData.depthAll, kPy, kD, toPy, PyData.depth, ih]
  simp only [kPyT, kDT, toPy, toPyL_kD, PyData.depth]
  have := h k
  omega
/-- a dict's keys gathered, whatever they are -/
theorem kdl_raw {prog : Program} {w : World} {d : Addr} {o : Obj} {es : Array DictEntry} {ep : Nat} (lo : (d == sysModules) = false) (hx : o.ExactDict) (hdt : o.data = .dict es ep) : PySem.W.KdlSrc prog w "dict" d d es.size (fun i v => ∃ en, es[i]? = some en ∧ en.key = v) (fun h => h.get? d = some o) where
  type := fun _ hm => ⟨o, hm, hx.1⟩
  there := fun _ hm => ⟨Heap.lt_size hm, Heap.lt_size hm⟩
  keep := fun _ _ hm hk => hk d (.inl rfl) o hm
  notList := by decide
  notTuple := by decide
  hint := fun _ _ _ _ hm hq => PySem.W.kdl_hint_dict ⟨o, hm, hx.1⟩ hq
  iter := fun A s hh hm => by
    have hne : d ≠ s.heap.objs.size := Nat.ne_of_lt (Heap.lt_size hm)
    refine ⟨_, fun i h => h.IsKeyIter s.heap.objs.size d i es.size ep ∧ h.get? d = some o, (fun _ _ hq => iter_keys lo hm hx hdt hq), ⟨by simp, fun i h h' st k => ⟨st.1.at fun oi e => k _ (by simp) oi e, k d (by simp) o st.2⟩, fun i s' Q E hi st hQ => ?_, fun s' Q E st hQ => ?_, fun i s' Q E st h => ?_⟩, ⟨_, Heap.get?_push_size _ rfl, rfl, rfl⟩, Heap.get?_push_of_some _ hm⟩
    · have hen : es[i]? = some es[i] := by simp [hi]
      refine next_key_item st.1 st.2 hdt rfl hen fun h' st' sb => ?_
      exact hQ _ h' s'.toks ⟨_, hen, rfl⟩ ⟨st', (sb.2 d hne).trans st.2⟩ fun b ob hb e => (sb.2 b (by simpa using hb)).trans e
    · refine next_key_end hh st.1 st.2 hdt rfl (Nat.le_refl _) fun h' eb => ?_
      exact hQ h' s'.toks fun b ob hb e => eb b ob (by simpa using hb) e
    · refine wpAny_pyIter_slot st.1.typeIs F.slot_dict_keyiterator_iter (wpAny_call_entry F.slot_dict_keyiterator_iter st.1.typeIs F.entry_dict_keyiterator_iter ?_ (F.args_dict_keyiterator_iter_1 _))
      show wpAny _ _ (ret (.ref _)) _ _ s'
      exact wpAny_pure ⟨_, rfl, "dict_keyiterator", _, st.1.typeIs, F.slot_dict_keyiterator_next.lookup, h⟩
section
variable {X : Cx} {cl : Str → Option Addr}
def rSortDT : List V → Hp → VK → Prop := fun xs H Q => ∃ (d : Addr) (o : Obj) (kvs : List (List Key × V)), xs = [V.ref d] ∧ H d = some (.frz o (.dT kvs)) ∧ PySem.W.AllAlike ((kvs.map (·.1)).map kPyT) ∧ PySem.W.Sortable ((kvs.map (·.1)).map kPyT) ∧
  ∀ p qs, H p = none → Paired (fun (k : List Key) (q : Addr) => H q = some (.tup (k.map kV))) ((kvs.map (·.1)).mergeSort (PySem.W.dataLe false kPyT)) qs → Q (.ref p) (upd H p (.lst (qs.map V.ref)))
theorem reads_keys {h : Heap} : ∀ {k : List Key} {us : List Value}, Vals (k.map kV) us → ReadsAll h us (k.map kPy) []
  | [], _, .nil => .nil
  | k :: ks, _, .cons r t => ReadsAll.cons (as := []) (bs := []) (kPy_reads r h) (reads_keys t)
theorem tup_reads {pins : List (Addr × Obj)} {σ : L2.St} {H : Hp} {s : Shared} (I : Inv X pins σ H s) {q : Addr} {k : List Key} (h : H q = some (.tup (k.map kV))) : Reads s.heap (.ref q) (kPyT k) [] := by
  obtain ⟨its, r, ht, _⟩ := I.tuple (.inl (.inl h))
  obtain ⟨o, h1, h2, n, h3⟩ := ht
  have e : kPyT k = .tuple (k.map kPy) := by simp only [kPyT, kDT, toPy, toPyL_kD]
  rw [e]
  exact Reads.tuple h1 h2 h3 (by simpa using reads_keys r)
theorem refs_of {H : Hp} : ∀ {us : List Value} {ks : List (List Key)}, PySem.W.EachIs (fun u k => ∃ q, u = Value.ref q ∧ H q = some (.tup (k.map kV))) us ks → ∃ qs, Vals (qs.map V.ref) us ∧ Paired (fun (k : List Key) (q : Addr) => H q = some (.tup (k.map kV))) ks qs
  | _, _, .nil => ⟨[], .nil, .nil⟩
  | _, _, .cons ⟨q, e, h⟩ t => by
    obtain ⟨qs, a, b⟩ := refs_of t
    exact ⟨q :: qs, .cons (show RelV (.ref q) _ from e) a, .cons h b⟩
theorem cr_sortDT (hu : Hu X) (hc : X.calm = true) : CallR X (.builtin "sorted") rSortDT := by
  intro pins s σ H xs us Q I r ⟨d, o, kvs, e, hk, ha, hso, q⟩
  subst e
  obtain ⟨u, rfl, rx⟩ := vals1 r
  cases (show u = Value.ref d from rx)
  obtain ⟨lo, hgd, hx, es, ep, hdt, hsz, ent⟩ := I.frzT hk
  have z : kvs.length ≤ sizeLine := by
    obtain ⟨_, z, _⟩ := I.hok d _ hk
    exact z
  have hu' : X.A.units + 200 < cLine := hu
  refine PySem.Calls.call_function_entry kind_sorted plain_sorted entry_sorted (args_sorted1 _) ?_
  unfold Builtin.«sorted»
  refine wpAny_bind (m := checkCount "sorted" 1 1 _) (wpAny_pure ?_)
  refine wpAny_bind (PySem.W.kdu_collect (A := X.A.in1) (kdl_raw lo hx hdt) (I.ok.hd hc) hgd (by omega) fun h' tk acc hkeep hacc => ?_)
  have hal : acc.toList.length = (kvs.map (·.1)).length := by rw [Array.length_toList, hacc.1, List.length_map, hsz]
  have hz : acc.toList.length ≤ sizeLine := by rw [hal, List.length_map]; exact z
  refine wpAny_bind (wpAny_newList ?_ hz)
  refine wpAny_bind (wpAny_holding ?_)
  have each : PySem.W.EachIs (fun u k => ∃ q, u = Value.ref q ∧ H q = some (.tup (k.map kV))) acc.toList (kvs.map (·.1)) := each_of_at hal fun j u b h1 h2 => by
    obtain ⟨en, h3, h4⟩ := hacc.2 j u (by rw [← Array.getElem?_toList]; exact h1)
    rw [List.getElem?_map] at h2
    obtain ⟨kv, h5, rfl⟩ := Option.map_eq_some_iff.mp h2
    obtain ⟨en', q', h6, h7, h8⟩ := ent j kv.1 kv.2 h5
    rw [h3] at h6
    cases h6
    exact ⟨q', by rw [← h4]; exact h7, h8⟩
  have I1 : Inv X pins σ H { s with heap := h', toks := tk } := I.kept hkeep
  have I2 : Inv X pins σ H { s with heap := h'.push { cls := .type "list", data := .seq acc.toList.toArray }, toks := tk } := I1.kept (t' := tk) fun b o e => Heap.get?_push_of_some _ e
  have ho : (h'.push { cls := .type "list", data := .seq acc.toList.toArray }).get? h'.objs.size = some (seqObj "list" acc.toList.toArray 0) := Heap.get?_push_size _ rfl
  refine PySem.W.list_sort_data (A := X.A.in1) (R := fun u k => ∃ q, u = Value.ref q ∧ H q = some (.tup (k.map kV))) (bs := kvs.map (·.1)) (enc := kPyT) (vs := acc.toList) ho each (each.mono fun u k ⟨q, e, h⟩ => ⟨[], by rw [e]; exact tup_reads I2 h, by simp⟩) ha hso (by rw [List.length_map]; exact z) (fun b _ => ?_) fun out ho' eo => ?_
  · have := kPyT_depth b
    show X.A.units + 1 + 1 + (kPyT b).depth < cLine
    omega
  · obtain ⟨ep', he'⟩ := PyProof.Rows.sortedHeap_at (h := h'.push { cls := .type "list", data := .seq acc.toList.toArray }) (out := out.toArray) ho
    obtain ⟨qs, v1, v2⟩ := refs_of eo
    refine wpAny_pure ⟨_, rfl, .ref h'.objs.size, _, I1.laid (t' := tk) (a := h'.objs.size) (o := .lst (qs.map V.ref)) (fun b o e => (PyProof.Rows.sortedHeap_old (Nat.ne_of_lt (Heap.lt_size e)) (Heap.lt_size (Heap.get?_push_of_some _ e))).trans (Heap.get?_push_of_some _ e)) (Nat.le_refl _) ⟨?_, out, ep', v1, he'⟩, rfl, q _ qs (I1.hok.fresh (Nat.le_refl _)) v2⟩
    rw [v1.length, ho', List.length_map]
    exact z
open Classical in
theorem spl_sortDT {K : PySem.W.Frag} {vs : List V} {H : Hp} {Q : VK} {E : XK} (h : SpL K cl sortDT vs H Q E) : rSortDT vs H Q := by
  obtain ⟨F, ds0, x, r, q⟩ := h
  unfold sortDT at q
  split at q
  · rename_i hk
    split at hk
    · rename_i ks ds
      unfold ifc at hk
      split at hk
      · rename_i hc
        cases hk
        obtain ⟨v, t, rfl, ⟨a, us, rfl, ⟨o, hF⟩, hl, rl⟩, rt⟩ := r
        cases (show t = [] from rt)
        have ek : (ks.zip us).map (·.1) = ks := List.map_fst_zip (Nat.le_of_eq hl)
        refine ⟨a, o, ks.zip us, rfl, x a _ hF, by rw [ek]; exact hc.1, by rw [ek]; exact hc.2.1, fun p qs hp hq => ?_⟩
        rw [ek] at hq
        have tq : ∀ b ∈ qs, ∃ xs, H b = some (.tup xs) := by
          clear q
          generalize ks.mergeSort (PySem.W.dataLe false kPyT) = sk at hq
          induction hq with
          | nil => simp
          | cons r t ih =>
            intro b hb
            rcases List.mem_cons.mp hb with rfl | hb
            · exact ⟨_, r⟩
            · exact ih b hb
        have x' : Ex H (upd H p (.lst (qs.map V.ref))) := Ex.new hp
        refine q p (fun b => if b ∈ qs then H b else F b) _ ⟨fun b o e => ?_, x', fun b o e => ?_, fun b o e => ?_⟩ hp ?_ (by simp [daC, isDa]) ⟨_, upd_same, ?_⟩
        · show (if b ∈ qs then H b else F b) = some o
          split
          · exact x b o e
          · exact e
        · have e : (if b ∈ qs then H b else F b) = some o := e
          split at e
          · exact x' b o e
          · exact x' b o (x b o e)
        · have e : (if b ∈ qs then H b else F b) = some o := e
          split at e
          · rename_i hb
            obtain ⟨xs, hxs⟩ := tq b hb
            rw [hxs] at e
            cases e
            exact .inr (.inr ⟨xs, rfl⟩)
          · exact .inl e
        · show (if p ∈ qs then H p else F p) = none
          split
          · exact hp
          · exact x.no hp
        · have all : ∀ (l : List Addr), (∀ b ∈ l, b ∈ qs) → ∀ {sk : List (List Key)}, Paired (fun (k : List Key) (q : Addr) => H q = some (.tup (k.map kV))) sk l → RWL K cl ⟨fun b => if b ∈ qs then H b else F b, upd H p (.lst (qs.map V.ref)), []⟩ (sk.map fun k => .da (kDT k)) (l.map V.ref) := fun l hl sk hq => by
            induction hq with
            | nil => exact .nil
            | cons r t ih =>
              rename_i k b ks' bs'
              refine .cons ⟨b, k.map kV, rfl, ?_, rpl_kD k⟩ (ih fun c hc => hl c (by simp [hc]))
              show (if b ∈ qs then H b else F b) = _
              rw [if_pos (hl b (by simp))]
              exact r
          exact all qs (fun _ h => h) hq
      · cases hk
    · cases hk
  · rename_i hk
    split at hk
    · unfold ifc at hk
      split at hk <;> cases hk
    · cases hk
  · exact q.elim
end
section
variable {X : Cx} {cl : Str → Option Addr} {xa : Option (Nat × Addr)} {Wx : WX} {pp pos : Pos} {e : Expr} {mr : MA} {mk : Option Cell → Sto → Rs W}
theorem qe_sortDT (hu : Hu X) (hc : X.calm = true) (hmk : MkN X.K cl xa mk (fun Q => Q)) (hgs : Gl X "sorted") (hms : X.mg "sorted" = none) (ha : QA X cl xa Wx [e] mr)
    (he : starEach [e] X.env = (false, eval e X.env) :: starEach [] X.env := by rfl) (hpl : (backTo pos (starEach ([] : List Expr) X.env)).any (·.1) = false := by rfl) :
    QE X cl xa Wx (.Call (.Name "sorted" pp) [e] [] pos) (mCallL mk sortDT mr) := by
  obtain ⟨t, pa, q⟩ := ha
  refine ⟨_, pe_callB (cr_sortDT hu hc) hgs hms (by rfl) pa (by decide) (by decide) he hpl, fun C y σ ρ S s Q h => ?_⟩
  refine q C y σ ρ S s _ (Post.go h fun ws S1 h1 vs z s1 g1 r1 => ?_)
  exact spl_sortDT (useL hmk s1 r1 (Post.re (h1 z g1) g1))
end
end Ng
namespace Ng
open PySem PySem.Spec PyProof.Rows L2
/-! ### d.pop(k) of a dict with text or int keys, the key there -/
def dropW (kws : List (Key × W)) (k : Key) : List (Key × W) := kws.filter fun q => decide (q.1 ≠ k)
def popF (w k : W) (S : Sto) : Rs W := match w with
  | .lo n => match S[n]? with
    | some (.dk kws) => match keyW k with
      | some kk => match look kws kk with
        | some u => .ok u (S.set n (.dk (dropW kws kk)))
        | none => .stuck
      | none => .stuck
    | _ => .stuck
  | _ => .stuck
def mPop1 (md mk : ME) : ME := fun ρ S => (md ρ S).bind fun w S => if dctW S w = true then (mk ρ S).bind fun k S => popF w k S else .stuck
section
variable {X : Cx} {cl : Str → Option Addr} {xa : Option (Nat × Addr)} {Wx : WX} {o e : Expr} {md mk : ME} {apos cpos : Pos}
theorem drop_ok {K : PySem.W.Frag} {y : Y} (k : Key) : ∀ {kws : List (Key × W)} {kvs : List (Key × V)}, RWP K cl y kws kvs → RWP K cl y (dropW kws k) (dropK kvs k)
  | _, _, .nil => .nil
  | (a, w) :: kws, (b, v) :: kvs, .cons h t => by
    have ih := drop_ok k t
    cases (show a = b from h.1)
    unfold dropW dropK at ih ⊢
    rw [List.filter_cons, List.filter_cons]
    by_cases q : a ≠ k
    · rw [if_pos (by simpa using q), if_pos (by simpa using q)]
      exact .cons h ih
    · rw [if_neg (by simpa using q), if_neg (by simpa using q)]
      exact ih
theorem qe_pop1 (ho : QE X cl xa Wx o md) (he : QE X cl xa Wx e mk) (m : M1 X o "pop" apos e cpos) : QE X cl xa Wx (.Call (.Attribute o "pop" apos) [e] [] cpos) (mPop1 md mk) := by
  obtain ⟨t, p, q⟩ := ho
  obtain ⟨t1, p1, q1⟩ := he
  refine ⟨_, pe_dpop1 p p1 m, fun C y σ ρ S s Q h => ?_⟩
  refine q C y σ ρ S s _ (Post.go h fun w S1 h1 v z s1 g1 r1 => ?_)
  have h1' := h1 z g1
  split at h1'
  · rename_i hd
    obtain ⟨a, rfl, hD⟩ := dct_ok s1.bs r1 hd
    refine ⟨a, rfl, hD, ?_⟩
    refine q1 C z σ ρ S1 s1 _ (Post.go h1' fun k S2 h2 vk z2 s2 g2 r2 => ?_)
    have h4 := Post.re (h2 z2 g2) (g1.trans g2)
    have r1' := r1.grow g2
    unfold popF at h4
    split at h4
    · rename_i n
      obtain ⟨a', ea, e⟩ := r1'
      cases e
      split at h4
      · rename_i kws hc
        split at h4
        · rename_i kk hk
          split at h4
          · rename_i u hu
            obtain ⟨_, kvs, hH, l⟩ := s2.bs.at hc (by intro z; cases z) ea
            obtain ⟨vv, e1, e2⟩ := (look_ok l).1 u hu
            have g : Gr z2 (z2.up a (.dK (dropK kvs kk))) := ⟨Ex.refl _, List.prefix_refl _⟩
            refine ⟨kvs, kk, vv, hH, keyW_ok r2 hk, e1, ?_⟩
            exact h4 vv (z2.up a (.dK (dropK kvs kk))) (s2.upCell hc (by intro z; cases z) ea ⟨dropK kvs kk, upd_same, RWP.grow g (drop_ok kk l)⟩) g (e2.grow g)
          · exact h4.elim
        · exact h4.elim
      · exact h4.elim
    · exact h4.elim
  · exact h1'.elim
end
end Ng
namespace Ng
open PySem PySem.Spec PyProof.Rows L2
/-! ### list(d.items()) of a dict that may change, its values data -/
abbrev itD (p : Key × D) : D := .tup [kD p.1, p.2]
def litF (mk : Option Cell → Sto → Rs W) (w : W) (S : Sto) : Rs W := match w with
  | .lo n => match S[n]? with
    | some (.dk kws) => match dats (kws.map (·.2)) with
      | some ds => mk (some (.lst (((kws.map (·.1)).zip ds).map fun p => .da (itD p)))) S
      | none => .stuck
    | _ => .stuck
  | _ => .stuck
def mListI (mk : Option Cell → Sto → Rs W) (me : ME) : ME := fun ρ S => (me ρ S).bind fun w S => litF mk w S
section
variable {X : Cx} {cl : Str → Option Addr} {xa : Option (Nat × Addr)} {Wx : WX} {e : Expr} {me : ME} {p apos cpos pos : Pos} {mk : Option Cell → Sto → Rs W}
theorem items_rw {K : PySem.W.Frag} {F F' H' : Hp} (x : Ex F F') : ∀ {ks : List Key} {ds : List D} {vs : List V} {ts : List Addr}, ks.length = ds.length → RpL K cl F ds vs → Paired (fun (t : Addr) (q : Key × V) => F' t = some (.tup [kV q.1, q.2])) ts (ks.zip vs) →
    RWL K cl ⟨F', H', []⟩ ((ks.zip ds).map fun p => .da (itD p)) (ts.map V.ref)
  | [], [], vs, ts, _, r, h => by
    cases (show vs = [] from r)
    cases h
    exact .nil
  | k :: ks, d :: ds, _, ts, hl, ⟨v, t, rfl, r1, r2⟩, h => by
    rw [List.zip_cons_cons] at h
    cases h with
    | cons h1 h2 =>
      rename_i a as
      exact .cons ⟨a, [kV k, v], rfl, h1, kV k, [v], rfl, kD_ok k, v, [], rfl, Rp.xt x _ _ r1, rfl⟩ (items_rw x (by simpa using hl) r2 h2)
  | [], _ :: _, _, _, hl, _, _ => by simp at hl
  | _ :: _, [], _, _, hl, _, _ => by simp at hl
open Classical in
theorem qe_listI (hc : X.calm = true) (hmk : MkN X.K cl xa mk (fun Q => Q)) (he : QE X cl xa Wx e me) (hg : Gl X "list") (hm : X.mg "list" = none) (hv : bootBuiltins "list" = some (.type "list"))
    (hbase : attributeBase e "items" X.env (eval e X.env) = eval e X.env := by rfl) (hline : (apos.endLine == cpos.line) = true := by rfl)
    (hs : starEach [.Call (.Attribute e "items" apos) [] [] cpos] X.env = (false, eval (.Call (.Attribute e "items" apos) [] [] cpos) X.env) :: starEach [] X.env := by rfl) :
    QE X cl xa Wx (.Call (.Name "list" p) [.Call (.Attribute e "items" apos) [] [] cpos] [] pos) (mListI mk me) := by
  obtain ⟨t, pp, q⟩ := he
  refine ⟨_, LiI.pe_listItems hc pp hg hm hv hbase hline hs, fun C y σ ρ S s Q h => ?_⟩
  refine q C y σ ρ S s _ (Post.go h fun w S1 h1 v z s1 g1 r1 => ?_)
  have h4 := Post.re (h1 z g1) g1
  unfold litF at h4
  split at h4
  · rename_i n
    obtain ⟨a, ea, rfl⟩ := r1
    split at h4
    · rename_i kws hcell
      split at h4
      · rename_i ds hd
        obtain ⟨_, kvs, hH, l⟩ := s1.bs.at hcell (by intro z; cases z) ea
        obtain ⟨vs, e1, e2, e3⟩ := rwp_zipE l hd
        refine ⟨a, kvs, rfl, hH, fun H' pn ts x hp ht hpt hl hpair => ?_⟩
        have al : Al z.F z.H (fun b => if b ∈ ts then H' b else z.F b) H' := ⟨fun b o e => by
          show (if b ∈ ts then H' b else z.F b) = some o
          split
          · exact x b o (s1.bs.fz b o e)
          · exact e, x, fun b o e => by
          have e : (if b ∈ ts then H' b else z.F b) = some o := e
          split at e
          · exact e
          · exact x b o (s1.bs.fz b o e), fun b o e => by
          have e : (if b ∈ ts then H' b else z.F b) = some o := e
          split at e
          · rename_i hb
            exact .inr (.inl (ht b hb))
          · exact .inl e⟩
        have hF : (fun b => if b ∈ ts then H' b else z.F b) pn = none := by
          show (if pn ∈ ts then H' pn else z.F pn) = none
          rw [if_neg hpt]
          exact s1.bs.fz.no hp
        have hpair' : ∀ (l : List Addr), (∀ b ∈ l, b ∈ ts) → ∀ {kk : List (Key × V)}, Paired (fun (t : Addr) (q : Key × V) => H' t = some (.tup [kV q.1, q.2])) l kk → Paired (fun (t : Addr) (q : Key × V) => (fun b => if b ∈ ts then H' b else z.F b) t = some (.tup [kV q.1, q.2])) l kk := fun l hl kk hq => by
          induction hq with
          | nil => exact .nil
          | cons r t ih =>
            refine .cons ?_ (ih fun c hc => hl c (by simp [hc]))
            show (if _ ∈ ts then H' _ else z.F _) = _
            rw [if_pos (hl _ (by simp))]
            exact r
        rw [e1] at hpair
        have cellN : CellR X.K cl ⟨fun b => if b ∈ ts then H' b else z.F b, H', []⟩ pn (.lst (((kws.map (·.1)).zip ds).map fun p => .da (itD p))) := ⟨_, hl, items_rw al.f (e2.trans (rpl_zip ds vs e3).1.symm) e3 (hpair' ts (fun _ h => h) hpair)⟩
        exact hmk C Wx ⟨fun b => if b ∈ ts then H' b else z.F b, H', z.m⟩ σ ρ S1 _ Q pn (s1.al al) hF (fun zz => s1.bs.has pn zz hp) (s1.fm.dom pn hp) (by simp [daC, isDa]) (cell_more cellN) (Post.re (Post.mono al.gr h4) al.gr)
      · exact h4.elim
    · exact h4.elim
  · exact h4.elim
end
end Ng
namespace Ng
open PySem PySem.Spec PyProof.Rows L2
def topS (i : Nat) : Stmt := PySem.Challenge.pw_nightglass_k25_plates_in_the_book.main.body.getD i (.Pass ⟨0, 0, 0, 0⟩)
abbrev hl_GlassError : List (Str × Bool) := [("GlassError", true), ("BadName", true), ("BadPlate", true), ("NoPlate", true), ("Taken", true), ("Full", true)]
abbrev il_ValueError : List (Str × Bool) := [("GlassError", true), ("BadName", true), ("BadPlate", true), ("NoPlate", true), ("Taken", true), ("Full", true)]
abbrev il_BadName : List (Str × Bool) := [("GlassError", false), ("BadName", true), ("BadPlate", false), ("NoPlate", false), ("Taken", false), ("Full", false)]
abbrev il_BadPlate : List (Str × Bool) := [("GlassError", false), ("BadName", false), ("BadPlate", true), ("NoPlate", false), ("Taken", false), ("Full", false)]
abbrev il_Taken : List (Str × Bool) := [("GlassError", false), ("BadName", false), ("BadPlate", false), ("NoPlate", false), ("Taken", true), ("Full", false)]
abbrev il_Full : List (Str × Bool) := [("GlassError", false), ("BadName", false), ("BadPlate", false), ("NoPlate", false), ("Taken", false), ("Full", true)]
/-! ### _wall -/
abbrev s__wall : Stmt := topS 0
theorem sc__wall : FnScope ["k"] ["k"] (defScope s__wall) := ⟨rfl, rfl, rfl, by decide +kernel, rfl, by decide +kernel, by decide +kernel⟩
noncomputable def c__wall_0 : MT := (mTru (mC (.bl true)))
noncomputable def b__wall_1 : MS := mSkip
noncomputable def m__wall : MS := (mWhile c__wall_0 b__wall_1)
noncomputable def q__wall : List W → Sto → Rs W := runS 1 1 m__wall
noncomputable def p__wall : List D → Re D := runP 1 1 m__wall
/-! ### is_name -/
abbrev s_is_name : Stmt := topS 14
theorem sc_is_name : FnScope ["name", "sign"] ["name"] (defScope s_is_name) := ⟨rfl, rfl, rfl, by decide +kernel, rfl, by decide +kernel, by decide +kernel⟩
noncomputable def b_is_name_0 : MS := (mIf (mTst (mOp (vl2 notinW) (mVar 1) (mC (.str "abcdefghijklmnopqrstuvwxyz")))) (mRet (mC (.bl false))) mSkip)
noncomputable def m_is_name : MS := (mSeq (mIf (mOr (mTst (mOp (vl2 ltW) (mCall (vlN lenW) (mCons (mVar 0) mNil)) (mC (.int 1)))) (mTst (mOp (vl2 gtW) (mCall (vlN lenW) (mCons (mVar 0) mNil)) (mC (.int 8))))) (mRet (mC (.bl false))) mSkip) (mSeq (mFor (mVar 0) (gtName 1) b_is_name_0) (mRet (mC (.bl true)))))
noncomputable def q_is_name : List W → Sto → Rs W := runS 2 1 m_is_name
noncomputable def p_is_name : List D → Re D := runP 2 1 m_is_name
/-! ### is_glass -/
abbrev s_is_glass : Stmt := topS 15
theorem sc_is_glass : FnScope ["width", "height", "limit", "stars", "places", "x", "y", "bright"] ["width", "height", "limit", "stars"] (defScope s_is_glass) := ⟨rfl, rfl, rfl, by decide +kernel, rfl, by decide +kernel, by decide +kernel⟩
noncomputable def b_is_glass_0 : MS := (mSeq (mIf (mNot (mAnd (mTst (mChain (vl2 leW) (vl2 ltW) (mC (.int 0)) (mVar 5) (mVar 0))) (mTst (mChain (vl2 leW) (vl2 ltW) (mC (.int 0)) (mVar 6) (mVar 1))))) (mRet (mC (.bl false))) mSkip) (mSeq (mIf (mNot (mTst (mChain (vl2 leW) (vl2 leW) (mVar 2) (mVar 7) (mC (.int 9))))) (mRet (mC (.bl false))) mSkip) (mSeq (mIf (mTst (mOp (vl2 inW) (mCall (ndN tupC) (mCons (mVar 5) (mCons (mVar 6) mNil))) (mVar 4))) (mRet (mC (.bl false))) mSkip) (mSetIx (mVar 4) (mCall (ndN tupC) (mCons (mVar 5) (mCons (mVar 6) mNil))) (mC (.bl true))))))
noncomputable def m_is_glass : MS := (mSeq (mIf (mNot (mAnd (mTst (mChain (vl2 leW) (vl2 leW) (mC (.int 1)) (mVar 0) (mC (.int 8)))) (mTst (mChain (vl2 leW) (vl2 leW) (mC (.int 1)) (mVar 1) (mC (.int 8)))))) (mRet (mC (.bl false))) mSkip) (mSeq (mIf (mOr (mNot (mTst (mChain (vl2 leW) (vl2 leW) (mC (.int 1)) (mVar 2) (mC (.int 9))))) (mTst (mOp (vl2 gtW) (mCall (vlN lenW) (mCons (mVar 3) mNil)) (mC (.int 8))))) (mRet (mC (.bl false))) mSkip) (mSeq (mSet 4 (mCall (ncN newDT) mNil)) (mSeq (mFor (mVar 3) (gtTup 3 (gtCons (gtName 5) (gtCons (gtName 6) (gtCons (gtName 7) gtNil)))) b_is_glass_0) (mFrz 4 (mRet (mC (.bl true))))))))
noncomputable def q_is_glass : List W → Sto → Rs W := runS 8 4 m_is_glass
noncomputable def p_is_glass : List D → Re D := runP 8 4 m_is_glass
/-! ### Plate.__init__ -/
abbrev s_Plate___init__ : Stmt := inClass (topS 16) 0
theorem sc_Plate___init__ : FnScope ["self", "name", "width", "height", "limit", "stars", "x", "y", "bright"] ["self", "name", "width", "height", "limit", "stars"] (defScope s_Plate___init__) := ⟨rfl, rfl, rfl, by decide +kernel, rfl, by decide +kernel, by decide +kernel⟩
noncomputable def b_Plate___init___0 : MS := (mSetIx (mFld ["Plate"] "lights" (mVar 0)) (mCall (ndN tupC) (mCons (mVar 6) (mCons (mVar 7) mNil))) (mVar 8))
noncomputable def m_Plate___init__ : MS := (mSeq (mIf (mNot (mTru (mCallN p_is_name (mCons (mVar 1) mNil)))) (mRaise "BadName") mSkip) (mSeq (mIf (mNot (mTru (mCallN p_is_glass (mCons (mVar 2) (mCons (mVar 3) (mCons (mVar 4) (mCons (mVar 5) mNil))))))) (mRaise "BadPlate") mSkip) (mSeq (mSetF ["Plate"] "name" (mVar 0) (mVar 1)) (mSeq (mSetF ["Plate"] "width" (mVar 0) (mVar 2)) (mSeq (mSetF ["Plate"] "height" (mVar 0) (mVar 3)) (mSeq (mSetF ["Plate"] "limit" (mVar 0) (mVar 4)) (mSeq (mSetF ["Plate"] "lights" (mVar 0) (mCall (ncN newDT) mNil)) (mFor (mCall (ndN sortC) (mCons (mVar 5) mNil)) (gtTup 3 (gtCons (gtName 6) (gtCons (gtName 7) (gtCons (gtName 8) gtNil)))) b_Plate___init___0))))))))
noncomputable def q_Plate___init__ : List W → Sto → Rs W := runS 9 6 m_Plate___init__
/-! ### Plate.stars -/
abbrev s_Plate_stars : Stmt := inClass (topS 16) 1
theorem sc_Plate_stars : FnScope ["self", "place", "bright"] ["self"] (defScope s_Plate_stars) := ⟨rfl, rfl, rfl, by decide +kernel, rfl, by decide +kernel, by decide +kernel⟩
noncomputable def e_Plate_stars_0 : ME := (mCall (ndN tupC) (mCons (mOp (vl2 ixW) (mVar 1) (mC (.int 0))) (mCons (mOp (vl2 ixW) (mVar 1) (mC (.int 1))) (mCons (mVar 2) mNil))))
noncomputable def m_Plate_stars : MS := (mRet (mLcI mkC (mFld ["Plate"] "lights" (mVar 0)) [1, 2] (gtTupT 2 (gtCons (gtName 1) (gtCons (gtName 2) gtNil))) mYes e_Plate_stars_0))
noncomputable def q_Plate_stars : List W → Sto → Rs W := runS 3 1 m_Plate_stars
noncomputable def l_Plate_stars : List D → Re Cell := newOf q_Plate_stars
/-! ### Plate.holds -/
abbrev s_Plate_holds : Stmt := inClass (topS 16) 2
theorem sc_Plate_holds : FnScope ["self", "place"] ["self", "place"] (defScope s_Plate_holds) := ⟨rfl, rfl, rfl, by decide +kernel, rfl, by decide +kernel, by decide +kernel⟩
noncomputable def m_Plate_holds : MS := (mDrop (mCallN p__wall (mCons (mC (.int 0)) mNil)))
noncomputable def q_Plate_holds : List W → Sto → Rs W := runS 2 2 m_Plate_holds
noncomputable def p_Plate_holds : List D → Re D := runP 2 2 m_Plate_holds
/-! ### Plate.says -/
abbrev s_Plate_says : Stmt := inClass (topS 16) 3
theorem sc_Plate_says : FnScope ["self", "place"] ["self", "place"] (defScope s_Plate_says) := ⟨rfl, rfl, rfl, by decide +kernel, rfl, by decide +kernel, by decide +kernel⟩
noncomputable def m_Plate_says : MS := (mDrop (mCallN p__wall (mCons (mC (.int 1)) mNil)))
noncomputable def q_Plate_says : List W → Sto → Rs W := runS 2 2 m_Plate_says
noncomputable def p_Plate_says : List D → Re D := runP 2 2 m_Plate_says
/-! ### Plate.places -/
abbrev s_Plate_places : Stmt := inClass (topS 16) 4
theorem sc_Plate_places : FnScope ["self", "found", "x", "y"] ["self"] (defScope s_Plate_places) := ⟨rfl, rfl, rfl, by decide +kernel, rfl, by decide +kernel, by decide +kernel⟩
noncomputable def b_Plate_places_0 : MS := (mDrop (mMt "list" (chL appL) (mVar 1) (mCons (mCall (ndN tupC) (mCons (mVar 2) (mCons (mVar 3) mNil))) mNil)))
noncomputable def b_Plate_places_1 : MS := (mForR rng1 (mCons (mFld ["Plate"] "height" (mVar 0)) mNil) (gtName 3) b_Plate_places_0)
noncomputable def m_Plate_places : MS := (mSeq (mSet 1 (mCall (ncN lstC) mNil)) (mSeq (mForR rng1 (mCons (mFld ["Plate"] "width" (mVar 0)) mNil) (gtName 2) b_Plate_places_1) (mRet (mFz (mVar 1)))))
noncomputable def q_Plate_places : List W → Sto → Rs W := runS 4 1 m_Plate_places
noncomputable def p_Plate_places : List D → Re D := runP 4 1 m_Plate_places
/-! ### Book.__init__ -/
abbrev s_Book___init__ : Stmt := inClass (topS 19) 0
theorem sc_Book___init__ : FnScope ["self"] ["self"] (defScope s_Book___init__) := ⟨rfl, rfl, rfl, by decide +kernel, rfl, by decide +kernel, by decide +kernel⟩
noncomputable def m_Book___init__ : MS := (mSeq (mSetF ["Book"] "held" (mVar 0) (mCall (ncN newDK) mNil)) (mSeq (mSetF ["Book"] "tied" (mVar 0) (mCall (ncN newDK) mNil)) (mSeq (mSetF ["Book"] "upcoming" (mVar 0) (mC (.int 1))) (mSeq (mSetF ["Book"] "past" (mVar 0) (mCall (ncN lstC) mNil)) (mSetF ["Book"] "future" (mVar 0) (mCall (ncN lstC) mNil))))))
noncomputable def q_Book___init__ : List W → Sto → Rs W := runS 1 1 m_Book___init__
/-! ### Book.stand -/
abbrev s_Book_stand : Stmt := inClass (topS 19) 1
theorem sc_Book_stand : FnScope ["self"] ["self"] (defScope s_Book_stand) := ⟨rfl, rfl, rfl, by decide +kernel, rfl, by decide +kernel, by decide +kernel⟩
noncomputable def m_Book_stand : MS := (mRet (mCall (ndN tupC) (mCons (mCall (lkN dictC) (mCons (mFld ["Book"] "held" (mVar 0)) mNil)) (mCons (mCall (lkN dictC) (mCons (mFld ["Book"] "tied" (mVar 0)) mNil)) (mCons (mFld ["Book"] "upcoming" (mVar 0)) mNil)))))
noncomputable def q_Book_stand : List W → Sto → Rs W := runS 1 1 m_Book_stand
/-! ### Book.restore -/
abbrev s_Book_restore : Stmt := inClass (topS 19) 2
theorem sc_Book_restore : FnScope ["self", "stand"] ["self", "stand"] (defScope s_Book_restore) := ⟨rfl, rfl, rfl, by decide +kernel, rfl, by decide +kernel, by decide +kernel⟩
noncomputable def m_Book_restore : MS := (mDrop (mCallN p__wall (mCons (mC (.int 2)) mNil)))
noncomputable def q_Book_restore : List W → Sto → Rs W := runS 2 2 m_Book_restore
/-! ### Book.remember -/
abbrev s_Book_remember : Stmt := inClass (topS 19) 3
theorem sc_Book_remember : FnScope ["self", "deed"] ["self", "deed"] (defScope s_Book_remember) := ⟨rfl, rfl, rfl, by decide +kernel, rfl, by decide +kernel, by decide +kernel⟩
noncomputable def m_Book_remember : MS := (mSeq (mDrop (mMt "list" (chL appL) (mFld ["Book"] "past" (mVar 0)) (mCons (mCall (ndN tupC) (mCons (mVar 1) (mCons (mMeth "Book" "stand" q_Book_stand (mVar 0) mNil) mNil))) mNil))) (mSetF ["Book"] "future" (mVar 0) (mCall (ncN lstC) mNil)))
noncomputable def q_Book_remember : List W → Sto → Rs W := runS 2 2 m_Book_remember
/-! ### Book.forget -/
abbrev s_Book_forget : Stmt := inClass (topS 19) 4
theorem sc_Book_forget : FnScope ["self"] ["self"] (defScope s_Book_forget) := ⟨rfl, rfl, rfl, by decide +kernel, rfl, by decide +kernel, by decide +kernel⟩
noncomputable def m_Book_forget : MS := (mDrop (mCallN p__wall (mCons (mC (.int 3)) mNil)))
noncomputable def q_Book_forget : List W → Sto → Rs W := runS 1 1 m_Book_forget
/-! ### Book.need -/
abbrev s_Book_need : Stmt := inClass (topS 19) 5
theorem sc_Book_need : FnScope ["self", "name"] ["self", "name"] (defScope s_Book_need) := ⟨rfl, rfl, rfl, by decide +kernel, rfl, by decide +kernel, by decide +kernel⟩
noncomputable def m_Book_need : MS := (mIf (mTst (mOp (vl2 notinW) (mVar 1) (mFld ["Book"] "held" (mVar 0)))) (mRaise "NoPlate") mSkip)
noncomputable def q_Book_need : List W → Sto → Rs W := runS 2 2 m_Book_need
/-! ### Book.need_two -/
abbrev s_Book_need_two : Stmt := inClass (topS 19) 6
theorem sc_Book_need_two : FnScope ["self", "one", "other"] ["self", "one", "other"] (defScope s_Book_need_two) := ⟨rfl, rfl, rfl, by decide +kernel, rfl, by decide +kernel, by decide +kernel⟩
noncomputable def m_Book_need_two : MS := (mDrop (mCallN p__wall (mCons (mC (.int 4)) mNil)))
noncomputable def q_Book_need_two : List W → Sto → Rs W := runS 3 3 m_Book_need_two
/-! ### Book.put -/
abbrev s_Book_put : Stmt := inClass (topS 19) 7
theorem sc_Book_put : FnScope ["self", "name", "width", "height", "limit", "stars", "plate"] ["self", "name", "width", "height", "limit", "stars"] (defScope s_Book_put) := ⟨rfl, rfl, rfl, by decide +kernel, rfl, by decide +kernel, by decide +kernel⟩
noncomputable def m_Book_put : MS := (mSeq (mSet 6 (mCallN (makeP "Plate" q_Plate___init__) (mCons (mVar 1) (mCons (mVar 2) (mCons (mVar 3) (mCons (mVar 4) (mCons (mVar 5) mNil))))))) (mSeq (mIf (mTst (mOp (vl2 inW) (mVar 1) (mFld ["Book"] "held" (mVar 0)))) (mRaise "Taken") mSkip) (mSeq (mIf (mTst (mOp (vl2 geW) (mCall (vlN lenW) (mCons (mFld ["Book"] "held" (mVar 0)) mNil)) (mC (.int 12)))) (mRaise "Full") mSkip) (mSeq (mDrop (mMeth "Book" "remember" q_Book_remember (mVar 0) (mCons (mCall (ndN tupC) (mCons (mC (.str "put")) (mCons (mVar 1) (mCons (mVar 2) (mCons (mVar 3) (mCons (mVar 4) (mCons (mCall (tupleF mkD) (mCons (mMeth "Plate" "stars" (callL mkD l_Plate_stars) (mVar 6) mNil) mNil)) mNil))))))) mNil))) (mSetIx (mFld ["Book"] "held" (mVar 0)) (mVar 1) (mVar 6))))))
noncomputable def q_Book_put : List W → Sto → Rs W := runS 7 6 m_Book_put
/-! ### Book.drop -/
abbrev s_Book_drop : Stmt := inClass (topS 19) 8
theorem sc_Book_drop : FnScope ["self", "name", "number", "one", "other", "motion"] ["self", "name"] (defScope s_Book_drop) := ⟨rfl, rfl, rfl, by decide +kernel, rfl, by decide +kernel, by decide +kernel⟩
noncomputable def b_Book_drop_0 : MS := (mIf (mTst (mOp (vl2 inW) (mVar 1) (mCall (ndN tupC) (mCons (mVar 3) (mCons (mVar 4) mNil))))) (mDrop (mPop1 (mFld ["Book"] "tied" (mVar 0)) (mVar 2))) mSkip)
noncomputable def m_Book_drop : MS := (mSeq (mDrop (mMeth "Book" "need" q_Book_need (mVar 0) (mCons (mVar 1) mNil))) (mSeq (mDrop (mMeth "Book" "remember" q_Book_remember (mVar 0) (mCons (mCall (ndN tupC) (mCons (mC (.str "drop")) (mCons (mVar 1) mNil))) mNil))) (mSeq (mDrop (mPop1 (mFld ["Book"] "held" (mVar 0)) (mVar 1))) (mFor (mListI mkD (mFld ["Book"] "tied" (mVar 0))) (gtTup 2 (gtCons (gtName 2) (gtCons (gtTup 3 (gtCons (gtName 3) (gtCons (gtName 4) (gtCons (gtName 5) gtNil)))) gtNil))) b_Book_drop_0))))
noncomputable def q_Book_drop : List W → Sto → Rs W := runS 6 2 m_Book_drop
/-! ### Book.look -/
abbrev s_Book_look : Stmt := inClass (topS 19) 9
theorem sc_Book_look : FnScope ["self", "one", "other", "motion"] ["self", "one", "other", "motion"] (defScope s_Book_look) := ⟨rfl, rfl, rfl, by decide +kernel, rfl, by decide +kernel, by decide +kernel⟩
noncomputable def m_Book_look : MS := (mDrop (mCallN p__wall (mCons (mC (.int 5)) mNil)))
noncomputable def q_Book_look : List W → Sto → Rs W := runS 4 4 m_Book_look
/-! ### Book.verdict -/
abbrev s_Book_verdict : Stmt := inClass (topS 19) 10
theorem sc_Book_verdict : FnScope ["self", "web", "one", "other", "motion"] ["self", "web", "one", "other", "motion"] (defScope s_Book_verdict) := ⟨rfl, rfl, rfl, by decide +kernel, rfl, by decide +kernel, by decide +kernel⟩
noncomputable def m_Book_verdict : MS := (mDrop (mCallN p__wall (mCons (mC (.int 6)) mNil)))
noncomputable def q_Book_verdict : List W → Sto → Rs W := runS 5 5 m_Book_verdict
/-! ### Book.tie -/
abbrev s_Book_tie : Stmt := inClass (topS 19) 11
theorem sc_Book_tie : FnScope ["self", "one", "other", "motion"] ["self", "one", "other", "motion"] (defScope s_Book_tie) := ⟨rfl, rfl, rfl, by decide +kernel, rfl, by decide +kernel, by decide +kernel⟩
noncomputable def m_Book_tie : MS := (mDrop (mCallN p__wall (mCons (mC (.int 7)) mNil)))
noncomputable def q_Book_tie : List W → Sto → Rs W := runS 4 4 m_Book_tie
/-! ### Book.untie -/
abbrev s_Book_untie : Stmt := inClass (topS 19) 12
theorem sc_Book_untie : FnScope ["self", "number"] ["self", "number"] (defScope s_Book_untie) := ⟨rfl, rfl, rfl, by decide +kernel, rfl, by decide +kernel, by decide +kernel⟩
noncomputable def m_Book_untie : MS := (mDrop (mCallN p__wall (mCons (mC (.int 8)) mNil)))
noncomputable def q_Book_untie : List W → Sto → Rs W := runS 2 2 m_Book_untie
/-! ### Book.undo -/
abbrev s_Book_undo : Stmt := inClass (topS 19) 13
theorem sc_Book_undo : FnScope ["self"] ["self"] (defScope s_Book_undo) := ⟨rfl, rfl, rfl, by decide +kernel, rfl, by decide +kernel, by decide +kernel⟩
noncomputable def m_Book_undo : MS := (mDrop (mCallN p__wall (mCons (mC (.int 9)) mNil)))
noncomputable def q_Book_undo : List W → Sto → Rs W := runS 1 1 m_Book_undo
/-! ### Book.redo -/
abbrev s_Book_redo : Stmt := inClass (topS 19) 14
theorem sc_Book_redo : FnScope ["self"] ["self"] (defScope s_Book_redo) := ⟨rfl, rfl, rfl, by decide +kernel, rfl, by decide +kernel, by decide +kernel⟩
noncomputable def m_Book_redo : MS := (mDrop (mCallN p__wall (mCons (mC (.int 10)) mNil)))
noncomputable def q_Book_redo : List W → Sto → Rs W := runS 1 1 m_Book_redo
/-! ### Book.log -/
abbrev s_Book_log : Stmt := inClass (topS 19) 15
theorem sc_Book_log : FnScope ["self"] ["self"] (defScope s_Book_log) := ⟨rfl, rfl, rfl, by decide +kernel, rfl, by decide +kernel, by decide +kernel⟩
noncomputable def m_Book_log : MS := (mDrop (mCallN p__wall (mCons (mC (.int 11)) mNil)))
noncomputable def q_Book_log : List W → Sto → Rs W := runS 1 1 m_Book_log
/-! ### Book.twin -/
abbrev s_Book_twin : Stmt := inClass (topS 19) 16
theorem sc_Book_twin : FnScope ["self"] ["self"] (defScope s_Book_twin) := ⟨rfl, rfl, rfl, by decide +kernel, rfl, by decide +kernel, by decide +kernel⟩
noncomputable def m_Book_twin : MS := (mDrop (mCallN p__wall (mCons (mC (.int 12)) mNil)))
noncomputable def q_Book_twin : List W → Sto → Rs W := runS 1 1 m_Book_twin
/-! ### Book.names -/
abbrev s_Book_names : Stmt := inClass (topS 19) 17
theorem sc_Book_names : FnScope ["self"] ["self"] (defScope s_Book_names) := ⟨rfl, rfl, rfl, by decide +kernel, rfl, by decide +kernel, by decide +kernel⟩
noncomputable def m_Book_names : MS := (mRet (mCall (ncN sortDC) (mCons (mFld ["Book"] "held" (mVar 0)) mNil)))
noncomputable def q_Book_names : List W → Sto → Rs W := runS 1 1 m_Book_names
/-! ### Book.window -/
abbrev s_Book_window : Stmt := inClass (topS 19) 18
theorem sc_Book_window : FnScope ["self", "name", "plate"] ["self", "name"] (defScope s_Book_window) := ⟨rfl, rfl, rfl, by decide +kernel, rfl, by decide +kernel, by decide +kernel⟩
noncomputable def m_Book_window : MS := (mSeq (mDrop (mMeth "Book" "need" q_Book_need (mVar 0) (mCons (mVar 1) mNil))) (mSeq (mSet 2 (mOp (vl2 ixW) (mFld ["Book"] "held" (mVar 0)) (mVar 1))) (mRet (mCall (ndN tupC) (mCons (mFld ["Plate"] "width" (mVar 2)) (mCons (mFld ["Plate"] "height" (mVar 2)) (mCons (mFld ["Plate"] "limit" (mVar 2)) mNil)))))))
noncomputable def q_Book_window : List W → Sto → Rs W := runS 3 2 m_Book_window
/-! ### Book.stars_of -/
abbrev s_Book_stars_of : Stmt := inClass (topS 19) 19
theorem sc_Book_stars_of : FnScope ["self", "name"] ["self", "name"] (defScope s_Book_stars_of) := ⟨rfl, rfl, rfl, by decide +kernel, rfl, by decide +kernel, by decide +kernel⟩
noncomputable def m_Book_stars_of : MS := (mSeq (mDrop (mMeth "Book" "need" q_Book_need (mVar 0) (mCons (mVar 1) mNil))) (mRet (mMeth "Plate" "stars" (callL mkC l_Plate_stars) (mOp (vl2 ixW) (mFld ["Book"] "held" (mVar 0)) (mVar 1)) mNil)))
noncomputable def q_Book_stars_of : List W → Sto → Rs W := runS 2 2 m_Book_stars_of
/-! ### Book.ties -/
abbrev s_Book_ties : Stmt := inClass (topS 19) 20
theorem sc_Book_ties : FnScope ["self", "number"] ["self"] (defScope s_Book_ties) := ⟨rfl, rfl, rfl, by decide +kernel, rfl, by decide +kernel, by decide +kernel⟩
noncomputable def e_Book_ties_0 : ME := (mOp addD (mCall (ndN tupC) (mCons (mVar 1) mNil)) (mOp (vl2 ixW) (mFld ["Book"] "tied" (mVar 0)) (mVar 1)))
noncomputable def m_Book_ties : MS := (mRet (mLc mkD (mCall (ndN sortDC) (mCons (mFld ["Book"] "tied" (mVar 0)) mNil)) [1] (gtName 1) mYes e_Book_ties_0))
noncomputable def q_Book_ties : List W → Sto → Rs W := runS 2 1 m_Book_ties
/-! ### Book.lies -/
abbrev s_Book_lies : Stmt := inClass (topS 19) 21
theorem sc_Book_lies : FnScope ["self", "one", "other"] ["self", "one", "other"] (defScope s_Book_lies) := ⟨rfl, rfl, rfl, by decide +kernel, rfl, by decide +kernel, by decide +kernel⟩
noncomputable def m_Book_lies : MS := (mDrop (mCallN p__wall (mCons (mC (.int 13)) mNil)))
noncomputable def q_Book_lies : List W → Sto → Rs W := runS 3 3 m_Book_lies
/-! ### Book.chain -/
abbrev s_Book_chain : Stmt := inClass (topS 19) 22
theorem sc_Book_chain : FnScope ["self", "one", "other"] ["self", "one", "other"] (defScope s_Book_chain) := ⟨rfl, rfl, rfl, by decide +kernel, rfl, by decide +kernel, by decide +kernel⟩
noncomputable def m_Book_chain : MS := (mDrop (mCallN p__wall (mCons (mC (.int 14)) mNil)))
noncomputable def q_Book_chain : List W → Sto → Rs W := runS 3 3 m_Book_chain
/-! ### Book.sky -/
abbrev s_Book_sky : Stmt := inClass (topS 19) 23
theorem sc_Book_sky : FnScope ["self", "name"] ["self", "name"] (defScope s_Book_sky) := ⟨rfl, rfl, rfl, by decide +kernel, rfl, by decide +kernel, by decide +kernel⟩
noncomputable def m_Book_sky : MS := (mDrop (mCallN p__wall (mCons (mC (.int 15)) mNil)))
noncomputable def q_Book_sky : List W → Sto → Rs W := runS 2 2 m_Book_sky
/-! ### Book.skies -/
abbrev s_Book_skies : Stmt := inClass (topS 19) 24
theorem sc_Book_skies : FnScope ["self"] ["self"] (defScope s_Book_skies) := ⟨rfl, rfl, rfl, by decide +kernel, rfl, by decide +kernel, by decide +kernel⟩
noncomputable def m_Book_skies : MS := (mDrop (mCallN p__wall (mCons (mC (.int 16)) mNil)))
noncomputable def q_Book_skies : List W → Sto → Rs W := runS 1 1 m_Book_skies
/-! ### Book.laid -/
abbrev s_Book_laid : Stmt := inClass (topS 19) 25
theorem sc_Book_laid : FnScope ["self", "web", "name"] ["self", "web", "name"] (defScope s_Book_laid) := ⟨rfl, rfl, rfl, by decide +kernel, rfl, by decide +kernel, by decide +kernel⟩
noncomputable def m_Book_laid : MS := (mDrop (mCallN p__wall (mCons (mC (.int 17)) mNil)))
noncomputable def q_Book_laid : List W → Sto → Rs W := runS 3 3 m_Book_laid
/-! ### Book.sky_laid -/
abbrev s_Book_sky_laid : Stmt := inClass (topS 19) 26
theorem sc_Book_sky_laid : FnScope ["self", "name"] ["self", "name"] (defScope s_Book_sky_laid) := ⟨rfl, rfl, rfl, by decide +kernel, rfl, by decide +kernel, by decide +kernel⟩
noncomputable def m_Book_sky_laid : MS := (mDrop (mCallN p__wall (mCons (mC (.int 18)) mNil)))
noncomputable def q_Book_sky_laid : List W → Sto → Rs W := runS 2 2 m_Book_sky_laid
/-! ### Book.ask -/
abbrev s_Book_ask : Stmt := inClass (topS 19) 27
theorem sc_Book_ask : FnScope ["self", "name", "place"] ["self", "name", "place"] (defScope s_Book_ask) := ⟨rfl, rfl, rfl, by decide +kernel, rfl, by decide +kernel, by decide +kernel⟩
noncomputable def m_Book_ask : MS := (mDrop (mCallN p__wall (mCons (mC (.int 19)) mNil)))
noncomputable def q_Book_ask : List W → Sto → Rs W := runS 3 3 m_Book_ask
/-! ### Book.chart -/
abbrev s_Book_chart : Stmt := inClass (topS 19) 28
theorem sc_Book_chart : FnScope ["self", "name"] ["self", "name"] (defScope s_Book_chart) := ⟨rfl, rfl, rfl, by decide +kernel, rfl, by decide +kernel, by decide +kernel⟩
noncomputable def m_Book_chart : MS := (mDrop (mCallN p__wall (mCons (mC (.int 20)) mNil)))
noncomputable def q_Book_chart : List W → Sto → Rs W := runS 2 2 m_Book_chart
/-! ### Book.face -/
abbrev s_Book_face : Stmt := inClass (topS 19) 29
theorem sc_Book_face : FnScope ["self", "name"] ["self", "name"] (defScope s_Book_face) := ⟨rfl, rfl, rfl, by decide +kernel, rfl, by decide +kernel, by decide +kernel⟩
noncomputable def m_Book_face : MS := (mDrop (mCallN p__wall (mCons (mC (.int 21)) mNil)))
noncomputable def q_Book_face : List W → Sto → Rs W := runS 2 2 m_Book_face
/-! ### Book.form -/
abbrev s_Book_form : Stmt := inClass (topS 19) 30
theorem sc_Book_form : FnScope ["self", "name"] ["self", "name"] (defScope s_Book_form) := ⟨rfl, rfl, rfl, by decide +kernel, rfl, by decide +kernel, by decide +kernel⟩
noncomputable def m_Book_form : MS := (mDrop (mCallN p__wall (mCons (mC (.int 22)) mNil)))
noncomputable def q_Book_form : List W → Sto → Rs W := runS 2 2 m_Book_form
/-! ### Book.matches -/
abbrev s_Book_matches : Stmt := inClass (topS 19) 31
theorem sc_Book_matches : FnScope ["self", "one", "other"] ["self", "one", "other"] (defScope s_Book_matches) := ⟨rfl, rfl, rfl, by decide +kernel, rfl, by decide +kernel, by decide +kernel⟩
noncomputable def m_Book_matches : MS := (mDrop (mCallN p__wall (mCons (mC (.int 23)) mNil)))
noncomputable def q_Book_matches : List W → Sto → Rs W := runS 3 3 m_Book_matches
/-! ### Book.apart -/
abbrev s_Book_apart : Stmt := inClass (topS 19) 32
theorem sc_Book_apart : FnScope ["self", "one", "other"] ["self", "one", "other"] (defScope s_Book_apart) := ⟨rfl, rfl, rfl, by decide +kernel, rfl, by decide +kernel, by decide +kernel⟩
noncomputable def m_Book_apart : MS := (mDrop (mCallN p__wall (mCons (mC (.int 24)) mNil)))
noncomputable def q_Book_apart : List W → Sto → Rs W := runS 3 3 m_Book_apart
/-! ### Book.layings -/
abbrev s_Book_layings : Stmt := inClass (topS 19) 33
theorem sc_Book_layings : FnScope ["self", "one", "other", "least"] ["self", "one", "other", "least"] (defScope s_Book_layings) := ⟨rfl, rfl, rfl, by decide +kernel, rfl, by decide +kernel, by decide +kernel⟩
noncomputable def m_Book_layings : MS := (mDrop (mCallN p__wall (mCons (mC (.int 25)) mNil)))
noncomputable def q_Book_layings : List W → Sto → Rs W := runS 4 4 m_Book_layings
/-! ### Book.sure -/
abbrev s_Book_sure : Stmt := inClass (topS 19) 34
theorem sc_Book_sure : FnScope ["self", "one", "other", "least", "place"] ["self", "one", "other", "least", "place"] (defScope s_Book_sure) := ⟨rfl, rfl, rfl, by decide +kernel, rfl, by decide +kernel, by decide +kernel⟩
noncomputable def m_Book_sure : MS := (mDrop (mCallN p__wall (mCons (mC (.int 26)) mNil)))
noncomputable def q_Book_sure : List W → Sto → Rs W := runS 5 5 m_Book_sure
/-! ### Book.carries -/
abbrev s_Book_carries : Stmt := inClass (topS 19) 35
theorem sc_Book_carries : FnScope ["self", "number"] ["self", "number"] (defScope s_Book_carries) := ⟨rfl, rfl, rfl, by decide +kernel, rfl, by decide +kernel, by decide +kernel⟩
noncomputable def m_Book_carries : MS := (mDrop (mCallN p__wall (mCons (mC (.int 27)) mNil)))
noncomputable def q_Book_carries : List W → Sto → Rs W := runS 2 2 m_Book_carries
/-! ### Book.would -/
abbrev s_Book_would : Stmt := inClass (topS 19) 36
theorem sc_Book_would : FnScope ["self", "one", "other", "motion"] ["self", "one", "other", "motion"] (defScope s_Book_would) := ⟨rfl, rfl, rfl, by decide +kernel, rfl, by decide +kernel, by decide +kernel⟩
noncomputable def m_Book_would : MS := (mDrop (mCallN p__wall (mCons (mC (.int 28)) mNil)))
noncomputable def q_Book_would : List W → Sto → Rs W := runS 4 4 m_Book_would
/-! ### Book.mends -/
abbrev s_Book_mends : Stmt := inClass (topS 19) 37
theorem sc_Book_mends : FnScope ["self", "one", "other", "motion"] ["self", "one", "other", "motion"] (defScope s_Book_mends) := ⟨rfl, rfl, rfl, by decide +kernel, rfl, by decide +kernel, by decide +kernel⟩
noncomputable def m_Book_mends : MS := (mDrop (mCallN p__wall (mCons (mC (.int 29)) mNil)))
noncomputable def q_Book_mends : List W → Sto → Rs W := runS 4 4 m_Book_mends
/-! ### _law_draws -/
abbrev s_l_draws : Stmt := topS 21
theorem sc_l_draws : FnScope ["_law_script", "_law_at", "_law_many", "_law_cell", "_law_seed", "_law_row", "_law_mark"] ["_law_script", "_law_at", "_law_many"] (defScope s_l_draws) := ⟨rfl, rfl, rfl, by decide +kernel, rfl, by decide +kernel, by decide +kernel⟩
noncomputable def c_l_draws_0 : MT := (mAnd (mTst (mOp (vl2 gtW) (mVar 3) (mC (.int 0)))) (mTst (mOp (vl2 ltW) (mCall (vlN lenW) (mCons (mVar 5) mNil)) (mVar 2))))
noncomputable def b_l_draws_1 : MS := (mSeq (mDrop (mMt "list" (chL appL) (mVar 5) (mCons (mOp (vl2 modW) (mVar 3) (mC (.int 1013))) mNil))) (mSet 3 (mOp (vl2 divW) (mVar 3) (mC (.int 1013)))))
noncomputable def c_l_draws_2 : MT := (mTst (mOp (vl2 ltW) (mCall (vlN lenW) (mCons (mVar 5) mNil)) (mVar 2)))
noncomputable def b_l_draws_3 : MS := (mSeq (mSet 6 (mOp addD (mCall (vlN lenW) (mCons (mVar 5) mNil)) (mC (.int 1)))) (mSeq (mSet 4 (mOp (vl2 modW) (mOp addD (mOp addD (mOp (vl2 mulW) (mVar 4) (mC (.int 48271))) (mOp (vl2 mulW) (mOp (vl2 mulW) (mVar 6) (mVar 6)) (mC (.int 6133)))) (mC (.int 17))) (mC (.int 2147483647)))) (mDrop (mMt "list" (chL appL) (mVar 5) (mCons (mOp (vl2 modW) (mOp (vl2 modW) (mOp (vl2 mulW) (mOp (vl2 modW) (mVar 4) (mC (.int 65521))) (mOp addD (mOp (vl2 modW) (mOp (vl2 divW) (mVar 4) (mC (.int 65521))) (mC (.int 32749))) (mC (.int 1)))) (mC (.int 1000003))) (mC (.int 1013))) mNil)))))
noncomputable def m_l_draws : MS := (mSeq (mSet 3 (mOp addD (mOp (vl2 mulW) (mC (.int 7)) (mVar 1)) (mC (.int 1)))) (mSeq (mIf (mTst (mOp (vl2 ltW) (mVar 1) (mCall (vlN lenW) (mCons (mVar 0) mNil)))) (mSet 3 (mOp (vl2 ixW) (mVar 0) (mVar 1))) (mIf (mTst (mOp (vl2 gtW) (mCall (vlN lenW) (mCons (mVar 0) mNil)) (mC (.int 0)))) (mSet 3 (mOp addD (mOp addD (mOp (vl2 modW) (mOp (vl2 ixW) (mVar 0) (mOp (vl2 modW) (mVar 1) (mCall (vlN lenW) (mCons (mVar 0) mNil)))) (mC (.int 999983))) (mOp (vl2 mulW) (mOp (vl2 mulW) (mVar 1) (mVar 1)) (mC (.int 97)))) (mC (.int 1)))) mSkip)) (mSeq (mSet 4 (mOp addD (mOp addD (mOp (vl2 modW) (mVar 3) (mC (.int 999983))) (mOp (vl2 mulW) (mC (.int 31)) (mVar 1))) (mC (.int 5)))) (mSeq (mSet 5 (mCall (ncN lstC) mNil)) (mSeq (mIf (mTst (mOp (vl2 geW) (mVar 3) (mOp (vl2 powW) (mC (.int 10)) (mC (.int 18))))) (mWhile c_l_draws_0 b_l_draws_1) mSkip) (mSeq (mWhile c_l_draws_2 b_l_draws_3) (mRet (mFz (mVar 5)))))))))
noncomputable def q_l_draws : List W → Sto → Rs W := runS 7 3 m_l_draws
noncomputable def p_l_draws : List D → Re D := runP 7 3 m_l_draws
/-! ### _law_turned -/
abbrev s_l_turned : Stmt := topS 22
theorem sc_l_turned : FnScope ["_law_turn", "_law_x", "_law_y"] ["_law_turn", "_law_x", "_law_y"] (defScope s_l_turned) := ⟨rfl, rfl, rfl, by decide +kernel, rfl, by decide +kernel, by decide +kernel⟩
noncomputable def m_l_turned : MS := (mRet (mOp (vl2 ixW) (mCall (ndN lstC) (mCons (mCall (ndN tupC) (mCons (mVar 1) (mCons (mVar 2) mNil))) (mCons (mCall (ndN tupC) (mCons (mUn (vl1 negW) (mVar 2)) (mCons (mVar 1) mNil))) (mCons (mCall (ndN tupC) (mCons (mUn (vl1 negW) (mVar 1)) (mCons (mUn (vl1 negW) (mVar 2)) mNil))) (mCons (mCall (ndN tupC) (mCons (mVar 2) (mCons (mUn (vl1 negW) (mVar 1)) mNil))) (mCons (mCall (ndN tupC) (mCons (mUn (vl1 negW) (mVar 1)) (mCons (mVar 2) mNil))) (mCons (mCall (ndN tupC) (mCons (mUn (vl1 negW) (mVar 2)) (mCons (mUn (vl1 negW) (mVar 1)) mNil))) (mCons (mCall (ndN tupC) (mCons (mVar 1) (mCons (mUn (vl1 negW) (mVar 2)) mNil))) (mCons (mCall (ndN tupC) (mCons (mVar 2) (mCons (mVar 1) mNil))) mNil))))))))) (mVar 0)))
noncomputable def q_l_turned : List W → Sto → Rs W := runS 3 3 m_l_turned
noncomputable def p_l_turned : List D → Re D := runP 3 3 m_l_turned
/-! ### _law_moved -/
abbrev s_l_moved : Stmt := topS 23
theorem sc_l_moved : FnScope ["_law_motion", "_law_place", "_law_x", "_law_y"] ["_law_motion", "_law_place"] (defScope s_l_moved) := ⟨rfl, rfl, rfl, by decide +kernel, rfl, by decide +kernel, by decide +kernel⟩
noncomputable def m_l_moved : MS := (mSeq (mAsg (gtTup 2 (gtCons (gtName 2) (gtCons (gtName 3) gtNil))) (mCallN p_l_turned (mCons (mOp (vl2 ixW) (mVar 0) (mC (.int 0))) (mCons (mOp (vl2 ixW) (mVar 1) (mC (.int 0))) (mCons (mOp (vl2 ixW) (mVar 1) (mC (.int 1))) mNil))))) (mRet (mCall (ndN tupC) (mCons (mOp addD (mVar 2) (mOp (vl2 ixW) (mVar 0) (mC (.int 1)))) (mCons (mOp addD (mVar 3) (mOp (vl2 ixW) (mVar 0) (mC (.int 2)))) mNil)))))
noncomputable def q_l_moved : List W → Sto → Rs W := runS 4 2 m_l_moved
noncomputable def p_l_moved : List D → Re D := runP 4 2 m_l_moved
/-! ### _law_back -/
abbrev s_l_back : Stmt := topS 24
theorem sc_l_back : FnScope ["_law_motion", "_law_turn", "_law_x", "_law_y"] ["_law_motion"] (defScope s_l_back) := ⟨rfl, rfl, rfl, by decide +kernel, rfl, by decide +kernel, by decide +kernel⟩
noncomputable def m_l_back : MS := (mSeq (mSet 1 (mOp (vl2 ixW) (mCall (ndN lstC) (mCons (mC (.int 0)) (mCons (mC (.int 3)) (mCons (mC (.int 2)) (mCons (mC (.int 1)) (mCons (mC (.int 4)) (mCons (mC (.int 5)) (mCons (mC (.int 6)) (mCons (mC (.int 7)) mNil))))))))) (mOp (vl2 ixW) (mVar 0) (mC (.int 0))))) (mSeq (mAsg (gtTup 2 (gtCons (gtName 2) (gtCons (gtName 3) gtNil))) (mCallN p_l_turned (mCons (mVar 1) (mCons (mOp (vl2 ixW) (mVar 0) (mC (.int 1))) (mCons (mOp (vl2 ixW) (mVar 0) (mC (.int 2))) mNil))))) (mRet (mCall (ndN tupC) (mCons (mVar 1) (mCons (mUn (vl1 negW) (mVar 2)) (mCons (mUn (vl1 negW) (mVar 3)) mNil)))))))
noncomputable def q_l_back : List W → Sto → Rs W := runS 4 1 m_l_back
noncomputable def p_l_back : List D → Re D := runP 4 1 m_l_back
/-! ### _law_same -/
abbrev s_l_same : Stmt := topS 25
theorem sc_l_same : FnScope ["_law_found", "_law_due_here", "_law_k"] ["_law_found", "_law_due_here"] (defScope s_l_same) := ⟨rfl, rfl, rfl, by decide +kernel, rfl, by decide +kernel, by decide +kernel⟩
noncomputable def b_l_same_0 (p : List D → Re D) : MS := (mIf (mNot (mTru (mCallN p (mCons (mOp (vl2 ixW) (mVar 0) (mVar 2)) (mCons (mOp (vl2 ixW) (mVar 1) (mVar 2)) mNil))))) (mRet (mC (.bl false))) mSkip)
noncomputable def m_l_same (p : List D → Re D) : MS := (mSeq (mIf (mTru (mUn (isiW ["tuple", "list"]) (mVar 1))) (mSeq (mIf (mOr (mTst (mOp (vl2 neW) (mUn (isiW ["tuple"]) (mVar 1)) (mUn (isiW ["tuple"]) (mVar 0)))) (mTst (mOp (vl2 neW) (mUn (isiW ["list"]) (mVar 1)) (mUn (isiW ["list"]) (mVar 0))))) (mRet (mC (.bl false))) mSkip) (mSeq (mIf (mTst (mOp (vl2 neW) (mCall (vlN lenW) (mCons (mVar 0) mNil)) (mCall (vlN lenW) (mCons (mVar 1) mNil)))) (mRet (mC (.bl false))) mSkip) (mSeq (mForR rng1 (mCons (mCall (vlN lenW) (mCons (mVar 1) mNil)) mNil) (gtName 2) (b_l_same_0 p)) (mRet (mC (.bl true)))))) mSkip) (mSeq (mIf (mTst (mOp (vl2 isNW) (mVar 1) (mC .non))) (mRet (mOp (vl2 isNW) (mVar 0) (mC .non))) mSkip) (mSeq (mIf (mOr (mTru (mUn (isiW ["bool"]) (mVar 1))) (mTru (mUn (isiW ["bool"]) (mVar 0)))) (mRet (mAndV (mUn (isiW ["bool"]) (mVar 1)) (mAndV (mUn (isiW ["bool"]) (mVar 0)) (mOp (vl2 eqW) (mVar 0) (mVar 1))))) mSkip) (mSeq (mIf (mTru (mUn (isiW ["int"]) (mVar 1))) (mRet (mAndV (mUn (isiW ["int"]) (mVar 0)) (mOp (vl2 eqW) (mVar 0) (mVar 1)))) mSkip) (mRet (mAndV (mUn (isiW ["str"]) (mVar 0)) (mOp (vl2 eqW) (mVar 0) (mVar 1))))))))
noncomputable def p_l_same : Nat → List D → Re D
  | 0 => fun _ => .stuck
  | n + 1 => runP 3 2 (m_l_same (p_l_same n))
/-! ### _law_heaven -/
abbrev s_l_heaven : Stmt := topS 26
theorem sc_l_heaven : FnScope ["_law_script", "_law_d", "_law_found", "_law_k", "_law_x", "_law_y", "_law_bright", "_law_star"] ["_law_script"] (defScope s_l_heaven) := ⟨rfl, rfl, rfl, by decide +kernel, rfl, by decide +kernel, by decide +kernel⟩
noncomputable def e_l_heaven_0 : ME := (mCall (ndN tupC) (mCons (mOp (vl2 ixW) (mVar 7) (mC (.int 0))) (mCons (mOp (vl2 ixW) (mVar 7) (mC (.int 1))) mNil)))
noncomputable def b_l_heaven_1 : MS := (mSeq (mSet 4 (mOp (vl2 subW) (mOp (vl2 modW) (mOp (vl2 ixW) (mVar 1) (mOp addD (mOp (vl2 mulW) (mC (.int 3)) (mVar 3)) (mC (.int 1)))) (mC (.int 9))) (mC (.int 4)))) (mSeq (mSet 5 (mOp (vl2 subW) (mOp (vl2 modW) (mOp (vl2 ixW) (mVar 1) (mOp addD (mOp (vl2 mulW) (mC (.int 3)) (mVar 3)) (mC (.int 2)))) (mC (.int 9))) (mC (.int 4)))) (mSeq (mSet 6 (mOp (vl2 ixW) (mCall (ndN lstC) (mCons (mOp addD (mC (.int 1)) (mOp (vl2 modW) (mOp (vl2 ixW) (mVar 1) (mOp addD (mOp (vl2 mulW) (mC (.int 3)) (mVar 3)) (mC (.int 3)))) (mC (.int 9)))) (mCons (mOp addD (mC (.int 8)) (mOp (vl2 modW) (mOp (vl2 ixW) (mVar 1) (mOp addD (mOp (vl2 mulW) (mC (.int 3)) (mVar 3)) (mC (.int 3)))) (mC (.int 2)))) mNil))) (mCall (vlN intW) (mCons (mOp (vl2 eqW) (mOp (vl2 modW) (mOp (vl2 divW) (mOp (vl2 ixW) (mVar 1) (mC (.int 0))) (mC (.int 9))) (mC (.int 3))) (mC (.int 1))) mNil)))) (mIf (mTst (mOp (vl2 notinW) (mCall (ndN tupC) (mCons (mVar 4) (mCons (mVar 5) mNil))) (mLc mkD (mVar 2) [7] (gtName 7) mYes e_l_heaven_0))) (mDrop (mMt "list" (chL appL) (mVar 2) (mCons (mCall (ndN tupC) (mCons (mVar 4) (mCons (mVar 5) (mCons (mVar 6) mNil)))) mNil))) mSkip))))
noncomputable def m_l_heaven : MS := (mSeq (mSet 1 (mCallN p_l_draws (mCons (mVar 0) (mCons (mC (.int 1)) (mCons (mC (.int 25)) mNil))))) (mSeq (mSet 2 (mCall (ncN lstC) mNil)) (mSeq (mForR rng1 (mCons (mOp (vl2 modW) (mOp (vl2 ixW) (mVar 1) (mC (.int 0))) (mC (.int 9))) mNil) (gtName 3) b_l_heaven_1) (mRet (mFz (mVar 2))))))
noncomputable def q_l_heaven : List W → Sto → Rs W := runS 8 1 m_l_heaven
noncomputable def p_l_heaven : List D → Re D := runP 8 1 m_l_heaven
/-! ### _law_pane -/
abbrev s_l_pane : Stmt := topS 27
theorem sc_l_pane : FnScope ["_law_name", "_law_home_here", "_law_heaven_here", "_law_d", "_law_width", "_law_height", "_law_limit", "_law_stars", "_law_x", "_law_y", "_law_bright", "_law_odd", "_law_right", "_law_up", "_law_star"] ["_law_name", "_law_home_here", "_law_heaven_here", "_law_d"] (defScope s_l_pane) := ⟨rfl, rfl, rfl, by decide +kernel, rfl, by decide +kernel, by decide +kernel⟩
noncomputable def b_l_pane_0 : MS := (mSeq (mAsg (gtTup 2 (gtCons (gtName 12) (gtCons (gtName 13) gtNil))) (mCallN p_l_moved (mCons (mCallN p_l_back (mCons (mVar 1) mNil)) (mCons (mCall (ndN tupC) (mCons (mVar 8) (mCons (mVar 9) mNil))) mNil)))) (mIf (mAnd (mTst (mOp (vl2 leW) (mC (.int 0)) (mVar 12))) (mAnd (mTst (mOp (vl2 ltW) (mVar 12) (mVar 4))) (mAnd (mTst (mOp (vl2 leW) (mC (.int 0)) (mVar 13))) (mAnd (mTst (mOp (vl2 ltW) (mVar 13) (mVar 5))) (mTst (mOp (vl2 geW) (mVar 10) (mVar 6))))))) (mDrop (mMt "list" (chL appL) (mVar 7) (mCons (mCall (ndN tupC) (mCons (mVar 12) (mCons (mVar 13) (mCons (mVar 10) mNil)))) mNil))) mSkip))
noncomputable def t_l_pane_1 : MT := (mTst (mOp (vl2 neW) (mSl mkD (mVar 14) moN (moS (mC (.int 2)))) (mSl mkD (mVar 11) moN (moS (mC (.int 2))))))
noncomputable def e_l_pane_2 : ME := (mVar 14)
noncomputable def m_l_pane : MS := (mSeq (mSet 4 (mOp (vl2 ixW) (mCall (ndN lstC) (mCons (mOp addD (mC (.int 1)) (mOp (vl2 modW) (mOp (vl2 ixW) (mVar 3) (mC (.int 4))) (mC (.int 4)))) (mCons (mOp addD (mC (.int 1)) (mOp (vl2 modW) (mOp (vl2 divW) (mOp (vl2 ixW) (mVar 3) (mC (.int 4))) (mC (.int 24))) (mC (.int 8)))) mNil))) (mCall (vlN intW) (mCons (mOp (vl2 eqW) (mOp (vl2 modW) (mOp (vl2 divW) (mOp (vl2 ixW) (mVar 3) (mC (.int 4))) (mC (.int 4))) (mC (.int 6))) (mC (.int 0))) mNil)))) (mSeq (mSet 5 (mOp (vl2 ixW) (mCall (ndN lstC) (mCons (mOp addD (mC (.int 1)) (mOp (vl2 modW) (mOp (vl2 ixW) (mVar 3) (mC (.int 5))) (mC (.int 4)))) (mCons (mOp addD (mC (.int 1)) (mOp (vl2 modW) (mOp (vl2 divW) (mOp (vl2 ixW) (mVar 3) (mC (.int 5))) (mC (.int 24))) (mC (.int 8)))) mNil))) (mCall (vlN intW) (mCons (mOp (vl2 eqW) (mOp (vl2 modW) (mOp (vl2 divW) (mOp (vl2 ixW) (mVar 3) (mC (.int 5))) (mC (.int 4))) (mC (.int 6))) (mC (.int 0))) mNil)))) (mSeq (mSet 6 (mOp (vl2 ixW) (mCall (ndN lstC) (mCons (mOp addD (mC (.int 1)) (mOp (vl2 modW) (mOp (vl2 ixW) (mVar 3) (mC (.int 6))) (mC (.int 3)))) (mCons (mOp addD (mC (.int 1)) (mOp (vl2 modW) (mOp (vl2 divW) (mOp (vl2 ixW) (mVar 3) (mC (.int 6))) (mC (.int 12))) (mC (.int 9)))) mNil))) (mCall (vlN intW) (mCons (mOp (vl2 eqW) (mOp (vl2 modW) (mOp (vl2 divW) (mOp (vl2 ixW) (mVar 3) (mC (.int 6))) (mC (.int 3))) (mC (.int 4))) (mC (.int 0))) mNil)))) (mSeq (mSet 7 (mCall (ncN lstC) mNil)) (mSeq (mFor (mVar 2) (gtTup 3 (gtCons (gtName 8) (gtCons (gtName 9) (gtCons (gtName 10) gtNil)))) b_l_pane_0) (mSeq (mIf (mTst (mOp (vl2 eqW) (mOp (vl2 modW) (mOp (vl2 ixW) (mVar 3) (mC (.int 3))) (mC (.int 6))) (mC (.int 1)))) (mSeq (mSet 11 (mCall (ndN tupC) (mCons (mOp (vl2 modW) (mOp (vl2 ixW) (mVar 3) (mC (.int 10))) (mVar 4)) (mCons (mOp (vl2 modW) (mOp (vl2 ixW) (mVar 3) (mC (.int 11))) (mVar 5)) (mCons (mOp addD (mVar 6) (mOp (vl2 modW) (mOp (vl2 divW) (mOp (vl2 ixW) (mVar 3) (mC (.int 10))) (mC (.int 8))) (mOp (vl2 subW) (mC (.int 10)) (mVar 6)))) mNil))))) (mSet 7 (mOp addC (mLc mkD (mVar 7) [14] (gtName 14) t_l_pane_1 e_l_pane_2) (mCall (ndN lstC) (mCons (mVar 11) mNil))))) mSkip) (mFrz 7 (mRet (mCall (ndN tupC) (mCons (mVar 0) (mCons (mVar 4) (mCons (mVar 5) (mCons (mVar 6) (mCons (mCall (tupleF mkD) (mCons (mCall (ndN sortC) (mCons (mSl mkD (mVar 7) (moS (mUn (vl1 negW) (mC (.int 8)))) moN) mNil)) mNil)) mNil))))))))))))))
noncomputable def q_l_pane : List W → Sto → Rs W := runS 15 4 m_l_pane
noncomputable def p_l_pane : List D → Re D := runP 15 4 m_l_pane
/-! ### _law_home -/
abbrev s_l_home : Stmt := topS 28
theorem sc_l_home : FnScope ["_law_d"] ["_law_d"] (defScope s_l_home) := ⟨rfl, rfl, rfl, by decide +kernel, rfl, by decide +kernel, by decide +kernel⟩
noncomputable def m_l_home : MS := (mRet (mCall (ndN tupC) (mCons (mOp (vl2 modW) (mOp (vl2 ixW) (mVar 0) (mC (.int 7))) (mC (.int 8))) (mCons (mOp (vl2 subW) (mOp (vl2 modW) (mOp (vl2 ixW) (mVar 0) (mC (.int 8))) (mC (.int 7))) (mC (.int 3))) (mCons (mOp (vl2 subW) (mOp (vl2 modW) (mOp (vl2 ixW) (mVar 0) (mC (.int 9))) (mC (.int 7))) (mC (.int 3))) mNil)))))
noncomputable def q_l_home : List W → Sto → Rs W := runS 1 1 m_l_home
noncomputable def p_l_home : List D → Re D := runP 1 1 m_l_home
/-! ### _law_put -/
abbrev s_l_put : Stmt := topS 29
theorem sc_l_put : FnScope ["_law_book", "_law_pane_here", "_law_handed", "_law_told", "e"] ["_law_book", "_law_pane_here", "_law_handed"] (defScope s_l_put) := ⟨rfl, rfl, rfl, by decide +kernel, rfl, by decide +kernel, by decide +kernel⟩
noncomputable def y_l_put_0 : MS := (mDrop (mMeth "Book" "put" q_Book_put (mVar 0) (mCons (mOp (vl2 ixW) (mVar 1) (mC (.int 0))) (mCons (mOp (vl2 ixW) (mVar 1) (mC (.int 1))) (mCons (mOp (vl2 ixW) (mVar 1) (mC (.int 2))) (mCons (mOp (vl2 ixW) (mVar 1) (mC (.int 3))) (mCons (mVar 2) mNil)))))))
noncomputable def x_l_put_1 (exn : Exn) : MS := (mSeq (mSet 3 (mC (.str "else"))) (mSeq (mIf (mTru (mIsE 4 il_ValueError exn)) (mSet 3 (mC (.str ""))) mSkip) (mSeq (mIf (mTru (mIsE 4 il_BadName exn)) (mSet 3 (mOp addD (mVar 3) (mC (.str "name")))) mSkip) (mSeq (mIf (mTru (mIsE 4 il_BadPlate exn)) (mSet 3 (mOp addD (mVar 3) (mC (.str "plate")))) mSkip) (mSeq (mIf (mTru (mIsE 4 il_Taken exn)) (mSet 3 (mOp addD (mVar 3) (mC (.str "taken")))) mSkip) (mIf (mTru (mIsE 4 il_Full exn)) (mSet 3 (mOp addD (mVar 3) (mC (.str "full")))) mSkip))))))
noncomputable def m_l_put : MS := (mSeq (mSet 3 (mC (.str "let"))) (mSeq (mTryAs (hitL hl_GlassError) 4 y_l_put_0 x_l_put_1) (mRet (mVar 3))))
noncomputable def q_l_put : List W → Sto → Rs W := runS 5 3 m_l_put
/-! ### _law_due -/
abbrev s_l_due : Stmt := topS 30
theorem sc_l_due : FnScope ["_law_panes", "_law_pane_here"] ["_law_panes", "_law_pane_here"] (defScope s_l_due) := ⟨rfl, rfl, rfl, by decide +kernel, rfl, by decide +kernel, by decide +kernel⟩
noncomputable def m_l_due : MS := (mSeq (mIf (mOr (mTst (mOp (vl2 ltW) (mCall (vlN lenW) (mCons (mOp (vl2 ixW) (mVar 1) (mC (.int 0))) mNil)) (mC (.int 1)))) (mOr (mTst (mOp (vl2 gtW) (mCall (vlN lenW) (mCons (mOp (vl2 ixW) (mVar 1) (mC (.int 0))) mNil)) (mC (.int 8)))) (mTst (mOp (vl2 inW) (mC (.str "B")) (mOp (vl2 ixW) (mVar 1) (mC (.int 0))))))) (mRet (mC (.str "name"))) mSkip) (mSeq (mIf (mOr (mTst (mOp (vl2 gtW) (mOp (vl2 ixW) (mVar 1) (mC (.int 1))) (mC (.int 8)))) (mTst (mOp (vl2 ltW) (mOp (vl2 ixW) (mVar 1) (mC (.int 3))) (mC (.int 1))))) (mRet (mC (.str "plate"))) mSkip) (mSeq (mIf (mTst (mOp (vl2 inW) (mOp (vl2 ixW) (mVar 1) (mC (.int 0))) (mVar 0))) (mRet (mC (.str "taken"))) mSkip) (mSeq (mIf (mTst (mOp (vl2 gtW) (mCall (vlN lenW) (mCons (mVar 0) mNil)) (mC (.int 11)))) (mRet (mC (.str "full"))) mSkip) (mRet (mC (.str "let")))))))
noncomputable def q_l_due : List W → Sto → Rs W := runS 2 2 m_l_due
/-! ### _law_made -/
abbrev s_l_made : Stmt := topS 31
theorem sc_l_made : FnScope ["_law_d", "_law_heaven_here", "_law_letters", "_law_size", "_law_name", "_law_pane_here", "_law_way"] ["_law_d", "_law_heaven_here"] (defScope s_l_made) := ⟨rfl, rfl, rfl, by decide +kernel, rfl, by decide +kernel, by decide +kernel⟩
noncomputable def m_l_made : MS := (mSeq (mSet 2 (mC (.str "abcdefghijklmnopqrstuvwxyz"))) (mSeq (mSet 3 (mOp addD (mC (.int 1)) (mOp (vl2 mulW) (mOp (vl2 modW) (mOp (vl2 ixW) (mVar 0) (mC (.int 1))) (mC (.int 2))) (mOp (vl2 modW) (mOp (vl2 divW) (mOp (vl2 ixW) (mVar 0) (mC (.int 1))) (mC (.int 2))) (mC (.int 8)))))) (mSeq (mSet 4 (mOp addD (mOp (vl2 ixW) (mVar 2) (mOp (vl2 modW) (mOp (vl2 divW) (mOp (vl2 ixW) (mVar 0) (mC (.int 1))) (mC (.int 16))) (mC (.int 18)))) (mOp (vl2 mulSW) (mC (.str "z")) (mOp (vl2 subW) (mVar 3) (mC (.int 1)))))) (mSeq (mSet 5 (mCall (ncN listC) (mCons (mCallN p_l_pane (mCons (mVar 4) (mCons (mCallN p_l_home (mCons (mVar 0) mNil)) (mCons (mVar 1) (mCons (mVar 0) mNil))))) mNil))) (mSeq (mSet 6 (mOp (vl2 modW) (mOp (vl2 ixW) (mVar 0) (mC (.int 2))) (mC (.int 18)))) (mSeq (mIf (mTst (mOp (vl2 eqW) (mVar 6) (mC (.int 1)))) (mSetIx (mVar 5) (mC (.int 0)) (mOp (vl2 ixW) (mCall (ndN lstC) (mCons (mC (.str "")) (mCons (mC (.str "zzzzzzzzz")) (mCons (mC (.str "aB")) (mCons (mC (.str "B")) mNil))))) (mOp (vl2 modW) (mOp (vl2 divW) (mOp (vl2 ixW) (mVar 0) (mC (.int 2))) (mC (.int 18))) (mC (.int 4))))) mSkip) (mSeq (mIf (mOr (mTst (mOp (vl2 eqW) (mVar 6) (mC (.int 2)))) (mTst (mOp (vl2 eqW) (mVar 6) (mC (.int 3))))) (mSetIx (mVar 5) (mOp addD (mOp (vl2 subW) (mVar 6) (mC (.int 1))) (mOp (vl2 divW) (mVar 6) (mC (.int 3)))) (mOp (vl2 ixW) (mCall (ndN lstC) (mCons (mC (.int 9)) (mCons (mC (.int 0)) mNil))) (mOp (vl2 subW) (mVar 6) (mC (.int 2))))) mSkip) (mRet (mFz (mVar 5))))))))))
noncomputable def q_l_made : List W → Sto → Rs W := runS 7 2 m_l_made
noncomputable def p_l_made : List D → Re D := runP 7 2 m_l_made
/-! ### law -/
abbrev s_law : Stmt := topS 32
theorem sc_law : FnScope ["_law_script", "_law_book", "_law_panes", "_law_heaven_here", "_law_k", "_law_d", "_law_pane_here", "_law_told", "_law_name", "_law_due_here", "_law_handed"] ["_law_script"] (defScope s_law) := ⟨rfl, rfl, rfl, by decide +kernel, rfl, by decide +kernel, by decide +kernel⟩
noncomputable def b_law_0 : MS := (mSeq (mSet 5 (mCallN p_l_draws (mCons (mVar 0) (mCons (mVar 4) (mCons (mC (.int 12)) mNil))))) (mSeq (mSet 6 (mCallN p_l_made (mCons (mVar 5) (mCons (mVar 3) mNil)))) (mSeq (mIf (mAnd (mTst (mOp (vl2 eqW) (mOp (vl2 modW) (mOp (vl2 ixW) (mVar 5) (mC (.int 0))) (mC (.int 9))) (mC (.int 1)))) (mTst (mOp (vl2 inW) (mOp (vl2 ixW) (mVar 6) (mC (.int 0))) (mVar 2)))) (mSeq (mDrop (mPop1 (mVar 2) (mOp (vl2 ixW) (mVar 6) (mC (.int 0))))) (mIf (mTst (mOp (vl2 notNW) (mMeth "Book" "drop" q_Book_drop (mVar 1) (mCons (mOp (vl2 ixW) (mVar 6) (mC (.int 0))) mNil)) (mC .non))) (mRet (mC (.bl false))) mSkip)) (mSeq (mSet 9 (mCall q_l_due (mCons (mVar 2) (mCons (mVar 6) mNil)))) (mSeq (mSet 10 (mRev mkC (mCall (ndN listC) (mCons (mOp (vl2 ixW) (mVar 6) (mC (.int 4))) mNil)))) (mSeq (mIf (mOr (mTst (mOp (vl2 neW) (mCall q_l_put (mCons (mVar 1) (mCons (mVar 6) (mCons (mVar 10) mNil)))) (mVar 9))) (mTst (mOp (vl2 neW) (mVar 10) (mRev mkD (mCall (ndN listC) (mCons (mOp (vl2 ixW) (mVar 6) (mC (.int 4))) mNil)))))) (mRet (mC (.bl false))) mSkip) (mSeq (mDrop (mMt "list" (chL appL) (mVar 10) (mCons (mCall (ndN tupC) (mCons (mC (.int 0)) (mCons (mC (.int 0)) (mCons (mC (.int 9)) mNil)))) mNil))) (mIf (mTst (mOp (vl2 eqW) (mVar 9) (mC (.str "let")))) (mSetIx (mVar 2) (mOp (vl2 ixW) (mVar 6) (mC (.int 0))) (mVar 6)) mSkip)))))) (mSeq (mSet 7 (mMeth "Book" "names" q_Book_names (mVar 1) mNil)) (mSeq (mIf (mNot (mTru (mCallN (p_l_same 6) (mCons (mVar 7) (mCons (mCall (ndN sortDC) (mCons (mVar 2) mNil)) mNil))))) (mRet (mC (.bl false))) mSkip) (mDrop (mMt "list" (chL appL) (mVar 7) (mCons (mC (.str "zz")) mNil))))))))
noncomputable def b_law_1 : MS := (mSeq (mSet 7 (mMeth "Book" "stars_of" q_Book_stars_of (mVar 1) (mCons (mVar 8) mNil))) (mSeq (mIf (mOr (mNot (mTru (mCallN (p_l_same 6) (mCons (mVar 7) (mCons (mCall (ndN listC) (mCons (mOp (vl2 ixW) (mVar 6) (mC (.int 4))) mNil)) mNil))))) (mNot (mTru (mCallN (p_l_same 6) (mCons (mMeth "Book" "window" q_Book_window (mVar 1) (mCons (mVar 8) mNil)) (mCons (mCall (tupleF mkD) (mCons (mSl mkD (mVar 6) (moS (mC (.int 1))) (moS (mC (.int 4)))) mNil)) mNil)))))) (mRet (mC (.bl false))) mSkip) (mSeq (mDrop (mMt "list" (chL appL) (mVar 7) (mCons (mCall (ndN tupC) (mCons (mC (.int 0)) (mCons (mC (.int 0)) (mCons (mC (.int 1)) mNil)))) mNil))) (mIf (mNot (mTru (mCallN (p_l_same 6) (mCons (mMeth "Book" "stars_of" q_Book_stars_of (mVar 1) (mCons (mVar 8) mNil)) (mCons (mCall (ndN listC) (mCons (mOp (vl2 ixW) (mVar 6) (mC (.int 4))) mNil)) mNil))))) (mRet (mC (.bl false))) mSkip))))
noncomputable def m_law : MS := (mSeq (mSet 1 (mCall (makeS "Book" q_Book___init__) mNil)) (mSeq (mSet 2 (mCall (ncN newDK) mNil)) (mSeq (mSet 3 (mCallN p_l_heaven (mCons (mVar 0) mNil))) (mSeq (mForR rng1 (mCons (mCall (vlN min2W) (mCons (mOp addD (mCall (vlN lenW) (mCons (mVar 0) mNil)) (mC (.int 6))) (mCons (mC (.int 32)) mNil))) mNil) (gtName 4) b_law_0) (mFrz 2 (mSeq (mForI (mVar 2) (gtTup 2 (gtCons (gtName 8) (gtCons (gtName 6) gtNil))) b_law_1) (mRet (mC (.bl true)))))))))
noncomputable def q_law : List W → Sto → Rs W := runS 11 1 m_law
noncomputable def p_law : List D → Re D := runP 11 1 m_law
/-- what the top leaves -/
structure Tx (K : PySem.W.Frag) (mg : Str → Option Value) (cl : Str → Option Addr) (fa : Nat → Addr) (fd : Nat → FuncData) (ca : Nat → Addr) : Prop where
  c_Plate : ClsAt K mg cl "Plate" (ca 16)
  k_Plate : Mk K (ca 16) (fa 11600)
  c_Book : ClsAt K mg cl "Book" (ca 19)
  k_Book : Mk K (ca 19) (fa 11900)
  f_name : FldOk K cl "name" ["Plate"]
  f_width : FldOk K cl "width" ["Plate"]
  f_height : FldOk K cl "height" ["Plate"]
  f_limit : FldOk K cl "limit" ["Plate"]
  f_lights : FldOk K cl "lights" ["Plate"]
  f_held : FldOk K cl "held" ["Book"]
  f_tied : FldOk K cl "tied" ["Book"]
  f_upcoming : FldOk K cl "upcoming" ["Book"]
  f_past : FldOk K cl "past" ["Book"]
  f_future : FldOk K cl "future" ["Book"]
  d0 : DefAt K mg "_wall" s__wall ["k"] (fa 0) (fd 0)
  d14 : DefAt K mg "is_name" s_is_name ["name"] (fa 14) (fd 14)
  d15 : DefAt K mg "is_glass" s_is_glass ["width", "height", "limit", "stars"] (fa 15) (fd 15)
  d11600 : MethAt K "__init__" "Plate.__init__" s_Plate___init__ ["self", "name", "width", "height", "limit", "stars"] (ca 16) (fa 11600) (fd 11600)
  d11601 : MethAt K "stars" "Plate.stars" s_Plate_stars ["self"] (ca 16) (fa 11601) (fd 11601)
  d11602 : MethAt K "holds" "Plate.holds" s_Plate_holds ["self", "place"] (ca 16) (fa 11602) (fd 11602)
  d11603 : MethAt K "says" "Plate.says" s_Plate_says ["self", "place"] (ca 16) (fa 11603) (fd 11603)
  d11604 : MethAt K "places" "Plate.places" s_Plate_places ["self"] (ca 16) (fa 11604) (fd 11604)
  d11900 : MethAt K "__init__" "Book.__init__" s_Book___init__ ["self"] (ca 19) (fa 11900) (fd 11900)
  d11901 : MethAt K "stand" "Book.stand" s_Book_stand ["self"] (ca 19) (fa 11901) (fd 11901)
  d11902 : MethAt K "restore" "Book.restore" s_Book_restore ["self", "stand"] (ca 19) (fa 11902) (fd 11902)
  d11903 : MethAt K "remember" "Book.remember" s_Book_remember ["self", "deed"] (ca 19) (fa 11903) (fd 11903)
  d11904 : MethAt K "forget" "Book.forget" s_Book_forget ["self"] (ca 19) (fa 11904) (fd 11904)
  d11905 : MethAt K "need" "Book.need" s_Book_need ["self", "name"] (ca 19) (fa 11905) (fd 11905)
  d11906 : MethAt K "need_two" "Book.need_two" s_Book_need_two ["self", "one", "other"] (ca 19) (fa 11906) (fd 11906)
  d11907 : MethAt K "put" "Book.put" s_Book_put ["self", "name", "width", "height", "limit", "stars"] (ca 19) (fa 11907) (fd 11907)
  d11908 : MethAt K "drop" "Book.drop" s_Book_drop ["self", "name"] (ca 19) (fa 11908) (fd 11908)
  d11909 : MethAt K "look" "Book.look" s_Book_look ["self", "one", "other", "motion"] (ca 19) (fa 11909) (fd 11909)
  d11910 : MethAt K "verdict" "Book.verdict" s_Book_verdict ["self", "web", "one", "other", "motion"] (ca 19) (fa 11910) (fd 11910)
  d11911 : MethAt K "tie" "Book.tie" s_Book_tie ["self", "one", "other", "motion"] (ca 19) (fa 11911) (fd 11911)
  d11912 : MethAt K "untie" "Book.untie" s_Book_untie ["self", "number"] (ca 19) (fa 11912) (fd 11912)
  d11913 : MethAt K "undo" "Book.undo" s_Book_undo ["self"] (ca 19) (fa 11913) (fd 11913)
  d11914 : MethAt K "redo" "Book.redo" s_Book_redo ["self"] (ca 19) (fa 11914) (fd 11914)
  d11915 : MethAt K "log" "Book.log" s_Book_log ["self"] (ca 19) (fa 11915) (fd 11915)
  d11916 : MethAt K "twin" "Book.twin" s_Book_twin ["self"] (ca 19) (fa 11916) (fd 11916)
  d11917 : MethAt K "names" "Book.names" s_Book_names ["self"] (ca 19) (fa 11917) (fd 11917)
  d11918 : MethAt K "window" "Book.window" s_Book_window ["self", "name"] (ca 19) (fa 11918) (fd 11918)
  d11919 : MethAt K "stars_of" "Book.stars_of" s_Book_stars_of ["self", "name"] (ca 19) (fa 11919) (fd 11919)
  d11920 : MethAt K "ties" "Book.ties" s_Book_ties ["self"] (ca 19) (fa 11920) (fd 11920)
  d11921 : MethAt K "lies" "Book.lies" s_Book_lies ["self", "one", "other"] (ca 19) (fa 11921) (fd 11921)
  d11922 : MethAt K "chain" "Book.chain" s_Book_chain ["self", "one", "other"] (ca 19) (fa 11922) (fd 11922)
  d11923 : MethAt K "sky" "Book.sky" s_Book_sky ["self", "name"] (ca 19) (fa 11923) (fd 11923)
  d11924 : MethAt K "skies" "Book.skies" s_Book_skies ["self"] (ca 19) (fa 11924) (fd 11924)
  d11925 : MethAt K "laid" "Book.laid" s_Book_laid ["self", "web", "name"] (ca 19) (fa 11925) (fd 11925)
  d11926 : MethAt K "sky_laid" "Book.sky_laid" s_Book_sky_laid ["self", "name"] (ca 19) (fa 11926) (fd 11926)
  d11927 : MethAt K "ask" "Book.ask" s_Book_ask ["self", "name", "place"] (ca 19) (fa 11927) (fd 11927)
  d11928 : MethAt K "chart" "Book.chart" s_Book_chart ["self", "name"] (ca 19) (fa 11928) (fd 11928)
  d11929 : MethAt K "face" "Book.face" s_Book_face ["self", "name"] (ca 19) (fa 11929) (fd 11929)
  d11930 : MethAt K "form" "Book.form" s_Book_form ["self", "name"] (ca 19) (fa 11930) (fd 11930)
  d11931 : MethAt K "matches" "Book.matches" s_Book_matches ["self", "one", "other"] (ca 19) (fa 11931) (fd 11931)
  d11932 : MethAt K "apart" "Book.apart" s_Book_apart ["self", "one", "other"] (ca 19) (fa 11932) (fd 11932)
  d11933 : MethAt K "layings" "Book.layings" s_Book_layings ["self", "one", "other", "least"] (ca 19) (fa 11933) (fd 11933)
  d11934 : MethAt K "sure" "Book.sure" s_Book_sure ["self", "one", "other", "least", "place"] (ca 19) (fa 11934) (fd 11934)
  d11935 : MethAt K "carries" "Book.carries" s_Book_carries ["self", "number"] (ca 19) (fa 11935) (fd 11935)
  d11936 : MethAt K "would" "Book.would" s_Book_would ["self", "one", "other", "motion"] (ca 19) (fa 11936) (fd 11936)
  d11937 : MethAt K "mends" "Book.mends" s_Book_mends ["self", "one", "other", "motion"] (ca 19) (fa 11937) (fd 11937)
  d21 : DefAt K mg "_law_draws" s_l_draws ["_law_script", "_law_at", "_law_many"] (fa 21) (fd 21)
  d22 : DefAt K mg "_law_turned" s_l_turned ["_law_turn", "_law_x", "_law_y"] (fa 22) (fd 22)
  d23 : DefAt K mg "_law_moved" s_l_moved ["_law_motion", "_law_place"] (fa 23) (fd 23)
  d24 : DefAt K mg "_law_back" s_l_back ["_law_motion"] (fa 24) (fd 24)
  d25 : DefAt K mg "_law_same" s_l_same ["_law_found", "_law_due_here"] (fa 25) (fd 25)
  d26 : DefAt K mg "_law_heaven" s_l_heaven ["_law_script"] (fa 26) (fd 26)
  d27 : DefAt K mg "_law_pane" s_l_pane ["_law_name", "_law_home_here", "_law_heaven_here", "_law_d"] (fa 27) (fd 27)
  d28 : DefAt K mg "_law_home" s_l_home ["_law_d"] (fa 28) (fd 28)
  d29 : DefAt K mg "_law_put" s_l_put ["_law_book", "_law_pane_here", "_law_handed"] (fa 29) (fd 29)
  d30 : DefAt K mg "_law_due" s_l_due ["_law_panes", "_law_pane_here"] (fa 30) (fd 30)
  d31 : DefAt K mg "_law_made" s_l_made ["_law_d", "_law_heaven_here"] (fa 31) (fd 31)
  d32 : DefAt K mg "law" s_law ["_law_script"] (fa 32) (fd 32)
  c_GlassError : ExcAt K mg cl "GlassError" (ca 2)
  c_BadName : ExcAt K mg cl "BadName" (ca 3)
  c_BadPlate : ExcAt K mg cl "BadPlate" (ca 4)
  c_NoPlate : ExcAt K mg cl "NoPlate" (ca 5)
  c_Taken : ExcAt K mg cl "Taken" (ca 6)
  c_Full : ExcAt K mg cl "Full" (ca 7)
  h_GlassError : Hits K cl (.ref (ca 2)) hl_GlassError
  i_ValueError : Isis K cl (.type "ValueError") il_ValueError
  i_BadName : Isis K cl (.ref (ca 3)) il_BadName
  i_BadPlate : Isis K cl (.ref (ca 4)) il_BadPlate
  i_Taken : Isis K cl (.ref (ca 6)) il_Taken
  i_Full : Isis K cl (.ref (ca 7)) il_Full
  b_ValueError : mg "ValueError" = none
  b_bool : mg "bool" = none
  b_dict : mg "dict" = none
  b_int : mg "int" = none
  b_isinstance : mg "isinstance" = none
  b_len : mg "len" = none
  b_list : mg "list" = none
  b_min : mg "min" = none
  b_range : mg "range" = none
  b_sorted : mg "sorted" = none
  b_str : mg "str" = none
  b_tuple : mg "tuple" = none
  g_BRIGHT_MOST : GlobAt K mg cl "BRIGHT_MOST" (.int 9)
  g_LETTERS : GlobAt K mg cl "LETTERS" (.str "abcdefghijklmnopqrstuvwxyz")
  g_NAME_MOST : GlobAt K mg cl "NAME_MOST" (.int 8)
  g_PLATES_MOST : GlobAt K mg cl "PLATES_MOST" (.int 12)
  g_SIDE_MOST : GlobAt K mg cl "SIDE_MOST" (.int 8)
  g_STARS_MOST : GlobAt K mg cl "STARS_MOST" (.int 8)
section
variable {P : Program} {w : World} {K : PySem.W.Frag} {mg : Str → Option Value} {base : Heap} {cl : Str → Option Addr} {fa : Nat → Addr} {fd : Nat → FuncData} {ca : Nat → Addr}
theorem okS__wall (T : Tx K mg cl fa fd ca) : FnOk P w K mg base (L2.CX P w) 1 (fa 0) (fd 0) ["k"] (SpS K cl q__wall) := by
  have sc := sc__wall
  exact fnS T.d0.fn sc__wall fun cdv A outer s H E hr =>
  (qb_one (qs_while (passes_of rfl) (qt_truth qe_bl) (qb_one qs_pass)))
theorem ok__wall (T : Tx K mg cl fa fd ca) : FnOk P w K mg base (L2.CX P w) 1 (fa 0) (fd 0) ["k"] (SpP K cl p__wall) := fnP (okS__wall T)
theorem okS_is_name (T : Tx K mg cl fa fd ca) : FnOk P w K mg base (L2.CX P w) 1 (fa 14) (fd 14) ["name"] (SpS K cl q_is_name) := by
  have sc := sc_is_name
  exact fnS T.d14.fn sc_is_name fun cdv A outer s H E hr =>
  (qb_cons (qs_if (QW.qt (qw_or (qt_cmp ow_lt (qe_callB cw_len (by rfl) T.b_len (by decide +kernel) (qa_cons (qe_var 0) qa_nil)) qe_int (nomark _)) (qw_or1 (qt_cmp ow_gt (qe_callB cw_len (by rfl) T.b_len (by decide +kernel) (qa_cons (qe_var 0) qa_nil)) (qe_globAt T.g_NAME_MOST) (nomark _))))) (qb_one (qs_ret qe_bl)) qb_nil) (qb_cons (qs_for (passes_of rfl) rfl (qe_var 0) (qg_name (i := 1) sc.nd rfl (by first | exact .inl rfl | exact .inr rfl)) (qb_one (qs_if (qt_cmp (ow_notin (hu_ng hr)) (qe_var 1) (qe_globAt T.g_LETTERS) (by rfl)) (qb_one (qs_ret qe_bl)) qb_nil))) (qb_one (qs_ret qe_bl))))
theorem ok_is_name (T : Tx K mg cl fa fd ca) : FnOk P w K mg base (L2.CX P w) 1 (fa 14) (fd 14) ["name"] (SpP K cl p_is_name) := fnP (okS_is_name T)
theorem okS_is_glass (T : Tx K mg cl fa fd ca) : FnOk P w K mg base (L2.CX P w) 1 (fa 15) (fd 15) ["width", "height", "limit", "stars"] (SpS K cl q_is_glass) := by
  have sc := sc_is_glass
  exact fnS T.d15.fn sc_is_glass fun cdv A outer s H E hr =>
  (qb_cons (qs_if (qt_not (QW.qt (qw_and (qt_chain ow_le ow_le qe_int (qe_var 0) (qe_globAt T.g_SIDE_MOST)) (qw_and1 (qt_chain ow_le ow_le qe_int (qe_var 1) (qe_globAt T.g_SIDE_MOST)))))) (qb_one (qs_ret qe_bl)) qb_nil) (qb_cons (qs_if (QW.qt (qw_or (qt_not (qt_chain ow_le ow_le qe_int (qe_var 2) (qe_globAt T.g_BRIGHT_MOST))) (qw_or1 (qt_cmp ow_gt (qe_callB cw_len (by rfl) T.b_len (by decide +kernel) (qa_cons (qe_var 3) qa_nil)) (qe_globAt T.g_STARS_MOST) (nomark _))))) (qb_one (qs_ret qe_bl)) qb_nil) (qb_cons (qs_set (i := 4) sc.nd rfl (by first | exact .inl rfl | exact .inr rfl) qe_newDT) (qb_cons (qs_for (passes_of rfl) rfl (qe_var 3) (qg_tup rfl (qgs_cons (qg_name (i := 5) sc.nd rfl (by first | exact .inl rfl | exact .inr rfl)) (qgs_cons (qg_name (i := 6) sc.nd rfl (by first | exact .inl rfl | exact .inr rfl)) (qgs_cons (qg_name (i := 7) sc.nd rfl (by first | exact .inl rfl | exact .inr rfl)) qgs_nil)))) (qb_cons (qs_if (qt_not (QW.qt (qw_and (qt_chain ow_le ow_lt qe_int (qe_var 5) (qe_var 0)) (qw_and1 (qt_chain ow_le ow_lt qe_int (qe_var 6) (qe_var 1)))))) (qb_one (qs_ret qe_bl)) qb_nil) (qb_cons (qs_if (qt_not (qt_chain ow_le ow_le (qe_var 2) (qe_var 7) (qe_globAt T.g_BRIGHT_MOST))) (qb_one (qs_ret qe_bl)) qb_nil) (qb_cons (qs_if (qt_cmp (ow_in (hu_ng hr)) (qe_tup (qa_cons (qe_var 5) (qa_cons (qe_var 6) qa_nil))) (qe_var 4) (by rfl)) (qb_one (qs_ret qe_bl)) qb_nil) (qb_one (qs_setIx (hu_ng hr) (qe_var 4) (qe_tup (qa_cons (qe_var 5) (qa_cons (qe_var 6) qa_nil))) qe_bl)))))) (qb_frz 4 (qb_one (qs_ret qe_bl)))))))
theorem ok_is_glass (T : Tx K mg cl fa fd ca) : FnOk P w K mg base (L2.CX P w) 1 (fa 15) (fd 15) ["width", "height", "limit", "stars"] (SpP K cl p_is_glass) := fnP (okS_is_glass T)
theorem okS_Plate___init__ (T : Tx K mg cl fa fd ca) : FnOk P w K mg base (L2.CX P w) 2 (fa 11600) (fd 11600) ["self", "name", "width", "height", "limit", "stars"] (SpS K cl q_Plate___init__) := by
  have sc := sc_Plate___init__
  exact fnS T.d11600.fn sc_Plate___init__ fun cdv A outer s H E hr =>
  (qb_cons (qs_if (qt_not (qt_truth (qe_callN (ok_is_name T) (hr.mono (by decide)) (by rfl) T.d14.mgd T.d14.fn.kp T.d14.bd (fun σ => passAt (takes_of rfl rfl rfl rfl) σ) (qa_cons (qe_var 1) qa_nil)))) (qb_one (qs_raise rfl (takes_of rfl rfl rfl rfl) T.c_BadName (by rfl))) qb_nil) (qb_cons (qs_if (qt_not (qt_truth (qe_callN (ok_is_glass T) (hr.mono (by decide)) (by rfl) T.d15.mgd T.d15.fn.kp T.d15.bd (fun σ => passAt (takes_of rfl rfl rfl rfl) σ) (qa_cons (qe_var 2) (qa_cons (qe_var 3) (qa_cons (qe_var 4) (qa_cons (qe_var 5) qa_nil))))))) (qb_one (qs_raise rfl (takes_of rfl rfl rfl rfl) T.c_BadPlate (by rfl))) qb_nil) (qb_cons (qs_fld T.f_name (qe_var 0) (qe_var 1)) (qb_cons (qs_fld T.f_width (qe_var 0) (qe_var 2)) (qb_cons (qs_fld T.f_height (qe_var 0) (qe_var 3)) (qb_cons (qs_fld T.f_limit (qe_var 0) (qe_var 4)) (qb_cons (qs_fld T.f_lights (qe_var 0) qe_newDT) (qb_one (qs_for (passes_of rfl) rfl (qe_callB (cn_sorted (hu_ng hr)).d (by rfl) T.b_sorted (by decide +kernel) (qa_cons (qe_var 5) qa_nil)) (qg_tup rfl (qgs_cons (qg_name (i := 6) sc.nd rfl (by first | exact .inl rfl | exact .inr rfl)) (qgs_cons (qg_name (i := 7) sc.nd rfl (by first | exact .inl rfl | exact .inr rfl)) (qgs_cons (qg_name (i := 8) sc.nd rfl (by first | exact .inl rfl | exact .inr rfl)) qgs_nil)))) (qb_one (qs_setIx (hu_ng hr) (qe_fld T.f_lights (qe_var 0)) (qe_tup (qa_cons (qe_var 6) (qa_cons (qe_var 7) qa_nil))) (qe_var 8))))))))))))
theorem okS_Plate_stars (T : Tx K mg cl fa fd ca) : FnOk P w K mg base (L2.CX P w) 1 (fa 11601) (fd 11601) ["self"] (SpS K cl q_Plate_stars) := by
  have sc := sc_Plate_stars
  exact fnS T.d11601.fn sc_Plate_stars fun cdv A outer s H E hr =>
  (qb_one (qs_ret (qe_lcI mkC_ok (own := [("place", 1), ("bright", 2)]) rfl sc.nd (qe_fld T.f_lights (qe_var 0)) (blkOk_by (own := [("place", 1), ("bright", 2)]) (N := ["self", "place", "bright"]) (sc := defScope s_Plate_stars) (by decide +kernel)) (sgw_tup (sgws_cons (sgw_name (i := 1) (by decide)) (sgws_cons (sgw_name (i := 2) (by decide)) sgws_nil))) (fun _ _ _ _ _ => (pg_tup rfl (pgs_cons (pg_name (i := 1) sc.nd rfl (by first | exact .inl rfl | exact .inr rfl)) (pgs_cons (pg_name (i := 2) sc.nd rfl (by first | exact .inl rfl | exact .inr rfl)) pgs_nil)))) (fun _ _ _ _ _ => pts_yes) (fun _ _ _ _ _ => (qe_tup (qa_cons (qe_ix (xw_ix (hu_ng hr)) (qe_var 1) qe_int (fun _ _ => rfl)) (qa_cons (qe_ix (xw_ix (hu_ng hr)) (qe_var 1) qe_int (fun _ _ => rfl)) (qa_cons (qe_var 2) qa_nil))))))))
theorem okL_Plate_stars (T : Tx K mg cl fa fd ca) : FnOk P w K mg base (L2.CX P w) 1 (fa 11601) (fd 11601) ["self"] (SpL K cl l_Plate_stars) := fnL (okS_Plate_stars T)
theorem okS_Plate_holds (T : Tx K mg cl fa fd ca) : FnOk P w K mg base (L2.CX P w) 2 (fa 11602) (fd 11602) ["self", "place"] (SpS K cl q_Plate_holds) := by
  have sc := sc_Plate_holds
  exact fnS T.d11602.fn sc_Plate_holds fun cdv A outer s H E hr =>
  (qb_one (qs_expr (qe_callN (ok__wall T) (hr.mono (by decide)) (by rfl) T.d0.mgd T.d0.fn.kp T.d0.bd (fun σ => passAt (takes_of rfl rfl rfl rfl) σ) (qa_cons qe_int qa_nil))))
theorem ok_Plate_holds (T : Tx K mg cl fa fd ca) : FnOk P w K mg base (L2.CX P w) 2 (fa 11602) (fd 11602) ["self", "place"] (SpP K cl p_Plate_holds) := fnP (okS_Plate_holds T)
theorem okS_Plate_says (T : Tx K mg cl fa fd ca) : FnOk P w K mg base (L2.CX P w) 2 (fa 11603) (fd 11603) ["self", "place"] (SpS K cl q_Plate_says) := by
  have sc := sc_Plate_says
  exact fnS T.d11603.fn sc_Plate_says fun cdv A outer s H E hr =>
  (qb_one (qs_expr (qe_callN (ok__wall T) (hr.mono (by decide)) (by rfl) T.d0.mgd T.d0.fn.kp T.d0.bd (fun σ => passAt (takes_of rfl rfl rfl rfl) σ) (qa_cons qe_int qa_nil))))
theorem ok_Plate_says (T : Tx K mg cl fa fd ca) : FnOk P w K mg base (L2.CX P w) 2 (fa 11603) (fd 11603) ["self", "place"] (SpP K cl p_Plate_says) := fnP (okS_Plate_says T)
theorem okS_Plate_places (T : Tx K mg cl fa fd ca) : FnOk P w K mg base (L2.CX P w) 1 (fa 11604) (fd 11604) ["self"] (SpS K cl q_Plate_places) := by
  have sc := sc_Plate_places
  exact fnS T.d11604.fn sc_Plate_places fun cdv A outer s H E hr =>
  (qb_cons (qs_set (i := 1) sc.nd rfl (by first | exact .inl rfl | exact .inr rfl) (qe_lstC qa_nil)) (qb_cons (qs_range1 (passes_of rfl) rfl (by rfl) T.b_range (qa_cons (qe_fld T.f_width (qe_var 0)) qa_nil) (qg_name (i := 2) sc.nd rfl (by first | exact .inl rfl | exact .inr rfl)) (qb_one (qs_range1 (passes_of rfl) rfl (by rfl) T.b_range (qa_cons (qe_fld T.f_height (qe_var 0)) qa_nil) (qg_name (i := 3) sc.nd rfl (by first | exact .inl rfl | exact .inr rfl)) (qb_one (qs_expr (qe_bm PySem.F.plainAttrs_list PySem.F.slot_list_append PySem.F.type_list_append hm_append (qe_var 1) (qa_cons (qe_tup (qa_cons (qe_var 2) (qa_cons (qe_var 3) qa_nil))) qa_nil))))))) (qb_one (qs_ret (qe_fz (qe_var 1))))))
theorem ok_Plate_places (T : Tx K mg cl fa fd ca) : FnOk P w K mg base (L2.CX P w) 1 (fa 11604) (fd 11604) ["self"] (SpP K cl p_Plate_places) := fnP (okS_Plate_places T)
theorem okS_Book___init__ (T : Tx K mg cl fa fd ca) : FnOk P w K mg base (L2.CX P w) 1 (fa 11900) (fd 11900) ["self"] (SpS K cl q_Book___init__) := by
  have sc := sc_Book___init__
  exact fnS T.d11900.fn sc_Book___init__ fun cdv A outer s H E hr =>
  (qb_cons (qs_fld T.f_held (qe_var 0) qe_newDK) (qb_cons (qs_fld T.f_tied (qe_var 0) qe_newDK) (qb_cons (qs_fld T.f_upcoming (qe_var 0) qe_int) (qb_cons (qs_fld T.f_past (qe_var 0) (qe_lstC qa_nil)) (qb_one (qs_fld T.f_future (qe_var 0) (qe_lstC qa_nil)))))))
theorem okS_Book_stand (T : Tx K mg cl fa fd ca) : FnOk P w K mg base (L2.CX P w) 1 (fa 11901) (fd 11901) ["self"] (SpS K cl q_Book_stand) := by
  have sc := sc_Book_stand
  exact fnS T.d11901.fn sc_Book_stand fun cdv A outer s H E hr =>
  (qb_one (qs_ret (qe_tup (qa_cons (qe_callTyL cn_dict.l (by rfl) T.b_dict (by decide +kernel) (qa_cons (qe_fld T.f_held (qe_var 0)) qa_nil)) (qa_cons (qe_callTyL cn_dict.l (by rfl) T.b_dict (by decide +kernel) (qa_cons (qe_fld T.f_tied (qe_var 0)) qa_nil)) (qa_cons (qe_fld T.f_upcoming (qe_var 0)) qa_nil))))))
theorem okS_Book_restore (T : Tx K mg cl fa fd ca) : FnOk P w K mg base (L2.CX P w) 2 (fa 11902) (fd 11902) ["self", "stand"] (SpS K cl q_Book_restore) := by
  have sc := sc_Book_restore
  exact fnS T.d11902.fn sc_Book_restore fun cdv A outer s H E hr =>
  (qb_one (qs_expr (qe_callN (ok__wall T) (hr.mono (by decide)) (by rfl) T.d0.mgd T.d0.fn.kp T.d0.bd (fun σ => passAt (takes_of rfl rfl rfl rfl) σ) (qa_cons qe_int qa_nil))))
theorem okS_Book_remember (T : Tx K mg cl fa fd ca) : FnOk P w K mg base (L2.CX P w) 2 (fa 11903) (fd 11903) ["self", "deed"] (SpS K cl q_Book_remember) := by
  have sc := sc_Book_remember
  exact fnS T.d11903.fn sc_Book_remember fun cdv A outer s H E hr =>
  (qb_cons (qs_expr (qe_bm PySem.F.plainAttrs_list PySem.F.slot_list_append PySem.F.type_list_append hm_append (qe_fld T.f_past (qe_var 0)) (qa_cons (qe_tup (qa_cons (qe_var 1) (qa_cons (qe_methS0 T.c_Book T.d11901.mt (okS_Book_stand T) (hr.mono (by decide)) T.d11901.bd (fun σ => passAt (takes_of rfl rfl rfl rfl) σ) (qe_var 0) ) qa_nil))) qa_nil))) (qb_one (qs_fld T.f_future (qe_var 0) (qe_lstC qa_nil))))
theorem okS_Book_forget (T : Tx K mg cl fa fd ca) : FnOk P w K mg base (L2.CX P w) 2 (fa 11904) (fd 11904) ["self"] (SpS K cl q_Book_forget) := by
  have sc := sc_Book_forget
  exact fnS T.d11904.fn sc_Book_forget fun cdv A outer s H E hr =>
  (qb_one (qs_expr (qe_callN (ok__wall T) (hr.mono (by decide)) (by rfl) T.d0.mgd T.d0.fn.kp T.d0.bd (fun σ => passAt (takes_of rfl rfl rfl rfl) σ) (qa_cons qe_int qa_nil))))
theorem okS_Book_need (T : Tx K mg cl fa fd ca) : FnOk P w K mg base (L2.CX P w) 1 (fa 11905) (fd 11905) ["self", "name"] (SpS K cl q_Book_need) := by
  have sc := sc_Book_need
  exact fnS T.d11905.fn sc_Book_need fun cdv A outer s H E hr =>
  (qb_one (qs_if (qt_cmp (ow_notin (hu_ng hr)) (qe_var 1) (qe_fld T.f_held (qe_var 0)) (by rfl)) (qb_one (qs_raise rfl (takes_of rfl rfl rfl rfl) T.c_NoPlate (by rfl))) qb_nil))
theorem okS_Book_need_two (T : Tx K mg cl fa fd ca) : FnOk P w K mg base (L2.CX P w) 2 (fa 11906) (fd 11906) ["self", "one", "other"] (SpS K cl q_Book_need_two) := by
  have sc := sc_Book_need_two
  exact fnS T.d11906.fn sc_Book_need_two fun cdv A outer s H E hr =>
  (qb_one (qs_expr (qe_callN (ok__wall T) (hr.mono (by decide)) (by rfl) T.d0.mgd T.d0.fn.kp T.d0.bd (fun σ => passAt (takes_of rfl rfl rfl rfl) σ) (qa_cons qe_int qa_nil))))
theorem okS_Book_put (T : Tx K mg cl fa fd ca) : FnOk P w K mg base (L2.CX P w) 4 (fa 11907) (fd 11907) ["self", "name", "width", "height", "limit", "stars"] (SpS K cl q_Book_put) := by
  have sc := sc_Book_put
  exact fnS T.d11907.fn sc_Book_put fun cdv A outer s H E hr =>
  (qb_cons (qs_set (i := 6) sc.nd rfl (by first | exact .inl rfl | exact .inr rfl) (qe_makeP T.c_Plate T.k_Plate (okS_Plate___init__ T) (hr.mono (by decide)) (by rfl) T.d11600.bd (fun σ => passAt (takes_of rfl rfl rfl rfl) σ) (qa_cons (qe_var 1) (qa_cons (qe_var 2) (qa_cons (qe_var 3) (qa_cons (qe_var 4) (qa_cons (qe_var 5) qa_nil))))))) (qb_cons (qs_if (qt_cmp (ow_in (hu_ng hr)) (qe_var 1) (qe_fld T.f_held (qe_var 0)) (by rfl)) (qb_one (qs_raise rfl (takes_of rfl rfl rfl rfl) T.c_Taken (by rfl))) qb_nil) (qb_cons (qs_if (qt_cmp ow_ge (qe_callB cw_len (by rfl) T.b_len (by decide +kernel) (qa_cons (qe_fld T.f_held (qe_var 0)) qa_nil)) (qe_globAt T.g_PLATES_MOST) (nomark _)) (qb_one (qs_raise rfl (takes_of rfl rfl rfl rfl) T.c_Full (by rfl))) qb_nil) (qb_cons (qs_expr (qe_methS T.c_Book T.d11903.mt (okS_Book_remember T) (hr.mono (by decide)) T.d11903.bd (fun σ => passAt (takes_of rfl rfl rfl rfl) σ) (qe_var 0) (qa_cons (qe_tup (qa_cons qe_str (qa_cons (qe_var 1) (qa_cons (qe_var 2) (qa_cons (qe_var 3) (qa_cons (qe_var 4) (qa_cons (qe_callTy hc_tupleD (by rfl) T.b_tuple (by decide +kernel) (qa_cons (qe_methL0 mkD_n T.c_Plate T.d11601.mt (okL_Plate_stars T) (hr.mono (by decide)) T.d11601.bd (fun σ => passAt (takes_of rfl rfl rfl rfl) σ) (qe_var 6) ) qa_nil)) qa_nil))))))) qa_nil))) (qb_one (qs_setIx (hu_ng hr) (qe_fld T.f_held (qe_var 0)) (qe_var 1) (qe_var 6)))))))
theorem okS_Book_drop (T : Tx K mg cl fa fd ca) : FnOk P w K mg base (L2.CX P w) 3 (fa 11908) (fd 11908) ["self", "name"] (SpS K cl q_Book_drop) := by
  have sc := sc_Book_drop
  exact fnS T.d11908.fn sc_Book_drop fun cdv A outer s H E hr =>
  (qb_cons (qs_expr (qe_methS T.c_Book T.d11905.mt (okS_Book_need T) (hr.mono (by decide)) T.d11905.bd (fun σ => passAt (takes_of rfl rfl rfl rfl) σ) (qe_var 0) (qa_cons (qe_var 1) qa_nil))) (qb_cons (qs_expr (qe_methS T.c_Book T.d11903.mt (okS_Book_remember T) (hr.mono (by decide)) T.d11903.bd (fun σ => passAt (takes_of rfl rfl rfl rfl) σ) (qe_var 0) (qa_cons (qe_tup (qa_cons qe_str (qa_cons (qe_var 1) qa_nil))) qa_nil))) (qb_cons (qs_expr (qe_pop1 (qe_fld T.f_held (qe_var 0)) (qe_var 1) ⟨by rfl, by rfl, by rfl, by rfl⟩)) (qb_one (qs_for (passes_of rfl) rfl (qe_listI rfl mkD_n (qe_fld T.f_tied (qe_var 0)) (by rfl) T.b_list (by decide +kernel)) (qg_tup rfl (qgs_cons (qg_name (i := 2) sc.nd rfl (by first | exact .inl rfl | exact .inr rfl)) (qgs_cons (qg_tup rfl (qgs_cons (qg_name (i := 3) sc.nd rfl (by first | exact .inl rfl | exact .inr rfl)) (qgs_cons (qg_name (i := 4) sc.nd rfl (by first | exact .inl rfl | exact .inr rfl)) (qgs_cons (qg_name (i := 5) sc.nd rfl (by first | exact .inl rfl | exact .inr rfl)) qgs_nil)))) qgs_nil))) (qb_one (qs_if (qt_cmp (ow_in (hu_ng hr)) (qe_var 1) (qe_tup (qa_cons (qe_var 3) (qa_cons (qe_var 4) qa_nil))) (by rfl)) (qb_one (qs_expr (qe_pop1 (qe_fld T.f_tied (qe_var 0)) (qe_var 2) ⟨by rfl, by rfl, by rfl, by rfl⟩))) qb_nil)))))))
theorem okS_Book_look (T : Tx K mg cl fa fd ca) : FnOk P w K mg base (L2.CX P w) 2 (fa 11909) (fd 11909) ["self", "one", "other", "motion"] (SpS K cl q_Book_look) := by
  have sc := sc_Book_look
  exact fnS T.d11909.fn sc_Book_look fun cdv A outer s H E hr =>
  (qb_one (qs_expr (qe_callN (ok__wall T) (hr.mono (by decide)) (by rfl) T.d0.mgd T.d0.fn.kp T.d0.bd (fun σ => passAt (takes_of rfl rfl rfl rfl) σ) (qa_cons qe_int qa_nil))))
theorem okS_Book_verdict (T : Tx K mg cl fa fd ca) : FnOk P w K mg base (L2.CX P w) 2 (fa 11910) (fd 11910) ["self", "web", "one", "other", "motion"] (SpS K cl q_Book_verdict) := by
  have sc := sc_Book_verdict
  exact fnS T.d11910.fn sc_Book_verdict fun cdv A outer s H E hr =>
  (qb_one (qs_expr (qe_callN (ok__wall T) (hr.mono (by decide)) (by rfl) T.d0.mgd T.d0.fn.kp T.d0.bd (fun σ => passAt (takes_of rfl rfl rfl rfl) σ) (qa_cons qe_int qa_nil))))
theorem okS_Book_tie (T : Tx K mg cl fa fd ca) : FnOk P w K mg base (L2.CX P w) 2 (fa 11911) (fd 11911) ["self", "one", "other", "motion"] (SpS K cl q_Book_tie) := by
  have sc := sc_Book_tie
  exact fnS T.d11911.fn sc_Book_tie fun cdv A outer s H E hr =>
  (qb_one (qs_expr (qe_callN (ok__wall T) (hr.mono (by decide)) (by rfl) T.d0.mgd T.d0.fn.kp T.d0.bd (fun σ => passAt (takes_of rfl rfl rfl rfl) σ) (qa_cons qe_int qa_nil))))
theorem okS_Book_untie (T : Tx K mg cl fa fd ca) : FnOk P w K mg base (L2.CX P w) 2 (fa 11912) (fd 11912) ["self", "number"] (SpS K cl q_Book_untie) := by
  have sc := sc_Book_untie
  exact fnS T.d11912.fn sc_Book_untie fun cdv A outer s H E hr =>
  (qb_one (qs_expr (qe_callN (ok__wall T) (hr.mono (by decide)) (by rfl) T.d0.mgd T.d0.fn.kp T.d0.bd (fun σ => passAt (takes_of rfl rfl rfl rfl) σ) (qa_cons qe_int qa_nil))))
theorem okS_Book_undo (T : Tx K mg cl fa fd ca) : FnOk P w K mg base (L2.CX P w) 2 (fa 11913) (fd 11913) ["self"] (SpS K cl q_Book_undo) := by
  have sc := sc_Book_undo
  exact fnS T.d11913.fn sc_Book_undo fun cdv A outer s H E hr =>
  (qb_one (qs_expr (qe_callN (ok__wall T) (hr.mono (by decide)) (by rfl) T.d0.mgd T.d0.fn.kp T.d0.bd (fun σ => passAt (takes_of rfl rfl rfl rfl) σ) (qa_cons qe_int qa_nil))))
theorem okS_Book_redo (T : Tx K mg cl fa fd ca) : FnOk P w K mg base (L2.CX P w) 2 (fa 11914) (fd 11914) ["self"] (SpS K cl q_Book_redo) := by
  have sc := sc_Book_redo
  exact fnS T.d11914.fn sc_Book_redo fun cdv A outer s H E hr =>
  (qb_one (qs_expr (qe_callN (ok__wall T) (hr.mono (by decide)) (by rfl) T.d0.mgd T.d0.fn.kp T.d0.bd (fun σ => passAt (takes_of rfl rfl rfl rfl) σ) (qa_cons qe_int qa_nil))))
theorem okS_Book_log (T : Tx K mg cl fa fd ca) : FnOk P w K mg base (L2.CX P w) 2 (fa 11915) (fd 11915) ["self"] (SpS K cl q_Book_log) := by
  have sc := sc_Book_log
  exact fnS T.d11915.fn sc_Book_log fun cdv A outer s H E hr =>
  (qb_one (qs_expr (qe_callN (ok__wall T) (hr.mono (by decide)) (by rfl) T.d0.mgd T.d0.fn.kp T.d0.bd (fun σ => passAt (takes_of rfl rfl rfl rfl) σ) (qa_cons qe_int qa_nil))))
theorem okS_Book_twin (T : Tx K mg cl fa fd ca) : FnOk P w K mg base (L2.CX P w) 2 (fa 11916) (fd 11916) ["self"] (SpS K cl q_Book_twin) := by
  have sc := sc_Book_twin
  exact fnS T.d11916.fn sc_Book_twin fun cdv A outer s H E hr =>
  (qb_one (qs_expr (qe_callN (ok__wall T) (hr.mono (by decide)) (by rfl) T.d0.mgd T.d0.fn.kp T.d0.bd (fun σ => passAt (takes_of rfl rfl rfl rfl) σ) (qa_cons qe_int qa_nil))))
theorem okS_Book_names (T : Tx K mg cl fa fd ca) : FnOk P w K mg base (L2.CX P w) 1 (fa 11917) (fd 11917) ["self"] (SpS K cl q_Book_names) := by
  have sc := sc_Book_names
  exact fnS T.d11917.fn sc_Book_names fun cdv A outer s H E hr =>
  (qb_one (qs_ret (qe_callB (cn_sortedD (hu_ng hr) rfl).c (by rfl) T.b_sorted (by decide +kernel) (qa_cons (qe_fld T.f_held (qe_var 0)) qa_nil))))
theorem okS_Book_window (T : Tx K mg cl fa fd ca) : FnOk P w K mg base (L2.CX P w) 2 (fa 11918) (fd 11918) ["self", "name"] (SpS K cl q_Book_window) := by
  have sc := sc_Book_window
  exact fnS T.d11918.fn sc_Book_window fun cdv A outer s H E hr =>
  (qb_cons (qs_expr (qe_methS T.c_Book T.d11905.mt (okS_Book_need T) (hr.mono (by decide)) T.d11905.bd (fun σ => passAt (takes_of rfl rfl rfl rfl) σ) (qe_var 0) (qa_cons (qe_var 1) qa_nil))) (qb_cons (qs_set (i := 2) sc.nd rfl (by first | exact .inl rfl | exact .inr rfl) (qe_ix (xw_ix (hu_ng hr)) (qe_fld T.f_held (qe_var 0)) (qe_var 1) (fun _ _ => rfl))) (qb_one (qs_ret (qe_tup (qa_cons (qe_fld T.f_width (qe_var 2)) (qa_cons (qe_fld T.f_height (qe_var 2)) (qa_cons (qe_fld T.f_limit (qe_var 2)) qa_nil))))))))
theorem okS_Book_stars_of (T : Tx K mg cl fa fd ca) : FnOk P w K mg base (L2.CX P w) 2 (fa 11919) (fd 11919) ["self", "name"] (SpS K cl q_Book_stars_of) := by
  have sc := sc_Book_stars_of
  exact fnS T.d11919.fn sc_Book_stars_of fun cdv A outer s H E hr =>
  (qb_cons (qs_expr (qe_methS T.c_Book T.d11905.mt (okS_Book_need T) (hr.mono (by decide)) T.d11905.bd (fun σ => passAt (takes_of rfl rfl rfl rfl) σ) (qe_var 0) (qa_cons (qe_var 1) qa_nil))) (qb_one (qs_ret (qe_methL0 mkC_n T.c_Plate T.d11601.mt (okL_Plate_stars T) (hr.mono (by decide)) T.d11601.bd (fun σ => passAt (takes_of rfl rfl rfl rfl) σ) (qe_ix (xw_ix (hu_ng hr)) (qe_fld T.f_held (qe_var 0)) (qe_var 1) (fun _ _ => rfl)) ))))
theorem okS_Book_ties (T : Tx K mg cl fa fd ca) : FnOk P w K mg base (L2.CX P w) 1 (fa 11920) (fd 11920) ["self"] (SpS K cl q_Book_ties) := by
  have sc := sc_Book_ties
  exact fnS T.d11920.fn sc_Book_ties fun cdv A outer s H E hr =>
  (qb_one (qs_ret (qe_lc mkD_ok (own := [("number", 1)]) rfl sc.nd (qe_callB (cn_sortedD (hu_ng hr) rfl).d (by rfl) T.b_sorted (by decide +kernel) (qa_cons (qe_fld T.f_tied (qe_var 0)) qa_nil)) (blkOk_by (own := [("number", 1)]) (N := ["self", "number"]) (sc := defScope s_Book_ties) (by decide +kernel)) (sgw_name (i := 1) (by decide)) (fun _ _ _ _ _ => (pg_name (i := 1) sc.nd rfl (by first | exact .inl rfl | exact .inr rfl))) (fun _ _ _ _ _ => pts_yes) (fun _ _ _ _ _ => (qe_bin ow_addD (qe_tup (qa_cons (qe_var 1) qa_nil)) (qe_ix (xw_ix (hu_ng hr)) (qe_fld T.f_tied (qe_var 0)) (qe_var 1) (fun _ _ => rfl)))))))
theorem okS_Book_lies (T : Tx K mg cl fa fd ca) : FnOk P w K mg base (L2.CX P w) 2 (fa 11921) (fd 11921) ["self", "one", "other"] (SpS K cl q_Book_lies) := by
  have sc := sc_Book_lies
  exact fnS T.d11921.fn sc_Book_lies fun cdv A outer s H E hr =>
  (qb_one (qs_expr (qe_callN (ok__wall T) (hr.mono (by decide)) (by rfl) T.d0.mgd T.d0.fn.kp T.d0.bd (fun σ => passAt (takes_of rfl rfl rfl rfl) σ) (qa_cons qe_int qa_nil))))
theorem okS_Book_chain (T : Tx K mg cl fa fd ca) : FnOk P w K mg base (L2.CX P w) 2 (fa 11922) (fd 11922) ["self", "one", "other"] (SpS K cl q_Book_chain) := by
  have sc := sc_Book_chain
  exact fnS T.d11922.fn sc_Book_chain fun cdv A outer s H E hr =>
  (qb_one (qs_expr (qe_callN (ok__wall T) (hr.mono (by decide)) (by rfl) T.d0.mgd T.d0.fn.kp T.d0.bd (fun σ => passAt (takes_of rfl rfl rfl rfl) σ) (qa_cons qe_int qa_nil))))
theorem okS_Book_sky (T : Tx K mg cl fa fd ca) : FnOk P w K mg base (L2.CX P w) 2 (fa 11923) (fd 11923) ["self", "name"] (SpS K cl q_Book_sky) := by
  have sc := sc_Book_sky
  exact fnS T.d11923.fn sc_Book_sky fun cdv A outer s H E hr =>
  (qb_one (qs_expr (qe_callN (ok__wall T) (hr.mono (by decide)) (by rfl) T.d0.mgd T.d0.fn.kp T.d0.bd (fun σ => passAt (takes_of rfl rfl rfl rfl) σ) (qa_cons qe_int qa_nil))))
theorem okS_Book_skies (T : Tx K mg cl fa fd ca) : FnOk P w K mg base (L2.CX P w) 2 (fa 11924) (fd 11924) ["self"] (SpS K cl q_Book_skies) := by
  have sc := sc_Book_skies
  exact fnS T.d11924.fn sc_Book_skies fun cdv A outer s H E hr =>
  (qb_one (qs_expr (qe_callN (ok__wall T) (hr.mono (by decide)) (by rfl) T.d0.mgd T.d0.fn.kp T.d0.bd (fun σ => passAt (takes_of rfl rfl rfl rfl) σ) (qa_cons qe_int qa_nil))))
theorem okS_Book_laid (T : Tx K mg cl fa fd ca) : FnOk P w K mg base (L2.CX P w) 2 (fa 11925) (fd 11925) ["self", "web", "name"] (SpS K cl q_Book_laid) := by
  have sc := sc_Book_laid
  exact fnS T.d11925.fn sc_Book_laid fun cdv A outer s H E hr =>
  (qb_one (qs_expr (qe_callN (ok__wall T) (hr.mono (by decide)) (by rfl) T.d0.mgd T.d0.fn.kp T.d0.bd (fun σ => passAt (takes_of rfl rfl rfl rfl) σ) (qa_cons qe_int qa_nil))))
theorem okS_Book_sky_laid (T : Tx K mg cl fa fd ca) : FnOk P w K mg base (L2.CX P w) 2 (fa 11926) (fd 11926) ["self", "name"] (SpS K cl q_Book_sky_laid) := by
  have sc := sc_Book_sky_laid
  exact fnS T.d11926.fn sc_Book_sky_laid fun cdv A outer s H E hr =>
  (qb_one (qs_expr (qe_callN (ok__wall T) (hr.mono (by decide)) (by rfl) T.d0.mgd T.d0.fn.kp T.d0.bd (fun σ => passAt (takes_of rfl rfl rfl rfl) σ) (qa_cons qe_int qa_nil))))
theorem okS_Book_ask (T : Tx K mg cl fa fd ca) : FnOk P w K mg base (L2.CX P w) 2 (fa 11927) (fd 11927) ["self", "name", "place"] (SpS K cl q_Book_ask) := by
  have sc := sc_Book_ask
  exact fnS T.d11927.fn sc_Book_ask fun cdv A outer s H E hr =>
  (qb_one (qs_expr (qe_callN (ok__wall T) (hr.mono (by decide)) (by rfl) T.d0.mgd T.d0.fn.kp T.d0.bd (fun σ => passAt (takes_of rfl rfl rfl rfl) σ) (qa_cons qe_int qa_nil))))
theorem okS_Book_chart (T : Tx K mg cl fa fd ca) : FnOk P w K mg base (L2.CX P w) 2 (fa 11928) (fd 11928) ["self", "name"] (SpS K cl q_Book_chart) := by
  have sc := sc_Book_chart
  exact fnS T.d11928.fn sc_Book_chart fun cdv A outer s H E hr =>
  (qb_one (qs_expr (qe_callN (ok__wall T) (hr.mono (by decide)) (by rfl) T.d0.mgd T.d0.fn.kp T.d0.bd (fun σ => passAt (takes_of rfl rfl rfl rfl) σ) (qa_cons qe_int qa_nil))))
theorem okS_Book_face (T : Tx K mg cl fa fd ca) : FnOk P w K mg base (L2.CX P w) 2 (fa 11929) (fd 11929) ["self", "name"] (SpS K cl q_Book_face) := by
  have sc := sc_Book_face
  exact fnS T.d11929.fn sc_Book_face fun cdv A outer s H E hr =>
  (qb_one (qs_expr (qe_callN (ok__wall T) (hr.mono (by decide)) (by rfl) T.d0.mgd T.d0.fn.kp T.d0.bd (fun σ => passAt (takes_of rfl rfl rfl rfl) σ) (qa_cons qe_int qa_nil))))
theorem okS_Book_form (T : Tx K mg cl fa fd ca) : FnOk P w K mg base (L2.CX P w) 2 (fa 11930) (fd 11930) ["self", "name"] (SpS K cl q_Book_form) := by
  have sc := sc_Book_form
  exact fnS T.d11930.fn sc_Book_form fun cdv A outer s H E hr =>
  (qb_one (qs_expr (qe_callN (ok__wall T) (hr.mono (by decide)) (by rfl) T.d0.mgd T.d0.fn.kp T.d0.bd (fun σ => passAt (takes_of rfl rfl rfl rfl) σ) (qa_cons qe_int qa_nil))))
theorem okS_Book_matches (T : Tx K mg cl fa fd ca) : FnOk P w K mg base (L2.CX P w) 2 (fa 11931) (fd 11931) ["self", "one", "other"] (SpS K cl q_Book_matches) := by
  have sc := sc_Book_matches
  exact fnS T.d11931.fn sc_Book_matches fun cdv A outer s H E hr =>
  (qb_one (qs_expr (qe_callN (ok__wall T) (hr.mono (by decide)) (by rfl) T.d0.mgd T.d0.fn.kp T.d0.bd (fun σ => passAt (takes_of rfl rfl rfl rfl) σ) (qa_cons qe_int qa_nil))))
theorem okS_Book_apart (T : Tx K mg cl fa fd ca) : FnOk P w K mg base (L2.CX P w) 2 (fa 11932) (fd 11932) ["self", "one", "other"] (SpS K cl q_Book_apart) := by
  have sc := sc_Book_apart
  exact fnS T.d11932.fn sc_Book_apart fun cdv A outer s H E hr =>
  (qb_one (qs_expr (qe_callN (ok__wall T) (hr.mono (by decide)) (by rfl) T.d0.mgd T.d0.fn.kp T.d0.bd (fun σ => passAt (takes_of rfl rfl rfl rfl) σ) (qa_cons qe_int qa_nil))))
theorem okS_Book_layings (T : Tx K mg cl fa fd ca) : FnOk P w K mg base (L2.CX P w) 2 (fa 11933) (fd 11933) ["self", "one", "other", "least"] (SpS K cl q_Book_layings) := by
  have sc := sc_Book_layings
  exact fnS T.d11933.fn sc_Book_layings fun cdv A outer s H E hr =>
  (qb_one (qs_expr (qe_callN (ok__wall T) (hr.mono (by decide)) (by rfl) T.d0.mgd T.d0.fn.kp T.d0.bd (fun σ => passAt (takes_of rfl rfl rfl rfl) σ) (qa_cons qe_int qa_nil))))
theorem okS_Book_sure (T : Tx K mg cl fa fd ca) : FnOk P w K mg base (L2.CX P w) 2 (fa 11934) (fd 11934) ["self", "one", "other", "least", "place"] (SpS K cl q_Book_sure) := by
  have sc := sc_Book_sure
  exact fnS T.d11934.fn sc_Book_sure fun cdv A outer s H E hr =>
  (qb_one (qs_expr (qe_callN (ok__wall T) (hr.mono (by decide)) (by rfl) T.d0.mgd T.d0.fn.kp T.d0.bd (fun σ => passAt (takes_of rfl rfl rfl rfl) σ) (qa_cons qe_int qa_nil))))
theorem okS_Book_carries (T : Tx K mg cl fa fd ca) : FnOk P w K mg base (L2.CX P w) 2 (fa 11935) (fd 11935) ["self", "number"] (SpS K cl q_Book_carries) := by
  have sc := sc_Book_carries
  exact fnS T.d11935.fn sc_Book_carries fun cdv A outer s H E hr =>
  (qb_one (qs_expr (qe_callN (ok__wall T) (hr.mono (by decide)) (by rfl) T.d0.mgd T.d0.fn.kp T.d0.bd (fun σ => passAt (takes_of rfl rfl rfl rfl) σ) (qa_cons qe_int qa_nil))))
theorem okS_Book_would (T : Tx K mg cl fa fd ca) : FnOk P w K mg base (L2.CX P w) 2 (fa 11936) (fd 11936) ["self", "one", "other", "motion"] (SpS K cl q_Book_would) := by
  have sc := sc_Book_would
  exact fnS T.d11936.fn sc_Book_would fun cdv A outer s H E hr =>
  (qb_one (qs_expr (qe_callN (ok__wall T) (hr.mono (by decide)) (by rfl) T.d0.mgd T.d0.fn.kp T.d0.bd (fun σ => passAt (takes_of rfl rfl rfl rfl) σ) (qa_cons qe_int qa_nil))))
theorem okS_Book_mends (T : Tx K mg cl fa fd ca) : FnOk P w K mg base (L2.CX P w) 2 (fa 11937) (fd 11937) ["self", "one", "other", "motion"] (SpS K cl q_Book_mends) := by
  have sc := sc_Book_mends
  exact fnS T.d11937.fn sc_Book_mends fun cdv A outer s H E hr =>
  (qb_one (qs_expr (qe_callN (ok__wall T) (hr.mono (by decide)) (by rfl) T.d0.mgd T.d0.fn.kp T.d0.bd (fun σ => passAt (takes_of rfl rfl rfl rfl) σ) (qa_cons qe_int qa_nil))))
theorem okS_l_draws (T : Tx K mg cl fa fd ca) : FnOk P w K mg base (L2.CX P w) 1 (fa 21) (fd 21) ["_law_script", "_law_at", "_law_many"] (SpS K cl q_l_draws) := by
  have sc := sc_l_draws
  exact fnS T.d21.fn sc_l_draws fun cdv A outer s H E hr =>
  (qb_cons (qs_set (i := 3) sc.nd rfl (by first | exact .inl rfl | exact .inr rfl) (qe_bin ow_addD (qe_bin ow_mul qe_int (qe_var 1)) qe_int)) (qb_cons (qs_if (qt_cmp ow_lt (qe_var 1) (qe_callB cw_len (by rfl) T.b_len (by decide +kernel) (qa_cons (qe_var 0) qa_nil)) (nomark _)) (qb_one (qs_set (i := 3) sc.nd rfl (by first | exact .inl rfl | exact .inr rfl) (qe_ix (xw_ix (hu_ng hr)) (qe_var 0) (qe_var 1) (fun _ _ => rfl)))) (qb_one (qs_if (qt_cmp ow_gt (qe_callB cw_len (by rfl) T.b_len (by decide +kernel) (qa_cons (qe_var 0) qa_nil)) qe_int (nomark _)) (qb_one (qs_set (i := 3) sc.nd rfl (by first | exact .inl rfl | exact .inr rfl) (qe_bin ow_addD (qe_bin ow_addD (qe_bin ow_mod (qe_ix (xw_ix (hu_ng hr)) (qe_var 0) (qe_bin ow_mod (qe_var 1) (qe_callB cw_len (by rfl) T.b_len (by decide +kernel) (qa_cons (qe_var 0) qa_nil))) (fun _ _ => rfl)) qe_int) (qe_bin ow_mul (qe_bin ow_mul (qe_var 1) (qe_var 1)) qe_int)) qe_int))) qb_nil))) (qb_cons (qs_set (i := 4) sc.nd rfl (by first | exact .inl rfl | exact .inr rfl) (qe_bin ow_addD (qe_bin ow_addD (qe_bin ow_mod (qe_var 3) qe_int) (qe_bin ow_mul qe_int (qe_var 1))) qe_int)) (qb_cons (qs_set (i := 5) sc.nd rfl (by first | exact .inl rfl | exact .inr rfl) (qe_lstC qa_nil)) (qb_cons (qs_if (qt_cmp ow_ge (qe_var 3) (qe_bin ow_pow qe_int qe_int) (nomark _)) (qb_one (qs_while (passes_of rfl) (QW.qt (qw_and (qt_cmp ow_gt (qe_var 3) qe_int (nomark _)) (qw_and1 (qt_cmp ow_lt (qe_callB cw_len (by rfl) T.b_len (by decide +kernel) (qa_cons (qe_var 5) qa_nil)) (qe_var 2) (nomark _))))) (qb_cons (qs_expr (qe_bm PySem.F.plainAttrs_list PySem.F.slot_list_append PySem.F.type_list_append hm_append (qe_var 5) (qa_cons (qe_bin ow_mod (qe_var 3) qe_int) qa_nil))) (qb_one (qs_set (i := 3) sc.nd rfl (by first | exact .inl rfl | exact .inr rfl) (qe_bin ow_div (qe_var 3) qe_int)))))) qb_nil) (qb_cons (qs_while (passes_of rfl) (qt_cmp ow_lt (qe_callB cw_len (by rfl) T.b_len (by decide +kernel) (qa_cons (qe_var 5) qa_nil)) (qe_var 2) (nomark _)) (qb_cons (qs_set (i := 6) sc.nd rfl (by first | exact .inl rfl | exact .inr rfl) (qe_bin ow_addD (qe_callB cw_len (by rfl) T.b_len (by decide +kernel) (qa_cons (qe_var 5) qa_nil)) qe_int)) (qb_cons (qs_set (i := 4) sc.nd rfl (by first | exact .inl rfl | exact .inr rfl) (qe_bin ow_mod (qe_bin ow_addD (qe_bin ow_addD (qe_bin ow_mul (qe_var 4) qe_int) (qe_bin ow_mul (qe_bin ow_mul (qe_var 6) (qe_var 6)) qe_int)) qe_int) qe_int)) (qb_one (qs_expr (qe_bm PySem.F.plainAttrs_list PySem.F.slot_list_append PySem.F.type_list_append hm_append (qe_var 5) (qa_cons (qe_bin ow_mod (qe_bin ow_mod (qe_bin ow_mul (qe_bin ow_mod (qe_var 4) qe_int) (qe_bin ow_addD (qe_bin ow_mod (qe_bin ow_div (qe_var 4) qe_int) qe_int) qe_int)) qe_int) qe_int) qa_nil))))))) (qb_one (qs_ret (qe_fz (qe_var 5))))))))))
theorem ok_l_draws (T : Tx K mg cl fa fd ca) : FnOk P w K mg base (L2.CX P w) 1 (fa 21) (fd 21) ["_law_script", "_law_at", "_law_many"] (SpP K cl p_l_draws) := fnP (okS_l_draws T)
theorem okS_l_turned (T : Tx K mg cl fa fd ca) : FnOk P w K mg base (L2.CX P w) 1 (fa 22) (fd 22) ["_law_turn", "_law_x", "_law_y"] (SpS K cl q_l_turned) := by
  have sc := sc_l_turned
  exact fnS T.d22.fn sc_l_turned fun cdv A outer s H E hr =>
  (qb_one (qs_ret (qe_ix (xw_ix (hu_ng hr)) (qe_lst (qa_cons (qe_tup (qa_cons (qe_var 1) (qa_cons (qe_var 2) qa_nil))) (qa_cons (qe_tup (qa_cons (qe_un uw_neg (qe_var 2)) (qa_cons (qe_var 1) qa_nil))) (qa_cons (qe_tup (qa_cons (qe_un uw_neg (qe_var 1)) (qa_cons (qe_un uw_neg (qe_var 2)) qa_nil))) (qa_cons (qe_tup (qa_cons (qe_var 2) (qa_cons (qe_un uw_neg (qe_var 1)) qa_nil))) (qa_cons (qe_tup (qa_cons (qe_un uw_neg (qe_var 1)) (qa_cons (qe_var 2) qa_nil))) (qa_cons (qe_tup (qa_cons (qe_un uw_neg (qe_var 2)) (qa_cons (qe_un uw_neg (qe_var 1)) qa_nil))) (qa_cons (qe_tup (qa_cons (qe_var 1) (qa_cons (qe_un uw_neg (qe_var 2)) qa_nil))) (qa_cons (qe_tup (qa_cons (qe_var 2) (qa_cons (qe_var 1) qa_nil))) qa_nil))))))))) (qe_var 0) (fun _ _ => rfl))))
theorem ok_l_turned (T : Tx K mg cl fa fd ca) : FnOk P w K mg base (L2.CX P w) 1 (fa 22) (fd 22) ["_law_turn", "_law_x", "_law_y"] (SpP K cl p_l_turned) := fnP (okS_l_turned T)
theorem okS_l_moved (T : Tx K mg cl fa fd ca) : FnOk P w K mg base (L2.CX P w) 2 (fa 23) (fd 23) ["_law_motion", "_law_place"] (SpS K cl q_l_moved) := by
  have sc := sc_l_moved
  exact fnS T.d23.fn sc_l_moved fun cdv A outer s H E hr =>
  (qb_cons (qs_asg (qe_callN (ok_l_turned T) (hr.mono (by decide)) (by rfl) T.d22.mgd T.d22.fn.kp T.d22.bd (fun σ => passAt (takes_of rfl rfl rfl rfl) σ) (qa_cons (qe_ix (xw_ix (hu_ng hr)) (qe_var 0) qe_int (fun _ _ => rfl)) (qa_cons (qe_ix (xw_ix (hu_ng hr)) (qe_var 1) qe_int (fun _ _ => rfl)) (qa_cons (qe_ix (xw_ix (hu_ng hr)) (qe_var 1) qe_int (fun _ _ => rfl)) qa_nil)))) (qg_tup rfl (qgs_cons (qg_name (i := 2) sc.nd rfl (by first | exact .inl rfl | exact .inr rfl)) (qgs_cons (qg_name (i := 3) sc.nd rfl (by first | exact .inl rfl | exact .inr rfl)) qgs_nil)))) (qb_one (qs_ret (qe_tup (qa_cons (qe_bin ow_addD (qe_var 2) (qe_ix (xw_ix (hu_ng hr)) (qe_var 0) qe_int (fun _ _ => rfl))) (qa_cons (qe_bin ow_addD (qe_var 3) (qe_ix (xw_ix (hu_ng hr)) (qe_var 0) qe_int (fun _ _ => rfl))) qa_nil))))))
theorem ok_l_moved (T : Tx K mg cl fa fd ca) : FnOk P w K mg base (L2.CX P w) 2 (fa 23) (fd 23) ["_law_motion", "_law_place"] (SpP K cl p_l_moved) := fnP (okS_l_moved T)
theorem okS_l_back (T : Tx K mg cl fa fd ca) : FnOk P w K mg base (L2.CX P w) 2 (fa 24) (fd 24) ["_law_motion"] (SpS K cl q_l_back) := by
  have sc := sc_l_back
  exact fnS T.d24.fn sc_l_back fun cdv A outer s H E hr =>
  (qb_cons (qs_set (i := 1) sc.nd rfl (by first | exact .inl rfl | exact .inr rfl) (qe_ix (xw_ix (hu_ng hr)) (qe_lst (qa_cons qe_int (qa_cons qe_int (qa_cons qe_int (qa_cons qe_int (qa_cons qe_int (qa_cons qe_int (qa_cons qe_int (qa_cons qe_int qa_nil))))))))) (qe_ix (xw_ix (hu_ng hr)) (qe_var 0) qe_int (fun _ _ => rfl)) (fun _ _ => rfl))) (qb_cons (qs_asg (qe_callN (ok_l_turned T) (hr.mono (by decide)) (by rfl) T.d22.mgd T.d22.fn.kp T.d22.bd (fun σ => passAt (takes_of rfl rfl rfl rfl) σ) (qa_cons (qe_var 1) (qa_cons (qe_ix (xw_ix (hu_ng hr)) (qe_var 0) qe_int (fun _ _ => rfl)) (qa_cons (qe_ix (xw_ix (hu_ng hr)) (qe_var 0) qe_int (fun _ _ => rfl)) qa_nil)))) (qg_tup rfl (qgs_cons (qg_name (i := 2) sc.nd rfl (by first | exact .inl rfl | exact .inr rfl)) (qgs_cons (qg_name (i := 3) sc.nd rfl (by first | exact .inl rfl | exact .inr rfl)) qgs_nil)))) (qb_one (qs_ret (qe_tup (qa_cons (qe_var 1) (qa_cons (qe_un uw_neg (qe_var 2)) (qa_cons (qe_un uw_neg (qe_var 3)) qa_nil))))))))
theorem ok_l_back (T : Tx K mg cl fa fd ca) : FnOk P w K mg base (L2.CX P w) 2 (fa 24) (fd 24) ["_law_motion"] (SpP K cl p_l_back) := fnP (okS_l_back T)
theorem okr_l_same (T : Tx K mg cl fa fd ca) : ∀ n, FnOk P w K mg base (L2.CX P w) (n + 0) (fa 25) (fd 25) ["_law_found", "_law_due_here"] (SpP K cl (p_l_same n))
  | 0 => fn_stuck
  | n + 1 => by
    have G := okr_l_same T n
    have sc := sc_l_same
    show FnOk P w K mg base (L2.CX P w) (n + 0 + 1) (fa 25) (fd 25) ["_law_found", "_law_due_here"] (SpP K cl (runP 3 2 (m_l_same (p_l_same n))))
    exact fnP (fnS T.d25.fn sc_l_same fun cdv A outer s H E hr =>
    (qb_cons (qs_if (qt_truth (qe_isi2 (by rfl) T.b_isinstance (by rfl) T.b_tuple (by decide +kernel) (by rfl) T.b_list (by decide +kernel) (qe_var 1))) (qb_cons (qs_if (QW.qt (qw_or (qt_cmp (ow_ne (hu_ng hr)) (qe_isi (by rfl) T.b_isinstance (by rfl) T.b_tuple (by decide +kernel) (qe_var 1)) (qe_isi (by rfl) T.b_isinstance (by rfl) T.b_tuple (by decide +kernel) (qe_var 0)) (nomark _)) (qw_or1 (qt_cmp (ow_ne (hu_ng hr)) (qe_isi (by rfl) T.b_isinstance (by rfl) T.b_list (by decide +kernel) (qe_var 1)) (qe_isi (by rfl) T.b_isinstance (by rfl) T.b_list (by decide +kernel) (qe_var 0)) (nomark _))))) (qb_one (qs_ret qe_bl)) qb_nil) (qb_cons (qs_if (qt_cmp (ow_ne (hu_ng hr)) (qe_callB cw_len (by rfl) T.b_len (by decide +kernel) (qa_cons (qe_var 0) qa_nil)) (qe_callB cw_len (by rfl) T.b_len (by decide +kernel) (qa_cons (qe_var 1) qa_nil)) (nomark _)) (qb_one (qs_ret qe_bl)) qb_nil) (qb_cons (qs_range1 (passes_of rfl) rfl (by rfl) T.b_range (qa_cons (qe_callB cw_len (by rfl) T.b_len (by decide +kernel) (qa_cons (qe_var 1) qa_nil)) qa_nil) (qg_name (i := 2) sc.nd rfl (by first | exact .inl rfl | exact .inr rfl)) (qb_one (qs_if (qt_not (qt_truth (qe_callN G hr (by rfl) T.d25.mgd T.d25.fn.kp T.d25.bd (fun σ => passAt (takes_of rfl rfl rfl rfl) σ) (qa_cons (qe_ix (xw_ix (hu_ng hr)) (qe_var 0) (qe_var 2) (fun _ _ => rfl)) (qa_cons (qe_ix (xw_ix (hu_ng hr)) (qe_var 1) (qe_var 2) (fun _ _ => rfl)) qa_nil))))) (qb_one (qs_ret qe_bl)) qb_nil))) (qb_one (qs_ret qe_bl))))) qb_nil) (qb_cons (qs_if (qt_cmp ow_is (qe_var 1) qe_non (nomark _)) (qb_one (qs_ret (qe_cmp ow_is (qe_var 0) qe_non (nomark _)))) qb_nil) (qb_cons (qs_if (QW.qt (qw_or (qt_truth (qe_isi (by rfl) T.b_isinstance (by rfl) T.b_bool (by decide +kernel) (qe_var 1))) (qw_or1 (qt_truth (qe_isi (by rfl) T.b_isinstance (by rfl) T.b_bool (by decide +kernel) (qe_var 0)))))) (qb_one (qs_ret (qe_and (qe_isi (by rfl) T.b_isinstance (by rfl) T.b_bool (by decide +kernel) (qe_var 1)) (qe_and (qe_isi (by rfl) T.b_isinstance (by rfl) T.b_bool (by decide +kernel) (qe_var 0)) (qe_one (qe_cmp (ow_eq (hu_ng hr)) (qe_var 0) (qe_var 1) (nomark _))))))) qb_nil) (qb_cons (qs_if (qt_truth (qe_isi (by rfl) T.b_isinstance (by rfl) T.b_int (by decide +kernel) (qe_var 1))) (qb_one (qs_ret (qe_and (qe_isi (by rfl) T.b_isinstance (by rfl) T.b_int (by decide +kernel) (qe_var 0)) (qe_one (qe_cmp (ow_eq (hu_ng hr)) (qe_var 0) (qe_var 1) (nomark _)))))) qb_nil) (qb_one (qs_ret (qe_and (qe_isi (by rfl) T.b_isinstance (by rfl) T.b_str (by decide +kernel) (qe_var 0)) (qe_one (qe_cmp (ow_eq (hu_ng hr)) (qe_var 0) (qe_var 1) (nomark _)))))))))))
theorem ok_l_same (T : Tx K mg cl fa fd ca) : FnOk P w K mg base (L2.CX P w) 6 (fa 25) (fd 25) ["_law_found", "_law_due_here"] (SpP K cl (p_l_same 6)) := okr_l_same T 6
theorem okS_l_heaven (T : Tx K mg cl fa fd ca) : FnOk P w K mg base (L2.CX P w) 2 (fa 26) (fd 26) ["_law_script"] (SpS K cl q_l_heaven) := by
  have sc := sc_l_heaven
  exact fnS T.d26.fn sc_l_heaven fun cdv A outer s H E hr =>
  (qb_cons (qs_set (i := 1) sc.nd rfl (by first | exact .inl rfl | exact .inr rfl) (qe_callN (ok_l_draws T) (hr.mono (by decide)) (by rfl) T.d21.mgd T.d21.fn.kp T.d21.bd (fun σ => passAt (takes_of rfl rfl rfl rfl) σ) (qa_cons (qe_var 0) (qa_cons qe_int (qa_cons qe_int qa_nil))))) (qb_cons (qs_set (i := 2) sc.nd rfl (by first | exact .inl rfl | exact .inr rfl) (qe_lstC qa_nil)) (qb_cons (qs_range1 (passes_of rfl) rfl (by rfl) T.b_range (qa_cons (qe_bin ow_mod (qe_ix (xw_ix (hu_ng hr)) (qe_var 1) qe_int (fun _ _ => rfl)) qe_int) qa_nil) (qg_name (i := 3) sc.nd rfl (by first | exact .inl rfl | exact .inr rfl)) (qb_cons (qs_set (i := 4) sc.nd rfl (by first | exact .inl rfl | exact .inr rfl) (qe_bin ow_sub (qe_bin ow_mod (qe_ix (xw_ix (hu_ng hr)) (qe_var 1) (qe_bin ow_addD (qe_bin ow_mul qe_int (qe_var 3)) qe_int) (fun _ _ => rfl)) qe_int) qe_int)) (qb_cons (qs_set (i := 5) sc.nd rfl (by first | exact .inl rfl | exact .inr rfl) (qe_bin ow_sub (qe_bin ow_mod (qe_ix (xw_ix (hu_ng hr)) (qe_var 1) (qe_bin ow_addD (qe_bin ow_mul qe_int (qe_var 3)) qe_int) (fun _ _ => rfl)) qe_int) qe_int)) (qb_cons (qs_set (i := 6) sc.nd rfl (by first | exact .inl rfl | exact .inr rfl) (qe_ix (xw_ix (hu_ng hr)) (qe_lst (qa_cons (qe_bin ow_addD qe_int (qe_bin ow_mod (qe_ix (xw_ix (hu_ng hr)) (qe_var 1) (qe_bin ow_addD (qe_bin ow_mul qe_int (qe_var 3)) qe_int) (fun _ _ => rfl)) qe_int)) (qa_cons (qe_bin ow_addD qe_int (qe_bin ow_mod (qe_ix (xw_ix (hu_ng hr)) (qe_var 1) (qe_bin ow_addD (qe_bin ow_mul qe_int (qe_var 3)) qe_int) (fun _ _ => rfl)) qe_int)) qa_nil))) (qe_callTy cw_int (by rfl) T.b_int (by decide +kernel) (qa_cons (qe_cmp (ow_eq (hu_ng hr)) (qe_bin ow_mod (qe_bin ow_div (qe_ix (xw_ix (hu_ng hr)) (qe_var 1) qe_int (fun _ _ => rfl)) qe_int) qe_int) qe_int (nomark _)) qa_nil)) (fun _ _ => rfl))) (qb_one (qs_if (qt_cmp (ow_notin (hu_ng hr)) (qe_tup (qa_cons (qe_var 4) (qa_cons (qe_var 5) qa_nil))) (qe_lc mkD_ok (own := [("_law_star", 7)]) rfl sc.nd (qe_var 2) (blkOk_by (own := [("_law_star", 7)]) (N := ["_law_script", "_law_d", "_law_found", "_law_k", "_law_x", "_law_y", "_law_bright", "_law_star"]) (sc := defScope s_l_heaven) (by decide +kernel)) (sgw_name (i := 7) (by decide)) (fun _ _ _ _ _ => (pg_name (i := 7) sc.nd rfl (by first | exact .inl rfl | exact .inr rfl))) (fun _ _ _ _ _ => pts_yes) (fun _ _ _ _ _ => (qe_tup (qa_cons (qe_ix (xw_ix (hu_ng hr)) (qe_var 7) qe_int (fun _ _ => rfl)) (qa_cons (qe_ix (xw_ix (hu_ng hr)) (qe_var 7) qe_int (fun _ _ => rfl)) qa_nil))))) (by rfl)) (qb_one (qs_expr (qe_bm PySem.F.plainAttrs_list PySem.F.slot_list_append PySem.F.type_list_append hm_append (qe_var 2) (qa_cons (qe_tup (qa_cons (qe_var 4) (qa_cons (qe_var 5) (qa_cons (qe_var 6) qa_nil)))) qa_nil)))) qb_nil)))))) (qb_one (qs_ret (qe_fz (qe_var 2)))))))
theorem ok_l_heaven (T : Tx K mg cl fa fd ca) : FnOk P w K mg base (L2.CX P w) 2 (fa 26) (fd 26) ["_law_script"] (SpP K cl p_l_heaven) := fnP (okS_l_heaven T)
theorem okS_l_pane (T : Tx K mg cl fa fd ca) : FnOk P w K mg base (L2.CX P w) 3 (fa 27) (fd 27) ["_law_name", "_law_home_here", "_law_heaven_here", "_law_d"] (SpS K cl q_l_pane) := by
  have sc := sc_l_pane
  exact fnS T.d27.fn sc_l_pane fun cdv A outer s H E hr =>
  (qb_cons (qs_set (i := 4) sc.nd rfl (by first | exact .inl rfl | exact .inr rfl) (qe_ix (xw_ix (hu_ng hr)) (qe_lst (qa_cons (qe_bin ow_addD qe_int (qe_bin ow_mod (qe_ix (xw_ix (hu_ng hr)) (qe_var 3) qe_int (fun _ _ => rfl)) qe_int)) (qa_cons (qe_bin ow_addD qe_int (qe_bin ow_mod (qe_bin ow_div (qe_ix (xw_ix (hu_ng hr)) (qe_var 3) qe_int (fun _ _ => rfl)) qe_int) qe_int)) qa_nil))) (qe_callTy cw_int (by rfl) T.b_int (by decide +kernel) (qa_cons (qe_cmp (ow_eq (hu_ng hr)) (qe_bin ow_mod (qe_bin ow_div (qe_ix (xw_ix (hu_ng hr)) (qe_var 3) qe_int (fun _ _ => rfl)) qe_int) qe_int) qe_int (nomark _)) qa_nil)) (fun _ _ => rfl))) (qb_cons (qs_set (i := 5) sc.nd rfl (by first | exact .inl rfl | exact .inr rfl) (qe_ix (xw_ix (hu_ng hr)) (qe_lst (qa_cons (qe_bin ow_addD qe_int (qe_bin ow_mod (qe_ix (xw_ix (hu_ng hr)) (qe_var 3) qe_int (fun _ _ => rfl)) qe_int)) (qa_cons (qe_bin ow_addD qe_int (qe_bin ow_mod (qe_bin ow_div (qe_ix (xw_ix (hu_ng hr)) (qe_var 3) qe_int (fun _ _ => rfl)) qe_int) qe_int)) qa_nil))) (qe_callTy cw_int (by rfl) T.b_int (by decide +kernel) (qa_cons (qe_cmp (ow_eq (hu_ng hr)) (qe_bin ow_mod (qe_bin ow_div (qe_ix (xw_ix (hu_ng hr)) (qe_var 3) qe_int (fun _ _ => rfl)) qe_int) qe_int) qe_int (nomark _)) qa_nil)) (fun _ _ => rfl))) (qb_cons (qs_set (i := 6) sc.nd rfl (by first | exact .inl rfl | exact .inr rfl) (qe_ix (xw_ix (hu_ng hr)) (qe_lst (qa_cons (qe_bin ow_addD qe_int (qe_bin ow_mod (qe_ix (xw_ix (hu_ng hr)) (qe_var 3) qe_int (fun _ _ => rfl)) qe_int)) (qa_cons (qe_bin ow_addD qe_int (qe_bin ow_mod (qe_bin ow_div (qe_ix (xw_ix (hu_ng hr)) (qe_var 3) qe_int (fun _ _ => rfl)) qe_int) qe_int)) qa_nil))) (qe_callTy cw_int (by rfl) T.b_int (by decide +kernel) (qa_cons (qe_cmp (ow_eq (hu_ng hr)) (qe_bin ow_mod (qe_bin ow_div (qe_ix (xw_ix (hu_ng hr)) (qe_var 3) qe_int (fun _ _ => rfl)) qe_int) qe_int) qe_int (nomark _)) qa_nil)) (fun _ _ => rfl))) (qb_cons (qs_set (i := 7) sc.nd rfl (by first | exact .inl rfl | exact .inr rfl) (qe_lstC qa_nil)) (qb_cons (qs_for (passes_of rfl) rfl (qe_var 2) (qg_tup rfl (qgs_cons (qg_name (i := 8) sc.nd rfl (by first | exact .inl rfl | exact .inr rfl)) (qgs_cons (qg_name (i := 9) sc.nd rfl (by first | exact .inl rfl | exact .inr rfl)) (qgs_cons (qg_name (i := 10) sc.nd rfl (by first | exact .inl rfl | exact .inr rfl)) qgs_nil)))) (qb_cons (qs_asg (qe_callN (ok_l_moved T) (hr.mono (by decide)) (by rfl) T.d23.mgd T.d23.fn.kp T.d23.bd (fun σ => passAt (takes_of rfl rfl rfl rfl) σ) (qa_cons (qe_callN (ok_l_back T) (hr.mono (by decide)) (by rfl) T.d24.mgd T.d24.fn.kp T.d24.bd (fun σ => passAt (takes_of rfl rfl rfl rfl) σ) (qa_cons (qe_var 1) qa_nil)) (qa_cons (qe_tup (qa_cons (qe_var 8) (qa_cons (qe_var 9) qa_nil))) qa_nil))) (qg_tup rfl (qgs_cons (qg_name (i := 12) sc.nd rfl (by first | exact .inl rfl | exact .inr rfl)) (qgs_cons (qg_name (i := 13) sc.nd rfl (by first | exact .inl rfl | exact .inr rfl)) qgs_nil)))) (qb_one (qs_if (QW.qt (qw_and (qt_cmp ow_le qe_int (qe_var 12) (nomark _)) (qw_and (qt_cmp ow_lt (qe_var 12) (qe_var 4) (nomark _)) (qw_and (qt_cmp ow_le qe_int (qe_var 13) (nomark _)) (qw_and (qt_cmp ow_lt (qe_var 13) (qe_var 5) (nomark _)) (qw_and1 (qt_cmp ow_ge (qe_var 10) (qe_var 6) (nomark _)))))))) (qb_one (qs_expr (qe_bm PySem.F.plainAttrs_list PySem.F.slot_list_append PySem.F.type_list_append hm_append (qe_var 7) (qa_cons (qe_tup (qa_cons (qe_var 12) (qa_cons (qe_var 13) (qa_cons (qe_var 10) qa_nil)))) qa_nil)))) qb_nil)))) (qb_cons (qs_if (qt_cmp (ow_eq (hu_ng hr)) (qe_bin ow_mod (qe_ix (xw_ix (hu_ng hr)) (qe_var 3) qe_int (fun _ _ => rfl)) qe_int) qe_int (nomark _)) (qb_cons (qs_set (i := 11) sc.nd rfl (by first | exact .inl rfl | exact .inr rfl) (qe_tup (qa_cons (qe_bin ow_mod (qe_ix (xw_ix (hu_ng hr)) (qe_var 3) qe_int (fun _ _ => rfl)) (qe_var 4)) (qa_cons (qe_bin ow_mod (qe_ix (xw_ix (hu_ng hr)) (qe_var 3) qe_int (fun _ _ => rfl)) (qe_var 5)) (qa_cons (qe_bin ow_addD (qe_var 6) (qe_bin ow_mod (qe_bin ow_div (qe_ix (xw_ix (hu_ng hr)) (qe_var 3) qe_int (fun _ _ => rfl)) qe_int) (qe_bin ow_sub qe_int (qe_var 6)))) qa_nil))))) (qb_one (qs_set (i := 7) sc.nd rfl (by first | exact .inl rfl | exact .inr rfl) (qe_bin ow_addC (qe_lc mkD_ok (own := [("_law_star", 14)]) rfl sc.nd (qe_var 7) (blkOk_by (own := [("_law_star", 14)]) (N := ["_law_name", "_law_home_here", "_law_heaven_here", "_law_d", "_law_width", "_law_height", "_law_limit", "_law_stars", "_law_x", "_law_y", "_law_bright", "_law_odd", "_law_right", "_law_up", "_law_star"]) (sc := defScope s_l_pane) (by decide +kernel)) (sgw_name (i := 14) (by decide)) (fun _ _ _ _ _ => (pg_name (i := 14) sc.nd rfl (by first | exact .inl rfl | exact .inr rfl))) (fun _ _ _ _ _ => pts_one (pt_m (qt_cmp (ow_ne (hu_ng hr)) (qe_slD (qe_var 14) qo_none (qo_some qe_int)) (qe_slD (qe_var 11) qo_none (qo_some qe_int)) (nomark _)))) (fun _ _ _ _ _ => (qe_var 14))) (qe_lst (qa_cons (qe_var 11) qa_nil)))))) qb_nil) (qb_frz 7 (qb_one (qs_ret (qe_tup (qa_cons (qe_var 0) (qa_cons (qe_var 4) (qa_cons (qe_var 5) (qa_cons (qe_var 6) (qa_cons (qe_callTy hc_tupleD (by rfl) T.b_tuple (by decide +kernel) (qa_cons (qe_callB (cn_sorted (hu_ng hr)).d (by rfl) T.b_sorted (by decide +kernel) (qa_cons (qe_slD (qe_var 7) (qo_some (qe_un uw_neg qe_int)) qo_none) qa_nil)) qa_nil)) qa_nil)))))))))))))))
theorem ok_l_pane (T : Tx K mg cl fa fd ca) : FnOk P w K mg base (L2.CX P w) 3 (fa 27) (fd 27) ["_law_name", "_law_home_here", "_law_heaven_here", "_law_d"] (SpP K cl p_l_pane) := fnP (okS_l_pane T)
theorem okS_l_home (T : Tx K mg cl fa fd ca) : FnOk P w K mg base (L2.CX P w) 1 (fa 28) (fd 28) ["_law_d"] (SpS K cl q_l_home) := by
  have sc := sc_l_home
  exact fnS T.d28.fn sc_l_home fun cdv A outer s H E hr =>
  (qb_one (qs_ret (qe_tup (qa_cons (qe_bin ow_mod (qe_ix (xw_ix (hu_ng hr)) (qe_var 0) qe_int (fun _ _ => rfl)) qe_int) (qa_cons (qe_bin ow_sub (qe_bin ow_mod (qe_ix (xw_ix (hu_ng hr)) (qe_var 0) qe_int (fun _ _ => rfl)) qe_int) qe_int) (qa_cons (qe_bin ow_sub (qe_bin ow_mod (qe_ix (xw_ix (hu_ng hr)) (qe_var 0) qe_int (fun _ _ => rfl)) qe_int) qe_int) qa_nil))))))
theorem ok_l_home (T : Tx K mg cl fa fd ca) : FnOk P w K mg base (L2.CX P w) 1 (fa 28) (fd 28) ["_law_d"] (SpP K cl p_l_home) := fnP (okS_l_home T)
theorem okS_l_put (T : Tx K mg cl fa fd ca) : FnOk P w K mg base (L2.CX P w) 5 (fa 29) (fd 29) ["_law_book", "_law_pane_here", "_law_handed"] (SpS K cl q_l_put) := by
  have sc := sc_l_put
  exact fnS T.d29.fn sc_l_put fun cdv A outer s H E hr =>
  (qb_cons (qs_set (i := 3) sc.nd rfl (by first | exact .inl rfl | exact .inr rfl) qe_str) (qb_cons (qs_tryAs (i := 4) rfl rfl sc.nd rfl rfl ⟨rfl, by decide, .inl T.c_GlassError.mgd⟩ (takes_of rfl rfl rfl rfl) T.h_GlassError (fun W pn xe tk po => (qb_one (qs_expr (qe_methS T.c_Book T.d11907.mt (okS_Book_put T) (hr.mono (by decide)) T.d11907.bd (fun σ => passAt tk σ) (qe_var 0) (qa_cons (qe_ix (xw_ix (hu_ng hr)) (qe_var 1) qe_int (fun _ _ => rfl)) (qa_cons (qe_ix (xw_ix (hu_ng hr)) (qe_var 1) qe_int (fun _ _ => rfl)) (qa_cons (qe_ix (xw_ix (hu_ng hr)) (qe_var 1) qe_int (fun _ _ => rfl)) (qa_cons (qe_ix (xw_ix (hu_ng hr)) (qe_var 1) qe_int (fun _ _ => rfl)) (qa_cons (qe_var 2) qa_nil))))))))) (fun ea oe E d exn pn hz hv hcE hdE => (qb_cons (qs_set (i := 3) sc.nd rfl (by first | exact .inl rfl | exact .inr rfl) qe_str) (qb_cons (qs_if (qt_truth (qe_isE (i := 4) (T.i_ValueError) hz hv hcE hdE rfl (by first | exact .inl rfl | exact .inr (.inl rfl) | exact .inr (.inr rfl)) (by rfl) T.b_isinstance (pe_bltn rfl T.b_ValueError (by decide +kernel) (v := .ty "ValueError") rfl) relv_ty)) (qb_one (qs_set (i := 3) sc.nd rfl (by first | exact .inl rfl | exact .inr rfl) qe_str)) qb_nil) (qb_cons (qs_if (qt_truth (qe_isE (i := 4) (T.i_BadName) hz hv hcE hdE rfl (by first | exact .inl rfl | exact .inr (.inl rfl) | exact .inr (.inr rfl)) (by rfl) T.b_isinstance (pe_cls rfl T.c_BadName.mgd) relv_ref)) (qb_one (qs_set (i := 3) sc.nd rfl (by first | exact .inl rfl | exact .inr rfl) (qe_bin ow_addD (qe_var 3) qe_str))) qb_nil) (qb_cons (qs_if (qt_truth (qe_isE (i := 4) (T.i_BadPlate) hz hv hcE hdE rfl (by first | exact .inl rfl | exact .inr (.inl rfl) | exact .inr (.inr rfl)) (by rfl) T.b_isinstance (pe_cls rfl T.c_BadPlate.mgd) relv_ref)) (qb_one (qs_set (i := 3) sc.nd rfl (by first | exact .inl rfl | exact .inr rfl) (qe_bin ow_addD (qe_var 3) qe_str))) qb_nil) (qb_cons (qs_if (qt_truth (qe_isE (i := 4) (T.i_Taken) hz hv hcE hdE rfl (by first | exact .inl rfl | exact .inr (.inl rfl) | exact .inr (.inr rfl)) (by rfl) T.b_isinstance (pe_cls rfl T.c_Taken.mgd) relv_ref)) (qb_one (qs_set (i := 3) sc.nd rfl (by first | exact .inl rfl | exact .inr rfl) (qe_bin ow_addD (qe_var 3) qe_str))) qb_nil) (qb_one (qs_if (qt_truth (qe_isE (i := 4) (T.i_Full) hz hv hcE hdE rfl (by first | exact .inl rfl | exact .inr (.inl rfl) | exact .inr (.inr rfl)) (by rfl) T.b_isinstance (pe_cls rfl T.c_Full.mgd) relv_ref)) (qb_one (qs_set (i := 3) sc.nd rfl (by first | exact .inl rfl | exact .inr rfl) (qe_bin ow_addD (qe_var 3) qe_str))) qb_nil))))))))) (qb_one (qs_ret (qe_var 3)))))
theorem okS_l_due (T : Tx K mg cl fa fd ca) : FnOk P w K mg base (L2.CX P w) 1 (fa 30) (fd 30) ["_law_panes", "_law_pane_here"] (SpS K cl q_l_due) := by
  have sc := sc_l_due
  exact fnS T.d30.fn sc_l_due fun cdv A outer s H E hr =>
  (qb_cons (qs_if (QW.qt (qw_or (qt_cmp ow_lt (qe_callB cw_len (by rfl) T.b_len (by decide +kernel) (qa_cons (qe_ix (xw_ix (hu_ng hr)) (qe_var 1) qe_int (fun _ _ => rfl)) qa_nil)) qe_int (nomark _)) (qw_or (qt_cmp ow_gt (qe_callB cw_len (by rfl) T.b_len (by decide +kernel) (qa_cons (qe_ix (xw_ix (hu_ng hr)) (qe_var 1) qe_int (fun _ _ => rfl)) qa_nil)) qe_int (nomark _)) (qw_or1 (qt_cmp (ow_in (hu_ng hr)) qe_str (qe_ix (xw_ix (hu_ng hr)) (qe_var 1) qe_int (fun _ _ => rfl)) (by rfl)))))) (qb_one (qs_ret qe_str)) qb_nil) (qb_cons (qs_if (QW.qt (qw_or (qt_cmp ow_gt (qe_ix (xw_ix (hu_ng hr)) (qe_var 1) qe_int (fun _ _ => rfl)) qe_int (nomark _)) (qw_or1 (qt_cmp ow_lt (qe_ix (xw_ix (hu_ng hr)) (qe_var 1) qe_int (fun _ _ => rfl)) qe_int (nomark _))))) (qb_one (qs_ret qe_str)) qb_nil) (qb_cons (qs_if (qt_cmp (ow_in (hu_ng hr)) (qe_ix (xw_ix (hu_ng hr)) (qe_var 1) qe_int (fun _ _ => rfl)) (qe_var 0) (by rfl)) (qb_one (qs_ret qe_str)) qb_nil) (qb_cons (qs_if (qt_cmp ow_gt (qe_callB cw_len (by rfl) T.b_len (by decide +kernel) (qa_cons (qe_var 0) qa_nil)) qe_int (nomark _)) (qb_one (qs_ret qe_str)) qb_nil) (qb_one (qs_ret qe_str))))))
theorem okS_l_made (T : Tx K mg cl fa fd ca) : FnOk P w K mg base (L2.CX P w) 4 (fa 31) (fd 31) ["_law_d", "_law_heaven_here"] (SpS K cl q_l_made) := by
  have sc := sc_l_made
  exact fnS T.d31.fn sc_l_made fun cdv A outer s H E hr =>
  (qb_cons (qs_set (i := 2) sc.nd rfl (by first | exact .inl rfl | exact .inr rfl) qe_str) (qb_cons (qs_set (i := 3) sc.nd rfl (by first | exact .inl rfl | exact .inr rfl) (qe_bin ow_addD qe_int (qe_bin ow_mul (qe_bin ow_mod (qe_ix (xw_ix (hu_ng hr)) (qe_var 0) qe_int (fun _ _ => rfl)) qe_int) (qe_bin ow_mod (qe_bin ow_div (qe_ix (xw_ix (hu_ng hr)) (qe_var 0) qe_int (fun _ _ => rfl)) qe_int) qe_int)))) (qb_cons (qs_set (i := 4) sc.nd rfl (by first | exact .inl rfl | exact .inr rfl) (qe_bin ow_addD (qe_ix (xw_ix (hu_ng hr)) (qe_var 2) (qe_bin ow_mod (qe_bin ow_div (qe_ix (xw_ix (hu_ng hr)) (qe_var 0) qe_int (fun _ _ => rfl)) qe_int) qe_int) (fun _ _ => rfl)) (qe_bin ow_mulS qe_str (qe_bin ow_sub (qe_var 3) qe_int)))) (qb_cons (qs_set (i := 5) sc.nd rfl (by first | exact .inl rfl | exact .inr rfl) (qe_callTy (cn_list rfl).c (by rfl) T.b_list (by decide +kernel) (qa_cons (qe_callN (ok_l_pane T) (hr.mono (by decide)) (by rfl) T.d27.mgd T.d27.fn.kp T.d27.bd (fun σ => passAt (takes_of rfl rfl rfl rfl) σ) (qa_cons (qe_var 4) (qa_cons (qe_callN (ok_l_home T) (hr.mono (by decide)) (by rfl) T.d28.mgd T.d28.fn.kp T.d28.bd (fun σ => passAt (takes_of rfl rfl rfl rfl) σ) (qa_cons (qe_var 0) qa_nil)) (qa_cons (qe_var 1) (qa_cons (qe_var 0) qa_nil))))) qa_nil))) (qb_cons (qs_set (i := 6) sc.nd rfl (by first | exact .inl rfl | exact .inr rfl) (qe_bin ow_mod (qe_ix (xw_ix (hu_ng hr)) (qe_var 0) qe_int (fun _ _ => rfl)) qe_int)) (qb_cons (qs_if (qt_cmp (ow_eq (hu_ng hr)) (qe_var 6) qe_int (nomark _)) (qb_one (qs_setIx (hu_ng hr) (qe_var 5) qe_int (qe_ix (xw_ix (hu_ng hr)) (qe_lst (qa_cons qe_str (qa_cons qe_str (qa_cons qe_str (qa_cons qe_str qa_nil))))) (qe_bin ow_mod (qe_bin ow_div (qe_ix (xw_ix (hu_ng hr)) (qe_var 0) qe_int (fun _ _ => rfl)) qe_int) qe_int) (fun _ _ => rfl)))) qb_nil) (qb_cons (qs_if (QW.qt (qw_or (qt_cmp (ow_eq (hu_ng hr)) (qe_var 6) qe_int (nomark _)) (qw_or1 (qt_cmp (ow_eq (hu_ng hr)) (qe_var 6) qe_int (nomark _))))) (qb_one (qs_setIx (hu_ng hr) (qe_var 5) (qe_bin ow_addD (qe_bin ow_sub (qe_var 6) qe_int) (qe_bin ow_div (qe_var 6) qe_int)) (qe_ix (xw_ix (hu_ng hr)) (qe_lst (qa_cons qe_int (qa_cons qe_int qa_nil))) (qe_bin ow_sub (qe_var 6) qe_int) (fun _ _ => rfl)))) qb_nil) (qb_one (qs_ret (qe_fz (qe_var 5)))))))))))
theorem ok_l_made (T : Tx K mg cl fa fd ca) : FnOk P w K mg base (L2.CX P w) 4 (fa 31) (fd 31) ["_law_d", "_law_heaven_here"] (SpP K cl p_l_made) := fnP (okS_l_made T)
theorem okS_law (T : Tx K mg cl fa fd ca) : FnOk P w K mg base (L2.CX P w) 7 (fa 32) (fd 32) ["_law_script"] (SpS K cl q_law) := by
  have sc := sc_law
  exact fnS T.d32.fn sc_law fun cdv A outer s H E hr =>
  (qb_cons (qs_set (i := 1) sc.nd rfl (by first | exact .inl rfl | exact .inr rfl) (qe_makeS0 T.c_Book T.k_Book (okS_Book___init__ T) (hr.mono (by decide)) (by rfl) T.d11900.bd (fun σ => passAt (takes_of rfl rfl rfl rfl) σ))) (qb_cons (qs_set (i := 2) sc.nd rfl (by first | exact .inl rfl | exact .inr rfl) qe_newDK) (qb_cons (qs_set (i := 3) sc.nd rfl (by first | exact .inl rfl | exact .inr rfl) (qe_callN (ok_l_heaven T) (hr.mono (by decide)) (by rfl) T.d26.mgd T.d26.fn.kp T.d26.bd (fun σ => passAt (takes_of rfl rfl rfl rfl) σ) (qa_cons (qe_var 0) qa_nil))) (qb_cons (qs_range1 (passes_of rfl) rfl (by rfl) T.b_range (qa_cons (qe_callB (cw_min2 rfl) (by rfl) T.b_min (by decide +kernel) (qa_cons (qe_bin ow_addD (qe_callB cw_len (by rfl) T.b_len (by decide +kernel) (qa_cons (qe_var 0) qa_nil)) qe_int) (qa_cons qe_int qa_nil))) qa_nil) (qg_name (i := 4) sc.nd rfl (by first | exact .inl rfl | exact .inr rfl)) (qb_cons (qs_set (i := 5) sc.nd rfl (by first | exact .inl rfl | exact .inr rfl) (qe_callN (ok_l_draws T) (hr.mono (by decide)) (by rfl) T.d21.mgd T.d21.fn.kp T.d21.bd (fun σ => passAt (takes_of rfl rfl rfl rfl) σ) (qa_cons (qe_var 0) (qa_cons (qe_var 4) (qa_cons qe_int qa_nil))))) (qb_cons (qs_set (i := 6) sc.nd rfl (by first | exact .inl rfl | exact .inr rfl) (qe_callN (ok_l_made T) (hr.mono (by decide)) (by rfl) T.d31.mgd T.d31.fn.kp T.d31.bd (fun σ => passAt (takes_of rfl rfl rfl rfl) σ) (qa_cons (qe_var 5) (qa_cons (qe_var 3) qa_nil)))) (qb_cons (qs_if (QW.qt (qw_and (qt_cmp (ow_eq (hu_ng hr)) (qe_bin ow_mod (qe_ix (xw_ix (hu_ng hr)) (qe_var 5) qe_int (fun _ _ => rfl)) qe_int) qe_int (nomark _)) (qw_and1 (qt_cmp (ow_in (hu_ng hr)) (qe_ix (xw_ix (hu_ng hr)) (qe_var 6) qe_int (fun _ _ => rfl)) (qe_var 2) (by rfl))))) (qb_cons (qs_expr (qe_pop1 (qe_var 2) (qe_ix (xw_ix (hu_ng hr)) (qe_var 6) qe_int (fun _ _ => rfl)) ⟨by rfl, by rfl, by rfl, by rfl⟩)) (qb_one (qs_if (qt_cmp ow_isnot (qe_methS T.c_Book T.d11908.mt (okS_Book_drop T) (hr.mono (by decide)) T.d11908.bd (fun σ => passAt (takes_of rfl rfl rfl rfl) σ) (qe_var 1) (qa_cons (qe_ix (xw_ix (hu_ng hr)) (qe_var 6) qe_int (fun _ _ => rfl)) qa_nil)) qe_non (nomark _)) (qb_one (qs_ret qe_bl)) qb_nil))) (qb_cons (qs_set (i := 9) sc.nd rfl (by first | exact .inl rfl | exact .inr rfl) (qe_callS (okS_l_due T) (hr.mono (by decide)) (by rfl) T.d30.mgd T.d30.fn.kp T.d30.bd (fun σ => passAt (takes_of rfl rfl rfl rfl) σ) (qa_cons (qe_var 2) (qa_cons (qe_var 6) qa_nil)))) (qb_cons (qs_set (i := 10) sc.nd rfl (by first | exact .inl rfl | exact .inr rfl) (qe_revC (qe_callTy (cn_list rfl).d (by rfl) T.b_list (by decide +kernel) (qa_cons (qe_ix (xw_ix (hu_ng hr)) (qe_var 6) qe_int (fun _ _ => rfl)) qa_nil)))) (qb_cons (qs_if (QW.qt (qw_or (qt_cmp (ow_ne (hu_ng hr)) (qe_callS (okS_l_put T) (hr.mono (by decide)) (by rfl) T.d29.mgd T.d29.fn.kp T.d29.bd (fun σ => passAt (takes_of rfl rfl rfl rfl) σ) (qa_cons (qe_var 1) (qa_cons (qe_var 6) (qa_cons (qe_var 10) qa_nil)))) (qe_var 9) (nomark _)) (qw_or1 (qt_cmp (ow_ne (hu_ng hr)) (qe_var 10) (qe_revD (qe_callTy (cn_list rfl).d (by rfl) T.b_list (by decide +kernel) (qa_cons (qe_ix (xw_ix (hu_ng hr)) (qe_var 6) qe_int (fun _ _ => rfl)) qa_nil))) (nomark _))))) (qb_one (qs_ret qe_bl)) qb_nil) (qb_cons (qs_expr (qe_bm PySem.F.plainAttrs_list PySem.F.slot_list_append PySem.F.type_list_append hm_append (qe_var 10) (qa_cons (qe_tup (qa_cons qe_int (qa_cons qe_int (qa_cons qe_int qa_nil)))) qa_nil))) (qb_one (qs_if (qt_cmp (ow_eq (hu_ng hr)) (qe_var 9) qe_str (nomark _)) (qb_one (qs_setIx (hu_ng hr) (qe_var 2) (qe_ix (xw_ix (hu_ng hr)) (qe_var 6) qe_int (fun _ _ => rfl)) (qe_var 6))) qb_nil))))))) (qb_cons (qs_set (i := 7) sc.nd rfl (by first | exact .inl rfl | exact .inr rfl) (qe_methS0 T.c_Book T.d11917.mt (okS_Book_names T) (hr.mono (by decide)) T.d11917.bd (fun σ => passAt (takes_of rfl rfl rfl rfl) σ) (qe_var 1) )) (qb_cons (qs_if (qt_not (qt_truth (qe_callN (ok_l_same T) (hr.mono (by decide)) (by rfl) T.d25.mgd T.d25.fn.kp T.d25.bd (fun σ => passAt (takes_of rfl rfl rfl rfl) σ) (qa_cons (qe_var 7) (qa_cons (qe_callB (cn_sortedD (hu_ng hr) rfl).d (by rfl) T.b_sorted (by decide +kernel) (qa_cons (qe_var 2) qa_nil)) qa_nil))))) (qb_one (qs_ret qe_bl)) qb_nil) (qb_one (qs_expr (qe_bm PySem.F.plainAttrs_list PySem.F.slot_list_append PySem.F.type_list_append hm_append (qe_var 7) (qa_cons qe_str qa_nil)))))))))) (qb_frz 2 (qb_cons (qs_forI (passes_of rfl) rfl (qe_var 2) (qg_tup rfl (qgs_cons (qg_name (i := 8) sc.nd rfl (by first | exact .inl rfl | exact .inr rfl)) (qgs_cons (qg_name (i := 6) sc.nd rfl (by first | exact .inl rfl | exact .inr rfl)) qgs_nil))) (qb_cons (qs_set (i := 7) sc.nd rfl (by first | exact .inl rfl | exact .inr rfl) (qe_methS T.c_Book T.d11919.mt (okS_Book_stars_of T) (hr.mono (by decide)) T.d11919.bd (fun σ => passAt (takes_of rfl rfl rfl rfl) σ) (qe_var 1) (qa_cons (qe_var 8) qa_nil))) (qb_cons (qs_if (QW.qt (qw_or (qt_not (qt_truth (qe_callN (ok_l_same T) (hr.mono (by decide)) (by rfl) T.d25.mgd T.d25.fn.kp T.d25.bd (fun σ => passAt (takes_of rfl rfl rfl rfl) σ) (qa_cons (qe_var 7) (qa_cons (qe_callTy (cn_list rfl).d (by rfl) T.b_list (by decide +kernel) (qa_cons (qe_ix (xw_ix (hu_ng hr)) (qe_var 6) qe_int (fun _ _ => rfl)) qa_nil)) qa_nil))))) (qw_or1 (qt_not (qt_truth (qe_callN (ok_l_same T) (hr.mono (by decide)) (by rfl) T.d25.mgd T.d25.fn.kp T.d25.bd (fun σ => passAt (takes_of rfl rfl rfl rfl) σ) (qa_cons (qe_methS T.c_Book T.d11918.mt (okS_Book_window T) (hr.mono (by decide)) T.d11918.bd (fun σ => passAt (takes_of rfl rfl rfl rfl) σ) (qe_var 1) (qa_cons (qe_var 8) qa_nil)) (qa_cons (qe_callTy hc_tupleD (by rfl) T.b_tuple (by decide +kernel) (qa_cons (qe_slD (qe_var 6) (qo_some qe_int) (qo_some qe_int)) qa_nil)) qa_nil)))))))) (qb_one (qs_ret qe_bl)) qb_nil) (qb_cons (qs_expr (qe_bm PySem.F.plainAttrs_list PySem.F.slot_list_append PySem.F.type_list_append hm_append (qe_var 7) (qa_cons (qe_tup (qa_cons qe_int (qa_cons qe_int (qa_cons qe_int qa_nil)))) qa_nil))) (qb_one (qs_if (qt_not (qt_truth (qe_callN (ok_l_same T) (hr.mono (by decide)) (by rfl) T.d25.mgd T.d25.fn.kp T.d25.bd (fun σ => passAt (takes_of rfl rfl rfl rfl) σ) (qa_cons (qe_methS T.c_Book T.d11919.mt (okS_Book_stars_of T) (hr.mono (by decide)) T.d11919.bd (fun σ => passAt (takes_of rfl rfl rfl rfl) σ) (qe_var 1) (qa_cons (qe_var 8) qa_nil)) (qa_cons (qe_callTy (cn_list rfl).d (by rfl) T.b_list (by decide +kernel) (qa_cons (qe_ix (xw_ix (hu_ng hr)) (qe_var 6) qe_int (fun _ _ => rfl)) qa_nil)) qa_nil))))) (qb_one (qs_ret qe_bl)) qb_nil)))))) (qb_one (qs_ret qe_bl))))))))
theorem ok_law (T : Tx K mg cl fa fd ca) : FnOk P w K mg base (L2.CX P w) 7 (fa 32) (fd 32) ["_law_script"] (SpP K cl p_law) := fnP (okS_law T)
end
/-! ### what the top has written -/
theorem all_mk {P : Program} {w : World} {K : PySem.W.Frag} {h : Heap} {mg : Str → Option Value} {fl : Addr} (X : K.In h) (G : h.Ns mainGlobals mg) (hfa : mg "law" = some (.ref fl))
    {k16 : Addr}
    {k19 : Addr}
    {f0 : Addr} {od0 an0 : Option Addr} {sl0 : Array (Option Value)} {oc0 kV0 dc0 pm0 cd0 ct0 : Value}
    {f14 : Addr} {od14 an14 : Option Addr} {sl14 : Array (Option Value)} {oc14 kV14 dc14 pm14 cd14 ct14 : Value}
    {f15 : Addr} {od15 an15 : Option Addr} {sl15 : Array (Option Value)} {oc15 kV15 dc15 pm15 cd15 ct15 : Value}
    {f11600 : Addr} {od11600 an11600 : Option Addr} {sl11600 : Array (Option Value)} {oc11600 kV11600 dc11600 pm11600 cd11600 ct11600 : Value}
    {f11601 : Addr} {od11601 an11601 : Option Addr} {sl11601 : Array (Option Value)} {oc11601 kV11601 dc11601 pm11601 cd11601 ct11601 : Value}
    {f11602 : Addr} {od11602 an11602 : Option Addr} {sl11602 : Array (Option Value)} {oc11602 kV11602 dc11602 pm11602 cd11602 ct11602 : Value}
    {f11603 : Addr} {od11603 an11603 : Option Addr} {sl11603 : Array (Option Value)} {oc11603 kV11603 dc11603 pm11603 cd11603 ct11603 : Value}
    {f11604 : Addr} {od11604 an11604 : Option Addr} {sl11604 : Array (Option Value)} {oc11604 kV11604 dc11604 pm11604 cd11604 ct11604 : Value}
    {f11900 : Addr} {od11900 an11900 : Option Addr} {sl11900 : Array (Option Value)} {oc11900 kV11900 dc11900 pm11900 cd11900 ct11900 : Value}
    {f11901 : Addr} {od11901 an11901 : Option Addr} {sl11901 : Array (Option Value)} {oc11901 kV11901 dc11901 pm11901 cd11901 ct11901 : Value}
    {f11902 : Addr} {od11902 an11902 : Option Addr} {sl11902 : Array (Option Value)} {oc11902 kV11902 dc11902 pm11902 cd11902 ct11902 : Value}
    {f11903 : Addr} {od11903 an11903 : Option Addr} {sl11903 : Array (Option Value)} {oc11903 kV11903 dc11903 pm11903 cd11903 ct11903 : Value}
    {f11904 : Addr} {od11904 an11904 : Option Addr} {sl11904 : Array (Option Value)} {oc11904 kV11904 dc11904 pm11904 cd11904 ct11904 : Value}
    {f11905 : Addr} {od11905 an11905 : Option Addr} {sl11905 : Array (Option Value)} {oc11905 kV11905 dc11905 pm11905 cd11905 ct11905 : Value}
    {f11906 : Addr} {od11906 an11906 : Option Addr} {sl11906 : Array (Option Value)} {oc11906 kV11906 dc11906 pm11906 cd11906 ct11906 : Value}
    {f11907 : Addr} {od11907 an11907 : Option Addr} {sl11907 : Array (Option Value)} {oc11907 kV11907 dc11907 pm11907 cd11907 ct11907 : Value}
    {f11908 : Addr} {od11908 an11908 : Option Addr} {sl11908 : Array (Option Value)} {oc11908 kV11908 dc11908 pm11908 cd11908 ct11908 : Value}
    {f11909 : Addr} {od11909 an11909 : Option Addr} {sl11909 : Array (Option Value)} {oc11909 kV11909 dc11909 pm11909 cd11909 ct11909 : Value}
    {f11910 : Addr} {od11910 an11910 : Option Addr} {sl11910 : Array (Option Value)} {oc11910 kV11910 dc11910 pm11910 cd11910 ct11910 : Value}
    {f11911 : Addr} {od11911 an11911 : Option Addr} {sl11911 : Array (Option Value)} {oc11911 kV11911 dc11911 pm11911 cd11911 ct11911 : Value}
    {f11912 : Addr} {od11912 an11912 : Option Addr} {sl11912 : Array (Option Value)} {oc11912 kV11912 dc11912 pm11912 cd11912 ct11912 : Value}
    {f11913 : Addr} {od11913 an11913 : Option Addr} {sl11913 : Array (Option Value)} {oc11913 kV11913 dc11913 pm11913 cd11913 ct11913 : Value}
    {f11914 : Addr} {od11914 an11914 : Option Addr} {sl11914 : Array (Option Value)} {oc11914 kV11914 dc11914 pm11914 cd11914 ct11914 : Value}
    {f11915 : Addr} {od11915 an11915 : Option Addr} {sl11915 : Array (Option Value)} {oc11915 kV11915 dc11915 pm11915 cd11915 ct11915 : Value}
    {f11916 : Addr} {od11916 an11916 : Option Addr} {sl11916 : Array (Option Value)} {oc11916 kV11916 dc11916 pm11916 cd11916 ct11916 : Value}
    {f11917 : Addr} {od11917 an11917 : Option Addr} {sl11917 : Array (Option Value)} {oc11917 kV11917 dc11917 pm11917 cd11917 ct11917 : Value}
    {f11918 : Addr} {od11918 an11918 : Option Addr} {sl11918 : Array (Option Value)} {oc11918 kV11918 dc11918 pm11918 cd11918 ct11918 : Value}
    {f11919 : Addr} {od11919 an11919 : Option Addr} {sl11919 : Array (Option Value)} {oc11919 kV11919 dc11919 pm11919 cd11919 ct11919 : Value}
    {f11920 : Addr} {od11920 an11920 : Option Addr} {sl11920 : Array (Option Value)} {oc11920 kV11920 dc11920 pm11920 cd11920 ct11920 : Value}
    {f11921 : Addr} {od11921 an11921 : Option Addr} {sl11921 : Array (Option Value)} {oc11921 kV11921 dc11921 pm11921 cd11921 ct11921 : Value}
    {f11922 : Addr} {od11922 an11922 : Option Addr} {sl11922 : Array (Option Value)} {oc11922 kV11922 dc11922 pm11922 cd11922 ct11922 : Value}
    {f11923 : Addr} {od11923 an11923 : Option Addr} {sl11923 : Array (Option Value)} {oc11923 kV11923 dc11923 pm11923 cd11923 ct11923 : Value}
    {f11924 : Addr} {od11924 an11924 : Option Addr} {sl11924 : Array (Option Value)} {oc11924 kV11924 dc11924 pm11924 cd11924 ct11924 : Value}
    {f11925 : Addr} {od11925 an11925 : Option Addr} {sl11925 : Array (Option Value)} {oc11925 kV11925 dc11925 pm11925 cd11925 ct11925 : Value}
    {f11926 : Addr} {od11926 an11926 : Option Addr} {sl11926 : Array (Option Value)} {oc11926 kV11926 dc11926 pm11926 cd11926 ct11926 : Value}
    {f11927 : Addr} {od11927 an11927 : Option Addr} {sl11927 : Array (Option Value)} {oc11927 kV11927 dc11927 pm11927 cd11927 ct11927 : Value}
    {f11928 : Addr} {od11928 an11928 : Option Addr} {sl11928 : Array (Option Value)} {oc11928 kV11928 dc11928 pm11928 cd11928 ct11928 : Value}
    {f11929 : Addr} {od11929 an11929 : Option Addr} {sl11929 : Array (Option Value)} {oc11929 kV11929 dc11929 pm11929 cd11929 ct11929 : Value}
    {f11930 : Addr} {od11930 an11930 : Option Addr} {sl11930 : Array (Option Value)} {oc11930 kV11930 dc11930 pm11930 cd11930 ct11930 : Value}
    {f11931 : Addr} {od11931 an11931 : Option Addr} {sl11931 : Array (Option Value)} {oc11931 kV11931 dc11931 pm11931 cd11931 ct11931 : Value}
    {f11932 : Addr} {od11932 an11932 : Option Addr} {sl11932 : Array (Option Value)} {oc11932 kV11932 dc11932 pm11932 cd11932 ct11932 : Value}
    {f11933 : Addr} {od11933 an11933 : Option Addr} {sl11933 : Array (Option Value)} {oc11933 kV11933 dc11933 pm11933 cd11933 ct11933 : Value}
    {f11934 : Addr} {od11934 an11934 : Option Addr} {sl11934 : Array (Option Value)} {oc11934 kV11934 dc11934 pm11934 cd11934 ct11934 : Value}
    {f11935 : Addr} {od11935 an11935 : Option Addr} {sl11935 : Array (Option Value)} {oc11935 kV11935 dc11935 pm11935 cd11935 ct11935 : Value}
    {f11936 : Addr} {od11936 an11936 : Option Addr} {sl11936 : Array (Option Value)} {oc11936 kV11936 dc11936 pm11936 cd11936 ct11936 : Value}
    {f11937 : Addr} {od11937 an11937 : Option Addr} {sl11937 : Array (Option Value)} {oc11937 kV11937 dc11937 pm11937 cd11937 ct11937 : Value}
    {f21 : Addr} {od21 an21 : Option Addr} {sl21 : Array (Option Value)} {oc21 kV21 dc21 pm21 cd21 ct21 : Value}
    {f22 : Addr} {od22 an22 : Option Addr} {sl22 : Array (Option Value)} {oc22 kV22 dc22 pm22 cd22 ct22 : Value}
    {f23 : Addr} {od23 an23 : Option Addr} {sl23 : Array (Option Value)} {oc23 kV23 dc23 pm23 cd23 ct23 : Value}
    {f24 : Addr} {od24 an24 : Option Addr} {sl24 : Array (Option Value)} {oc24 kV24 dc24 pm24 cd24 ct24 : Value}
    {f25 : Addr} {od25 an25 : Option Addr} {sl25 : Array (Option Value)} {oc25 kV25 dc25 pm25 cd25 ct25 : Value}
    {f26 : Addr} {od26 an26 : Option Addr} {sl26 : Array (Option Value)} {oc26 kV26 dc26 pm26 cd26 ct26 : Value}
    {f27 : Addr} {od27 an27 : Option Addr} {sl27 : Array (Option Value)} {oc27 kV27 dc27 pm27 cd27 ct27 : Value}
    {f28 : Addr} {od28 an28 : Option Addr} {sl28 : Array (Option Value)} {oc28 kV28 dc28 pm28 cd28 ct28 : Value}
    {f29 : Addr} {od29 an29 : Option Addr} {sl29 : Array (Option Value)} {oc29 kV29 dc29 pm29 cd29 ct29 : Value}
    {f30 : Addr} {od30 an30 : Option Addr} {sl30 : Array (Option Value)} {oc30 kV30 dc30 pm30 cd30 ct30 : Value}
    {f31 : Addr} {od31 an31 : Option Addr} {sl31 : Array (Option Value)} {oc31 kV31 dc31 pm31 cd31 ct31 : Value}
    {f32 : Addr} {od32 an32 : Option Addr} {sl32 : Array (Option Value)} {oc32 kV32 dc32 pm32 cd32 ct32 : Value}
    {k2 : Addr}
    {k3 : Addr}
    {k4 : Addr}
    {k5 : Addr}
    {k6 : Addr}
    {k7 : Addr}
    {t_BRIGHT_MOST : Tok}
    {t_LETTERS : Tok}
    {t_NAME_MOST : Tok}
    {t_PLATES_MOST : Tok}
    {t_SIDE_MOST : Tok}
    {t_STARS_MOST : Tok}
    (ka16 : PySem.W.nsIn K mainGlobals "Plate" = some (some (.ref k16))) (kpg16 : PySem.W.plainGet K k16 Str.empty = true) (khd16 : PySem.W.hasDictIn K k16 = true) (kpo16 : PySem.W.plainOver K k16 = true) (ksa16 : PySem.W.findIn K (.ref k16) "__setattr__" = some (some (.builtin "object.__setattr__"))) (kmk16 : PySem.W.makesIn K k16 = true) (kkp16 : PySem.W.keepIn K (.ref k16) = true)
    (ka19 : PySem.W.nsIn K mainGlobals "Book" = some (some (.ref k19))) (kpg19 : PySem.W.plainGet K k19 Str.empty = true) (khd19 : PySem.W.hasDictIn K k19 = true) (kpo19 : PySem.W.plainOver K k19 = true) (ksa19 : PySem.W.findIn K (.ref k19) "__setattr__" = some (some (.builtin "object.__setattr__"))) (kmk19 : PySem.W.makesIn K k19 = true) (kkp19 : PySem.W.keepIn K (.ref k19) = true)
    (kn16_name : PySem.W.findIn K (.ref k16) "name" = some none)
    (kn16_width : PySem.W.findIn K (.ref k16) "width" = some none)
    (kn16_height : PySem.W.findIn K (.ref k16) "height" = some none)
    (kn16_limit : PySem.W.findIn K (.ref k16) "limit" = some none)
    (kn16_lights : PySem.W.findIn K (.ref k16) "lights" = some none)
    (kn19_held : PySem.W.findIn K (.ref k19) "held" = some none)
    (kn19_tied : PySem.W.findIn K (.ref k19) "tied" = some none)
    (kn19_upcoming : PySem.W.findIn K (.ref k19) "upcoming" = some none)
    (kn19_past : PySem.W.findIn K (.ref k19) "past" = some none)
    (kn19_future : PySem.W.findIn K (.ref k19) "future" = some none)
    (a0 : PySem.W.nsIn K mainGlobals "_wall" = some (some (.ref f0))) (l0 : K.lookup f0 = some ⟨oc0, od0, .func (PySem.W.fnOf "_wall" "_wall" (defArgs s__wall) (defBody s__wall) (defScope s__wall) .none kV0 dc0 pm0 an0 cd0 ct0), sl0⟩) (c0 : PySem.W.codeIn K cd0 "_wall" = true) (k0 : PySem.W.keepIn K (.ref f0) = true)
    (a14 : PySem.W.nsIn K mainGlobals "is_name" = some (some (.ref f14))) (l14 : K.lookup f14 = some ⟨oc14, od14, .func (PySem.W.fnOf "is_name" "is_name" (defArgs s_is_name) (defBody s_is_name) (defScope s_is_name) .none kV14 dc14 pm14 an14 cd14 ct14), sl14⟩) (c14 : PySem.W.codeIn K cd14 "is_name" = true) (k14 : PySem.W.keepIn K (.ref f14) = true)
    (a15 : PySem.W.nsIn K mainGlobals "is_glass" = some (some (.ref f15))) (l15 : K.lookup f15 = some ⟨oc15, od15, .func (PySem.W.fnOf "is_glass" "is_glass" (defArgs s_is_glass) (defBody s_is_glass) (defScope s_is_glass) .none kV15 dc15 pm15 an15 cd15 ct15), sl15⟩) (c15 : PySem.W.codeIn K cd15 "is_glass" = true) (k15 : PySem.W.keepIn K (.ref f15) = true)
    (a11600 : PySem.W.findIn K (.ref k16) "__init__" = some (some (.ref f11600))) (i11600 : PySem.W.isFn K (.ref f11600) = true) (l11600 : K.lookup f11600 = some ⟨oc11600, od11600, .func (PySem.W.fnOf "__init__" "Plate.__init__" (defArgs s_Plate___init__) (defBody s_Plate___init__) (defScope s_Plate___init__) .none kV11600 dc11600 pm11600 an11600 cd11600 ct11600), sl11600⟩) (c11600 : PySem.W.codeIn K cd11600 "Plate.__init__" = true) (k_11600 : PySem.W.keepIn K (.ref f11600) = true)
    (a11601 : PySem.W.findIn K (.ref k16) "stars" = some (some (.ref f11601))) (i11601 : PySem.W.isFn K (.ref f11601) = true) (l11601 : K.lookup f11601 = some ⟨oc11601, od11601, .func (PySem.W.fnOf "stars" "Plate.stars" (defArgs s_Plate_stars) (defBody s_Plate_stars) (defScope s_Plate_stars) .none kV11601 dc11601 pm11601 an11601 cd11601 ct11601), sl11601⟩) (c11601 : PySem.W.codeIn K cd11601 "Plate.stars" = true) (k_11601 : PySem.W.keepIn K (.ref f11601) = true)
    (a11602 : PySem.W.findIn K (.ref k16) "holds" = some (some (.ref f11602))) (i11602 : PySem.W.isFn K (.ref f11602) = true) (l11602 : K.lookup f11602 = some ⟨oc11602, od11602, .func (PySem.W.fnOf "holds" "Plate.holds" (defArgs s_Plate_holds) (defBody s_Plate_holds) (defScope s_Plate_holds) .none kV11602 dc11602 pm11602 an11602 cd11602 ct11602), sl11602⟩) (c11602 : PySem.W.codeIn K cd11602 "Plate.holds" = true) (k_11602 : PySem.W.keepIn K (.ref f11602) = true)
    (a11603 : PySem.W.findIn K (.ref k16) "says" = some (some (.ref f11603))) (i11603 : PySem.W.isFn K (.ref f11603) = true) (l11603 : K.lookup f11603 = some ⟨oc11603, od11603, .func (PySem.W.fnOf "says" "Plate.says" (defArgs s_Plate_says) (defBody s_Plate_says) (defScope s_Plate_says) .none kV11603 dc11603 pm11603 an11603 cd11603 ct11603), sl11603⟩) (c11603 : PySem.W.codeIn K cd11603 "Plate.says" = true) (k_11603 : PySem.W.keepIn K (.ref f11603) = true)
    (a11604 : PySem.W.findIn K (.ref k16) "places" = some (some (.ref f11604))) (i11604 : PySem.W.isFn K (.ref f11604) = true) (l11604 : K.lookup f11604 = some ⟨oc11604, od11604, .func (PySem.W.fnOf "places" "Plate.places" (defArgs s_Plate_places) (defBody s_Plate_places) (defScope s_Plate_places) .none kV11604 dc11604 pm11604 an11604 cd11604 ct11604), sl11604⟩) (c11604 : PySem.W.codeIn K cd11604 "Plate.places" = true) (k_11604 : PySem.W.keepIn K (.ref f11604) = true)
    (a11900 : PySem.W.findIn K (.ref k19) "__init__" = some (some (.ref f11900))) (i11900 : PySem.W.isFn K (.ref f11900) = true) (l11900 : K.lookup f11900 = some ⟨oc11900, od11900, .func (PySem.W.fnOf "__init__" "Book.__init__" (defArgs s_Book___init__) (defBody s_Book___init__) (defScope s_Book___init__) .none kV11900 dc11900 pm11900 an11900 cd11900 ct11900), sl11900⟩) (c11900 : PySem.W.codeIn K cd11900 "Book.__init__" = true) (k_11900 : PySem.W.keepIn K (.ref f11900) = true)
    (a11901 : PySem.W.findIn K (.ref k19) "stand" = some (some (.ref f11901))) (i11901 : PySem.W.isFn K (.ref f11901) = true) (l11901 : K.lookup f11901 = some ⟨oc11901, od11901, .func (PySem.W.fnOf "stand" "Book.stand" (defArgs s_Book_stand) (defBody s_Book_stand) (defScope s_Book_stand) .none kV11901 dc11901 pm11901 an11901 cd11901 ct11901), sl11901⟩) (c11901 : PySem.W.codeIn K cd11901 "Book.stand" = true) (k_11901 : PySem.W.keepIn K (.ref f11901) = true)
    (a11902 : PySem.W.findIn K (.ref k19) "restore" = some (some (.ref f11902))) (i11902 : PySem.W.isFn K (.ref f11902) = true) (l11902 : K.lookup f11902 = some ⟨oc11902, od11902, .func (PySem.W.fnOf "restore" "Book.restore" (defArgs s_Book_restore) (defBody s_Book_restore) (defScope s_Book_restore) .none kV11902 dc11902 pm11902 an11902 cd11902 ct11902), sl11902⟩) (c11902 : PySem.W.codeIn K cd11902 "Book.restore" = true) (k_11902 : PySem.W.keepIn K (.ref f11902) = true)
    (a11903 : PySem.W.findIn K (.ref k19) "remember" = some (some (.ref f11903))) (i11903 : PySem.W.isFn K (.ref f11903) = true) (l11903 : K.lookup f11903 = some ⟨oc11903, od11903, .func (PySem.W.fnOf "remember" "Book.remember" (defArgs s_Book_remember) (defBody s_Book_remember) (defScope s_Book_remember) .none kV11903 dc11903 pm11903 an11903 cd11903 ct11903), sl11903⟩) (c11903 : PySem.W.codeIn K cd11903 "Book.remember" = true) (k_11903 : PySem.W.keepIn K (.ref f11903) = true)
    (a11904 : PySem.W.findIn K (.ref k19) "forget" = some (some (.ref f11904))) (i11904 : PySem.W.isFn K (.ref f11904) = true) (l11904 : K.lookup f11904 = some ⟨oc11904, od11904, .func (PySem.W.fnOf "forget" "Book.forget" (defArgs s_Book_forget) (defBody s_Book_forget) (defScope s_Book_forget) .none kV11904 dc11904 pm11904 an11904 cd11904 ct11904), sl11904⟩) (c11904 : PySem.W.codeIn K cd11904 "Book.forget" = true) (k_11904 : PySem.W.keepIn K (.ref f11904) = true)
    (a11905 : PySem.W.findIn K (.ref k19) "need" = some (some (.ref f11905))) (i11905 : PySem.W.isFn K (.ref f11905) = true) (l11905 : K.lookup f11905 = some ⟨oc11905, od11905, .func (PySem.W.fnOf "need" "Book.need" (defArgs s_Book_need) (defBody s_Book_need) (defScope s_Book_need) .none kV11905 dc11905 pm11905 an11905 cd11905 ct11905), sl11905⟩) (c11905 : PySem.W.codeIn K cd11905 "Book.need" = true) (k_11905 : PySem.W.keepIn K (.ref f11905) = true)
    (a11906 : PySem.W.findIn K (.ref k19) "need_two" = some (some (.ref f11906))) (i11906 : PySem.W.isFn K (.ref f11906) = true) (l11906 : K.lookup f11906 = some ⟨oc11906, od11906, .func (PySem.W.fnOf "need_two" "Book.need_two" (defArgs s_Book_need_two) (defBody s_Book_need_two) (defScope s_Book_need_two) .none kV11906 dc11906 pm11906 an11906 cd11906 ct11906), sl11906⟩) (c11906 : PySem.W.codeIn K cd11906 "Book.need_two" = true) (k_11906 : PySem.W.keepIn K (.ref f11906) = true)
    (a11907 : PySem.W.findIn K (.ref k19) "put" = some (some (.ref f11907))) (i11907 : PySem.W.isFn K (.ref f11907) = true) (l11907 : K.lookup f11907 = some ⟨oc11907, od11907, .func (PySem.W.fnOf "put" "Book.put" (defArgs s_Book_put) (defBody s_Book_put) (defScope s_Book_put) .none kV11907 dc11907 pm11907 an11907 cd11907 ct11907), sl11907⟩) (c11907 : PySem.W.codeIn K cd11907 "Book.put" = true) (k_11907 : PySem.W.keepIn K (.ref f11907) = true)
    (a11908 : PySem.W.findIn K (.ref k19) "drop" = some (some (.ref f11908))) (i11908 : PySem.W.isFn K (.ref f11908) = true) (l11908 : K.lookup f11908 = some ⟨oc11908, od11908, .func (PySem.W.fnOf "drop" "Book.drop" (defArgs s_Book_drop) (defBody s_Book_drop) (defScope s_Book_drop) .none kV11908 dc11908 pm11908 an11908 cd11908 ct11908), sl11908⟩) (c11908 : PySem.W.codeIn K cd11908 "Book.drop" = true) (k_11908 : PySem.W.keepIn K (.ref f11908) = true)
    (a11909 : PySem.W.findIn K (.ref k19) "look" = some (some (.ref f11909))) (i11909 : PySem.W.isFn K (.ref f11909) = true) (l11909 : K.lookup f11909 = some ⟨oc11909, od11909, .func (PySem.W.fnOf "look" "Book.look" (defArgs s_Book_look) (defBody s_Book_look) (defScope s_Book_look) .none kV11909 dc11909 pm11909 an11909 cd11909 ct11909), sl11909⟩) (c11909 : PySem.W.codeIn K cd11909 "Book.look" = true) (k_11909 : PySem.W.keepIn K (.ref f11909) = true)
    (a11910 : PySem.W.findIn K (.ref k19) "verdict" = some (some (.ref f11910))) (i11910 : PySem.W.isFn K (.ref f11910) = true) (l11910 : K.lookup f11910 = some ⟨oc11910, od11910, .func (PySem.W.fnOf "verdict" "Book.verdict" (defArgs s_Book_verdict) (defBody s_Book_verdict) (defScope s_Book_verdict) .none kV11910 dc11910 pm11910 an11910 cd11910 ct11910), sl11910⟩) (c11910 : PySem.W.codeIn K cd11910 "Book.verdict" = true) (k_11910 : PySem.W.keepIn K (.ref f11910) = true)
    (a11911 : PySem.W.findIn K (.ref k19) "tie" = some (some (.ref f11911))) (i11911 : PySem.W.isFn K (.ref f11911) = true) (l11911 : K.lookup f11911 = some ⟨oc11911, od11911, .func (PySem.W.fnOf "tie" "Book.tie" (defArgs s_Book_tie) (defBody s_Book_tie) (defScope s_Book_tie) .none kV11911 dc11911 pm11911 an11911 cd11911 ct11911), sl11911⟩) (c11911 : PySem.W.codeIn K cd11911 "Book.tie" = true) (k_11911 : PySem.W.keepIn K (.ref f11911) = true)
    (a11912 : PySem.W.findIn K (.ref k19) "untie" = some (some (.ref f11912))) (i11912 : PySem.W.isFn K (.ref f11912) = true) (l11912 : K.lookup f11912 = some ⟨oc11912, od11912, .func (PySem.W.fnOf "untie" "Book.untie" (defArgs s_Book_untie) (defBody s_Book_untie) (defScope s_Book_untie) .none kV11912 dc11912 pm11912 an11912 cd11912 ct11912), sl11912⟩) (c11912 : PySem.W.codeIn K cd11912 "Book.untie" = true) (k_11912 : PySem.W.keepIn K (.ref f11912) = true)
    (a11913 : PySem.W.findIn K (.ref k19) "undo" = some (some (.ref f11913))) (i11913 : PySem.W.isFn K (.ref f11913) = true) (l11913 : K.lookup f11913 = some ⟨oc11913, od11913, .func (PySem.W.fnOf "undo" "Book.undo" (defArgs s_Book_undo) (defBody s_Book_undo) (defScope s_Book_undo) .none kV11913 dc11913 pm11913 an11913 cd11913 ct11913), sl11913⟩) (c11913 : PySem.W.codeIn K cd11913 "Book.undo" = true) (k_11913 : PySem.W.keepIn K (.ref f11913) = true)
    (a11914 : PySem.W.findIn K (.ref k19) "redo" = some (some (.ref f11914))) (i11914 : PySem.W.isFn K (.ref f11914) = true) (l11914 : K.lookup f11914 = some ⟨oc11914, od11914, .func (PySem.W.fnOf "redo" "Book.redo" (defArgs s_Book_redo) (defBody s_Book_redo) (defScope s_Book_redo) .none kV11914 dc11914 pm11914 an11914 cd11914 ct11914), sl11914⟩) (c11914 : PySem.W.codeIn K cd11914 "Book.redo" = true) (k_11914 : PySem.W.keepIn K (.ref f11914) = true)
    (a11915 : PySem.W.findIn K (.ref k19) "log" = some (some (.ref f11915))) (i11915 : PySem.W.isFn K (.ref f11915) = true) (l11915 : K.lookup f11915 = some ⟨oc11915, od11915, .func (PySem.W.fnOf "log" "Book.log" (defArgs s_Book_log) (defBody s_Book_log) (defScope s_Book_log) .none kV11915 dc11915 pm11915 an11915 cd11915 ct11915), sl11915⟩) (c11915 : PySem.W.codeIn K cd11915 "Book.log" = true) (k_11915 : PySem.W.keepIn K (.ref f11915) = true)
    (a11916 : PySem.W.findIn K (.ref k19) "twin" = some (some (.ref f11916))) (i11916 : PySem.W.isFn K (.ref f11916) = true) (l11916 : K.lookup f11916 = some ⟨oc11916, od11916, .func (PySem.W.fnOf "twin" "Book.twin" (defArgs s_Book_twin) (defBody s_Book_twin) (defScope s_Book_twin) .none kV11916 dc11916 pm11916 an11916 cd11916 ct11916), sl11916⟩) (c11916 : PySem.W.codeIn K cd11916 "Book.twin" = true) (k_11916 : PySem.W.keepIn K (.ref f11916) = true)
    (a11917 : PySem.W.findIn K (.ref k19) "names" = some (some (.ref f11917))) (i11917 : PySem.W.isFn K (.ref f11917) = true) (l11917 : K.lookup f11917 = some ⟨oc11917, od11917, .func (PySem.W.fnOf "names" "Book.names" (defArgs s_Book_names) (defBody s_Book_names) (defScope s_Book_names) .none kV11917 dc11917 pm11917 an11917 cd11917 ct11917), sl11917⟩) (c11917 : PySem.W.codeIn K cd11917 "Book.names" = true) (k_11917 : PySem.W.keepIn K (.ref f11917) = true)
    (a11918 : PySem.W.findIn K (.ref k19) "window" = some (some (.ref f11918))) (i11918 : PySem.W.isFn K (.ref f11918) = true) (l11918 : K.lookup f11918 = some ⟨oc11918, od11918, .func (PySem.W.fnOf "window" "Book.window" (defArgs s_Book_window) (defBody s_Book_window) (defScope s_Book_window) .none kV11918 dc11918 pm11918 an11918 cd11918 ct11918), sl11918⟩) (c11918 : PySem.W.codeIn K cd11918 "Book.window" = true) (k_11918 : PySem.W.keepIn K (.ref f11918) = true)
    (a11919 : PySem.W.findIn K (.ref k19) "stars_of" = some (some (.ref f11919))) (i11919 : PySem.W.isFn K (.ref f11919) = true) (l11919 : K.lookup f11919 = some ⟨oc11919, od11919, .func (PySem.W.fnOf "stars_of" "Book.stars_of" (defArgs s_Book_stars_of) (defBody s_Book_stars_of) (defScope s_Book_stars_of) .none kV11919 dc11919 pm11919 an11919 cd11919 ct11919), sl11919⟩) (c11919 : PySem.W.codeIn K cd11919 "Book.stars_of" = true) (k_11919 : PySem.W.keepIn K (.ref f11919) = true)
    (a11920 : PySem.W.findIn K (.ref k19) "ties" = some (some (.ref f11920))) (i11920 : PySem.W.isFn K (.ref f11920) = true) (l11920 : K.lookup f11920 = some ⟨oc11920, od11920, .func (PySem.W.fnOf "ties" "Book.ties" (defArgs s_Book_ties) (defBody s_Book_ties) (defScope s_Book_ties) .none kV11920 dc11920 pm11920 an11920 cd11920 ct11920), sl11920⟩) (c11920 : PySem.W.codeIn K cd11920 "Book.ties" = true) (k_11920 : PySem.W.keepIn K (.ref f11920) = true)
    (a11921 : PySem.W.findIn K (.ref k19) "lies" = some (some (.ref f11921))) (i11921 : PySem.W.isFn K (.ref f11921) = true) (l11921 : K.lookup f11921 = some ⟨oc11921, od11921, .func (PySem.W.fnOf "lies" "Book.lies" (defArgs s_Book_lies) (defBody s_Book_lies) (defScope s_Book_lies) .none kV11921 dc11921 pm11921 an11921 cd11921 ct11921), sl11921⟩) (c11921 : PySem.W.codeIn K cd11921 "Book.lies" = true) (k_11921 : PySem.W.keepIn K (.ref f11921) = true)
    (a11922 : PySem.W.findIn K (.ref k19) "chain" = some (some (.ref f11922))) (i11922 : PySem.W.isFn K (.ref f11922) = true) (l11922 : K.lookup f11922 = some ⟨oc11922, od11922, .func (PySem.W.fnOf "chain" "Book.chain" (defArgs s_Book_chain) (defBody s_Book_chain) (defScope s_Book_chain) .none kV11922 dc11922 pm11922 an11922 cd11922 ct11922), sl11922⟩) (c11922 : PySem.W.codeIn K cd11922 "Book.chain" = true) (k_11922 : PySem.W.keepIn K (.ref f11922) = true)
    (a11923 : PySem.W.findIn K (.ref k19) "sky" = some (some (.ref f11923))) (i11923 : PySem.W.isFn K (.ref f11923) = true) (l11923 : K.lookup f11923 = some ⟨oc11923, od11923, .func (PySem.W.fnOf "sky" "Book.sky" (defArgs s_Book_sky) (defBody s_Book_sky) (defScope s_Book_sky) .none kV11923 dc11923 pm11923 an11923 cd11923 ct11923), sl11923⟩) (c11923 : PySem.W.codeIn K cd11923 "Book.sky" = true) (k_11923 : PySem.W.keepIn K (.ref f11923) = true)
    (a11924 : PySem.W.findIn K (.ref k19) "skies" = some (some (.ref f11924))) (i11924 : PySem.W.isFn K (.ref f11924) = true) (l11924 : K.lookup f11924 = some ⟨oc11924, od11924, .func (PySem.W.fnOf "skies" "Book.skies" (defArgs s_Book_skies) (defBody s_Book_skies) (defScope s_Book_skies) .none kV11924 dc11924 pm11924 an11924 cd11924 ct11924), sl11924⟩) (c11924 : PySem.W.codeIn K cd11924 "Book.skies" = true) (k_11924 : PySem.W.keepIn K (.ref f11924) = true)
    (a11925 : PySem.W.findIn K (.ref k19) "laid" = some (some (.ref f11925))) (i11925 : PySem.W.isFn K (.ref f11925) = true) (l11925 : K.lookup f11925 = some ⟨oc11925, od11925, .func (PySem.W.fnOf "laid" "Book.laid" (defArgs s_Book_laid) (defBody s_Book_laid) (defScope s_Book_laid) .none kV11925 dc11925 pm11925 an11925 cd11925 ct11925), sl11925⟩) (c11925 : PySem.W.codeIn K cd11925 "Book.laid" = true) (k_11925 : PySem.W.keepIn K (.ref f11925) = true)
    (a11926 : PySem.W.findIn K (.ref k19) "sky_laid" = some (some (.ref f11926))) (i11926 : PySem.W.isFn K (.ref f11926) = true) (l11926 : K.lookup f11926 = some ⟨oc11926, od11926, .func (PySem.W.fnOf "sky_laid" "Book.sky_laid" (defArgs s_Book_sky_laid) (defBody s_Book_sky_laid) (defScope s_Book_sky_laid) .none kV11926 dc11926 pm11926 an11926 cd11926 ct11926), sl11926⟩) (c11926 : PySem.W.codeIn K cd11926 "Book.sky_laid" = true) (k_11926 : PySem.W.keepIn K (.ref f11926) = true)
    (a11927 : PySem.W.findIn K (.ref k19) "ask" = some (some (.ref f11927))) (i11927 : PySem.W.isFn K (.ref f11927) = true) (l11927 : K.lookup f11927 = some ⟨oc11927, od11927, .func (PySem.W.fnOf "ask" "Book.ask" (defArgs s_Book_ask) (defBody s_Book_ask) (defScope s_Book_ask) .none kV11927 dc11927 pm11927 an11927 cd11927 ct11927), sl11927⟩) (c11927 : PySem.W.codeIn K cd11927 "Book.ask" = true) (k_11927 : PySem.W.keepIn K (.ref f11927) = true)
    (a11928 : PySem.W.findIn K (.ref k19) "chart" = some (some (.ref f11928))) (i11928 : PySem.W.isFn K (.ref f11928) = true) (l11928 : K.lookup f11928 = some ⟨oc11928, od11928, .func (PySem.W.fnOf "chart" "Book.chart" (defArgs s_Book_chart) (defBody s_Book_chart) (defScope s_Book_chart) .none kV11928 dc11928 pm11928 an11928 cd11928 ct11928), sl11928⟩) (c11928 : PySem.W.codeIn K cd11928 "Book.chart" = true) (k_11928 : PySem.W.keepIn K (.ref f11928) = true)
    (a11929 : PySem.W.findIn K (.ref k19) "face" = some (some (.ref f11929))) (i11929 : PySem.W.isFn K (.ref f11929) = true) (l11929 : K.lookup f11929 = some ⟨oc11929, od11929, .func (PySem.W.fnOf "face" "Book.face" (defArgs s_Book_face) (defBody s_Book_face) (defScope s_Book_face) .none kV11929 dc11929 pm11929 an11929 cd11929 ct11929), sl11929⟩) (c11929 : PySem.W.codeIn K cd11929 "Book.face" = true) (k_11929 : PySem.W.keepIn K (.ref f11929) = true)
    (a11930 : PySem.W.findIn K (.ref k19) "form" = some (some (.ref f11930))) (i11930 : PySem.W.isFn K (.ref f11930) = true) (l11930 : K.lookup f11930 = some ⟨oc11930, od11930, .func (PySem.W.fnOf "form" "Book.form" (defArgs s_Book_form) (defBody s_Book_form) (defScope s_Book_form) .none kV11930 dc11930 pm11930 an11930 cd11930 ct11930), sl11930⟩) (c11930 : PySem.W.codeIn K cd11930 "Book.form" = true) (k_11930 : PySem.W.keepIn K (.ref f11930) = true)
    (a11931 : PySem.W.findIn K (.ref k19) "matches" = some (some (.ref f11931))) (i11931 : PySem.W.isFn K (.ref f11931) = true) (l11931 : K.lookup f11931 = some ⟨oc11931, od11931, .func (PySem.W.fnOf "matches" "Book.matches" (defArgs s_Book_matches) (defBody s_Book_matches) (defScope s_Book_matches) .none kV11931 dc11931 pm11931 an11931 cd11931 ct11931), sl11931⟩) (c11931 : PySem.W.codeIn K cd11931 "Book.matches" = true) (k_11931 : PySem.W.keepIn K (.ref f11931) = true)
    (a11932 : PySem.W.findIn K (.ref k19) "apart" = some (some (.ref f11932))) (i11932 : PySem.W.isFn K (.ref f11932) = true) (l11932 : K.lookup f11932 = some ⟨oc11932, od11932, .func (PySem.W.fnOf "apart" "Book.apart" (defArgs s_Book_apart) (defBody s_Book_apart) (defScope s_Book_apart) .none kV11932 dc11932 pm11932 an11932 cd11932 ct11932), sl11932⟩) (c11932 : PySem.W.codeIn K cd11932 "Book.apart" = true) (k_11932 : PySem.W.keepIn K (.ref f11932) = true)
    (a11933 : PySem.W.findIn K (.ref k19) "layings" = some (some (.ref f11933))) (i11933 : PySem.W.isFn K (.ref f11933) = true) (l11933 : K.lookup f11933 = some ⟨oc11933, od11933, .func (PySem.W.fnOf "layings" "Book.layings" (defArgs s_Book_layings) (defBody s_Book_layings) (defScope s_Book_layings) .none kV11933 dc11933 pm11933 an11933 cd11933 ct11933), sl11933⟩) (c11933 : PySem.W.codeIn K cd11933 "Book.layings" = true) (k_11933 : PySem.W.keepIn K (.ref f11933) = true)
    (a11934 : PySem.W.findIn K (.ref k19) "sure" = some (some (.ref f11934))) (i11934 : PySem.W.isFn K (.ref f11934) = true) (l11934 : K.lookup f11934 = some ⟨oc11934, od11934, .func (PySem.W.fnOf "sure" "Book.sure" (defArgs s_Book_sure) (defBody s_Book_sure) (defScope s_Book_sure) .none kV11934 dc11934 pm11934 an11934 cd11934 ct11934), sl11934⟩) (c11934 : PySem.W.codeIn K cd11934 "Book.sure" = true) (k_11934 : PySem.W.keepIn K (.ref f11934) = true)
    (a11935 : PySem.W.findIn K (.ref k19) "carries" = some (some (.ref f11935))) (i11935 : PySem.W.isFn K (.ref f11935) = true) (l11935 : K.lookup f11935 = some ⟨oc11935, od11935, .func (PySem.W.fnOf "carries" "Book.carries" (defArgs s_Book_carries) (defBody s_Book_carries) (defScope s_Book_carries) .none kV11935 dc11935 pm11935 an11935 cd11935 ct11935), sl11935⟩) (c11935 : PySem.W.codeIn K cd11935 "Book.carries" = true) (k_11935 : PySem.W.keepIn K (.ref f11935) = true)
    (a11936 : PySem.W.findIn K (.ref k19) "would" = some (some (.ref f11936))) (i11936 : PySem.W.isFn K (.ref f11936) = true) (l11936 : K.lookup f11936 = some ⟨oc11936, od11936, .func (PySem.W.fnOf "would" "Book.would" (defArgs s_Book_would) (defBody s_Book_would) (defScope s_Book_would) .none kV11936 dc11936 pm11936 an11936 cd11936 ct11936), sl11936⟩) (c11936 : PySem.W.codeIn K cd11936 "Book.would" = true) (k_11936 : PySem.W.keepIn K (.ref f11936) = true)
    (a11937 : PySem.W.findIn K (.ref k19) "mends" = some (some (.ref f11937))) (i11937 : PySem.W.isFn K (.ref f11937) = true) (l11937 : K.lookup f11937 = some ⟨oc11937, od11937, .func (PySem.W.fnOf "mends" "Book.mends" (defArgs s_Book_mends) (defBody s_Book_mends) (defScope s_Book_mends) .none kV11937 dc11937 pm11937 an11937 cd11937 ct11937), sl11937⟩) (c11937 : PySem.W.codeIn K cd11937 "Book.mends" = true) (k_11937 : PySem.W.keepIn K (.ref f11937) = true)
    (a21 : PySem.W.nsIn K mainGlobals "_law_draws" = some (some (.ref f21))) (l21 : K.lookup f21 = some ⟨oc21, od21, .func (PySem.W.fnOf "_law_draws" "_law_draws" (defArgs s_l_draws) (defBody s_l_draws) (defScope s_l_draws) .none kV21 dc21 pm21 an21 cd21 ct21), sl21⟩) (c21 : PySem.W.codeIn K cd21 "_law_draws" = true) (k21 : PySem.W.keepIn K (.ref f21) = true)
    (a22 : PySem.W.nsIn K mainGlobals "_law_turned" = some (some (.ref f22))) (l22 : K.lookup f22 = some ⟨oc22, od22, .func (PySem.W.fnOf "_law_turned" "_law_turned" (defArgs s_l_turned) (defBody s_l_turned) (defScope s_l_turned) .none kV22 dc22 pm22 an22 cd22 ct22), sl22⟩) (c22 : PySem.W.codeIn K cd22 "_law_turned" = true) (k22 : PySem.W.keepIn K (.ref f22) = true)
    (a23 : PySem.W.nsIn K mainGlobals "_law_moved" = some (some (.ref f23))) (l23 : K.lookup f23 = some ⟨oc23, od23, .func (PySem.W.fnOf "_law_moved" "_law_moved" (defArgs s_l_moved) (defBody s_l_moved) (defScope s_l_moved) .none kV23 dc23 pm23 an23 cd23 ct23), sl23⟩) (c23 : PySem.W.codeIn K cd23 "_law_moved" = true) (k23 : PySem.W.keepIn K (.ref f23) = true)
    (a24 : PySem.W.nsIn K mainGlobals "_law_back" = some (some (.ref f24))) (l24 : K.lookup f24 = some ⟨oc24, od24, .func (PySem.W.fnOf "_law_back" "_law_back" (defArgs s_l_back) (defBody s_l_back) (defScope s_l_back) .none kV24 dc24 pm24 an24 cd24 ct24), sl24⟩) (c24 : PySem.W.codeIn K cd24 "_law_back" = true) (k24 : PySem.W.keepIn K (.ref f24) = true)
    (a25 : PySem.W.nsIn K mainGlobals "_law_same" = some (some (.ref f25))) (l25 : K.lookup f25 = some ⟨oc25, od25, .func (PySem.W.fnOf "_law_same" "_law_same" (defArgs s_l_same) (defBody s_l_same) (defScope s_l_same) .none kV25 dc25 pm25 an25 cd25 ct25), sl25⟩) (c25 : PySem.W.codeIn K cd25 "_law_same" = true) (k25 : PySem.W.keepIn K (.ref f25) = true)
    (a26 : PySem.W.nsIn K mainGlobals "_law_heaven" = some (some (.ref f26))) (l26 : K.lookup f26 = some ⟨oc26, od26, .func (PySem.W.fnOf "_law_heaven" "_law_heaven" (defArgs s_l_heaven) (defBody s_l_heaven) (defScope s_l_heaven) .none kV26 dc26 pm26 an26 cd26 ct26), sl26⟩) (c26 : PySem.W.codeIn K cd26 "_law_heaven" = true) (k26 : PySem.W.keepIn K (.ref f26) = true)
    (a27 : PySem.W.nsIn K mainGlobals "_law_pane" = some (some (.ref f27))) (l27 : K.lookup f27 = some ⟨oc27, od27, .func (PySem.W.fnOf "_law_pane" "_law_pane" (defArgs s_l_pane) (defBody s_l_pane) (defScope s_l_pane) .none kV27 dc27 pm27 an27 cd27 ct27), sl27⟩) (c27 : PySem.W.codeIn K cd27 "_law_pane" = true) (k27 : PySem.W.keepIn K (.ref f27) = true)
    (a28 : PySem.W.nsIn K mainGlobals "_law_home" = some (some (.ref f28))) (l28 : K.lookup f28 = some ⟨oc28, od28, .func (PySem.W.fnOf "_law_home" "_law_home" (defArgs s_l_home) (defBody s_l_home) (defScope s_l_home) .none kV28 dc28 pm28 an28 cd28 ct28), sl28⟩) (c28 : PySem.W.codeIn K cd28 "_law_home" = true) (k28 : PySem.W.keepIn K (.ref f28) = true)
    (a29 : PySem.W.nsIn K mainGlobals "_law_put" = some (some (.ref f29))) (l29 : K.lookup f29 = some ⟨oc29, od29, .func (PySem.W.fnOf "_law_put" "_law_put" (defArgs s_l_put) (defBody s_l_put) (defScope s_l_put) .none kV29 dc29 pm29 an29 cd29 ct29), sl29⟩) (c29 : PySem.W.codeIn K cd29 "_law_put" = true) (k29 : PySem.W.keepIn K (.ref f29) = true)
    (a30 : PySem.W.nsIn K mainGlobals "_law_due" = some (some (.ref f30))) (l30 : K.lookup f30 = some ⟨oc30, od30, .func (PySem.W.fnOf "_law_due" "_law_due" (defArgs s_l_due) (defBody s_l_due) (defScope s_l_due) .none kV30 dc30 pm30 an30 cd30 ct30), sl30⟩) (c30 : PySem.W.codeIn K cd30 "_law_due" = true) (k30 : PySem.W.keepIn K (.ref f30) = true)
    (a31 : PySem.W.nsIn K mainGlobals "_law_made" = some (some (.ref f31))) (l31 : K.lookup f31 = some ⟨oc31, od31, .func (PySem.W.fnOf "_law_made" "_law_made" (defArgs s_l_made) (defBody s_l_made) (defScope s_l_made) .none kV31 dc31 pm31 an31 cd31 ct31), sl31⟩) (c31 : PySem.W.codeIn K cd31 "_law_made" = true) (k31 : PySem.W.keepIn K (.ref f31) = true)
    (a32 : PySem.W.nsIn K mainGlobals "law" = some (some (.ref f32))) (l32 : K.lookup f32 = some ⟨oc32, od32, .func (PySem.W.fnOf "law" "law" (defArgs s_law) (defBody s_law) (defScope s_law) .none kV32 dc32 pm32 an32 cd32 ct32), sl32⟩) (c32 : PySem.W.codeIn K cd32 "law" = true) (k32 : PySem.W.keepIn K (.ref f32) = true)
    (oc_n : PySem.W.specialIn K (.builtin "object.__class__") "__get__" = some (some (.builtin "getset_descriptor.__get__"))) (oc_t : PySem.W.takesIn K (.builtin "object.__class__") = some true)
    (ka2 : PySem.W.nsIn K mainGlobals "GlassError" = some (some (.ref k2))) (kx2 : PySem.W.excIn K k2 veB "ValueError.__new__" = true) (kk2 : PySem.W.keepIn K (.ref k2) = true) (kt2 : PySem.W.typeIn K (.ref k2) = some (.type "type"))
    (khg2 : PySem.W.findIn K (.ref k2) "__getattribute__" = some (some (.builtin "BaseException.__getattribute__")))
    (khk2 : PySem.W.findIn K (.ref k2) "__getattr__" = some none)
    (khs2 : PySem.W.subIn K (.ref k2) (.type "BaseException") = some true)
    (khd2 : PySem.W.hasDictIn K k2 = true)
    (kha2 : PySem.W.findIn K (.ref k2) "__class__" = some (some (.builtin "object.__class__")))
    (khm2 : PySem.W.mroIn K k2 (.type "object") = some true)
    (ka3 : PySem.W.nsIn K mainGlobals "BadName" = some (some (.ref k3))) (kx3 : PySem.W.excIn K k3 veB "ValueError.__new__" = true) (kk3 : PySem.W.keepIn K (.ref k3) = true) (kt3 : PySem.W.typeIn K (.ref k3) = some (.type "type"))
    (khg3 : PySem.W.findIn K (.ref k3) "__getattribute__" = some (some (.builtin "BaseException.__getattribute__")))
    (khk3 : PySem.W.findIn K (.ref k3) "__getattr__" = some none)
    (khs3 : PySem.W.subIn K (.ref k3) (.type "BaseException") = some true)
    (khd3 : PySem.W.hasDictIn K k3 = true)
    (kha3 : PySem.W.findIn K (.ref k3) "__class__" = some (some (.builtin "object.__class__")))
    (khm3 : PySem.W.mroIn K k3 (.type "object") = some true)
    (ka4 : PySem.W.nsIn K mainGlobals "BadPlate" = some (some (.ref k4))) (kx4 : PySem.W.excIn K k4 veB "ValueError.__new__" = true) (kk4 : PySem.W.keepIn K (.ref k4) = true) (kt4 : PySem.W.typeIn K (.ref k4) = some (.type "type"))
    (khg4 : PySem.W.findIn K (.ref k4) "__getattribute__" = some (some (.builtin "BaseException.__getattribute__")))
    (khk4 : PySem.W.findIn K (.ref k4) "__getattr__" = some none)
    (khs4 : PySem.W.subIn K (.ref k4) (.type "BaseException") = some true)
    (khd4 : PySem.W.hasDictIn K k4 = true)
    (kha4 : PySem.W.findIn K (.ref k4) "__class__" = some (some (.builtin "object.__class__")))
    (khm4 : PySem.W.mroIn K k4 (.type "object") = some true)
    (ka5 : PySem.W.nsIn K mainGlobals "NoPlate" = some (some (.ref k5))) (kx5 : PySem.W.excIn K k5 veB "ValueError.__new__" = true) (kk5 : PySem.W.keepIn K (.ref k5) = true) (kt5 : PySem.W.typeIn K (.ref k5) = some (.type "type"))
    (khg5 : PySem.W.findIn K (.ref k5) "__getattribute__" = some (some (.builtin "BaseException.__getattribute__")))
    (khk5 : PySem.W.findIn K (.ref k5) "__getattr__" = some none)
    (khs5 : PySem.W.subIn K (.ref k5) (.type "BaseException") = some true)
    (khd5 : PySem.W.hasDictIn K k5 = true)
    (kha5 : PySem.W.findIn K (.ref k5) "__class__" = some (some (.builtin "object.__class__")))
    (khm5 : PySem.W.mroIn K k5 (.type "object") = some true)
    (ka6 : PySem.W.nsIn K mainGlobals "Taken" = some (some (.ref k6))) (kx6 : PySem.W.excIn K k6 veB "ValueError.__new__" = true) (kk6 : PySem.W.keepIn K (.ref k6) = true) (kt6 : PySem.W.typeIn K (.ref k6) = some (.type "type"))
    (khg6 : PySem.W.findIn K (.ref k6) "__getattribute__" = some (some (.builtin "BaseException.__getattribute__")))
    (khk6 : PySem.W.findIn K (.ref k6) "__getattr__" = some none)
    (khs6 : PySem.W.subIn K (.ref k6) (.type "BaseException") = some true)
    (khd6 : PySem.W.hasDictIn K k6 = true)
    (kha6 : PySem.W.findIn K (.ref k6) "__class__" = some (some (.builtin "object.__class__")))
    (khm6 : PySem.W.mroIn K k6 (.type "object") = some true)
    (ka7 : PySem.W.nsIn K mainGlobals "Full" = some (some (.ref k7))) (kx7 : PySem.W.excIn K k7 veB "ValueError.__new__" = true) (kk7 : PySem.W.keepIn K (.ref k7) = true) (kt7 : PySem.W.typeIn K (.ref k7) = some (.type "type"))
    (khg7 : PySem.W.findIn K (.ref k7) "__getattribute__" = some (some (.builtin "BaseException.__getattribute__")))
    (khk7 : PySem.W.findIn K (.ref k7) "__getattr__" = some none)
    (khs7 : PySem.W.subIn K (.ref k7) (.type "BaseException") = some true)
    (khd7 : PySem.W.hasDictIn K k7 = true)
    (kha7 : PySem.W.findIn K (.ref k7) "__class__" = some (some (.builtin "object.__class__")))
    (khm7 : PySem.W.mroIn K k7 (.type "object") = some true)
    (kh_7_2 : PySem.W.exmOne K (.ref k7) (.ref k2) = some true)
    (kh_6_2 : PySem.W.exmOne K (.ref k6) (.ref k2) = some true)
    (kh_5_2 : PySem.W.exmOne K (.ref k5) (.ref k2) = some true)
    (kh_4_2 : PySem.W.exmOne K (.ref k4) (.ref k2) = some true)
    (kh_3_2 : PySem.W.exmOne K (.ref k3) (.ref k2) = some true)
    (kh_2_2 : PySem.W.exmOne K (.ref k2) (.ref k2) = some true)
    (ki_7_ValueError : PySem.W.kitOne K (.ref k7) (.type "ValueError") = some true)
    (ki_6_ValueError : PySem.W.kitOne K (.ref k6) (.type "ValueError") = some true)
    (ki_5_ValueError : PySem.W.kitOne K (.ref k5) (.type "ValueError") = some true)
    (ki_4_ValueError : PySem.W.kitOne K (.ref k4) (.type "ValueError") = some true)
    (ki_3_ValueError : PySem.W.kitOne K (.ref k3) (.type "ValueError") = some true)
    (ki_2_ValueError : PySem.W.kitOne K (.ref k2) (.type "ValueError") = some true)
    (ki_7_BadName : PySem.W.kitOne K (.ref k7) (.ref k3) = some false)
    (ki_6_BadName : PySem.W.kitOne K (.ref k6) (.ref k3) = some false)
    (ki_5_BadName : PySem.W.kitOne K (.ref k5) (.ref k3) = some false)
    (ki_4_BadName : PySem.W.kitOne K (.ref k4) (.ref k3) = some false)
    (ki_3_BadName : PySem.W.kitOne K (.ref k3) (.ref k3) = some true)
    (ki_2_BadName : PySem.W.kitOne K (.ref k2) (.ref k3) = some false)
    (ki_7_BadPlate : PySem.W.kitOne K (.ref k7) (.ref k4) = some false)
    (ki_6_BadPlate : PySem.W.kitOne K (.ref k6) (.ref k4) = some false)
    (ki_5_BadPlate : PySem.W.kitOne K (.ref k5) (.ref k4) = some false)
    (ki_4_BadPlate : PySem.W.kitOne K (.ref k4) (.ref k4) = some true)
    (ki_3_BadPlate : PySem.W.kitOne K (.ref k3) (.ref k4) = some false)
    (ki_2_BadPlate : PySem.W.kitOne K (.ref k2) (.ref k4) = some false)
    (ki_7_Taken : PySem.W.kitOne K (.ref k7) (.ref k6) = some false)
    (ki_6_Taken : PySem.W.kitOne K (.ref k6) (.ref k6) = some true)
    (ki_5_Taken : PySem.W.kitOne K (.ref k5) (.ref k6) = some false)
    (ki_4_Taken : PySem.W.kitOne K (.ref k4) (.ref k6) = some false)
    (ki_3_Taken : PySem.W.kitOne K (.ref k3) (.ref k6) = some false)
    (ki_2_Taken : PySem.W.kitOne K (.ref k2) (.ref k6) = some false)
    (ki_7_Full : PySem.W.kitOne K (.ref k7) (.ref k7) = some true)
    (ki_6_Full : PySem.W.kitOne K (.ref k6) (.ref k7) = some false)
    (ki_5_Full : PySem.W.kitOne K (.ref k5) (.ref k7) = some false)
    (ki_4_Full : PySem.W.kitOne K (.ref k4) (.ref k7) = some false)
    (ki_3_Full : PySem.W.kitOne K (.ref k3) (.ref k7) = some false)
    (ki_2_Full : PySem.W.kitOne K (.ref k2) (.ref k7) = some false)
    (z_ValueError : PySem.W.nsIn K mainGlobals "ValueError" = some none)
    (z_bool : PySem.W.nsIn K mainGlobals "bool" = some none)
    (z_dict : PySem.W.nsIn K mainGlobals "dict" = some none)
    (z_int : PySem.W.nsIn K mainGlobals "int" = some none)
    (z_isinstance : PySem.W.nsIn K mainGlobals "isinstance" = some none)
    (z_len : PySem.W.nsIn K mainGlobals "len" = some none)
    (z_list : PySem.W.nsIn K mainGlobals "list" = some none)
    (z_min : PySem.W.nsIn K mainGlobals "min" = some none)
    (z_range : PySem.W.nsIn K mainGlobals "range" = some none)
    (z_sorted : PySem.W.nsIn K mainGlobals "sorted" = some none)
    (z_str : PySem.W.nsIn K mainGlobals "str" = some none)
    (z_tuple : PySem.W.nsIn K mainGlobals "tuple" = some none)
    (y_BRIGHT_MOST : PySem.W.nsIn K mainGlobals "BRIGHT_MOST" = some (some (.int 9 t_BRIGHT_MOST)))
    (y_LETTERS : PySem.W.nsIn K mainGlobals "LETTERS" = some (some (.str "abcdefghijklmnopqrstuvwxyz" t_LETTERS)))
    (y_NAME_MOST : PySem.W.nsIn K mainGlobals "NAME_MOST" = some (some (.int 8 t_NAME_MOST)))
    (y_PLATES_MOST : PySem.W.nsIn K mainGlobals "PLATES_MOST" = some (some (.int 12 t_PLATES_MOST)))
    (y_SIDE_MOST : PySem.W.nsIn K mainGlobals "SIDE_MOST" = some (some (.int 8 t_SIDE_MOST)))
    (y_STARS_MOST : PySem.W.nsIn K mainGlobals "STARS_MOST" = some (some (.int 8 t_STARS_MOST))) :
    ∃ fdl : FuncData, (∀ (s : Shared) (v : Value), BindsTo s fdl ⟨[v], []⟩ [("_law_script", v)]) ∧ ∀ base : Heap, K.In base → base.Ns mainGlobals mg → FnOk P w K mg base (L2.CX P w) 7 fl fdl ["_law_script"] (SpP K (clOf K) p_law) := by
  have e : f32 = fl := by
    have z := (PySem.W.mg_of X G a32).symm.trans hfa
    injection z with z
    injection z
  subst e
  have T : Tx K mg (clOf K) (fun i => if i = 0 then f0 else if i = 14 then f14 else if i = 15 then f15 else if i = 11600 then f11600 else if i = 11601 then f11601 else if i = 11602 then f11602 else if i = 11603 then f11603 else if i = 11604 then f11604 else if i = 11900 then f11900 else if i = 11901 then f11901 else if i = 11902 then f11902 else if i = 11903 then f11903 else if i = 11904 then f11904 else if i = 11905 then f11905 else if i = 11906 then f11906 else if i = 11907 then f11907 else if i = 11908 then f11908 else if i = 11909 then f11909 else if i = 11910 then f11910 else if i = 11911 then f11911 else if i = 11912 then f11912 else if i = 11913 then f11913 else if i = 11914 then f11914 else if i = 11915 then f11915 else if i = 11916 then f11916 else if i = 11917 then f11917 else if i = 11918 then f11918 else if i = 11919 then f11919 else if i = 11920 then f11920 else if i = 11921 then f11921 else if i = 11922 then f11922 else if i = 11923 then f11923 else if i = 11924 then f11924 else if i = 11925 then f11925 else if i = 11926 then f11926 else if i = 11927 then f11927 else if i = 11928 then f11928 else if i = 11929 then f11929 else if i = 11930 then f11930 else if i = 11931 then f11931 else if i = 11932 then f11932 else if i = 11933 then f11933 else if i = 11934 then f11934 else if i = 11935 then f11935 else if i = 11936 then f11936 else if i = 11937 then f11937 else if i = 21 then f21 else if i = 22 then f22 else if i = 23 then f23 else if i = 24 then f24 else if i = 25 then f25 else if i = 26 then f26 else if i = 27 then f27 else if i = 28 then f28 else if i = 29 then f29 else if i = 30 then f30 else if i = 31 then f31 else if i = 32 then f32 else 0) (fun i => if i = 0 then PySem.W.fnOf "_wall" "_wall" (defArgs s__wall) (defBody s__wall) (defScope s__wall) .none kV0 dc0 pm0 an0 cd0 ct0 else if i = 14 then PySem.W.fnOf "is_name" "is_name" (defArgs s_is_name) (defBody s_is_name) (defScope s_is_name) .none kV14 dc14 pm14 an14 cd14 ct14 else if i = 15 then PySem.W.fnOf "is_glass" "is_glass" (defArgs s_is_glass) (defBody s_is_glass) (defScope s_is_glass) .none kV15 dc15 pm15 an15 cd15 ct15 else if i = 11600 then PySem.W.fnOf "__init__" "Plate.__init__" (defArgs s_Plate___init__) (defBody s_Plate___init__) (defScope s_Plate___init__) .none kV11600 dc11600 pm11600 an11600 cd11600 ct11600 else if i = 11601 then PySem.W.fnOf "stars" "Plate.stars" (defArgs s_Plate_stars) (defBody s_Plate_stars) (defScope s_Plate_stars) .none kV11601 dc11601 pm11601 an11601 cd11601 ct11601 else if i = 11602 then PySem.W.fnOf "holds" "Plate.holds" (defArgs s_Plate_holds) (defBody s_Plate_holds) (defScope s_Plate_holds) .none kV11602 dc11602 pm11602 an11602 cd11602 ct11602 else if i = 11603 then PySem.W.fnOf "says" "Plate.says" (defArgs s_Plate_says) (defBody s_Plate_says) (defScope s_Plate_says) .none kV11603 dc11603 pm11603 an11603 cd11603 ct11603 else if i = 11604 then PySem.W.fnOf "places" "Plate.places" (defArgs s_Plate_places) (defBody s_Plate_places) (defScope s_Plate_places) .none kV11604 dc11604 pm11604 an11604 cd11604 ct11604 else if i = 11900 then PySem.W.fnOf "__init__" "Book.__init__" (defArgs s_Book___init__) (defBody s_Book___init__) (defScope s_Book___init__) .none kV11900 dc11900 pm11900 an11900 cd11900 ct11900 else if i = 11901 then PySem.W.fnOf "stand" "Book.stand" (defArgs s_Book_stand) (defBody s_Book_stand) (defScope s_Book_stand) .none kV11901 dc11901 pm11901 an11901 cd11901 ct11901 else if i = 11902 then PySem.W.fnOf "restore" "Book.restore" (defArgs s_Book_restore) (defBody s_Book_restore) (defScope s_Book_restore) .none kV11902 dc11902 pm11902 an11902 cd11902 ct11902 else if i = 11903 then PySem.W.fnOf "remember" "Book.remember" (defArgs s_Book_remember) (defBody s_Book_remember) (defScope s_Book_remember) .none kV11903 dc11903 pm11903 an11903 cd11903 ct11903 else if i = 11904 then PySem.W.fnOf "forget" "Book.forget" (defArgs s_Book_forget) (defBody s_Book_forget) (defScope s_Book_forget) .none kV11904 dc11904 pm11904 an11904 cd11904 ct11904 else if i = 11905 then PySem.W.fnOf "need" "Book.need" (defArgs s_Book_need) (defBody s_Book_need) (defScope s_Book_need) .none kV11905 dc11905 pm11905 an11905 cd11905 ct11905 else if i = 11906 then PySem.W.fnOf "need_two" "Book.need_two" (defArgs s_Book_need_two) (defBody s_Book_need_two) (defScope s_Book_need_two) .none kV11906 dc11906 pm11906 an11906 cd11906 ct11906 else if i = 11907 then PySem.W.fnOf "put" "Book.put" (defArgs s_Book_put) (defBody s_Book_put) (defScope s_Book_put) .none kV11907 dc11907 pm11907 an11907 cd11907 ct11907 else if i = 11908 then PySem.W.fnOf "drop" "Book.drop" (defArgs s_Book_drop) (defBody s_Book_drop) (defScope s_Book_drop) .none kV11908 dc11908 pm11908 an11908 cd11908 ct11908 else if i = 11909 then PySem.W.fnOf "look" "Book.look" (defArgs s_Book_look) (defBody s_Book_look) (defScope s_Book_look) .none kV11909 dc11909 pm11909 an11909 cd11909 ct11909 else if i = 11910 then PySem.W.fnOf "verdict" "Book.verdict" (defArgs s_Book_verdict) (defBody s_Book_verdict) (defScope s_Book_verdict) .none kV11910 dc11910 pm11910 an11910 cd11910 ct11910 else if i = 11911 then PySem.W.fnOf "tie" "Book.tie" (defArgs s_Book_tie) (defBody s_Book_tie) (defScope s_Book_tie) .none kV11911 dc11911 pm11911 an11911 cd11911 ct11911 else if i = 11912 then PySem.W.fnOf "untie" "Book.untie" (defArgs s_Book_untie) (defBody s_Book_untie) (defScope s_Book_untie) .none kV11912 dc11912 pm11912 an11912 cd11912 ct11912 else if i = 11913 then PySem.W.fnOf "undo" "Book.undo" (defArgs s_Book_undo) (defBody s_Book_undo) (defScope s_Book_undo) .none kV11913 dc11913 pm11913 an11913 cd11913 ct11913 else if i = 11914 then PySem.W.fnOf "redo" "Book.redo" (defArgs s_Book_redo) (defBody s_Book_redo) (defScope s_Book_redo) .none kV11914 dc11914 pm11914 an11914 cd11914 ct11914 else if i = 11915 then PySem.W.fnOf "log" "Book.log" (defArgs s_Book_log) (defBody s_Book_log) (defScope s_Book_log) .none kV11915 dc11915 pm11915 an11915 cd11915 ct11915 else if i = 11916 then PySem.W.fnOf "twin" "Book.twin" (defArgs s_Book_twin) (defBody s_Book_twin) (defScope s_Book_twin) .none kV11916 dc11916 pm11916 an11916 cd11916 ct11916 else if i = 11917 then PySem.W.fnOf "names" "Book.names" (defArgs s_Book_names) (defBody s_Book_names) (defScope s_Book_names) .none kV11917 dc11917 pm11917 an11917 cd11917 ct11917 else if i = 11918 then PySem.W.fnOf "window" "Book.window" (defArgs s_Book_window) (defBody s_Book_window) (defScope s_Book_window) .none kV11918 dc11918 pm11918 an11918 cd11918 ct11918 else if i = 11919 then PySem.W.fnOf "stars_of" "Book.stars_of" (defArgs s_Book_stars_of) (defBody s_Book_stars_of) (defScope s_Book_stars_of) .none kV11919 dc11919 pm11919 an11919 cd11919 ct11919 else if i = 11920 then PySem.W.fnOf "ties" "Book.ties" (defArgs s_Book_ties) (defBody s_Book_ties) (defScope s_Book_ties) .none kV11920 dc11920 pm11920 an11920 cd11920 ct11920 else if i = 11921 then PySem.W.fnOf "lies" "Book.lies" (defArgs s_Book_lies) (defBody s_Book_lies) (defScope s_Book_lies) .none kV11921 dc11921 pm11921 an11921 cd11921 ct11921 else if i = 11922 then PySem.W.fnOf "chain" "Book.chain" (defArgs s_Book_chain) (defBody s_Book_chain) (defScope s_Book_chain) .none kV11922 dc11922 pm11922 an11922 cd11922 ct11922 else if i = 11923 then PySem.W.fnOf "sky" "Book.sky" (defArgs s_Book_sky) (defBody s_Book_sky) (defScope s_Book_sky) .none kV11923 dc11923 pm11923 an11923 cd11923 ct11923 else if i = 11924 then PySem.W.fnOf "skies" "Book.skies" (defArgs s_Book_skies) (defBody s_Book_skies) (defScope s_Book_skies) .none kV11924 dc11924 pm11924 an11924 cd11924 ct11924 else if i = 11925 then PySem.W.fnOf "laid" "Book.laid" (defArgs s_Book_laid) (defBody s_Book_laid) (defScope s_Book_laid) .none kV11925 dc11925 pm11925 an11925 cd11925 ct11925 else if i = 11926 then PySem.W.fnOf "sky_laid" "Book.sky_laid" (defArgs s_Book_sky_laid) (defBody s_Book_sky_laid) (defScope s_Book_sky_laid) .none kV11926 dc11926 pm11926 an11926 cd11926 ct11926 else if i = 11927 then PySem.W.fnOf "ask" "Book.ask" (defArgs s_Book_ask) (defBody s_Book_ask) (defScope s_Book_ask) .none kV11927 dc11927 pm11927 an11927 cd11927 ct11927 else if i = 11928 then PySem.W.fnOf "chart" "Book.chart" (defArgs s_Book_chart) (defBody s_Book_chart) (defScope s_Book_chart) .none kV11928 dc11928 pm11928 an11928 cd11928 ct11928 else if i = 11929 then PySem.W.fnOf "face" "Book.face" (defArgs s_Book_face) (defBody s_Book_face) (defScope s_Book_face) .none kV11929 dc11929 pm11929 an11929 cd11929 ct11929 else if i = 11930 then PySem.W.fnOf "form" "Book.form" (defArgs s_Book_form) (defBody s_Book_form) (defScope s_Book_form) .none kV11930 dc11930 pm11930 an11930 cd11930 ct11930 else if i = 11931 then PySem.W.fnOf "matches" "Book.matches" (defArgs s_Book_matches) (defBody s_Book_matches) (defScope s_Book_matches) .none kV11931 dc11931 pm11931 an11931 cd11931 ct11931 else if i = 11932 then PySem.W.fnOf "apart" "Book.apart" (defArgs s_Book_apart) (defBody s_Book_apart) (defScope s_Book_apart) .none kV11932 dc11932 pm11932 an11932 cd11932 ct11932 else if i = 11933 then PySem.W.fnOf "layings" "Book.layings" (defArgs s_Book_layings) (defBody s_Book_layings) (defScope s_Book_layings) .none kV11933 dc11933 pm11933 an11933 cd11933 ct11933 else if i = 11934 then PySem.W.fnOf "sure" "Book.sure" (defArgs s_Book_sure) (defBody s_Book_sure) (defScope s_Book_sure) .none kV11934 dc11934 pm11934 an11934 cd11934 ct11934 else if i = 11935 then PySem.W.fnOf "carries" "Book.carries" (defArgs s_Book_carries) (defBody s_Book_carries) (defScope s_Book_carries) .none kV11935 dc11935 pm11935 an11935 cd11935 ct11935 else if i = 11936 then PySem.W.fnOf "would" "Book.would" (defArgs s_Book_would) (defBody s_Book_would) (defScope s_Book_would) .none kV11936 dc11936 pm11936 an11936 cd11936 ct11936 else if i = 11937 then PySem.W.fnOf "mends" "Book.mends" (defArgs s_Book_mends) (defBody s_Book_mends) (defScope s_Book_mends) .none kV11937 dc11937 pm11937 an11937 cd11937 ct11937 else if i = 21 then PySem.W.fnOf "_law_draws" "_law_draws" (defArgs s_l_draws) (defBody s_l_draws) (defScope s_l_draws) .none kV21 dc21 pm21 an21 cd21 ct21 else if i = 22 then PySem.W.fnOf "_law_turned" "_law_turned" (defArgs s_l_turned) (defBody s_l_turned) (defScope s_l_turned) .none kV22 dc22 pm22 an22 cd22 ct22 else if i = 23 then PySem.W.fnOf "_law_moved" "_law_moved" (defArgs s_l_moved) (defBody s_l_moved) (defScope s_l_moved) .none kV23 dc23 pm23 an23 cd23 ct23 else if i = 24 then PySem.W.fnOf "_law_back" "_law_back" (defArgs s_l_back) (defBody s_l_back) (defScope s_l_back) .none kV24 dc24 pm24 an24 cd24 ct24 else if i = 25 then PySem.W.fnOf "_law_same" "_law_same" (defArgs s_l_same) (defBody s_l_same) (defScope s_l_same) .none kV25 dc25 pm25 an25 cd25 ct25 else if i = 26 then PySem.W.fnOf "_law_heaven" "_law_heaven" (defArgs s_l_heaven) (defBody s_l_heaven) (defScope s_l_heaven) .none kV26 dc26 pm26 an26 cd26 ct26 else if i = 27 then PySem.W.fnOf "_law_pane" "_law_pane" (defArgs s_l_pane) (defBody s_l_pane) (defScope s_l_pane) .none kV27 dc27 pm27 an27 cd27 ct27 else if i = 28 then PySem.W.fnOf "_law_home" "_law_home" (defArgs s_l_home) (defBody s_l_home) (defScope s_l_home) .none kV28 dc28 pm28 an28 cd28 ct28 else if i = 29 then PySem.W.fnOf "_law_put" "_law_put" (defArgs s_l_put) (defBody s_l_put) (defScope s_l_put) .none kV29 dc29 pm29 an29 cd29 ct29 else if i = 30 then PySem.W.fnOf "_law_due" "_law_due" (defArgs s_l_due) (defBody s_l_due) (defScope s_l_due) .none kV30 dc30 pm30 an30 cd30 ct30 else if i = 31 then PySem.W.fnOf "_law_made" "_law_made" (defArgs s_l_made) (defBody s_l_made) (defScope s_l_made) .none kV31 dc31 pm31 an31 cd31 ct31 else if i = 32 then PySem.W.fnOf "law" "law" (defArgs s_law) (defBody s_law) (defScope s_law) .none kV32 dc32 pm32 an32 cd32 ct32 else (PySem.W.fnOf "law" "law" (defArgs s_law) (defBody s_law) (defScope s_law) .none kV32 dc32 pm32 an32 cd32 ct32)) (fun i => if i = 16 then k16 else if i = 19 then k19 else if i = 2 then k2 else if i = 3 then k3 else if i = 4 then k4 else if i = 5 then k5 else if i = 6 then k6 else if i = 7 then k7 else 0) := {
    c_Plate := ⟨clOf_at ka16, PySem.W.mg_of X G ka16, ⟨kpg16, khd16, kpo16, ksa16⟩⟩,
    k_Plate := ⟨kmk16, a11600, i11600, kkp16⟩,
    c_Book := ⟨clOf_at ka19, PySem.W.mg_of X G ka19, ⟨kpg19, khd19, kpo19, ksa19⟩⟩,
    k_Book := ⟨kmk19, a11900, i11900, kkp19⟩,
    f_name := (fldOk_cons (clOf_at ka16) ⟨kpg16, khd16, kpo16, ksa16⟩ kn16_name fldOk_nil),
    f_width := (fldOk_cons (clOf_at ka16) ⟨kpg16, khd16, kpo16, ksa16⟩ kn16_width fldOk_nil),
    f_height := (fldOk_cons (clOf_at ka16) ⟨kpg16, khd16, kpo16, ksa16⟩ kn16_height fldOk_nil),
    f_limit := (fldOk_cons (clOf_at ka16) ⟨kpg16, khd16, kpo16, ksa16⟩ kn16_limit fldOk_nil),
    f_lights := (fldOk_cons (clOf_at ka16) ⟨kpg16, khd16, kpo16, ksa16⟩ kn16_lights fldOk_nil),
    f_held := (fldOk_cons (clOf_at ka19) ⟨kpg19, khd19, kpo19, ksa19⟩ kn19_held fldOk_nil),
    f_tied := (fldOk_cons (clOf_at ka19) ⟨kpg19, khd19, kpo19, ksa19⟩ kn19_tied fldOk_nil),
    f_upcoming := (fldOk_cons (clOf_at ka19) ⟨kpg19, khd19, kpo19, ksa19⟩ kn19_upcoming fldOk_nil),
    f_past := (fldOk_cons (clOf_at ka19) ⟨kpg19, khd19, kpo19, ksa19⟩ kn19_past fldOk_nil),
    f_future := (fldOk_cons (clOf_at ka19) ⟨kpg19, khd19, kpo19, ksa19⟩ kn19_future fldOk_nil),
    d0 := ⟨fun_mk (st := s__wall) l0 c0 k0, PySem.W.mg_of X G a0, (fun_mk (st := s__wall) l0 c0 k0).binds (ps := ["k"]) (fun _ _ _ _ _ _ us hl => match us, hl with | [_], _ => rfl)⟩,
    d14 := ⟨fun_mk (st := s_is_name) l14 c14 k14, PySem.W.mg_of X G a14, (fun_mk (st := s_is_name) l14 c14 k14).binds (ps := ["name"]) (fun _ _ _ _ _ _ us hl => match us, hl with | [_], _ => rfl)⟩,
    d15 := ⟨fun_mk (st := s_is_glass) l15 c15 k15, PySem.W.mg_of X G a15, (fun_mk (st := s_is_glass) l15 c15 k15).binds (ps := ["width", "height", "limit", "stars"]) (fun _ _ _ _ _ _ us hl => match us, hl with | [_, _, _, _], _ => rfl)⟩,
    d11600 := ⟨fun_mk (st := s_Plate___init__) l11600 c11600 k_11600, ⟨a11600, i11600, k_11600⟩, (fun_mk (st := s_Plate___init__) l11600 c11600 k_11600).binds (ps := ["self", "name", "width", "height", "limit", "stars"]) (fun _ _ _ _ _ _ us hl => match us, hl with | [_, _, _, _, _, _], _ => rfl)⟩,
    d11601 := ⟨fun_mk (st := s_Plate_stars) l11601 c11601 k_11601, ⟨a11601, i11601, k_11601⟩, (fun_mk (st := s_Plate_stars) l11601 c11601 k_11601).binds (ps := ["self"]) (fun _ _ _ _ _ _ us hl => match us, hl with | [_], _ => rfl)⟩,
    d11602 := ⟨fun_mk (st := s_Plate_holds) l11602 c11602 k_11602, ⟨a11602, i11602, k_11602⟩, (fun_mk (st := s_Plate_holds) l11602 c11602 k_11602).binds (ps := ["self", "place"]) (fun _ _ _ _ _ _ us hl => match us, hl with | [_, _], _ => rfl)⟩,
    d11603 := ⟨fun_mk (st := s_Plate_says) l11603 c11603 k_11603, ⟨a11603, i11603, k_11603⟩, (fun_mk (st := s_Plate_says) l11603 c11603 k_11603).binds (ps := ["self", "place"]) (fun _ _ _ _ _ _ us hl => match us, hl with | [_, _], _ => rfl)⟩,
    d11604 := ⟨fun_mk (st := s_Plate_places) l11604 c11604 k_11604, ⟨a11604, i11604, k_11604⟩, (fun_mk (st := s_Plate_places) l11604 c11604 k_11604).binds (ps := ["self"]) (fun _ _ _ _ _ _ us hl => match us, hl with | [_], _ => rfl)⟩,
    d11900 := ⟨fun_mk (st := s_Book___init__) l11900 c11900 k_11900, ⟨a11900, i11900, k_11900⟩, (fun_mk (st := s_Book___init__) l11900 c11900 k_11900).binds (ps := ["self"]) (fun _ _ _ _ _ _ us hl => match us, hl with | [_], _ => rfl)⟩,
    d11901 := ⟨fun_mk (st := s_Book_stand) l11901 c11901 k_11901, ⟨a11901, i11901, k_11901⟩, (fun_mk (st := s_Book_stand) l11901 c11901 k_11901).binds (ps := ["self"]) (fun _ _ _ _ _ _ us hl => match us, hl with | [_], _ => rfl)⟩,
    d11902 := ⟨fun_mk (st := s_Book_restore) l11902 c11902 k_11902, ⟨a11902, i11902, k_11902⟩, (fun_mk (st := s_Book_restore) l11902 c11902 k_11902).binds (ps := ["self", "stand"]) (fun _ _ _ _ _ _ us hl => match us, hl with | [_, _], _ => rfl)⟩,
    d11903 := ⟨fun_mk (st := s_Book_remember) l11903 c11903 k_11903, ⟨a11903, i11903, k_11903⟩, (fun_mk (st := s_Book_remember) l11903 c11903 k_11903).binds (ps := ["self", "deed"]) (fun _ _ _ _ _ _ us hl => match us, hl with | [_, _], _ => rfl)⟩,
    d11904 := ⟨fun_mk (st := s_Book_forget) l11904 c11904 k_11904, ⟨a11904, i11904, k_11904⟩, (fun_mk (st := s_Book_forget) l11904 c11904 k_11904).binds (ps := ["self"]) (fun _ _ _ _ _ _ us hl => match us, hl with | [_], _ => rfl)⟩,
    d11905 := ⟨fun_mk (st := s_Book_need) l11905 c11905 k_11905, ⟨a11905, i11905, k_11905⟩, (fun_mk (st := s_Book_need) l11905 c11905 k_11905).binds (ps := ["self", "name"]) (fun _ _ _ _ _ _ us hl => match us, hl with | [_, _], _ => rfl)⟩,
    d11906 := ⟨fun_mk (st := s_Book_need_two) l11906 c11906 k_11906, ⟨a11906, i11906, k_11906⟩, (fun_mk (st := s_Book_need_two) l11906 c11906 k_11906).binds (ps := ["self", "one", "other"]) (fun _ _ _ _ _ _ us hl => match us, hl with | [_, _, _], _ => rfl)⟩,
    d11907 := ⟨fun_mk (st := s_Book_put) l11907 c11907 k_11907, ⟨a11907, i11907, k_11907⟩, (fun_mk (st := s_Book_put) l11907 c11907 k_11907).binds (ps := ["self", "name", "width", "height", "limit", "stars"]) (fun _ _ _ _ _ _ us hl => match us, hl with | [_, _, _, _, _, _], _ => rfl)⟩,
    d11908 := ⟨fun_mk (st := s_Book_drop) l11908 c11908 k_11908, ⟨a11908, i11908, k_11908⟩, (fun_mk (st := s_Book_drop) l11908 c11908 k_11908).binds (ps := ["self", "name"]) (fun _ _ _ _ _ _ us hl => match us, hl with | [_, _], _ => rfl)⟩,
    d11909 := ⟨fun_mk (st := s_Book_look) l11909 c11909 k_11909, ⟨a11909, i11909, k_11909⟩, (fun_mk (st := s_Book_look) l11909 c11909 k_11909).binds (ps := ["self", "one", "other", "motion"]) (fun _ _ _ _ _ _ us hl => match us, hl with | [_, _, _, _], _ => rfl)⟩,
    d11910 := ⟨fun_mk (st := s_Book_verdict) l11910 c11910 k_11910, ⟨a11910, i11910, k_11910⟩, (fun_mk (st := s_Book_verdict) l11910 c11910 k_11910).binds (ps := ["self", "web", "one", "other", "motion"]) (fun _ _ _ _ _ _ us hl => match us, hl with | [_, _, _, _, _], _ => rfl)⟩,
    d11911 := ⟨fun_mk (st := s_Book_tie) l11911 c11911 k_11911, ⟨a11911, i11911, k_11911⟩, (fun_mk (st := s_Book_tie) l11911 c11911 k_11911).binds (ps := ["self", "one", "other", "motion"]) (fun _ _ _ _ _ _ us hl => match us, hl with | [_, _, _, _], _ => rfl)⟩,
    d11912 := ⟨fun_mk (st := s_Book_untie) l11912 c11912 k_11912, ⟨a11912, i11912, k_11912⟩, (fun_mk (st := s_Book_untie) l11912 c11912 k_11912).binds (ps := ["self", "number"]) (fun _ _ _ _ _ _ us hl => match us, hl with | [_, _], _ => rfl)⟩,
    d11913 := ⟨fun_mk (st := s_Book_undo) l11913 c11913 k_11913, ⟨a11913, i11913, k_11913⟩, (fun_mk (st := s_Book_undo) l11913 c11913 k_11913).binds (ps := ["self"]) (fun _ _ _ _ _ _ us hl => match us, hl with | [_], _ => rfl)⟩,
    d11914 := ⟨fun_mk (st := s_Book_redo) l11914 c11914 k_11914, ⟨a11914, i11914, k_11914⟩, (fun_mk (st := s_Book_redo) l11914 c11914 k_11914).binds (ps := ["self"]) (fun _ _ _ _ _ _ us hl => match us, hl with | [_], _ => rfl)⟩,
    d11915 := ⟨fun_mk (st := s_Book_log) l11915 c11915 k_11915, ⟨a11915, i11915, k_11915⟩, (fun_mk (st := s_Book_log) l11915 c11915 k_11915).binds (ps := ["self"]) (fun _ _ _ _ _ _ us hl => match us, hl with | [_], _ => rfl)⟩,
    d11916 := ⟨fun_mk (st := s_Book_twin) l11916 c11916 k_11916, ⟨a11916, i11916, k_11916⟩, (fun_mk (st := s_Book_twin) l11916 c11916 k_11916).binds (ps := ["self"]) (fun _ _ _ _ _ _ us hl => match us, hl with | [_], _ => rfl)⟩,
    d11917 := ⟨fun_mk (st := s_Book_names) l11917 c11917 k_11917, ⟨a11917, i11917, k_11917⟩, (fun_mk (st := s_Book_names) l11917 c11917 k_11917).binds (ps := ["self"]) (fun _ _ _ _ _ _ us hl => match us, hl with | [_], _ => rfl)⟩,
    d11918 := ⟨fun_mk (st := s_Book_window) l11918 c11918 k_11918, ⟨a11918, i11918, k_11918⟩, (fun_mk (st := s_Book_window) l11918 c11918 k_11918).binds (ps := ["self", "name"]) (fun _ _ _ _ _ _ us hl => match us, hl with | [_, _], _ => rfl)⟩,
    d11919 := ⟨fun_mk (st := s_Book_stars_of) l11919 c11919 k_11919, ⟨a11919, i11919, k_11919⟩, (fun_mk (st := s_Book_stars_of) l11919 c11919 k_11919).binds (ps := ["self", "name"]) (fun _ _ _ _ _ _ us hl => match us, hl with | [_, _], _ => rfl)⟩,
    d11920 := ⟨fun_mk (st := s_Book_ties) l11920 c11920 k_11920, ⟨a11920, i11920, k_11920⟩, (fun_mk (st := s_Book_ties) l11920 c11920 k_11920).binds (ps := ["self"]) (fun _ _ _ _ _ _ us hl => match us, hl with | [_], _ => rfl)⟩,
    d11921 := ⟨fun_mk (st := s_Book_lies) l11921 c11921 k_11921, ⟨a11921, i11921, k_11921⟩, (fun_mk (st := s_Book_lies) l11921 c11921 k_11921).binds (ps := ["self", "one", "other"]) (fun _ _ _ _ _ _ us hl => match us, hl with | [_, _, _], _ => rfl)⟩,
    d11922 := ⟨fun_mk (st := s_Book_chain) l11922 c11922 k_11922, ⟨a11922, i11922, k_11922⟩, (fun_mk (st := s_Book_chain) l11922 c11922 k_11922).binds (ps := ["self", "one", "other"]) (fun _ _ _ _ _ _ us hl => match us, hl with | [_, _, _], _ => rfl)⟩,
    d11923 := ⟨fun_mk (st := s_Book_sky) l11923 c11923 k_11923, ⟨a11923, i11923, k_11923⟩, (fun_mk (st := s_Book_sky) l11923 c11923 k_11923).binds (ps := ["self", "name"]) (fun _ _ _ _ _ _ us hl => match us, hl with | [_, _], _ => rfl)⟩,
    d11924 := ⟨fun_mk (st := s_Book_skies) l11924 c11924 k_11924, ⟨a11924, i11924, k_11924⟩, (fun_mk (st := s_Book_skies) l11924 c11924 k_11924).binds (ps := ["self"]) (fun _ _ _ _ _ _ us hl => match us, hl with | [_], _ => rfl)⟩,
    d11925 := ⟨fun_mk (st := s_Book_laid) l11925 c11925 k_11925, ⟨a11925, i11925, k_11925⟩, (fun_mk (st := s_Book_laid) l11925 c11925 k_11925).binds (ps := ["self", "web", "name"]) (fun _ _ _ _ _ _ us hl => match us, hl with | [_, _, _], _ => rfl)⟩,
    d11926 := ⟨fun_mk (st := s_Book_sky_laid) l11926 c11926 k_11926, ⟨a11926, i11926, k_11926⟩, (fun_mk (st := s_Book_sky_laid) l11926 c11926 k_11926).binds (ps := ["self", "name"]) (fun _ _ _ _ _ _ us hl => match us, hl with | [_, _], _ => rfl)⟩,
    d11927 := ⟨fun_mk (st := s_Book_ask) l11927 c11927 k_11927, ⟨a11927, i11927, k_11927⟩, (fun_mk (st := s_Book_ask) l11927 c11927 k_11927).binds (ps := ["self", "name", "place"]) (fun _ _ _ _ _ _ us hl => match us, hl with | [_, _, _], _ => rfl)⟩,
    d11928 := ⟨fun_mk (st := s_Book_chart) l11928 c11928 k_11928, ⟨a11928, i11928, k_11928⟩, (fun_mk (st := s_Book_chart) l11928 c11928 k_11928).binds (ps := ["self", "name"]) (fun _ _ _ _ _ _ us hl => match us, hl with | [_, _], _ => rfl)⟩,
    d11929 := ⟨fun_mk (st := s_Book_face) l11929 c11929 k_11929, ⟨a11929, i11929, k_11929⟩, (fun_mk (st := s_Book_face) l11929 c11929 k_11929).binds (ps := ["self", "name"]) (fun _ _ _ _ _ _ us hl => match us, hl with | [_, _], _ => rfl)⟩,
    d11930 := ⟨fun_mk (st := s_Book_form) l11930 c11930 k_11930, ⟨a11930, i11930, k_11930⟩, (fun_mk (st := s_Book_form) l11930 c11930 k_11930).binds (ps := ["self", "name"]) (fun _ _ _ _ _ _ us hl => match us, hl with | [_, _], _ => rfl)⟩,
    d11931 := ⟨fun_mk (st := s_Book_matches) l11931 c11931 k_11931, ⟨a11931, i11931, k_11931⟩, (fun_mk (st := s_Book_matches) l11931 c11931 k_11931).binds (ps := ["self", "one", "other"]) (fun _ _ _ _ _ _ us hl => match us, hl with | [_, _, _], _ => rfl)⟩,
    d11932 := ⟨fun_mk (st := s_Book_apart) l11932 c11932 k_11932, ⟨a11932, i11932, k_11932⟩, (fun_mk (st := s_Book_apart) l11932 c11932 k_11932).binds (ps := ["self", "one", "other"]) (fun _ _ _ _ _ _ us hl => match us, hl with | [_, _, _], _ => rfl)⟩,
    d11933 := ⟨fun_mk (st := s_Book_layings) l11933 c11933 k_11933, ⟨a11933, i11933, k_11933⟩, (fun_mk (st := s_Book_layings) l11933 c11933 k_11933).binds (ps := ["self", "one", "other", "least"]) (fun _ _ _ _ _ _ us hl => match us, hl with | [_, _, _, _], _ => rfl)⟩,
    d11934 := ⟨fun_mk (st := s_Book_sure) l11934 c11934 k_11934, ⟨a11934, i11934, k_11934⟩, (fun_mk (st := s_Book_sure) l11934 c11934 k_11934).binds (ps := ["self", "one", "other", "least", "place"]) (fun _ _ _ _ _ _ us hl => match us, hl with | [_, _, _, _, _], _ => rfl)⟩,
    d11935 := ⟨fun_mk (st := s_Book_carries) l11935 c11935 k_11935, ⟨a11935, i11935, k_11935⟩, (fun_mk (st := s_Book_carries) l11935 c11935 k_11935).binds (ps := ["self", "number"]) (fun _ _ _ _ _ _ us hl => match us, hl with | [_, _], _ => rfl)⟩,
    d11936 := ⟨fun_mk (st := s_Book_would) l11936 c11936 k_11936, ⟨a11936, i11936, k_11936⟩, (fun_mk (st := s_Book_would) l11936 c11936 k_11936).binds (ps := ["self", "one", "other", "motion"]) (fun _ _ _ _ _ _ us hl => match us, hl with | [_, _, _, _], _ => rfl)⟩,
    d11937 := ⟨fun_mk (st := s_Book_mends) l11937 c11937 k_11937, ⟨a11937, i11937, k_11937⟩, (fun_mk (st := s_Book_mends) l11937 c11937 k_11937).binds (ps := ["self", "one", "other", "motion"]) (fun _ _ _ _ _ _ us hl => match us, hl with | [_, _, _, _], _ => rfl)⟩,
    d21 := ⟨fun_mk (st := s_l_draws) l21 c21 k21, PySem.W.mg_of X G a21, (fun_mk (st := s_l_draws) l21 c21 k21).binds (ps := ["_law_script", "_law_at", "_law_many"]) (fun _ _ _ _ _ _ us hl => match us, hl with | [_, _, _], _ => rfl)⟩,
    d22 := ⟨fun_mk (st := s_l_turned) l22 c22 k22, PySem.W.mg_of X G a22, (fun_mk (st := s_l_turned) l22 c22 k22).binds (ps := ["_law_turn", "_law_x", "_law_y"]) (fun _ _ _ _ _ _ us hl => match us, hl with | [_, _, _], _ => rfl)⟩,
    d23 := ⟨fun_mk (st := s_l_moved) l23 c23 k23, PySem.W.mg_of X G a23, (fun_mk (st := s_l_moved) l23 c23 k23).binds (ps := ["_law_motion", "_law_place"]) (fun _ _ _ _ _ _ us hl => match us, hl with | [_, _], _ => rfl)⟩,
    d24 := ⟨fun_mk (st := s_l_back) l24 c24 k24, PySem.W.mg_of X G a24, (fun_mk (st := s_l_back) l24 c24 k24).binds (ps := ["_law_motion"]) (fun _ _ _ _ _ _ us hl => match us, hl with | [_], _ => rfl)⟩,
    d25 := ⟨fun_mk (st := s_l_same) l25 c25 k25, PySem.W.mg_of X G a25, (fun_mk (st := s_l_same) l25 c25 k25).binds (ps := ["_law_found", "_law_due_here"]) (fun _ _ _ _ _ _ us hl => match us, hl with | [_, _], _ => rfl)⟩,
    d26 := ⟨fun_mk (st := s_l_heaven) l26 c26 k26, PySem.W.mg_of X G a26, (fun_mk (st := s_l_heaven) l26 c26 k26).binds (ps := ["_law_script"]) (fun _ _ _ _ _ _ us hl => match us, hl with | [_], _ => rfl)⟩,
    d27 := ⟨fun_mk (st := s_l_pane) l27 c27 k27, PySem.W.mg_of X G a27, (fun_mk (st := s_l_pane) l27 c27 k27).binds (ps := ["_law_name", "_law_home_here", "_law_heaven_here", "_law_d"]) (fun _ _ _ _ _ _ us hl => match us, hl with | [_, _, _, _], _ => rfl)⟩,
    d28 := ⟨fun_mk (st := s_l_home) l28 c28 k28, PySem.W.mg_of X G a28, (fun_mk (st := s_l_home) l28 c28 k28).binds (ps := ["_law_d"]) (fun _ _ _ _ _ _ us hl => match us, hl with | [_], _ => rfl)⟩,
    d29 := ⟨fun_mk (st := s_l_put) l29 c29 k29, PySem.W.mg_of X G a29, (fun_mk (st := s_l_put) l29 c29 k29).binds (ps := ["_law_book", "_law_pane_here", "_law_handed"]) (fun _ _ _ _ _ _ us hl => match us, hl with | [_, _, _], _ => rfl)⟩,
    d30 := ⟨fun_mk (st := s_l_due) l30 c30 k30, PySem.W.mg_of X G a30, (fun_mk (st := s_l_due) l30 c30 k30).binds (ps := ["_law_panes", "_law_pane_here"]) (fun _ _ _ _ _ _ us hl => match us, hl with | [_, _], _ => rfl)⟩,
    d31 := ⟨fun_mk (st := s_l_made) l31 c31 k31, PySem.W.mg_of X G a31, (fun_mk (st := s_l_made) l31 c31 k31).binds (ps := ["_law_d", "_law_heaven_here"]) (fun _ _ _ _ _ _ us hl => match us, hl with | [_, _], _ => rfl)⟩,
    d32 := ⟨fun_mk (st := s_law) l32 c32 k32, PySem.W.mg_of X G a32, (fun_mk (st := s_law) l32 c32 k32).binds (ps := ["_law_script"]) (fun _ _ _ _ _ _ us hl => match us, hl with | [_], _ => rfl)⟩,
    c_GlassError := ⟨clOf_at ka2, PySem.W.mg_of X G ka2, kx2, kk2, khs2, kt2⟩,
    c_BadName := ⟨clOf_at ka3, PySem.W.mg_of X G ka3, kx3, kk3, khs3, kt3⟩,
    c_BadPlate := ⟨clOf_at ka4, PySem.W.mg_of X G ka4, kx4, kk4, khs4, kt4⟩,
    c_NoPlate := ⟨clOf_at ka5, PySem.W.mg_of X G ka5, kx5, kk5, khs5, kt5⟩,
    c_Taken := ⟨clOf_at ka6, PySem.W.mg_of X G ka6, kx6, kk6, khs6, kt6⟩,
    c_Full := ⟨clOf_at ka7, PySem.W.mg_of X G ka7, kx7, kk7, khs7, kt7⟩,
    h_GlassError := (hits_cons (clOf_at ka2) kh_2_2 (hits_cons (clOf_at ka3) kh_3_2 (hits_cons (clOf_at ka4) kh_4_2 (hits_cons (clOf_at ka5) kh_5_2 (hits_cons (clOf_at ka6) kh_6_2 (hits_cons (clOf_at ka7) kh_7_2 hits_nil)))))),
    i_ValueError := (isis_cons (clOf_at ka2) ⟨khg2, khk2, khs2, khd2, kha2, oc_n, oc_t, khm2⟩ ki_2_ValueError (isis_cons (clOf_at ka3) ⟨khg3, khk3, khs3, khd3, kha3, oc_n, oc_t, khm3⟩ ki_3_ValueError (isis_cons (clOf_at ka4) ⟨khg4, khk4, khs4, khd4, kha4, oc_n, oc_t, khm4⟩ ki_4_ValueError (isis_cons (clOf_at ka5) ⟨khg5, khk5, khs5, khd5, kha5, oc_n, oc_t, khm5⟩ ki_5_ValueError (isis_cons (clOf_at ka6) ⟨khg6, khk6, khs6, khd6, kha6, oc_n, oc_t, khm6⟩ ki_6_ValueError (isis_cons (clOf_at ka7) ⟨khg7, khk7, khs7, khd7, kha7, oc_n, oc_t, khm7⟩ ki_7_ValueError isis_nil)))))),
    i_BadName := (isis_cons (clOf_at ka2) ⟨khg2, khk2, khs2, khd2, kha2, oc_n, oc_t, khm2⟩ ki_2_BadName (isis_cons (clOf_at ka3) ⟨khg3, khk3, khs3, khd3, kha3, oc_n, oc_t, khm3⟩ ki_3_BadName (isis_cons (clOf_at ka4) ⟨khg4, khk4, khs4, khd4, kha4, oc_n, oc_t, khm4⟩ ki_4_BadName (isis_cons (clOf_at ka5) ⟨khg5, khk5, khs5, khd5, kha5, oc_n, oc_t, khm5⟩ ki_5_BadName (isis_cons (clOf_at ka6) ⟨khg6, khk6, khs6, khd6, kha6, oc_n, oc_t, khm6⟩ ki_6_BadName (isis_cons (clOf_at ka7) ⟨khg7, khk7, khs7, khd7, kha7, oc_n, oc_t, khm7⟩ ki_7_BadName isis_nil)))))),
    i_BadPlate := (isis_cons (clOf_at ka2) ⟨khg2, khk2, khs2, khd2, kha2, oc_n, oc_t, khm2⟩ ki_2_BadPlate (isis_cons (clOf_at ka3) ⟨khg3, khk3, khs3, khd3, kha3, oc_n, oc_t, khm3⟩ ki_3_BadPlate (isis_cons (clOf_at ka4) ⟨khg4, khk4, khs4, khd4, kha4, oc_n, oc_t, khm4⟩ ki_4_BadPlate (isis_cons (clOf_at ka5) ⟨khg5, khk5, khs5, khd5, kha5, oc_n, oc_t, khm5⟩ ki_5_BadPlate (isis_cons (clOf_at ka6) ⟨khg6, khk6, khs6, khd6, kha6, oc_n, oc_t, khm6⟩ ki_6_BadPlate (isis_cons (clOf_at ka7) ⟨khg7, khk7, khs7, khd7, kha7, oc_n, oc_t, khm7⟩ ki_7_BadPlate isis_nil)))))),
    i_Taken := (isis_cons (clOf_at ka2) ⟨khg2, khk2, khs2, khd2, kha2, oc_n, oc_t, khm2⟩ ki_2_Taken (isis_cons (clOf_at ka3) ⟨khg3, khk3, khs3, khd3, kha3, oc_n, oc_t, khm3⟩ ki_3_Taken (isis_cons (clOf_at ka4) ⟨khg4, khk4, khs4, khd4, kha4, oc_n, oc_t, khm4⟩ ki_4_Taken (isis_cons (clOf_at ka5) ⟨khg5, khk5, khs5, khd5, kha5, oc_n, oc_t, khm5⟩ ki_5_Taken (isis_cons (clOf_at ka6) ⟨khg6, khk6, khs6, khd6, kha6, oc_n, oc_t, khm6⟩ ki_6_Taken (isis_cons (clOf_at ka7) ⟨khg7, khk7, khs7, khd7, kha7, oc_n, oc_t, khm7⟩ ki_7_Taken isis_nil)))))),
    i_Full := (isis_cons (clOf_at ka2) ⟨khg2, khk2, khs2, khd2, kha2, oc_n, oc_t, khm2⟩ ki_2_Full (isis_cons (clOf_at ka3) ⟨khg3, khk3, khs3, khd3, kha3, oc_n, oc_t, khm3⟩ ki_3_Full (isis_cons (clOf_at ka4) ⟨khg4, khk4, khs4, khd4, kha4, oc_n, oc_t, khm4⟩ ki_4_Full (isis_cons (clOf_at ka5) ⟨khg5, khk5, khs5, khd5, kha5, oc_n, oc_t, khm5⟩ ki_5_Full (isis_cons (clOf_at ka6) ⟨khg6, khk6, khs6, khd6, kha6, oc_n, oc_t, khm6⟩ ki_6_Full (isis_cons (clOf_at ka7) ⟨khg7, khk7, khs7, khd7, kha7, oc_n, oc_t, khm7⟩ ki_7_Full isis_nil)))))),
    b_ValueError := PySem.W.mg_none_of X G z_ValueError,
    b_bool := PySem.W.mg_none_of X G z_bool,
    b_dict := PySem.W.mg_none_of X G z_dict,
    b_int := PySem.W.mg_none_of X G z_int,
    b_isinstance := PySem.W.mg_none_of X G z_isinstance,
    b_len := PySem.W.mg_none_of X G z_len,
    b_list := PySem.W.mg_none_of X G z_list,
    b_min := PySem.W.mg_none_of X G z_min,
    b_range := PySem.W.mg_none_of X G z_range,
    b_sorted := PySem.W.mg_none_of X G z_sorted,
    b_str := PySem.W.mg_none_of X G z_str,
    b_tuple := PySem.W.mg_none_of X G z_tuple,
    g_BRIGHT_MOST := ⟨.int 9, _, PySem.W.mg_of X G y_BRIGHT_MOST, ⟨_, rfl⟩, fun _ => rfl⟩,
    g_LETTERS := ⟨.str "abcdefghijklmnopqrstuvwxyz", _, PySem.W.mg_of X G y_LETTERS, ⟨_, rfl⟩, fun _ => rfl⟩,
    g_NAME_MOST := ⟨.int 8, _, PySem.W.mg_of X G y_NAME_MOST, ⟨_, rfl⟩, fun _ => rfl⟩,
    g_PLATES_MOST := ⟨.int 12, _, PySem.W.mg_of X G y_PLATES_MOST, ⟨_, rfl⟩, fun _ => rfl⟩,
    g_SIDE_MOST := ⟨.int 8, _, PySem.W.mg_of X G y_SIDE_MOST, ⟨_, rfl⟩, fun _ => rfl⟩,
    g_STARS_MOST := ⟨.int 8, _, PySem.W.mg_of X G y_STARS_MOST, ⟨_, rfl⟩, fun _ => rfl⟩ }
  exact ⟨PySem.W.fnOf "law" "law" (defArgs s_law) (defBody s_law) (defScope s_law) .none kV32 dc32 pm32 an32 cd32 ct32, fun s v => .of_eq rfl, fun base _ _ => ok_law T⟩
/-! ### operations, where they hold -/
abbrev iW (i : Int) : W := .da (.int i)
theorem tup_lst (S : Sto) (ds : List D) : tupW S (.da (.lst ds)) = none := rfl
theorem add_ii (i j : Int) (S : Sto) : addD (.da (.int i)) (.da (.int j)) S = .ok (.da (.int (i + j))) S := rfl
theorem addC_ii (i j : Int) (S : Sto) : addC (.da (.int i)) (.da (.int j)) S = .ok (.da (.int (i + j))) S := rfl
theorem add_ss (x y : Str) (S : Sto) (h : x.length + y.length ≤ sizeLine) : addD (.da (.str x)) (.da (.str y)) S = .ok (.da (.str (x ++ y))) S := by
  unfold addD addF addV
  simp only [ifc_pos h]
theorem lst_dats (a : List D) : datC (.lst (a.map .da)) = some (.lst a) := by simp only [datC, dats_da, Option.map]
theorem add_ll (a b : List D) (S : Sto) (h : a.length + b.length ≤ sizeLine) : addD (.da (.lst a)) (.da (.lst b)) S = .ok (.da (.lst (a ++ b))) S := by
  unfold addD addF addV
  simp only [tupW, catC, lstW, List.length_map, ifc_pos h, mkD, ← List.map_append, lst_dats]
theorem add_tt (x y : D) (a b : List D) (S : Sto) (h : a.length + b.length + 2 ≤ sizeLine) : addD (.da (.tup (x :: a))) (.da (.tup (y :: b))) S = .ok (.da (.tup (x :: a ++ y :: b))) S := by
  unfold addD addF addV
  simp only [tupW, List.map_cons, dats, dats_da]
  rw [ifc_pos ⟨rfl, rfl, by simp only [List.length_cons, List.length_map]; omega⟩]
theorem sub_ii (i j : Int) (S : Sto) : vl2 subW (.da (.int i)) (.da (.int j)) S = .ok (.da (.int (i - j))) S := rfl
theorem neg_i (i : Int) (S : Sto) : vl1 negW (.da (.int i)) S = .ok (.da (.int (-i))) S := rfl
theorem lt_ii (i j : Int) (S : Sto) : vl2 ltW (.da (.int i)) (.da (.int j)) S = .ok (.da (.bl (dec (i < j)))) S := rfl
theorem le_ii (i j : Int) (S : Sto) : vl2 leW (.da (.int i)) (.da (.int j)) S = .ok (.da (.bl (dec (i ≤ j)))) S := rfl
theorem gt_ii (i j : Int) (S : Sto) : vl2 gtW (.da (.int i)) (.da (.int j)) S = .ok (.da (.bl (dec (j < i)))) S := rfl
theorem ge_ii (i j : Int) (S : Sto) : vl2 geW (.da (.int i)) (.da (.int j)) S = .ok (.da (.bl (dec (j ≤ i)))) S := rfl
theorem mod_ok (i j : Int) (S : Sto) (h : 0 < j) : vl2 modW (.da (.int i)) (.da (.int j)) S = .ok (.da (.int (i % j))) S := by
  unfold vl2 modW wIg
  simp only [ifc_pos h, lift]
theorem div_ok (i j : Int) (S : Sto) (h : 0 < j) (h2 : j < 1073741824) : vl2 divW (.da (.int i)) (.da (.int j)) S = .ok (.da (.int (i / j))) S := by
  unfold vl2 divW wIg
  simp only [ifc_pos (And.intro h h2), lift]
theorem mul_r (i j : Int) (S : Sto) (h : -1000000000 < j) (h2 : j < 1000000000) : vl2 mulW (.da (.int i)) (.da (.int j)) S = .ok (.da (.int (i * j))) S := by
  have q : (-(2 ^ 64) < i ∧ i < 2 ^ 64) ∨ (-(2 ^ 64) < j ∧ j < 2 ^ 64) := .inr ⟨Int.lt_trans (by decide) h, Int.lt_trans h2 (by decide)⟩
  unfold vl2 mulW wIg
  simp only [ifc_pos q, lift]
theorem mul_l (i j : Int) (S : Sto) (h : -1000000000 < i) (h2 : i < 1000000000) : vl2 mulW (.da (.int i)) (.da (.int j)) S = .ok (.da (.int (i * j))) S := by
  have q : (-(2 ^ 64) < i ∧ i < 2 ^ 64) ∨ (-(2 ^ 64) < j ∧ j < 2 ^ 64) := .inl ⟨Int.lt_trans (by decide) h, Int.lt_trans h2 (by decide)⟩
  unfold vl2 mulW wIg
  simp only [ifc_pos q, lift]
theorem pow_ok (i j : Int) (S : Sto) (h : 0 ≤ j) (h2 : j ≤ 1000000) (h3 : i.natAbs < 2 ^ 64) : vl2 powW (.da (.int i)) (.da (.int j)) S = .ok (.da (.int (i ^ j.toNat))) S := by
  unfold vl2 powW wIg
  simp only [ifc_pos (And.intro h (And.intro h2 h3)), lift]
theorem eq_ii (i j : Int) (S : Sto) : vl2 eqW (.da (.int i)) (.da (.int j)) S = .ok (.da (.bl (dec (i = j)))) S := rfl
theorem eq_ss (i j : Str) (S : Sto) : vl2 eqW (.da (.str i)) (.da (.str j)) S = .ok (.da (.bl (dec (i = j)))) S := rfl
theorem eq_bb (i j : Bool) (S : Sto) : vl2 eqW (.da (.bl i)) (.da (.bl j)) S = .ok (.da (.bl (dec (i = j)))) S := rfl
theorem ne_ii (i j : Int) (S : Sto) : vl2 neW (.da (.int i)) (.da (.int j)) S = .ok (.da (.bl (!dec (i = j)))) S := rfl
theorem ne_ss (i j : Str) (S : Sto) : vl2 neW (.da (.str i)) (.da (.str j)) S = .ok (.da (.bl (!dec (i = j)))) S := rfl
theorem ne_bb (i j : Bool) (S : Sto) : vl2 neW (.da (.bl i)) (.da (.bl j)) S = .ok (.da (.bl (!dec (i = j)))) S := rfl
theorem is_non (x : W) (S : Sto) : vl2 isNW x (.da .non) S = lift ((isN x).map fun b => .da (.bl b)) S := rfl
theorem isnot_non (x : W) (S : Sto) : vl2 notNW x (.da .non) S = lift ((isN x).map fun b => .da (.bl (!b))) S := rfl
theorem min_ii (i j : Int) (S : Sto) : vlN min2W [.da (.int i), .da (.int j)] S = .ok (.da (.int (if j < i then j else i))) S := rfl
theorem max_ii (i j : Int) (S : Sto) : vlN max2W [.da (.int i), .da (.int j)] S = .ok (.da (.int (if j > i then j else i))) S := rfl
theorem int_i (i : Int) (S : Sto) : vlN intW [.da (.int i)] S = .ok (.da (.int i)) S := rfl
theorem int_b (b : Bool) (S : Sto) : vlN intW [.da (.bl b)] S = .ok (.da (.int (if b then 1 else 0))) S := rfl
theorem len_c (n : Nat) (S : Sto) : vlN lenW [.lo n] S = lift (lenW [.lo n] S) S := rfl
theorem rng1_ok (j : Int) (h : 0 ≤ j) (h2 : j ≤ 1000000) : rng1 [.da (.int j)] = some (0, j.toNat) := by
  exact ifc_pos ⟨by omega, by omega⟩
theorem rng2_ok (i j : Int) (h1 : -1000000 ≤ i) (h2 : i ≤ 1000000) (h3 : -1000000 ≤ j) (h4 : j ≤ 1000000) : rng2 [.da (.int i), .da (.int j)] = some (i, (j - i).toNat) := by
  exact ifc_pos ⟨by omega, by omega, by omega, by omega⟩
theorem ix_ok {x : W} {ws : List W} {S : Sto} (k : Int) (h : seqW S x = some ws) : vl2 ixW x (.da (.int k)) S = lift (atI ws k) S := by
  unfold vl2 ixW
  simp only [h]
theorem ix_tup_ (ds : List D) (k : Int) (S : Sto) : vl2 ixW (.da (.tup ds)) (.da (.int k)) S = lift (atI (ds.map W.da) k) S := ix_ok k rfl
theorem ix_wt_ (ds : List D) (k : Int) (S : Sto) : vl2 ixW (.da (.wt ds)) (.da (.int k)) S = lift (atI (ds.map W.da) k) S := ix_ok k rfl
theorem ix_lst_ (ds : List D) (k : Int) (S : Sto) : vl2 ixW (.da (.lst ds)) (.da (.int k)) S = lift (atI (ds.map W.da) k) S := ix_ok k rfl
theorem ix_scr_ (ds : List D) (k : Int) (S : Sto) : vl2 ixW (.da (.scr ds)) (.da (.int k)) S = lift (atI (ds.map W.da) k) S := ix_ok k rfl
theorem len_tup (ds : List D) (S : Sto) : vlN lenW [.da (.tup ds)] S = .ok (.da (.int ds.length)) S := by simp [vlN, lenW, seqW, lift]
theorem len_wt (ds : List D) (S : Sto) : vlN lenW [.da (.wt ds)] S = .ok (.da (.int ds.length)) S := by simp [vlN, lenW, seqW, lift]
theorem len_lst (ds : List D) (S : Sto) : vlN lenW [.da (.lst ds)] S = .ok (.da (.int ds.length)) S := by simp [vlN, lenW, seqW, lift]
theorem len_scr (ds : List D) (S : Sto) : vlN lenW [.da (.scr ds)] S = .ok (.da (.int ds.length)) S := by simp [vlN, lenW, seqW, lift]
theorem len_cell (n : Nat) (ws : List W) (S : Sto) (h : S[n]? = some (.lst ws)) : vlN lenW [.lo n] S = .ok (.da (.int ws.length)) S := by simp [vlN, lenW, seqW, lift, h]
theorem sz_lt {n : Nat} (h : n < 100000) : n < sizeLine := Nat.lt_of_lt_of_le h (by decide)
theorem sz_le {n : Nat} (h : n ≤ 100000) : n ≤ sizeLine := Nat.le_trans h (by decide)
theorem atI_lit {a : Type} (xs : List a) (k : Nat) : atI xs (k : Int) = xs[k]? := by
  unfold atI ixN
  rw [if_pos (Int.natCast_nonneg k)]
  by_cases h : k < xs.length
  · rw [if_pos (by omega)]; simp
  · rw [if_neg (by omega)]; simp; omega
theorem atI_get {a : Type} (xs : List a) (i : Int) (h : 0 ≤ i) (h2 : i < xs.length) : atI xs i = some (xs[i.toNat]'(by omega)) := by
  unfold atI ixN
  rw [if_pos h, if_pos h2]
  simp only [Option.bind_some, Option.bind]
  exact List.getElem?_eq_getElem _

theorem nc_0 : ((0 : Nat) : Int) = 0 := rfl
theorem nc_1 : ((1 : Nat) : Int) = 1 := rfl
theorem nc_2 : ((2 : Nat) : Int) = 2 := rfl
theorem nc_3 : ((3 : Nat) : Int) = 3 := rfl
theorem nc_4 : ((4 : Nat) : Int) = 4 := rfl
theorem nc_5 : ((5 : Nat) : Int) = 5 := rfl
theorem nc_6 : ((6 : Nat) : Int) = 6 := rfl
theorem nc_7 : ((7 : Nat) : Int) = 7 := rfl
theorem nc_8 : ((8 : Nat) : Int) = 8 := rfl
theorem nc_9 : ((9 : Nat) : Int) = 9 := rfl
theorem nc_10 : ((10 : Nat) : Int) = 10 := rfl
theorem nc_11 : ((11 : Nat) : Int) = 11 := rfl
theorem nc_12 : ((12 : Nat) : Int) = 12 := rfl
theorem nc_13 : ((13 : Nat) : Int) = 13 := rfl
theorem nc_14 : ((14 : Nat) : Int) = 14 := rfl
theorem nc_15 : ((15 : Nat) : Int) = 15 := rfl
theorem nc_16 : ((16 : Nat) : Int) = 16 := rfl
theorem nc_17 : ((17 : Nat) : Int) = 17 := rfl
theorem nc_18 : ((18 : Nat) : Int) = 18 := rfl
theorem nc_19 : ((19 : Nat) : Int) = 19 := rfl
theorem nc_20 : ((20 : Nat) : Int) = 20 := rfl
theorem nc_21 : ((21 : Nat) : Int) = 21 := rfl
theorem nc_22 : ((22 : Nat) : Int) = 22 := rfl
theorem nc_23 : ((23 : Nat) : Int) = 23 := rfl
theorem nc_24 : ((24 : Nat) : Int) = 24 := rfl
theorem nc_25 : ((25 : Nat) : Int) = 25 := rfl
theorem nc_26 : ((26 : Nat) : Int) = 26 := rfl
theorem nc_27 : ((27 : Nat) : Int) = 27 := rfl
theorem nc_28 : ((28 : Nat) : Int) = 28 := rfl
theorem nc_29 : ((29 : Nat) : Int) = 29 := rfl
theorem sz0 : 0 ≤ sizeLine := by decide
theorem sz1 : 1 ≤ sizeLine := by decide
theorem sz2 : 2 ≤ sizeLine := by decide
theorem sz3 : 3 ≤ sizeLine := by decide
theorem sz4 : 4 ≤ sizeLine := by decide
theorem sz5 : 5 ≤ sizeLine := by decide
theorem sz6 : 6 ≤ sizeLine := by decide
theorem sz7 : 7 ≤ sizeLine := by decide
theorem sz8 : 8 ≤ sizeLine := by decide
theorem sz9 : 9 ≤ sizeLine := by decide
theorem sz10 : 10 ≤ sizeLine := by decide
theorem sz11 : 11 ≤ sizeLine := by decide
theorem sz12 : 12 ≤ sizeLine := by decide
theorem sz13 : 13 ≤ sizeLine := by decide
theorem sz14 : 14 ≤ sizeLine := by decide
theorem sz15 : 15 ≤ sizeLine := by decide
theorem sz16 : 16 ≤ sizeLine := by decide
theorem sz17 : 17 ≤ sizeLine := by decide
theorem sz18 : 18 ≤ sizeLine := by decide
theorem sz19 : 19 ≤ sizeLine := by decide
theorem sz20 : 20 ≤ sizeLine := by decide
theorem sz21 : 21 ≤ sizeLine := by decide
theorem sz22 : 22 ≤ sizeLine := by decide
theorem sz23 : 23 ≤ sizeLine := by decide
theorem sz24 : 24 ≤ sizeLine := by decide
theorem sz25 : 25 ≤ sizeLine := by decide
theorem sz26 : 26 ≤ sizeLine := by decide
theorem sz27 : 27 ≤ sizeLine := by decide
theorem sz28 : 28 ≤ sizeLine := by decide
theorem sz29 : 29 ≤ sizeLine := by decide
theorem szl0 : 0 < sizeLine := by decide
theorem szl1 : 1 < sizeLine := by decide
theorem szl2 : 2 < sizeLine := by decide
theorem szl3 : 3 < sizeLine := by decide
theorem szl4 : 4 < sizeLine := by decide
theorem szl5 : 5 < sizeLine := by decide
theorem szl6 : 6 < sizeLine := by decide
theorem szl7 : 7 < sizeLine := by decide
theorem szl8 : 8 < sizeLine := by decide
theorem szl9 : 9 < sizeLine := by decide
theorem szl10 : 10 < sizeLine := by decide
theorem szl11 : 11 < sizeLine := by decide
theorem szl12 : 12 < sizeLine := by decide
theorem szl13 : 13 < sizeLine := by decide
theorem szl14 : 14 < sizeLine := by decide
theorem szl15 : 15 < sizeLine := by decide
theorem szl16 : 16 < sizeLine := by decide
theorem szl17 : 17 < sizeLine := by decide
theorem szl18 : 18 < sizeLine := by decide
theorem szl19 : 19 < sizeLine := by decide
theorem szl20 : 20 < sizeLine := by decide
theorem szl21 : 21 < sizeLine := by decide
theorem szl22 : 22 < sizeLine := by decide
theorem szl23 : 23 < sizeLine := by decide
theorem szl24 : 24 < sizeLine := by decide
theorem szl25 : 25 < sizeLine := by decide
theorem szl26 : 26 < sizeLine := by decide
theorem szl27 : 27 < sizeLine := by decide
theorem szl28 : 28 < sizeLine := by decide
theorem szl29 : 29 < sizeLine := by decide
theorem at_0 {a : Type} (x0 : a) (xs : List a) : atI (x0 :: xs) 0 = some x0 := (atI_lit (x0 :: xs) 0).trans rfl
theorem at_1 {a : Type} (x0 x1 : a) (xs : List a) : atI (x0 :: x1 :: xs) 1 = some x1 := (atI_lit (x0 :: x1 :: xs) 1).trans rfl
theorem at_2 {a : Type} (x0 x1 x2 : a) (xs : List a) : atI (x0 :: x1 :: x2 :: xs) 2 = some x2 := (atI_lit (x0 :: x1 :: x2 :: xs) 2).trans rfl
theorem at_3 {a : Type} (x0 x1 x2 x3 : a) (xs : List a) : atI (x0 :: x1 :: x2 :: x3 :: xs) 3 = some x3 := (atI_lit (x0 :: x1 :: x2 :: x3 :: xs) 3).trans rfl
theorem at_4 {a : Type} (x0 x1 x2 x3 x4 : a) (xs : List a) : atI (x0 :: x1 :: x2 :: x3 :: x4 :: xs) 4 = some x4 := (atI_lit (x0 :: x1 :: x2 :: x3 :: x4 :: xs) 4).trans rfl
theorem at_5 {a : Type} (x0 x1 x2 x3 x4 x5 : a) (xs : List a) : atI (x0 :: x1 :: x2 :: x3 :: x4 :: x5 :: xs) 5 = some x5 := (atI_lit (x0 :: x1 :: x2 :: x3 :: x4 :: x5 :: xs) 5).trans rfl
theorem at_6 {a : Type} (x0 x1 x2 x3 x4 x5 x6 : a) (xs : List a) : atI (x0 :: x1 :: x2 :: x3 :: x4 :: x5 :: x6 :: xs) 6 = some x6 := (atI_lit (x0 :: x1 :: x2 :: x3 :: x4 :: x5 :: x6 :: xs) 6).trans rfl
theorem at_7 {a : Type} (x0 x1 x2 x3 x4 x5 x6 x7 : a) (xs : List a) : atI (x0 :: x1 :: x2 :: x3 :: x4 :: x5 :: x6 :: x7 :: xs) 7 = some x7 := (atI_lit (x0 :: x1 :: x2 :: x3 :: x4 :: x5 :: x6 :: x7 :: xs) 7).trans rfl
theorem at_8 {a : Type} (x0 x1 x2 x3 x4 x5 x6 x7 x8 : a) (xs : List a) : atI (x0 :: x1 :: x2 :: x3 :: x4 :: x5 :: x6 :: x7 :: x8 :: xs) 8 = some x8 := (atI_lit (x0 :: x1 :: x2 :: x3 :: x4 :: x5 :: x6 :: x7 :: x8 :: xs) 8).trans rfl
theorem at_9 {a : Type} (x0 x1 x2 x3 x4 x5 x6 x7 x8 x9 : a) (xs : List a) : atI (x0 :: x1 :: x2 :: x3 :: x4 :: x5 :: x6 :: x7 :: x8 :: x9 :: xs) 9 = some x9 := (atI_lit (x0 :: x1 :: x2 :: x3 :: x4 :: x5 :: x6 :: x7 :: x8 :: x9 :: xs) 9).trans rfl
theorem at_10 {a : Type} (x0 x1 x2 x3 x4 x5 x6 x7 x8 x9 x10 : a) (xs : List a) : atI (x0 :: x1 :: x2 :: x3 :: x4 :: x5 :: x6 :: x7 :: x8 :: x9 :: x10 :: xs) 10 = some x10 := (atI_lit (x0 :: x1 :: x2 :: x3 :: x4 :: x5 :: x6 :: x7 :: x8 :: x9 :: x10 :: xs) 10).trans rfl
theorem at_11 {a : Type} (x0 x1 x2 x3 x4 x5 x6 x7 x8 x9 x10 x11 : a) (xs : List a) : atI (x0 :: x1 :: x2 :: x3 :: x4 :: x5 :: x6 :: x7 :: x8 :: x9 :: x10 :: x11 :: xs) 11 = some x11 := (atI_lit (x0 :: x1 :: x2 :: x3 :: x4 :: x5 :: x6 :: x7 :: x8 :: x9 :: x10 :: x11 :: xs) 11).trans rfl
theorem at_12 {a : Type} (x0 x1 x2 x3 x4 x5 x6 x7 x8 x9 x10 x11 x12 : a) (xs : List a) : atI (x0 :: x1 :: x2 :: x3 :: x4 :: x5 :: x6 :: x7 :: x8 :: x9 :: x10 :: x11 :: x12 :: xs) 12 = some x12 := (atI_lit (x0 :: x1 :: x2 :: x3 :: x4 :: x5 :: x6 :: x7 :: x8 :: x9 :: x10 :: x11 :: x12 :: xs) 12).trans rfl
theorem at_13 {a : Type} (x0 x1 x2 x3 x4 x5 x6 x7 x8 x9 x10 x11 x12 x13 : a) (xs : List a) : atI (x0 :: x1 :: x2 :: x3 :: x4 :: x5 :: x6 :: x7 :: x8 :: x9 :: x10 :: x11 :: x12 :: x13 :: xs) 13 = some x13 := (atI_lit (x0 :: x1 :: x2 :: x3 :: x4 :: x5 :: x6 :: x7 :: x8 :: x9 :: x10 :: x11 :: x12 :: x13 :: xs) 13).trans rfl
theorem at_14 {a : Type} (x0 x1 x2 x3 x4 x5 x6 x7 x8 x9 x10 x11 x12 x13 x14 : a) (xs : List a) : atI (x0 :: x1 :: x2 :: x3 :: x4 :: x5 :: x6 :: x7 :: x8 :: x9 :: x10 :: x11 :: x12 :: x13 :: x14 :: xs) 14 = some x14 := (atI_lit (x0 :: x1 :: x2 :: x3 :: x4 :: x5 :: x6 :: x7 :: x8 :: x9 :: x10 :: x11 :: x12 :: x13 :: x14 :: xs) 14).trans rfl
theorem at_15 {a : Type} (x0 x1 x2 x3 x4 x5 x6 x7 x8 x9 x10 x11 x12 x13 x14 x15 : a) (xs : List a) : atI (x0 :: x1 :: x2 :: x3 :: x4 :: x5 :: x6 :: x7 :: x8 :: x9 :: x10 :: x11 :: x12 :: x13 :: x14 :: x15 :: xs) 15 = some x15 := (atI_lit (x0 :: x1 :: x2 :: x3 :: x4 :: x5 :: x6 :: x7 :: x8 :: x9 :: x10 :: x11 :: x12 :: x13 :: x14 :: x15 :: xs) 15).trans rfl
theorem at_16 {a : Type} (x0 x1 x2 x3 x4 x5 x6 x7 x8 x9 x10 x11 x12 x13 x14 x15 x16 : a) (xs : List a) : atI (x0 :: x1 :: x2 :: x3 :: x4 :: x5 :: x6 :: x7 :: x8 :: x9 :: x10 :: x11 :: x12 :: x13 :: x14 :: x15 :: x16 :: xs) 16 = some x16 := (atI_lit (x0 :: x1 :: x2 :: x3 :: x4 :: x5 :: x6 :: x7 :: x8 :: x9 :: x10 :: x11 :: x12 :: x13 :: x14 :: x15 :: x16 :: xs) 16).trans rfl
theorem at_17 {a : Type} (x0 x1 x2 x3 x4 x5 x6 x7 x8 x9 x10 x11 x12 x13 x14 x15 x16 x17 : a) (xs : List a) : atI (x0 :: x1 :: x2 :: x3 :: x4 :: x5 :: x6 :: x7 :: x8 :: x9 :: x10 :: x11 :: x12 :: x13 :: x14 :: x15 :: x16 :: x17 :: xs) 17 = some x17 := (atI_lit (x0 :: x1 :: x2 :: x3 :: x4 :: x5 :: x6 :: x7 :: x8 :: x9 :: x10 :: x11 :: x12 :: x13 :: x14 :: x15 :: x16 :: x17 :: xs) 17).trans rfl
theorem at_18 {a : Type} (x0 x1 x2 x3 x4 x5 x6 x7 x8 x9 x10 x11 x12 x13 x14 x15 x16 x17 x18 : a) (xs : List a) : atI (x0 :: x1 :: x2 :: x3 :: x4 :: x5 :: x6 :: x7 :: x8 :: x9 :: x10 :: x11 :: x12 :: x13 :: x14 :: x15 :: x16 :: x17 :: x18 :: xs) 18 = some x18 := (atI_lit (x0 :: x1 :: x2 :: x3 :: x4 :: x5 :: x6 :: x7 :: x8 :: x9 :: x10 :: x11 :: x12 :: x13 :: x14 :: x15 :: x16 :: x17 :: x18 :: xs) 18).trans rfl
theorem at_19 {a : Type} (x0 x1 x2 x3 x4 x5 x6 x7 x8 x9 x10 x11 x12 x13 x14 x15 x16 x17 x18 x19 : a) (xs : List a) : atI (x0 :: x1 :: x2 :: x3 :: x4 :: x5 :: x6 :: x7 :: x8 :: x9 :: x10 :: x11 :: x12 :: x13 :: x14 :: x15 :: x16 :: x17 :: x18 :: x19 :: xs) 19 = some x19 := (atI_lit (x0 :: x1 :: x2 :: x3 :: x4 :: x5 :: x6 :: x7 :: x8 :: x9 :: x10 :: x11 :: x12 :: x13 :: x14 :: x15 :: x16 :: x17 :: x18 :: x19 :: xs) 19).trans rfl
theorem at_20 {a : Type} (x0 x1 x2 x3 x4 x5 x6 x7 x8 x9 x10 x11 x12 x13 x14 x15 x16 x17 x18 x19 x20 : a) (xs : List a) : atI (x0 :: x1 :: x2 :: x3 :: x4 :: x5 :: x6 :: x7 :: x8 :: x9 :: x10 :: x11 :: x12 :: x13 :: x14 :: x15 :: x16 :: x17 :: x18 :: x19 :: x20 :: xs) 20 = some x20 := (atI_lit (x0 :: x1 :: x2 :: x3 :: x4 :: x5 :: x6 :: x7 :: x8 :: x9 :: x10 :: x11 :: x12 :: x13 :: x14 :: x15 :: x16 :: x17 :: x18 :: x19 :: x20 :: xs) 20).trans rfl
theorem at_21 {a : Type} (x0 x1 x2 x3 x4 x5 x6 x7 x8 x9 x10 x11 x12 x13 x14 x15 x16 x17 x18 x19 x20 x21 : a) (xs : List a) : atI (x0 :: x1 :: x2 :: x3 :: x4 :: x5 :: x6 :: x7 :: x8 :: x9 :: x10 :: x11 :: x12 :: x13 :: x14 :: x15 :: x16 :: x17 :: x18 :: x19 :: x20 :: x21 :: xs) 21 = some x21 := (atI_lit (x0 :: x1 :: x2 :: x3 :: x4 :: x5 :: x6 :: x7 :: x8 :: x9 :: x10 :: x11 :: x12 :: x13 :: x14 :: x15 :: x16 :: x17 :: x18 :: x19 :: x20 :: x21 :: xs) 21).trans rfl
theorem at_22 {a : Type} (x0 x1 x2 x3 x4 x5 x6 x7 x8 x9 x10 x11 x12 x13 x14 x15 x16 x17 x18 x19 x20 x21 x22 : a) (xs : List a) : atI (x0 :: x1 :: x2 :: x3 :: x4 :: x5 :: x6 :: x7 :: x8 :: x9 :: x10 :: x11 :: x12 :: x13 :: x14 :: x15 :: x16 :: x17 :: x18 :: x19 :: x20 :: x21 :: x22 :: xs) 22 = some x22 := (atI_lit (x0 :: x1 :: x2 :: x3 :: x4 :: x5 :: x6 :: x7 :: x8 :: x9 :: x10 :: x11 :: x12 :: x13 :: x14 :: x15 :: x16 :: x17 :: x18 :: x19 :: x20 :: x21 :: x22 :: xs) 22).trans rfl
theorem at_23 {a : Type} (x0 x1 x2 x3 x4 x5 x6 x7 x8 x9 x10 x11 x12 x13 x14 x15 x16 x17 x18 x19 x20 x21 x22 x23 : a) (xs : List a) : atI (x0 :: x1 :: x2 :: x3 :: x4 :: x5 :: x6 :: x7 :: x8 :: x9 :: x10 :: x11 :: x12 :: x13 :: x14 :: x15 :: x16 :: x17 :: x18 :: x19 :: x20 :: x21 :: x22 :: x23 :: xs) 23 = some x23 := (atI_lit (x0 :: x1 :: x2 :: x3 :: x4 :: x5 :: x6 :: x7 :: x8 :: x9 :: x10 :: x11 :: x12 :: x13 :: x14 :: x15 :: x16 :: x17 :: x18 :: x19 :: x20 :: x21 :: x22 :: x23 :: xs) 23).trans rfl
theorem at_24 {a : Type} (x0 x1 x2 x3 x4 x5 x6 x7 x8 x9 x10 x11 x12 x13 x14 x15 x16 x17 x18 x19 x20 x21 x22 x23 x24 : a) (xs : List a) : atI (x0 :: x1 :: x2 :: x3 :: x4 :: x5 :: x6 :: x7 :: x8 :: x9 :: x10 :: x11 :: x12 :: x13 :: x14 :: x15 :: x16 :: x17 :: x18 :: x19 :: x20 :: x21 :: x22 :: x23 :: x24 :: xs) 24 = some x24 := (atI_lit (x0 :: x1 :: x2 :: x3 :: x4 :: x5 :: x6 :: x7 :: x8 :: x9 :: x10 :: x11 :: x12 :: x13 :: x14 :: x15 :: x16 :: x17 :: x18 :: x19 :: x20 :: x21 :: x22 :: x23 :: x24 :: xs) 24).trans rfl
theorem at_25 {a : Type} (x0 x1 x2 x3 x4 x5 x6 x7 x8 x9 x10 x11 x12 x13 x14 x15 x16 x17 x18 x19 x20 x21 x22 x23 x24 x25 : a) (xs : List a) : atI (x0 :: x1 :: x2 :: x3 :: x4 :: x5 :: x6 :: x7 :: x8 :: x9 :: x10 :: x11 :: x12 :: x13 :: x14 :: x15 :: x16 :: x17 :: x18 :: x19 :: x20 :: x21 :: x22 :: x23 :: x24 :: x25 :: xs) 25 = some x25 := (atI_lit (x0 :: x1 :: x2 :: x3 :: x4 :: x5 :: x6 :: x7 :: x8 :: x9 :: x10 :: x11 :: x12 :: x13 :: x14 :: x15 :: x16 :: x17 :: x18 :: x19 :: x20 :: x21 :: x22 :: x23 :: x24 :: x25 :: xs) 25).trans rfl
theorem at_26 {a : Type} (x0 x1 x2 x3 x4 x5 x6 x7 x8 x9 x10 x11 x12 x13 x14 x15 x16 x17 x18 x19 x20 x21 x22 x23 x24 x25 x26 : a) (xs : List a) : atI (x0 :: x1 :: x2 :: x3 :: x4 :: x5 :: x6 :: x7 :: x8 :: x9 :: x10 :: x11 :: x12 :: x13 :: x14 :: x15 :: x16 :: x17 :: x18 :: x19 :: x20 :: x21 :: x22 :: x23 :: x24 :: x25 :: x26 :: xs) 26 = some x26 := (atI_lit (x0 :: x1 :: x2 :: x3 :: x4 :: x5 :: x6 :: x7 :: x8 :: x9 :: x10 :: x11 :: x12 :: x13 :: x14 :: x15 :: x16 :: x17 :: x18 :: x19 :: x20 :: x21 :: x22 :: x23 :: x24 :: x25 :: x26 :: xs) 26).trans rfl
theorem at_27 {a : Type} (x0 x1 x2 x3 x4 x5 x6 x7 x8 x9 x10 x11 x12 x13 x14 x15 x16 x17 x18 x19 x20 x21 x22 x23 x24 x25 x26 x27 : a) (xs : List a) : atI (x0 :: x1 :: x2 :: x3 :: x4 :: x5 :: x6 :: x7 :: x8 :: x9 :: x10 :: x11 :: x12 :: x13 :: x14 :: x15 :: x16 :: x17 :: x18 :: x19 :: x20 :: x21 :: x22 :: x23 :: x24 :: x25 :: x26 :: x27 :: xs) 27 = some x27 := (atI_lit (x0 :: x1 :: x2 :: x3 :: x4 :: x5 :: x6 :: x7 :: x8 :: x9 :: x10 :: x11 :: x12 :: x13 :: x14 :: x15 :: x16 :: x17 :: x18 :: x19 :: x20 :: x21 :: x22 :: x23 :: x24 :: x25 :: x26 :: x27 :: xs) 27).trans rfl
theorem at_28 {a : Type} (x0 x1 x2 x3 x4 x5 x6 x7 x8 x9 x10 x11 x12 x13 x14 x15 x16 x17 x18 x19 x20 x21 x22 x23 x24 x25 x26 x27 x28 : a) (xs : List a) : atI (x0 :: x1 :: x2 :: x3 :: x4 :: x5 :: x6 :: x7 :: x8 :: x9 :: x10 :: x11 :: x12 :: x13 :: x14 :: x15 :: x16 :: x17 :: x18 :: x19 :: x20 :: x21 :: x22 :: x23 :: x24 :: x25 :: x26 :: x27 :: x28 :: xs) 28 = some x28 := (atI_lit (x0 :: x1 :: x2 :: x3 :: x4 :: x5 :: x6 :: x7 :: x8 :: x9 :: x10 :: x11 :: x12 :: x13 :: x14 :: x15 :: x16 :: x17 :: x18 :: x19 :: x20 :: x21 :: x22 :: x23 :: x24 :: x25 :: x26 :: x27 :: x28 :: xs) 28).trans rfl
theorem at_29 {a : Type} (x0 x1 x2 x3 x4 x5 x6 x7 x8 x9 x10 x11 x12 x13 x14 x15 x16 x17 x18 x19 x20 x21 x22 x23 x24 x25 x26 x27 x28 x29 : a) (xs : List a) : atI (x0 :: x1 :: x2 :: x3 :: x4 :: x5 :: x6 :: x7 :: x8 :: x9 :: x10 :: x11 :: x12 :: x13 :: x14 :: x15 :: x16 :: x17 :: x18 :: x19 :: x20 :: x21 :: x22 :: x23 :: x24 :: x25 :: x26 :: x27 :: x28 :: x29 :: xs) 29 = some x29 := (atI_lit (x0 :: x1 :: x2 :: x3 :: x4 :: x5 :: x6 :: x7 :: x8 :: x9 :: x10 :: x11 :: x12 :: x13 :: x14 :: x15 :: x16 :: x17 :: x18 :: x19 :: x20 :: x21 :: x22 :: x23 :: x24 :: x25 :: x26 :: x27 :: x28 :: x29 :: xs) 29).trans rfl
theorem kb_t_t : kitB "tuple" "tuple" = some true := by decide +kernel
theorem kb_t_l : kitB "tuple" "list" = some false := by decide +kernel
theorem kb_t_i : kitB "tuple" "int" = some false := by decide +kernel
theorem kb_t_b : kitB "tuple" "bool" = some false := by decide +kernel
theorem kb_t_s : kitB "tuple" "str" = some false := by decide +kernel
theorem kb_t_d : kitB "tuple" "dict" = some false := by decide +kernel
theorem kb_l_t : kitB "list" "tuple" = some false := by decide +kernel
theorem kb_l_l : kitB "list" "list" = some true := by decide +kernel
theorem kb_l_i : kitB "list" "int" = some false := by decide +kernel
theorem kb_l_b : kitB "list" "bool" = some false := by decide +kernel
theorem kb_l_s : kitB "list" "str" = some false := by decide +kernel
theorem kb_l_d : kitB "list" "dict" = some false := by decide +kernel
theorem kb_i_t : kitB "int" "tuple" = some false := by decide +kernel
theorem kb_i_l : kitB "int" "list" = some false := by decide +kernel
theorem kb_i_i : kitB "int" "int" = some true := by decide +kernel
theorem kb_i_b : kitB "int" "bool" = some false := by decide +kernel
theorem kb_i_s : kitB "int" "str" = some false := by decide +kernel
theorem kb_i_d : kitB "int" "dict" = some false := by decide +kernel
theorem kb_b_t : kitB "bool" "tuple" = some false := by decide +kernel
theorem kb_b_l : kitB "bool" "list" = some false := by decide +kernel
theorem kb_b_i : kitB "bool" "int" = some true := by decide +kernel
theorem kb_b_b : kitB "bool" "bool" = some true := by decide +kernel
theorem kb_b_s : kitB "bool" "str" = some false := by decide +kernel
theorem kb_b_d : kitB "bool" "dict" = some false := by decide +kernel
theorem kb_s_t : kitB "str" "tuple" = some false := by decide +kernel
theorem kb_s_l : kitB "str" "list" = some false := by decide +kernel
theorem kb_s_i : kitB "str" "int" = some false := by decide +kernel
theorem kb_s_b : kitB "str" "bool" = some false := by decide +kernel
theorem kb_s_s : kitB "str" "str" = some true := by decide +kernel
theorem kb_s_d : kitB "str" "dict" = some false := by decide +kernel
theorem kb_n_t : kitB "NoneType" "tuple" = some false := by decide +kernel
theorem kb_n_l : kitB "NoneType" "list" = some false := by decide +kernel
theorem kb_n_i : kitB "NoneType" "int" = some false := by decide +kernel
theorem kb_n_b : kitB "NoneType" "bool" = some false := by decide +kernel
theorem kb_n_s : kitB "NoneType" "str" = some false := by decide +kernel
theorem kb_n_d : kitB "NoneType" "dict" = some false := by decide +kernel
theorem kb_d_t : kitB "dict" "tuple" = some false := by decide +kernel
theorem kb_d_l : kitB "dict" "list" = some false := by decide +kernel
theorem kb_d_i : kitB "dict" "int" = some false := by decide +kernel
theorem kb_d_b : kitB "dict" "bool" = some false := by decide +kernel
theorem kb_d_s : kitB "dict" "str" = some false := by decide +kernel
theorem kb_d_d : kitB "dict" "dict" = some true := by decide +kernel
theorem mSeq_nx {a b : MS} {r r' : Rho} {s s' : Sto} (h : a r s = .nx r' s') : mSeq a b r s = b r' s' := by
  unfold mSeq
  rw [h]
  rfl
theorem mSeq_rt {a b : MS} {r : Rho} {s s' : Sto} {w : W} (h : a r s = .rt w s') : mSeq a b r s = .rt w s' := by
  unfold mSeq
  rw [h]
  rfl
theorem mSeq_ex {a b : MS} {r r' : Rho} {s s' : Sto} {x : Exn} (h : a r s = .ex x r' s') : mSeq a b r s = .ex x r' s' := by
  unfold mSeq
  rw [h]
  rfl
theorem mIf_t {t : MT} {a b : MS} {r : Rho} {s s' : Sto} (h : t r s = .ok true s') : mIf t a b r s = a r s' := by
  unfold mIf
  rw [h]
  rfl
theorem mIf_f {t : MT} {a b : MS} {r : Rho} {s s' : Sto} (h : t r s = .ok false s') : mIf t a b r s = b r s' := by
  unfold mIf
  rw [h]
  rfl
/-- a pure def, by its run -/
theorem runP_ok {n np : Nat} {m : MS} {ds : List D} {d : D} {S : Sto} (hl : ds.length = np) (h : m (startR n (ds.map .da)) [] = .rt (.da d) S) : runP n np m ds = .ok d := by
  unfold runP pureOf runS
  rw [if_pos (by rw [List.length_map]; exact hl), h]
  simp only [endS, trimS, List.length_nil, List.take_zero, ifc_true, eq_self]
theorem runP_ex {n np : Nat} {m : MS} {ds : List D} {x : Exn} {r : Rho} {S : Sto} (hl : ds.length = np) (h : m (startR n (ds.map .da)) [] = .ex x r S) (hx : x.ws.all isDa = true) : runP n np m ds = .ex x := by
  unfold runP pureOf runS
  rw [if_pos (by rw [List.length_map]; exact hl), h]
  simp only [endS, trimX, List.length_nil, List.take_zero, hx, and_self, ifc_true, eq_self]
theorem da_da (f : List D) : (W.da ∘ D.int) = iW := rfl

theorem ee_endS_1 : type_of% @endS.eq_1 := @endS.eq_1
theorem ee_endS_2 : type_of% @endS.eq_2 := @endS.eq_2
theorem ee_endS_3 : type_of% @endS.eq_3 := @endS.eq_3
theorem ee_seqK_1 : type_of% @seqK.eq_1 := @seqK.eq_1
theorem ee_seqK_2 : type_of% @seqK.eq_2 := @seqK.eq_2
theorem ee_seqK_3 : type_of% @seqK.eq_3 := @seqK.eq_3
theorem ee_seqK_4 : type_of% @seqK.eq_4 := @seqK.eq_4
theorem ee_seqK_5 : type_of% @seqK.eq_5 := @seqK.eq_5
theorem ee_seqK_6 : type_of% @seqK.eq_6 := @seqK.eq_6
theorem ee_reN_1 : type_of% @reN.eq_1 := @reN.eq_1
theorem ee_reN_2 : type_of% @reN.eq_2 := @reN.eq_2
theorem ee_reN_3 : type_of% @reN.eq_3 := @reN.eq_3
theorem ee_noL_1 : type_of% @noL.eq_1 := @noL.eq_1
theorem ee_noL_2 : type_of% @noL.eq_2 := @noL.eq_2
theorem ee_noL_3 : type_of% @noL.eq_3 := @noL.eq_3
theorem ee_noL_4 : type_of% @noL.eq_4 := @noL.eq_4
theorem ee_noL_5 : type_of% @noL.eq_5 := @noL.eq_5
theorem ee_noL_6 : type_of% @noL.eq_6 := @noL.eq_6
theorem ee_noL_9 : type_of% @noL.eq_9 := @noL.eq_9
theorem ee_noL_10 : type_of% @noL.eq_10 := @noL.eq_10
theorem ee_noL_11 : type_of% @noL.eq_11 := @noL.eq_11
theorem ee_noLs_1 : type_of% @noLs.eq_1 := @noLs.eq_1
theorem ee_noLs_2 : type_of% @noLs.eq_2 := @noLs.eq_2
theorem ee_noLW_1 : type_of% @noLW.eq_1 := @noLW.eq_1
theorem ee_insW_1 : type_of% @insW.eq_1 := @insW.eq_1
theorem ee_insW_2 : type_of% @insW.eq_2 := @insW.eq_2
theorem ee_look_1 : type_of% @look.eq_1 := @look.eq_1
theorem ee_look_2 : type_of% @look.eq_2 := @look.eq_2
theorem ee_putFW_1 : type_of% @putFW.eq_1 := @putFW.eq_1
theorem ee_putFW_2 : type_of% @putFW.eq_2 := @putFW.eq_2
theorem ee_pairsD_1 : type_of% @pairsD.eq_1 := @pairsD.eq_1
theorem ee_pairsD_2 : type_of% @pairsD.eq_2 := @pairsD.eq_2
theorem ee_reK_1 : type_of% @reK.eq_1 := @reK.eq_1
theorem ee_reK_2 : type_of% @reK.eq_2 := @reK.eq_2
theorem ee_reK_3 : type_of% @reK.eq_3 := @reK.eq_3
theorem ee_reF_1 : type_of% @reF.eq_1 := @reF.eq_1
theorem ee_reF_2 : type_of% @reF.eq_2 := @reF.eq_2
theorem ee_reF_3 : type_of% @reF.eq_3 := @reF.eq_3
theorem ee_valsW_1 : type_of% @valsW.eq_1 := @valsW.eq_1
theorem ee_valsW_2 : type_of% @valsW.eq_2 := @valsW.eq_2
theorem ee_valW_1 : type_of% @valW.eq_1 := @valW.eq_1
theorem ee_valW_2 : type_of% @valW.eq_2 := @valW.eq_2
theorem ee_flatD_1 : type_of% @flatD.eq_1 := @flatD.eq_1
theorem ee_flatD_2 : type_of% @flatD.eq_2 := @flatD.eq_2
theorem ee_flatD_3 : type_of% @flatD.eq_3 := @flatD.eq_3
theorem ee_flatD_4 : type_of% @flatD.eq_4 := @flatD.eq_4
theorem ee_liftB_1 : type_of% @liftB.eq_1 := @liftB.eq_1
theorem ee_boolOf_1 : type_of% @boolOf.eq_1 := @boolOf.eq_1
theorem ee_Rs_bind_1 : type_of% @Rs.bind.eq_1 := @Rs.bind.eq_1
theorem ee_Rs_bind_2 : type_of% @Rs.bind.eq_2 := @Rs.bind.eq_2
theorem ee_Rs_bind_3 : type_of% @Rs.bind.eq_3 := @Rs.bind.eq_3
theorem ee_Rs_out_1 : type_of% @Rs.out.eq_1 := @Rs.out.eq_1
theorem ee_Rs_out_2 : type_of% @Rs.out.eq_2 := @Rs.out.eq_2
theorem ee_Rs_out_3 : type_of% @Rs.out.eq_3 := @Rs.out.eq_3
theorem ee_tupW_1 : type_of% @tupW.eq_1 := @tupW.eq_1
theorem ee_tupW_2 : type_of% @tupW.eq_2 := @tupW.eq_2
theorem ee_tupW_3 : type_of% @tupW.eq_3 := @tupW.eq_3
theorem ee_lstW_1 : type_of% @lstW.eq_1 := @lstW.eq_1
theorem ee_lstW_2 : type_of% @lstW.eq_2 := @lstW.eq_2
theorem ee_itemsD_1 : type_of% @itemsD.eq_1 := @itemsD.eq_1
theorem ee_itemsD_2 : type_of% @itemsD.eq_2 := @itemsD.eq_2
theorem ee_itemsD_3 : type_of% @itemsD.eq_3 := @itemsD.eq_3
theorem ee_itemsD_4 : type_of% @itemsD.eq_4 := @itemsD.eq_4
theorem ee_itemsD_5 : type_of% @itemsD.eq_5 := @itemsD.eq_5
theorem ee_itemsD_6 : type_of% @itemsD.eq_6 := @itemsD.eq_6
theorem ee_lift_1 : type_of% @lift.eq_1 := @lift.eq_1
theorem ee_lift_2 : type_of% @lift.eq_2 := @lift.eq_2
theorem ee_mkD_1 : type_of% @mkD.eq_1 := @mkD.eq_1
theorem ee_mkD_2 : type_of% @mkD.eq_2 := @mkD.eq_2
theorem ee_mkC_1 : type_of% @mkC.eq_1 := @mkC.eq_1
theorem ee_mkC_2 : type_of% @mkC.eq_2 := @mkC.eq_2
theorem ee_datC_1 : type_of% @datC.eq_1 := @datC.eq_1
theorem ee_datC_2 : type_of% @datC.eq_2 := @datC.eq_2
theorem ee_datC_3 : type_of% @datC.eq_3 := @datC.eq_3
theorem ee_datL_1 : type_of% @datL.eq_1 := @datL.eq_1
theorem ee_datL_2 : type_of% @datL.eq_2 := @datL.eq_2
theorem ee_mkL_1 : type_of% @mkL.eq_1 := @mkL.eq_1
theorem ee_mkL_2 : type_of% @mkL.eq_2 := @mkL.eq_2
theorem ee_truW_1 : type_of% @truW.eq_1 := @truW.eq_1
theorem ee_truW_2 : type_of% @truW.eq_2 := @truW.eq_2
theorem ee_truW_3 : type_of% @truW.eq_3 := @truW.eq_3
theorem ee_truW_4 : type_of% @truW.eq_4 := @truW.eq_4
theorem ee_truW_5 : type_of% @truW.eq_5 := @truW.eq_5
theorem ee_truW_6 : type_of% @truW.eq_6 := @truW.eq_6
theorem ee_truW_7 : type_of% @truW.eq_7 := @truW.eq_7
theorem ee_truW_8 : type_of% @truW.eq_8 := @truW.eq_8
theorem ee_truW_9 : type_of% @truW.eq_9 := @truW.eq_9
theorem ee_truW_10 : type_of% @truW.eq_10 := @truW.eq_10
theorem ee_truW_11 : type_of% @truW.eq_11 := @truW.eq_11
theorem ee_tyW_1 : type_of% @tyW.eq_1 := @tyW.eq_1
theorem ee_tyW_2 : type_of% @tyW.eq_2 := @tyW.eq_2
theorem ee_tyW_3 : type_of% @tyW.eq_3 := @tyW.eq_3
theorem ee_tyD_1 : type_of% @tyD.eq_1 := @tyD.eq_1
theorem ee_tyD_2 : type_of% @tyD.eq_2 := @tyD.eq_2
theorem ee_tyD_3 : type_of% @tyD.eq_3 := @tyD.eq_3
theorem ee_tyD_4 : type_of% @tyD.eq_4 := @tyD.eq_4
theorem ee_tyD_5 : type_of% @tyD.eq_5 := @tyD.eq_5
theorem ee_tyD_6 : type_of% @tyD.eq_6 := @tyD.eq_6
theorem ee_tyD_7 : type_of% @tyD.eq_7 := @tyD.eq_7
theorem ee_tyD_8 : type_of% @tyD.eq_8 := @tyD.eq_8
theorem ee_tyD_9 : type_of% @tyD.eq_9 := @tyD.eq_9
theorem ee_tyD_10 : type_of% @tyD.eq_10 := @tyD.eq_10
theorem ee_tyD_11 : type_of% @tyD.eq_11 := @tyD.eq_11
theorem ee_isN_1 : type_of% @isN.eq_1 := @isN.eq_1
theorem ee_isN_2 : type_of% @isN.eq_2 := @isN.eq_2
theorem ee_isN_3 : type_of% @isN.eq_3 := @isN.eq_3
theorem ee_isN_4 : type_of% @isN.eq_4 := @isN.eq_4
theorem ee_dkW_1 : type_of% @dkW.eq_1 := @dkW.eq_1
theorem ee_dkW_2 : type_of% @dkW.eq_2 := @dkW.eq_2
theorem ee_datW_1 : type_of% @datW.eq_1 := @datW.eq_1
theorem ee_datW_4 : type_of% @datW.eq_4 := @datW.eq_4
theorem ee_datWs_1 : type_of% @datWs.eq_1 := @datWs.eq_1
theorem ee_datWs_2 : type_of% @datWs.eq_2 := @datWs.eq_2
theorem ee_tyM_1 : type_of% @tyM.eq_1 := @tyM.eq_1
theorem ee_tyM_2 : type_of% @tyM.eq_2 := @tyM.eq_2
theorem ee_tyM_3 : type_of% @tyM.eq_3 := @tyM.eq_3
theorem ee_hitL_1 : type_of% @hitL.eq_1 := @hitL.eq_1
theorem ee_hitL_2 : type_of% @hitL.eq_2 := @hitL.eq_2
theorem ee_outOff_1 : type_of% @outOff.eq_1 := @outOff.eq_1
theorem ee_outOff_2 : type_of% @outOff.eq_2 := @outOff.eq_2
theorem ee_outOff_3 : type_of% @outOff.eq_3 := @outOff.eq_3
theorem ee_outOff_4 : type_of% @outOff.eq_4 := @outOff.eq_4
theorem ee_seqW_1 : type_of% @seqW.eq_1 := @seqW.eq_1
theorem ee_seqW_2 : type_of% @seqW.eq_2 := @seqW.eq_2
theorem ee_seqW_3 : type_of% @seqW.eq_3 := @seqW.eq_3
theorem ee_seqW_4 : type_of% @seqW.eq_4 := @seqW.eq_4
theorem ee_seqW_5 : type_of% @seqW.eq_5 := @seqW.eq_5
local macro_rules | `(tactic| simp_arith [$args,*]) => `(tactic| all_goals try simp only [runP, pureOf, runS, startR, ee_endS_1, ee_endS_2, ee_endS_3, trimS, trimX, isDa, mSeq, ee_seqK_1, ee_seqK_2, ee_seqK_3, ee_seqK_4, ee_seqK_5, ee_seqK_6, mSet, mSkip, mAsg, mRet, mIf, mDrop, mPar, mInc, incW, mVar, mC, mOp, mUn, mCons, mNil, mCall, mCallP, callP, mCallN, callN, ee_reN_1, ee_reN_2, ee_reN_3, ee_noL_1, ee_noL_2, ee_noL_3, ee_noL_4, ee_noL_5, ee_noL_6, ee_noL_9, ee_noL_10, ee_noL_11, ee_noLs_1, ee_noLs_2, ee_noLW_1, mCallL, callL, mFld, mMeth, ee_insW_1, ee_insW_2, fldW, ee_look_1, ee_look_2, mSetF, setFW, ee_putFW_1, ee_putFW_2, mForI, mLcI, ee_pairsD_1, ee_pairsD_2, ee_reK_1, ee_reK_2, ee_reK_3, ee_reF_1, ee_reF_2, ee_reF_3, ee_valsW_1, ee_valsW_2, ee_valW_1, ee_valW_2, ee_flatD_1, ee_flatD_2, ee_flatD_3, ee_flatD_4, mTst, mTru, ee_liftB_1, mAnd, mOr, mNot, mAndV, mOrV, mNotV, mNotT, mChain, ee_boolOf_1, dats, dat, ee_Rs_bind_1, ee_Rs_bind_2, ee_Rs_bind_3, ee_Rs_out_1, ee_Rs_out_2, ee_Rs_out_3, gtName, gtTup, gtCons, gtNil, gtTupT, tup_lst, ee_tupW_1, ee_tupW_2, ee_tupW_3, ee_lstW_1, ee_lstW_2, mForR, rng1_ok, rng2_ok, mFor, ee_itemsD_1, ee_itemsD_2, ee_itemsD_3, ee_itemsD_4, ee_itemsD_5, ee_itemsD_6, add_ii, addC_ii, sub_ii, neg_i, lt_ii, le_ii, gt_ii, ge_ii, mod_ok, div_ok, mul_r, eq_ii, eq_ss, eq_bb, ne_ii, ne_ss, ne_bb, ix_tup_, ix_wt_, ix_lst_, ix_scr_, len_tup, len_wt, len_lst, len_scr, ee_lift_1, ee_lift_2, ndN, ncN, ee_mkD_1, ee_mkD_2, ee_mkC_1, ee_mkC_2, tupC, lstC, ee_datC_1, ee_datC_2, ee_datC_3, ee_datL_1, ee_datL_2, ee_mkL_1, ee_mkL_2, lkN, ee_truW_1, ee_truW_2, ee_truW_3, ee_truW_4, ee_truW_5, ee_truW_6, ee_truW_7, ee_truW_8, ee_truW_9, ee_truW_10, ee_truW_11, isiW, isiB, ee_tyW_1, ee_tyW_2, ee_tyW_3, ee_tyD_1, ee_tyD_2, ee_tyD_3, ee_tyD_4, ee_tyD_5, ee_tyD_6, ee_tyD_7, ee_tyD_8, ee_tyD_9, ee_tyD_10, ee_tyD_11, is_non, isnot_non, ee_isN_1, ee_isN_2, ee_isN_3, ee_isN_4, min_ii, max_ii, int_i, int_b, len_c, lenW, ee_dkW_1, ee_dkW_2, fzW, mFz, ee_datW_1, ee_datW_4, ee_datWs_1, ee_datWs_2, mMt, ee_tyM_1, ee_tyM_2, ee_tyM_3, chL, appL, mSetIx, setW, mRaise, mTryAs, ee_hitL_1, ee_hitL_2, ee_outOff_1, ee_outOff_2, ee_outOff_3, ee_outOff_4, mIsE, mFrz, mYes, mkLst, listC, ee_seqW_1, ee_seqW_2, ee_seqW_3, ee_seqW_4, ee_seqW_5, mLc, mLcR, wipeR, mListRg, mDisp, mpNil, mpCons, at_0, at_1, at_2, at_3, at_4, at_5, at_6, at_7, at_8, at_9, at_10, at_11, at_12, at_13, at_14, at_15, at_16, at_17, at_18, at_19, at_20, at_21, at_22, at_23, at_24, at_25, at_26, at_27, at_28, at_29, nc_0, nc_1, nc_2, nc_3, nc_4, nc_5, nc_6, nc_7, nc_8, nc_9, nc_10, nc_11, nc_12, nc_13, nc_14, nc_15, nc_16, nc_17, nc_18, nc_19, nc_20, nc_21, nc_22, nc_23, nc_24, nc_25, nc_26, nc_27, nc_28, nc_29, sz0, sz1, sz2, sz3, sz4, sz5, sz6, sz7, sz8, sz9, sz10, sz11, sz12, sz13, sz14, sz15, sz16, sz17, sz18, sz19, sz20, sz21, sz22, sz23, sz24, sz25, sz26, sz27, sz28, sz29, szl0, szl1, szl2, szl3, szl4, szl5, szl6, szl7, szl8, szl9, szl10, szl11, szl12, szl13, szl14, szl15, szl16, szl17, szl18, szl19, szl20, szl21, szl22, szl23, szl24, szl25, szl26, szl27, szl28, szl29, kb_t_t, kb_t_l, kb_t_i, kb_t_b, kb_t_s, kb_t_d, kb_l_t, kb_l_l, kb_l_i, kb_l_b, kb_l_s, kb_l_d, kb_i_t, kb_i_l, kb_i_i, kb_i_b, kb_i_s, kb_i_d, kb_b_t, kb_b_l, kb_b_i, kb_b_b, kb_b_s, kb_b_d, kb_s_t, kb_s_l, kb_s_i, kb_s_b, kb_s_s, kb_s_d, kb_n_t, kb_n_l, kb_n_i, kb_n_b, kb_n_s, kb_n_d, kb_d_t, kb_d_l, kb_d_i, kb_d_b, kb_d_s, kb_d_d,
  List.map_cons, List.map_nil, List.map_map, List.length_cons, List.length_nil, List.length_map, List.length_append, List.cons_append, List.nil_append, List.append_nil, List.replicate, List.set_cons_zero, List.set_cons_succ, List.getElem?_cons_zero, List.getElem?_cons_succ, List.getElem?_nil, List.take_zero, List.all_cons, List.all_nil, List.isEmpty_cons, List.isEmpty_nil, Option.bind_some, Option.bind, Option.map, if_true, if_false, Bool.false_eq_true, Bool.true_eq_false, ite_true, ite_false, reduceIte, Nat.reduceAdd, Nat.reduceSub, Nat.reduceEqDiff, Nat.reduceLT, Nat.reduceLeDiff, Int.reduceEq, Int.reduceLT, Int.reduceLE, Int.reduceNeg, Int.reduceAdd, Int.reduceSub, Int.reduceMul, Int.reduceDiv, Int.reduceMod, Int.reduceToNat, Int.reducePow, Nat.reducePow, Bool.not_true, Bool.not_false, Bool.and_true, Bool.and_false, Bool.true_and, Bool.false_and, Bool.or_true, Bool.or_false, Bool.true_or, Bool.false_or, ifc_true, ifc_false, dec_true, dec_false, eq_self, and_self, and_true, true_and, or_true, true_or, not_true_eq_false, not_false_eq_true, $args,*])
local macro_rules | `(tactic| simp_all_arith [$args,*]) => `(tactic| all_goals try simp only [loopM, intsW, lcM, runP, pureOf, runS, startR, ee_endS_1, ee_endS_2, ee_endS_3, trimS, trimX, isDa, mSeq, ee_seqK_1, ee_seqK_2, ee_seqK_3, ee_seqK_4, ee_seqK_5, ee_seqK_6, mSet, mSkip, mAsg, mRet, mIf, mDrop, mPar, mInc, incW, mVar, mC, mOp, mUn, mCons, mNil, mCall, mCallP, callP, mCallN, callN, ee_reN_1, ee_reN_2, ee_reN_3, ee_noL_1, ee_noL_2, ee_noL_3, ee_noL_4, ee_noL_5, ee_noL_6, ee_noL_9, ee_noL_10, ee_noL_11, ee_noLs_1, ee_noLs_2, ee_noLW_1, mCallL, callL, mFld, mMeth, ee_insW_1, ee_insW_2, fldW, ee_look_1, ee_look_2, mSetF, setFW, ee_putFW_1, ee_putFW_2, mForI, mLcI, ee_pairsD_1, ee_pairsD_2, ee_reK_1, ee_reK_2, ee_reK_3, ee_reF_1, ee_reF_2, ee_reF_3, ee_valsW_1, ee_valsW_2, ee_valW_1, ee_valW_2, ee_flatD_1, ee_flatD_2, ee_flatD_3, ee_flatD_4, mTst, mTru, ee_liftB_1, mAnd, mOr, mNot, mAndV, mOrV, mNotV, mNotT, mChain, ee_boolOf_1, dats, dat, ee_Rs_bind_1, ee_Rs_bind_2, ee_Rs_bind_3, ee_Rs_out_1, ee_Rs_out_2, ee_Rs_out_3, gtName, gtTup, gtCons, gtNil, gtTupT, tup_lst, ee_tupW_1, ee_tupW_2, ee_tupW_3, ee_lstW_1, ee_lstW_2, mForR, rng1_ok, rng2_ok, mFor, ee_itemsD_1, ee_itemsD_2, ee_itemsD_3, ee_itemsD_4, ee_itemsD_5, ee_itemsD_6, add_ii, addC_ii, sub_ii, neg_i, lt_ii, le_ii, gt_ii, ge_ii, mod_ok, div_ok, mul_r, eq_ii, eq_ss, eq_bb, ne_ii, ne_ss, ne_bb, ix_tup_, ix_wt_, ix_lst_, ix_scr_, len_tup, len_wt, len_lst, len_scr, ee_lift_1, ee_lift_2, ndN, ncN, ee_mkD_1, ee_mkD_2, ee_mkC_1, ee_mkC_2, tupC, lstC, ee_datC_1, ee_datC_2, ee_datC_3, ee_datL_1, ee_datL_2, ee_mkL_1, ee_mkL_2, lkN, ee_truW_1, ee_truW_2, ee_truW_3, ee_truW_4, ee_truW_5, ee_truW_6, ee_truW_7, ee_truW_8, ee_truW_9, ee_truW_10, ee_truW_11, isiW, isiB, ee_tyW_1, ee_tyW_2, ee_tyW_3, ee_tyD_1, ee_tyD_2, ee_tyD_3, ee_tyD_4, ee_tyD_5, ee_tyD_6, ee_tyD_7, ee_tyD_8, ee_tyD_9, ee_tyD_10, ee_tyD_11, is_non, isnot_non, ee_isN_1, ee_isN_2, ee_isN_3, ee_isN_4, min_ii, max_ii, int_i, int_b, len_c, lenW, ee_dkW_1, ee_dkW_2, fzW, mFz, ee_datW_1, ee_datW_4, ee_datWs_1, ee_datWs_2, mMt, ee_tyM_1, ee_tyM_2, ee_tyM_3, chL, appL, mSetIx, setW, mRaise, mTryAs, ee_hitL_1, ee_hitL_2, ee_outOff_1, ee_outOff_2, ee_outOff_3, ee_outOff_4, mIsE, mFrz, mYes, mkLst, listC, ee_seqW_1, ee_seqW_2, ee_seqW_3, ee_seqW_4, ee_seqW_5, mLc, mLcR, wipeR, mListRg, mDisp, mpNil, mpCons, at_0, at_1, at_2, at_3, at_4, at_5, at_6, at_7, at_8, at_9, at_10, at_11, at_12, at_13, at_14, at_15, at_16, at_17, at_18, at_19, at_20, at_21, at_22, at_23, at_24, at_25, at_26, at_27, at_28, at_29, nc_0, nc_1, nc_2, nc_3, nc_4, nc_5, nc_6, nc_7, nc_8, nc_9, nc_10, nc_11, nc_12, nc_13, nc_14, nc_15, nc_16, nc_17, nc_18, nc_19, nc_20, nc_21, nc_22, nc_23, nc_24, nc_25, nc_26, nc_27, nc_28, nc_29, sz0, sz1, sz2, sz3, sz4, sz5, sz6, sz7, sz8, sz9, sz10, sz11, sz12, sz13, sz14, sz15, sz16, sz17, sz18, sz19, sz20, sz21, sz22, sz23, sz24, sz25, sz26, sz27, sz28, sz29, szl0, szl1, szl2, szl3, szl4, szl5, szl6, szl7, szl8, szl9, szl10, szl11, szl12, szl13, szl14, szl15, szl16, szl17, szl18, szl19, szl20, szl21, szl22, szl23, szl24, szl25, szl26, szl27, szl28, szl29, kb_t_t, kb_t_l, kb_t_i, kb_t_b, kb_t_s, kb_t_d, kb_l_t, kb_l_l, kb_l_i, kb_l_b, kb_l_s, kb_l_d, kb_i_t, kb_i_l, kb_i_i, kb_i_b, kb_i_s, kb_i_d, kb_b_t, kb_b_l, kb_b_i, kb_b_b, kb_b_s, kb_b_d, kb_s_t, kb_s_l, kb_s_i, kb_s_b, kb_s_s, kb_s_d, kb_n_t, kb_n_l, kb_n_i, kb_n_b, kb_n_s, kb_n_d, kb_d_t, kb_d_l, kb_d_i, kb_d_b, kb_d_s, kb_d_d,
  List.map_cons, List.map_nil, List.map_map, List.length_cons, List.length_nil, List.length_map, List.length_append, List.cons_append, List.nil_append, List.append_nil, List.replicate, List.set_cons_zero, List.set_cons_succ, List.getElem?_cons_zero, List.getElem?_cons_succ, List.getElem?_nil, List.take_zero, List.all_cons, List.all_nil, List.isEmpty_cons, List.isEmpty_nil, Option.bind_some, Option.bind, Option.map, if_true, if_false, Bool.false_eq_true, Bool.true_eq_false, ite_true, ite_false, reduceIte, Nat.reduceAdd, Nat.reduceSub, Nat.reduceEqDiff, Nat.reduceLT, Nat.reduceLeDiff, Int.reduceEq, Int.reduceLT, Int.reduceLE, Int.reduceNeg, Int.reduceAdd, Int.reduceSub, Int.reduceMul, Int.reduceDiv, Int.reduceMod, Int.reduceToNat, Int.reducePow, Nat.reducePow, Bool.not_true, Bool.not_false, Bool.and_true, Bool.and_false, Bool.true_and, Bool.false_and, Bool.or_true, Bool.or_false, Bool.true_or, Bool.false_or, ifc_true, ifc_false, dec_true, dec_false, eq_self, and_self, and_true, true_and, or_true, true_or, not_true_eq_false, not_false_eq_true, $args,*])
/-! ### the draws: so many numbers from 0 to 1012, whatever the script is -/
abbrev rowC (row : List Int) : Cell := .lst (row.map iW)
theorem dats_ints : ∀ row : List Int, dats (row.map iW) = some (row.map .int)
  | [] => rfl
  | x :: r => by simp only [List.map_cons, dats, dats_ints r]
theorem datWs_da (k : Nat) (S : Sto) : ∀ ds : List D, datWs k S (ds.map .da) = some (ds, S)
  | [] => by unfold datWs; rfl
  | d :: ds => by
    unfold datWs
    simp only [List.map_cons]
    rw [show datW k S (.da d) = some (d, S) by unfold datW; rfl]
    simp only [datWs_da k S ds]
theorem datW_lst (k n : Nat) (S : Sto) (ds : List D) (h : S[n]? = some (.lst (ds.map .da))) : datW (k + 1) S (.lo n) = some (.lst ds, S.set n .dead) := by
  unfold datW
  simp only [h, datWs_da]
theorem app_ok (n : Nat) (ws : List W) (w : W) (S : Sto) (h : S[n]? = some (.lst ws)) (hl : ws.length < 100000) : chL appL (.lo n) [w] S = .ok (.da .non) (S.set n (.lst (ws ++ [w]))) := by
  unfold chL appL
  simp only [h, ifc_pos (sz_lt hl)]
abbrev dR (sc at_ : W) (many cell seed : Int) (mk : Option W) : Rho := [some sc, some at_, some (iW many), some (iW cell), some (iW seed), some (.lo 0), mk]
theorem c_draws_0 (sc at_ : W) (many cell seed : Int) (row : List Int) : c_l_draws_0 (dR sc at_ many cell seed none) [rowC row] = .ok (dec (0 < cell) && dec ((row.length : Int) < many)) [rowC row] := by
  unfold c_l_draws_0
  simp_arith []
  by_cases h : 0 < cell
  · rw [dec_pos h]; simp_arith []
  · rw [dec_neg h]; simp_arith []
theorem b_draws_1 (sc at_ : W) (many cell seed : Int) (row : List Int) (h : row.length < 100000) : b_l_draws_1 (dR sc at_ many cell seed none) [rowC row] = .nx (dR sc at_ many (cell / 1013) seed none) [rowC (row ++ [cell % 1013])] := by
  unfold b_l_draws_1
  simp_arith [sz_lt h]
  simp only [dR, rowC, List.map_append, List.map_cons, List.map_nil]
theorem wh_draws_1 (sc at_ : W) (many seed : Int) (hm : many ≤ 1000) : ∀ (n : Nat) (cell : Int) (row : List Int), 0 ≤ cell → (row.length : Int) + n = many → (∀ x ∈ row, 0 ≤ x ∧ x < 1013) →
    ∃ cell' row', whileN c_l_draws_0 b_l_draws_1 (n + 1) (dR sc at_ many cell seed none) [rowC row] = .nx (dR sc at_ many cell' seed none) [rowC row'] ∧ (row'.length : Int) ≤ many ∧ ∀ x ∈ row', 0 ≤ x ∧ x < 1013
  | n, cell, row, hc, hl, hr => by
    unfold whileN
    rw [c_draws_0]
    by_cases h1 : 0 < cell ∧ (row.length : Int) < many
    · cases n with
      | zero => omega
      | succ n =>
        have hx : ∀ x ∈ row ++ [cell % 1013], 0 ≤ x ∧ x < 1013 := by
          intro x hx
          rcases List.mem_append.mp hx with z | z
          · exact hr x z
          · simp at z; subst z; omega
        obtain ⟨c', r', e, h3, h4⟩ := wh_draws_1 sc at_ many seed hm n (cell / 1013) (row ++ [cell % 1013]) (Int.ediv_nonneg hc (by decide)) (by simp; omega) hx
        refine ⟨c', r', ?_, h3, h4⟩
        simp only [dec_pos h1.1, dec_pos h1.2, Bool.and_self]
        rw [b_draws_1 _ _ _ _ _ _ (by omega)]
        exact e
    · refine ⟨cell, row, ?_, by omega, hr⟩
      have hf : (dec (0 < cell) && dec ((row.length : Int) < many)) = false := by
        rw [Bool.and_eq_false_iff]
        by_cases h2 : 0 < cell
        · right; exact dec_neg (fun z => h1 ⟨h2, z⟩)
        · left; exact dec_neg h2
      rw [hf]
theorem c_draws_2 (sc at_ : W) (many cell seed : Int) (mk : Option W) (row : List Int) : c_l_draws_2 (dR sc at_ many cell seed mk) [rowC row] = .ok (dec ((row.length : Int) < many)) [rowC row] := by
  unfold c_l_draws_2
  simp_arith []
theorem b_draws_3 (sc at_ : W) (many cell seed : Int) (mk : Option W) (row : List Int) (h : row.length < 100000) : ∃ seed' mk' x, b_l_draws_3 (dR sc at_ many cell seed mk) [rowC row] = .nx (dR sc at_ many cell seed' mk') [rowC (row ++ [x])] ∧ 0 ≤ x ∧ x < 1013 := by
  have fin : ∀ z : Int, -1000000000 < z → z < 1000000000 → (row.length : Int) + 1 = z → ∃ seed' mk' x, b_l_draws_3 (dR sc at_ many cell seed mk) [rowC row] = .nx (dR sc at_ many cell seed' mk') [rowC (row ++ [x])] ∧ 0 ≤ x ∧ x < 1013 := by
    intro z z1 z2 hz
    have h4 := fun S => mul_l z z S z1 z2
    have h5 : ∀ (s : Int) (S : Sto), vl2 mulW (.da (.int (s % 65521))) (.da (.int (s / 65521 % 32749 + 1))) S = .ok (.da (.int (s % 65521 * (s / 65521 % 32749 + 1)))) S := fun s S => mul_l _ _ _ (by omega) (by omega)
    have key : ∀ s : Int, 0 ≤ s % 65521 * (s / 65521 % 32749 + 1) % 1000003 % 1013 ∧ s % 65521 * (s / 65521 % 32749 + 1) % 1000003 % 1013 < 1013 := fun s => ⟨Int.emod_nonneg _ (by decide), Int.emod_lt_of_pos _ (by decide)⟩
    refine ⟨(seed * 48271 + z * z * 6133 + 17) % 2147483647, some (iW z), _, ?_, (key ((seed * 48271 + z * z * 6133 + 17) % 2147483647)).1, (key ((seed * 48271 + z * z * 6133 + 17) % 2147483647)).2⟩
    unfold b_l_draws_3
    simp_arith [hz]
    simp_arith [h4]
    generalize (seed * 48271 + z * z * 6133 + 17) % 2147483647 = s
    simp_arith [h5, sz_lt h]
    simp only [dR, rowC, List.map_append, List.map_cons, List.map_nil]
  exact fin _ (by omega) (by omega) rfl
theorem wh_draws_3 (sc at_ : W) (many cell : Int) (hm : many ≤ 1000) : ∀ (n : Nat) (seed : Int) (mk : Option W) (row : List Int), (row.length : Int) + n = many → (∀ x ∈ row, 0 ≤ x ∧ x < 1013) →
    ∃ seed' mk' row', whileN c_l_draws_2 b_l_draws_3 (n + 1) (dR sc at_ many cell seed mk) [rowC row] = .nx (dR sc at_ many cell seed' mk') [rowC row'] ∧ (row'.length : Int) = many ∧ ∀ x ∈ row', 0 ≤ x ∧ x < 1013
  | n, seed, mk, row, hl, hr => by
    unfold whileN
    rw [c_draws_2]
    cases n with
    | zero =>
      refine ⟨seed, mk, row, ?_, by omega, hr⟩
      rw [dec_neg (by omega : ¬ (row.length : Int) < many)]
    | succ n =>
      obtain ⟨s', k', x, e, h1, h2⟩ := b_draws_3 sc at_ many cell seed mk row (by omega)
      have hx : ∀ y ∈ row ++ [x], 0 ≤ y ∧ y < 1013 := by
        intro y hy
        rcases List.mem_append.mp hy with z | z
        · exact hr y z
        · simp at z; subst z; exact ⟨h1, h2⟩
      obtain ⟨s2, k2, r2, e2, h3, h4⟩ := wh_draws_3 sc at_ many cell hm n s' k' (row ++ [x]) (by simp; omega) hx
      refine ⟨s2, k2, r2, ?_, h3, h4⟩
      rw [dec_pos (by omega : (row.length : Int) < many)]
      simp only [e]
      exact e2
/-- a row of draws -/
def Drawn (n : Nat) (row : List Int) : Prop := row.length = n ∧ ∀ x ∈ row, 0 ≤ x ∧ x < 1013
theorem draws_end (sc at_ : W) (many cell seed : Int) (row : List Int) (hm : many ≤ 1000) (hl : (row.length : Int) ≤ many) (hr : ∀ x ∈ row, 0 ≤ x ∧ x < 1013) : ∃ r' S', Drawn many.toNat r' ∧
    mSeq (mWhile c_l_draws_2 b_l_draws_3) (mRet (mFz (mVar 5))) (dR sc at_ many cell seed none) [rowC row] = .rt (.da (.lst (r'.map .int))) S' := by
  obtain ⟨s', k', r', e, h1, h2⟩ := wh_draws_3 sc at_ many cell hm (many - row.length).toNat seed none row (by omega) hr
  refine ⟨r', [.dead], ⟨by omega, h2⟩, ?_⟩
  have hw := mWhile_of _ (by rw [e]; intro z; cases z)
  rw [e] at hw
  rw [mSeq_nx hw]
  have hd := datW_lst 4 0 [rowC r'] (r'.map .int) (by simp [Function.comp_def])
  simp_arith [hd]
theorem draws_ok (ns : List Int) (at_ many : Int) (ha : 0 ≤ at_) (ha2 : at_ ≤ 1000000) (h0 : 0 ≤ many) (hm : many ≤ 1000) (hn : ns.length ≤ 1000) : ∃ row, Drawn many.toNat row ∧ p_l_draws [.scr (ns.map .int), .int at_, .int many] = .ok (.lst (row.map .int)) := by
  have m1 := fun S => mul_l at_ at_ S (by omega) (by omega)
  have m2 := fun S => mul_l 7 at_ S (by decide) (by decide)
  have m3 := fun S => mul_l 31 at_ S (by decide) (by decide)
  have e18 := fun S => pow_ok 10 18 S (by decide) (by decide) (by decide)
  suffices h : ∃ row S, Drawn many.toNat row ∧ m_l_draws [some (.da (.scr (ns.map .int))), some (iW at_), some (iW many), none, none, none, none] [] = .rt (.da (.lst (row.map .int))) S by
    obtain ⟨row, S, hd, e⟩ := h
    exact ⟨row, hd, runP_ok rfl e⟩
  unfold m_l_draws
  have s0 : ∀ m : MS, mSeq (mSet 3 (mOp addD (mOp (vl2 mulW) (mC (.int 7)) (mVar 1)) (mC (.int 1)))) m [some (.da (.scr (ns.map .int))), some (iW at_), some (iW many), none, none, none, none] [] = m [some (.da (.scr (ns.map .int))), some (iW at_), some (iW many), some (iW (7 * at_ + 1)), none, none, none] [] := fun m => by
    simp_arith [m2]
  rw [s0]
  have rest : ∀ cell : Int, ∃ row S, Drawn many.toNat row ∧ (mSeq (mSet 4 (mOp addD (mOp addD (mOp (vl2 modW) (mVar 3) (mC (.int 999983))) (mOp (vl2 mulW) (mC (.int 31)) (mVar 1))) (mC (.int 5)))) (mSeq (mSet 5 (mCall (ncN lstC) mNil)) (mSeq (mIf (mTst (mOp (vl2 geW) (mVar 3) (mOp (vl2 powW) (mC (.int 10)) (mC (.int 18))))) (mWhile c_l_draws_0 b_l_draws_1) mSkip) (mSeq (mWhile c_l_draws_2 b_l_draws_3) (mRet (mFz (mVar 5))))))) [some (.da (.scr (ns.map .int))), some (iW at_), some (iW many), some (iW cell), none, none, none] [] = .rt (.da (.lst (row.map .int))) S := by
    intro cell
    have t1 : ∀ m : MS, mSeq (mSet 4 (mOp addD (mOp addD (mOp (vl2 modW) (mVar 3) (mC (.int 999983))) (mOp (vl2 mulW) (mC (.int 31)) (mVar 1))) (mC (.int 5)))) (mSeq (mSet 5 (mCall (ncN lstC) mNil)) m) [some (.da (.scr (ns.map .int))), some (iW at_), some (iW many), some (iW cell), none, none, none] [] = m (dR (.da (.scr (ns.map .int))) (iW at_) many cell (cell % 999983 + 31 * at_ + 5) none) [rowC []] := fun m => by
      simp_arith [m3]
      rfl
    rw [t1]
    generalize cell % 999983 + 31 * at_ + 5 = seed
    have t2 : mTst (mOp (vl2 geW) (mVar 3) (mOp (vl2 powW) (mC (.int 10)) (mC (.int 18)))) (dR (.da (.scr (ns.map .int))) (iW at_) many cell seed none) [rowC []] = .ok (dec ((10 : Int) ^ 18 ≤ cell)) [rowC []] := by
      unfold mTst mOp
      simp only [mVar, mC, Rs.bind, List.getElem?_cons_succ, List.getElem?_cons_zero, e18, ge_ii, boolOf]
      rfl
    by_cases hc : (10 : Int) ^ 18 ≤ cell
    · rw [dec_pos hc] at t2
      obtain ⟨c', r', e, h1, h2⟩ := wh_draws_1 (.da (.scr (ns.map .int))) (iW at_) many seed hm many.toNat cell [] (Int.le_trans (by decide) hc) (by simp; omega) (by simp)
      have hw := mWhile_of _ (by rw [e]; intro z; cases z)
      rw [e] at hw
      rw [mSeq_nx ((mIf_t t2).trans hw)]
      exact let ⟨r, S, a, b⟩ := draws_end _ _ many c' seed r' hm h1 h2; ⟨r, S, a, b⟩
    · rw [dec_neg hc] at t2
      rw [mSeq_nx (r' := dR (.da (.scr (ns.map .int))) (iW at_) many cell seed none) (s' := [rowC []]) (mIf_f (b := mSkip) t2)]
      exact let ⟨r, S, a, b⟩ := draws_end _ _ many cell seed [] hm (by simpa using h0) (by simp); ⟨r, S, a, b⟩
  by_cases h1 : at_ < (ns.length : Int)
  · have e1 : atI (List.map (W.da ∘ D.int) ns) at_ = some (iW (ns[at_.toNat]'(by omega))) := by
      rw [atI_get _ _ ha (by simpa using h1)]; simp
    refine (?_ : ∃ row S, Drawn many.toNat row ∧ _ = _)
    have t : mIf (mTst (mOp (vl2 ltW) (mVar 1) (mCall (vlN lenW) (mCons (mVar 0) mNil)))) (mSet 3 (mOp (vl2 ixW) (mVar 0) (mVar 1))) (mIf (mTst (mOp (vl2 gtW) (mCall (vlN lenW) (mCons (mVar 0) mNil)) (mC (.int 0)))) (mSet 3 (mOp addD (mOp addD (mOp (vl2 modW) (mOp (vl2 ixW) (mVar 0) (mOp (vl2 modW) (mVar 1) (mCall (vlN lenW) (mCons (mVar 0) mNil)))) (mC (.int 999983))) (mOp (vl2 mulW) (mOp (vl2 mulW) (mVar 1) (mVar 1)) (mC (.int 97)))) (mC (.int 1)))) mSkip) [some (.da (.scr (ns.map .int))), some (iW at_), some (iW many), some (iW (7 * at_ + 1)), none, none, none] [] = .nx [some (.da (.scr (ns.map .int))), some (iW at_), some (iW many), some (iW (ns[at_.toNat]'(by omega))), none, none, none] [] := by
      refine (mIf_t (s' := []) (by simp_arith [dec_pos h1])).trans ?_
      simp_arith [e1]
    rw [mSeq_nx t]
    exact rest _
  · by_cases h2 : (0 : Int) < (ns.length : Int)
    · have hq : 0 ≤ at_ % (ns.length : Int) := Int.emod_nonneg _ (by omega)
      have hq2 : at_ % (ns.length : Int) < (ns.length : Int) := Int.emod_lt_of_pos _ h2
      have e1 : atI (List.map (W.da ∘ D.int) ns) (at_ % (ns.length : Int)) = some (iW (ns[(at_ % (ns.length : Int)).toNat]'(by omega))) := by
        rw [atI_get _ _ hq (by simpa using hq2)]; simp
      have hm3 := fun S => mod_ok at_ (ns.length : Int) S h2
      have t : ∃ c : Int, mIf (mTst (mOp (vl2 ltW) (mVar 1) (mCall (vlN lenW) (mCons (mVar 0) mNil)))) (mSet 3 (mOp (vl2 ixW) (mVar 0) (mVar 1))) (mIf (mTst (mOp (vl2 gtW) (mCall (vlN lenW) (mCons (mVar 0) mNil)) (mC (.int 0)))) (mSet 3 (mOp addD (mOp addD (mOp (vl2 modW) (mOp (vl2 ixW) (mVar 0) (mOp (vl2 modW) (mVar 1) (mCall (vlN lenW) (mCons (mVar 0) mNil)))) (mC (.int 999983))) (mOp (vl2 mulW) (mOp (vl2 mulW) (mVar 1) (mVar 1)) (mC (.int 97)))) (mC (.int 1)))) mSkip) [some (.da (.scr (ns.map .int))), some (iW at_), some (iW many), some (iW (7 * at_ + 1)), none, none, none] [] = .nx [some (.da (.scr (ns.map .int))), some (iW at_), some (iW many), some (iW c), none, none, none] [] := by
        refine ⟨_, (mIf_f (s' := []) (by simp_arith [dec_neg h1])).trans ((mIf_t (s' := []) (by simp_arith [dec_pos h2])).trans (?_ : _ = Out.nx [_, _, _, some (iW (ns[(at_ % (ns.length : Int)).toNat]'(by omega) % 999983 + at_ * at_ * 97 + 1)), _, _, _] _))⟩
        simp_arith [hm3, e1, m1]
      obtain ⟨c, t⟩ := t
      rw [mSeq_nx t]
      exact rest c
    · have t : mIf (mTst (mOp (vl2 ltW) (mVar 1) (mCall (vlN lenW) (mCons (mVar 0) mNil)))) (mSet 3 (mOp (vl2 ixW) (mVar 0) (mVar 1))) (mIf (mTst (mOp (vl2 gtW) (mCall (vlN lenW) (mCons (mVar 0) mNil)) (mC (.int 0)))) (mSet 3 (mOp addD (mOp addD (mOp (vl2 modW) (mOp (vl2 ixW) (mVar 0) (mOp (vl2 modW) (mVar 1) (mCall (vlN lenW) (mCons (mVar 0) mNil)))) (mC (.int 999983))) (mOp (vl2 mulW) (mOp (vl2 mulW) (mVar 1) (mVar 1)) (mC (.int 97)))) (mC (.int 1)))) mSkip) [some (.da (.scr (ns.map .int))), some (iW at_), some (iW many), some (iW (7 * at_ + 1)), none, none, none] [] = .nx [some (.da (.scr (ns.map .int))), some (iW at_), some (iW many), some (iW (7 * at_ + 1)), none, none, none] [] := by
        refine (mIf_f (s' := []) (by simp_arith [dec_neg h1])).trans ?_
        exact mIf_f (s' := []) (by simp_arith [dec_neg h2])
      rw [mSeq_nx t]
      exact rest _
/-! ### loops and comprehensions, by what holds between the turns -/
theorem lc_gen {α β : Type} (wx : α → W) (wy : β → W) (f : α → Option β) {g : MG} {mt : MT} {me : ME} {ρw : Rho} {S : Sto} : ∀ (xs : List α) (acc : List W), acc.length + xs.length ≤ 100000 →
    (∀ x ∈ xs, ∃ ρ2, g (wx x) ρw S = some ρ2 ∧ match f x with
      | some y => mt ρ2 S = .ok true S ∧ me ρ2 S = .ok (wy y) S
      | none => mt ρ2 S = .ok false S) →
    lcM g mt me ρw (xs.map wx) acc S = .ok (acc ++ (xs.filterMap f).map wy) S
  | [], acc, _, _ => by simp [lcM]
  | x :: xs, acc, hl, h => by
    obtain ⟨ρ2, e1, e2⟩ := h x (List.mem_cons_self)
    have ih := fun acc hl => lc_gen wx wy f (g := g) (mt := mt) (me := me) (ρw := ρw) (S := S) xs acc hl fun y hy => h y (List.mem_cons_of_mem _ hy)
    simp only [List.map_cons, lcM, e1]
    simp only [List.length_cons] at hl
    cases hf : f x with
    | some y =>
      rw [hf] at e2
      simp only [e2.1, e2.2]
      rw [ifc_pos (sz_lt (by omega)), ih _ (by simp; omega)]
      simp [hf]
    | none =>
      rw [hf] at e2
      simp only [e2]
      rw [ih _ (by omega)]
      simp [hf]
theorem filterMap_ite {α : Type} (f : α → Bool) : ∀ xs : List α, xs.filterMap (fun x => if f x = true then some x else none) = xs.filter f
  | [] => rfl
  | x :: xs => by
    have ih := filterMap_ite f xs
    cases h : f x <;> simp [List.filterMap_cons, List.filter_cons, h, ih]
theorem lc_filter {α : Type} (wx : α → W) (f : α → Bool) {g : MG} {mt : MT} {me : ME} {ρw : Rho} {S : Sto} (xs : List α) (hl : xs.length ≤ 100000)
    (h : ∀ x ∈ xs, ∃ ρ2, g (wx x) ρw S = some ρ2 ∧ mt ρ2 S = .ok (f x) S ∧ (f x = true → me ρ2 S = .ok (wx x) S)) : lcM g mt me ρw (xs.map wx) [] S = .ok ((xs.filter f).map wx) S := by
  rw [lc_gen wx wx (fun x => if f x = true then some x else none) xs [] (by simpa using hl), filterMap_ite]
  · rfl
  · intro x hx
    obtain ⟨ρ2, e1, e2, e3⟩ := h x hx
    refine ⟨ρ2, e1, ?_⟩
    cases q : f x with
    | true => rw [q] at e2; simp only [if_true]; exact ⟨e2, e3 q⟩
    | false => rw [q] at e2; simp only [Bool.false_eq_true, if_false]; exact e2
theorem lc_map {α β : Type} (wx : α → W) (wy : β → W) (f : α → β) {g : MG} {me : ME} {ρw : Rho} {S : Sto} (xs : List α) (hl : xs.length ≤ 100000)
    (h : ∀ x ∈ xs, ∃ ρ2, g (wx x) ρw S = some ρ2 ∧ me ρ2 S = .ok (wy (f x)) S) : lcM g mYes me ρw (xs.map wx) [] S = .ok ((xs.map f).map wy) S := by
  rw [lc_gen wx wy (fun x => some (f x)) xs [] (by simpa using hl)]
  · simp
  · intro x hx
    obtain ⟨ρ2, e1, e2⟩ := h x hx
    exact ⟨ρ2, e1, rfl, e2⟩
theorem loop_all {α : Type} (wx : α → W) {g : MG} {b : MS} (I : List α → Rho → Sto → Prop) : ∀ (rest done : List α) (ρ : Rho) (S : Sto),
    (∀ (dn : List α) (x : α) (r : List α) ρ S, done ++ rest = dn ++ x :: r → I dn ρ S → ∃ ρ1, g (wx x) ρ S = some ρ1 ∧ ∃ ρ2 S2, (b ρ1 S = .nx ρ2 S2 ∨ b ρ1 S = .ct ρ2 S2) ∧ I (dn ++ [x]) ρ2 S2) →
    I done ρ S → ∃ ρ' S', loopM g b (rest.map wx) ρ S = .nx ρ' S' ∧ I (done ++ rest) ρ' S'
  | [], done, ρ, S, _, h => ⟨ρ, S, rfl, by simpa using h⟩
  | x :: rest, done, ρ, S, st, h => by
    obtain ⟨ρ1, e1, ρ2, S2, e2, h2⟩ := st done x rest ρ S rfl h
    obtain ⟨ρ', S', e3, h3⟩ := loop_all wx I rest (done ++ [x]) ρ2 S2 (fun dn y r ρ S e => st dn y r ρ S (by simpa using e)) h2
    refine ⟨ρ', S', ?_, by simpa using h3⟩
    simp only [List.map_cons, loopM, e1]
    rcases e2 with e2 | e2 <;> simp only [e2, e3]
/-- a loop that may return -/
theorem loop_or {α : Type} (wx : α → W) {g : MG} {b : MS} (I : List α → Rho → Sto → Prop) (R : W → Sto → Prop) : ∀ (rest done : List α) (ρ : Rho) (S : Sto),
    (∀ (dn : List α) (x : α) (r : List α) ρ S, done ++ rest = dn ++ x :: r → I dn ρ S → ∃ ρ1, g (wx x) ρ S = some ρ1 ∧ ((∃ ρ2 S2, (b ρ1 S = .nx ρ2 S2 ∨ b ρ1 S = .ct ρ2 S2) ∧ I (dn ++ [x]) ρ2 S2) ∨ ∃ w S2, b ρ1 S = .rt w S2 ∧ R w S2)) →
    I done ρ S → (∃ ρ' S', loopM g b (rest.map wx) ρ S = .nx ρ' S' ∧ I (done ++ rest) ρ' S') ∨ ∃ w S', loopM g b (rest.map wx) ρ S = .rt w S' ∧ R w S'
  | [], done, ρ, S, _, h => .inl ⟨ρ, S, rfl, by simpa using h⟩
  | x :: rest, done, ρ, S, st, h => by
    obtain ⟨ρ1, e1, e2⟩ := st done x rest ρ S rfl h
    rcases e2 with ⟨ρ2, S2, e2, h2⟩ | ⟨w, S2, e2, h2⟩
    · rcases loop_or wx I R rest (done ++ [x]) ρ2 S2 (fun dn y r ρ S e => st dn y r ρ S (by simpa using e)) h2 with ⟨ρ', S', e3, h3⟩ | ⟨w, S', e3, h3⟩
      · refine .inl ⟨ρ', S', ?_, by simpa using h3⟩
        simp only [List.map_cons, loopM, e1]
        rcases e2 with e2 | e2 <;> simp only [e2, e3]
      · refine .inr ⟨w, S', ?_, h3⟩
        simp only [List.map_cons, loopM, e1]
        rcases e2 with e2 | e2 <;> simp only [e2, e3]
    · exact .inr ⟨w, S2, by simp only [List.map_cons, loopM, e1, e2], h2⟩
/-! ### a drawn row, asked at a place -/
theorem at_row {n : Nat} {row : List Int} (h : Drawn n row) (i : Int) (h0 : 0 ≤ i) (h1 : i < n) : ∃ x : Int, (0 ≤ x ∧ x < 1013) ∧ atI (row.map (W.da ∘ D.int)) i = some (iW x) := by
  have hl : i.toNat < row.length := by rw [h.1]; omega
  refine ⟨row[i.toNat], h.2 _ (List.getElem_mem hl), ?_⟩
  rw [atI_get _ _ h0 (by rw [List.length_map, h.1]; exact h1)]
  simp
theorem at_list {α : Type} (f : α → W) (xs : List α) (i : Int) (h0 : 0 ≤ i) (h1 : i < xs.length) : ∃ x ∈ xs, atI (xs.map f) i = some (f x) := by
  have hl : i.toNat < xs.length := by omega
  refine ⟨xs[i.toNat], List.getElem_mem hl, ?_⟩
  rw [atI_get _ _ h0 (by rw [List.length_map]; exact h1)]
  simp
/-! ### lists of whole numbers -/
def intsL (lo : Int) : Nat → List Int
  | 0 => []
  | n + 1 => lo :: intsL (lo + 1) n
theorem ints_map : ∀ (n : Nat) (lo : Int), intsW lo n = (intsL lo n).map iW
  | 0, _ => rfl
  | n + 1, lo => by simp only [intsW, intsL, ints_map n, List.map_cons]
theorem mem_intsL : ∀ (n : Nat) (lo b : Int), b ∈ intsL lo n ↔ lo ≤ b ∧ b < lo + n
  | 0, lo, b => by simp only [intsL, List.not_mem_nil, false_iff]; omega
  | n + 1, lo, b => by simp only [intsL, List.mem_cons, mem_intsL n]; omega
theorem len_intsL : ∀ (n : Nat) (lo : Int), (intsL lo n).length = n
  | 0, _ => rfl
  | n + 1, lo => by simp [intsL, len_intsL n]
theorem lay_ints : ∀ row : List Int, PyData.canLayAll0 (toPyL (row.map .int)) = true
  | [] => rfl
  | x :: r => by simp [toPyL, toPy, PyData.canLayAll0, PyData.canLay0, lay_ints r]
theorem depth_ints : ∀ row : List Int, PyData.depthAll (toPyL (row.map .int)) ≤ 1
  | [] => by simp [toPyL, PyData.depthAll]
  | x :: r => by
    have := depth_ints r
    simp [toPyL, toPy, PyData.depthAll, PyData.depth]
    omega
theorem shaped_ints (row : List Int) : SeqAt.shaped (.list (toPyL (row.map .int))) = true := by
  have := depth_ints row
  have e : (PyData.list (toPyL (row.map .int))).canLay0 = true := by simp only [PyData.canLay0, lay_ints]
  have f : (PyData.list (toPyL (row.map .int))).depth ≤ 64 := by
    simp only [PyData.depth]
    omega
  unfold SeqAt.shaped
  rw [e, decide_eq_true f]
  rfl
theorem any_ints (b : Int) : ∀ row : List Int, ((row.map D.int).any fun z => PyData.eqv (toPy z) (.int b)) = row.any (· == b)
  | [] => rfl
  | x :: r => by
    have := any_ints b r
    simp only [List.map_cons, List.any_cons, toPy, PyData.eqv, this]
theorem in_ints (b : Int) (row : List Int) (S : Sto) : vl2 inW (.da (.int b)) (.da (.lst (row.map .int))) S = .ok (.da (.bl (row.any (· == b)))) S := by
  unfold vl2 inW inB dget
  simp only [dkW, dtW, valW, toPy]
  rw [ifc_pos ⟨by rfl, shaped_ints row⟩]
  simp only [any_ints, Option.map, lift]
theorem notin_ints (b : Int) (row : List Int) (S : Sto) : vl2 notinW (.da (.int b)) (.da (.lst (row.map .int))) S = .ok (.da (.bl (!row.any (· == b)))) S := by
  unfold vl2 notinW inB dget
  simp only [dkW, dtW, valW, toPy]
  rw [ifc_pos ⟨by rfl, shaped_ints row⟩]
  simp only [any_ints, Option.map, lift]
theorem eqvL_ints : ∀ a b : List Int, PyData.eqvAll (toPyL (a.map .int)) (toPyL (b.map .int)) = decide (a = b)
  | [], [] => by simp [toPyL, PyData.eqvAll]
  | [], _ :: _ => by simp [toPyL, PyData.eqvAll]
  | _ :: _, [] => by simp [toPyL, PyData.eqvAll]
  | x :: a, y :: b => by
    have := eqvL_ints a b
    simp only [List.map_cons, toPyL, toPy, PyData.eqvAll, PyData.eqv, this]
    by_cases h : x = y
    · subst h; simp
    · simp [h]
theorem eq_ints (a b : List Int) (S : Sto) : vl2 eqW (.da (.lst (a.map .int))) (.da (.lst (b.map .int))) S = .ok (.da (.bl (decide (a = b)))) S := by
  unfold vl2 eqW eqB
  simp only [valW, eqD, toPy]
  rw [ifc_pos ⟨shaped_ints a, shaped_ints b⟩]
  simp only [PyData.eqv, eqvL_ints, Option.map, lift]
theorem ne_ints (a b : List Int) (S : Sto) : vl2 neW (.da (.lst (a.map .int))) (.da (.lst (b.map .int))) S = .ok (.da (.bl (!decide (a = b)))) S := by
  unfold vl2 neW eqB
  simp only [valW, eqD, toPy]
  rw [ifc_pos ⟨shaped_ints a, shaped_ints b⟩]
  simp only [PyData.eqv, eqvL_ints, Option.map, lift]
/-! ### turns and motions, by the program and by the law -/
def turnP (t : Int) (x y : Int) : Int × Int :=
  if t = 0 then (x, y) else if t = 1 then (-y, x) else if t = 2 then (-x, -y) else if t = 3 then (y, -x)
  else if t = 4 then (-x, y) else if t = 5 then (-y, -x) else if t = 6 then (x, -y) else (y, x)
theorem turn8 {t : Int} (h0 : 0 ≤ t) (h7 : t ≤ 7) : t = 0 ∨ t = 1 ∨ t = 2 ∨ t = 3 ∨ t = 4 ∨ t = 5 ∨ t = 6 ∨ t = 7 := by omega
theorem turn_add (t x y r u : Int) (h0 : 0 ≤ t) (h7 : t ≤ 7) : turnP t (x + r) (y + u) = ((turnP t x y).1 + (turnP t r u).1, (turnP t x y).2 + (turnP t r u).2) := by
  rcases turn8 h0 h7 with rfl | rfl | rfl | rfl | rfl | rfl | rfl | rfl <;> simp [turnP] <;> omega
def tbP (t1 t2 : Int) : Int := ((if 4 ≤ t2 then -(t1 % 4) else t1 % 4) + t2) % 4 + 4 * ((t1 / 4 + t2 / 4) % 2)
theorem tb_range (t1 t2 : Int) : 0 ≤ tbP t1 t2 ∧ tbP t1 t2 ≤ 7 := by unfold tbP; omega
theorem turn_turn (t1 t2 x y : Int) (h0 : 0 ≤ t1) (h7 : t1 ≤ 7) (k0 : 0 ≤ t2) (k7 : t2 ≤ 7) : turnP (tbP t1 t2) x y = turnP t2 (turnP t1 x y).1 (turnP t1 x y).2 := by
  rcases turn8 h0 h7 with rfl | rfl | rfl | rfl | rfl | rfl | rfl | rfl <;> rcases turn8 k0 k7 with rfl | rfl | rfl | rfl | rfl | rfl | rfl | rfl <;> simp [turnP, tbP]
def bkP (t : Int) : Int := if 4 ≤ t then t else (4 - t) % 4
theorem bk_range (t : Int) (h0 : 0 ≤ t) (h7 : t ≤ 7) : 0 ≤ bkP t ∧ bkP t ≤ 7 := by
  unfold bkP
  split <;> omega
theorem turn_bk (t x y : Int) (h0 : 0 ≤ t) (h7 : t ≤ 7) : turnP (bkP t) (turnP t x y).1 (turnP t x y).2 = (x, y) := by
  rcases turn8 h0 h7 with rfl | rfl | rfl | rfl | rfl | rfl | rfl | rfl <;> simp [turnP, bkP]
/-! ### motions as things that act -/
abbrev Mo := Int × Int × Int
def okM (m : Mo) : Prop := 0 ≤ m.1 ∧ m.1 ≤ 7
abbrev moL (m : Mo) : List D := [.int m.1, .int m.2.1, .int m.2.2]
abbrev moD (m : Mo) : D := .tup (moL m)
/-- such a motion, as data -/
def IsMo (d : D) (m : Mo) : Prop := d = .tup (moL m) ∨ d = .wt (moL m)
def still : Mo := (0, 0, 0)
def bh (m n : Mo) : Mo := (tbP m.1 n.1, (turnP n.1 m.2.1 m.2.2).1 + n.2.1, (turnP n.1 m.2.1 m.2.2).2 + n.2.2)
def act (m : Mo) (p : Int × Int) : Int × Int := ((turnP m.1 p.1 p.2).1 + m.2.1, (turnP m.1 p.1 p.2).2 + m.2.2)
theorem ok_still : okM still := ⟨by decide, by decide⟩
theorem ok_bh (m n : Mo) : okM (bh m n) := tb_range _ _
theorem act_still (p : Int × Int) : act still p = p := by
  obtain ⟨x, y⟩ := p
  simp [act, still, turnP]
theorem act_bh (m n : Mo) (p : Int × Int) (hm : okM m) (hn : okM n) : act (bh m n) p = act n (act m p) := by
  obtain ⟨x, y⟩ := p
  obtain ⟨t1, r1, u1⟩ := m
  obtain ⟨t2, r2, u2⟩ := n
  simp only [act, bh]
  rw [turn_turn t1 t2 x y hm.1 hm.2 hn.1 hn.2, turn_add t2 _ _ _ _ hn.1 hn.2]
  simp only [Prod.mk.injEq]
  omega
theorem turn_inj {a b : Int} (a0 : 0 ≤ a) (a7 : a ≤ 7) (b0 : 0 ≤ b) (b7 : b ≤ 7) (h : turnP a 1 2 = turnP b 1 2) : a = b := by
  rcases turn8 a0 a7 with rfl | rfl | rfl | rfl | rfl | rfl | rfl | rfl <;> rcases turn8 b0 b7 with rfl | rfl | rfl | rfl | rfl | rfl | rfl | rfl <;> simp [turnP] at h ⊢
theorem turn_00 {a : Int} (a0 : 0 ≤ a) (a7 : a ≤ 7) : turnP a 0 0 = (0, 0) := by
  rcases turn8 a0 a7 with rfl | rfl | rfl | rfl | rfl | rfl | rfl | rfl <;> simp [turnP]
theorem act_inj {m n : Mo} (hm : okM m) (hn : okM n) (h : ∀ p, act m p = act n p) : m = n := by
  obtain ⟨t1, r1, u1⟩ := m
  obtain ⟨t2, r2, u2⟩ := n
  have h0 := h (0, 0)
  have h1 := h (1, 2)
  simp only [act] at h0 h1
  rw [turn_00 hm.1 hm.2, turn_00 hn.1 hn.2] at h0
  simp only [Prod.mk.injEq] at h0 h1
  have e := turn_inj (a := t1) (b := t2) hm.1 hm.2 hn.1 hn.2 (Prod.ext (by have := h0.1; have := h1.1; omega) (by have := h0.2; have := h1.2; omega))
  simp only [Prod.mk.injEq]
  exact ⟨e, by omega, by omega⟩
def bkM (m : Mo) : Mo := (bkP m.1, -(turnP (bkP m.1) m.2.1 m.2.2).1, -(turnP (bkP m.1) m.2.1 m.2.2).2)
theorem ok_bk {m : Mo} (h : okM m) : okM (bkM m) := bk_range _ h.1 h.2
theorem turn_bk2 (t x y : Int) (h0 : 0 ≤ t) (h7 : t ≤ 7) : turnP t (turnP (bkP t) x y).1 (turnP (bkP t) x y).2 = (x, y) := by
  rcases turn8 h0 h7 with rfl | rfl | rfl | rfl | rfl | rfl | rfl | rfl <;> simp [turnP, bkP]
theorem act_bk (m : Mo) (p : Int × Int) (hm : okM m) : act (bkM m) (act m p) = p := by
  obtain ⟨x, y⟩ := p
  obtain ⟨t, r, u⟩ := m
  have hb := bk_range t hm.1 hm.2
  simp only [act, bkM]
  rw [turn_add (bkP t) _ _ _ _ hb.1 hb.2, turn_bk t x y hm.1 hm.2]
  simp only [Prod.mk.injEq]
  omega
theorem turn_neg (t x y : Int) (h0 : 0 ≤ t) (h7 : t ≤ 7) : turnP t (-x) (-y) = (-(turnP t x y).1, -(turnP t x y).2) := by
  rcases turn8 h0 h7 with rfl | rfl | rfl | rfl | rfl | rfl | rfl | rfl <;> simp [turnP]
theorem act_bk2 (m : Mo) (p : Int × Int) (hm : okM m) : act m (act (bkM m) p) = p := by
  obtain ⟨x, y⟩ := p
  obtain ⟨t, r, u⟩ := m
  have hb := bk_range t hm.1 hm.2
  simp only [act, bkM]
  rw [turn_add t _ _ _ _ hm.1 hm.2, turn_neg t _ _ hm.1 hm.2, turn_bk2 t x y hm.1 hm.2, turn_bk2 t r u hm.1 hm.2]
  simp only [Prod.mk.injEq]
  omega
theorem bh_still (m : Mo) (hm : okM m) : bh m still = m := act_inj (ok_bh _ _) hm fun p => by rw [act_bh _ _ _ hm ok_still, act_still]
theorem still_bh (m : Mo) (hm : okM m) : bh still m = m := act_inj (ok_bh _ _) hm fun p => by rw [act_bh _ _ _ ok_still hm, act_still]
theorem bh_assoc (a b c : Mo) (ha : okM a) (hb : okM b) (hc : okM c) : bh (bh a b) c = bh a (bh b c) := act_inj (ok_bh _ _) (ok_bh _ _) fun p => by
  rw [act_bh _ _ _ (ok_bh _ _) hc, act_bh _ _ _ ha hb, act_bh _ _ _ ha (ok_bh _ _), act_bh _ _ _ hb hc]
theorem bh_bk (m : Mo) (hm : okM m) : bh m (bkM m) = still := act_inj (ok_bh _ _) ok_still fun p => by rw [act_bh _ _ _ hm (ok_bk hm), act_bk _ _ hm, act_still]
theorem bk_bh (a m : Mo) (ha : okM a) (hm : okM m) : bkM (bh a m) = bh (bkM m) (bkM a) := act_inj (ok_bk (ok_bh _ _)) (ok_bh _ _) fun p => by
  have e := act_bk (bh a m) (act (bkM a) (act (bkM m) p)) (ok_bh _ _)
  rw [act_bh _ _ _ ha hm, act_bk2 _ _ ha, act_bk2 _ _ hm] at e
  rw [e, act_bh _ _ _ (ok_bk hm) (ok_bk ha)]
theorem bk_still : bkM still = still := by decide
theorem l_turned_eq (t x y : Int) (h0 : 0 ≤ t) (h7 : t ≤ 7) : p_l_turned [.int t, .int x, .int y] = .ok (.tup [.int (turnP t x y).1, .int (turnP t x y).2]) := by
  unfold p_l_turned m_l_turned
  rcases turn8 h0 h7 with rfl | rfl | rfl | rfl | rfl | rfl | rfl | rfl <;> simp_arith [] <;> simp [turnP]
theorem l_moved_eq (m : Mo) (hm : okM m) (x y : Int) : p_l_moved [moD m, .tup [.int x, .int y]] = .ok (.tup [.int (act m (x, y)).1, .int (act m (x, y)).2]) := by
  unfold p_l_moved m_l_moved act
  simp_arith [l_turned_eq m.1 x y hm.1 hm.2]
theorem l_back_mo (m : Mo) (d : D) (hd : IsMo d m) (hm : okM m) : p_l_back [d] = .ok (moD (bkM m)) := by
  have hb := bk_range m.1 hm.1 hm.2
  obtain ⟨t, r, u⟩ := m
  have k : atI [iW 0, iW 3, iW 2, iW 1, iW 4, iW 5, iW 6, iW 7] t = some (iW (bkP t)) := by
    have h : 0 ≤ t ∧ t ≤ 7 := hm
    rcases turn8 h.1 h.2 with rfl | rfl | rfl | rfl | rfl | rfl | rfl | rfl <;> rfl
  have lt := l_turned_eq (bkP t) r u hb.1 hb.2
  unfold p_l_back m_l_back bkM
  rcases hd with rfl | rfl <;> simp_arith [k, lt]
/-! ### plates -/
abbrev Star := Int × Int × Int
abbrev stD (s : Star) : D := .tup [.int s.1, .int s.2.1, .int s.2.2]
abbrev stW (s : Star) : W := .da (stD s)
abbrev starsD (l : List Star) : D := .lst (l.map stD)
abbrev plc (s : Star) : Int × Int := (s.1, s.2.1)
theorem enc_star : Enc stD 1 := EncL.tup (EncL.cons enc_int (EncL.cons enc_int (EncL.one enc_int)))
theorem sk_star : Sk stD := .inl fun a => ⟨_, _, by simp [toPy, toPyL]; exact ⟨rfl, rfl⟩⟩
theorem lay_star (l : List Star) : Lay stD l := fun a _ => by simp [toPy, toPyL, PyData.canLay0, PyData.canLayAll0]
theorem dats_stars (l : List Star) : dats (l.map stW) = some (l.map stD) := by
  rw [show l.map stW = (l.map stD).map .da by simp [Function.comp_def], dats_da]
theorem stars_map (l : List Star) : List.map (W.da ∘ stD) l = l.map stW := rfl
abbrev azS : Str := "abcdefghijklmnopqrstuvwxyz"
def NameOk (s : Str) : Prop := 1 ≤ s.length ∧ s.length ≤ 8 ∧ ∀ c ∈ s.cps.toList, c ∈ azS.cps.toList
theorem notin_az (c : Nat) (S : Sto) : vl2 notinW (.da (.str ⟨#[c]⟩)) (.da (.str azS)) S = .ok (.da (.bl (!dec (c ∈ azS.cps.toList)))) S := rfl
theorem name_loop (s : Str) (S : Sto) : ∀ (cs : List Nat) (o1 : Option W), (∃ a, loopM (gtName 1) b_is_name_0 (cs.map fun c => W.da (.str ⟨#[c]⟩)) [some (.da (.str s)), o1] S = .nx [some (.da (.str s)), a] S ∧ ∀ c ∈ cs, c ∈ azS.cps.toList) ∨ (loopM (gtName 1) b_is_name_0 (cs.map fun c => W.da (.str ⟨#[c]⟩)) [some (.da (.str s)), o1] S = .rt (.da (.bl false)) S ∧ ¬ ∀ c ∈ cs, c ∈ azS.cps.toList)
  | [], o1 => .inl ⟨o1, rfl, by simp⟩
  | c :: cs, o1 => by
    have g : gtName 1 (W.da (.str ⟨#[c]⟩)) [some (.da (.str s)), o1] S = some [some (.da (.str s)), some (.da (.str ⟨#[c]⟩))] := rfl
    by_cases h : c ∈ azS.cps.toList
    · have b : b_is_name_0 [some (.da (.str s)), some (.da (.str ⟨#[c]⟩))] S = .nx [some (.da (.str s)), some (.da (.str ⟨#[c]⟩))] S := by
        unfold b_is_name_0
        simp_arith [notin_az, dec_pos h]
      rcases name_loop s S cs (some (.da (.str ⟨#[c]⟩))) with ⟨a, e, k⟩ | ⟨e, k⟩
      · refine .inl ⟨a, ?_, ?_⟩
        · simp only [List.map_cons, loopM, g, b, e]
        · intro x hx
          rcases List.mem_cons.mp hx with rfl | hx
          · exact h
          · exact k x hx
      · refine .inr ⟨?_, fun z => k fun x hx => z x (List.mem_cons_of_mem _ hx)⟩
        simp only [List.map_cons, loopM, g, b, e]
    · have b : b_is_name_0 [some (.da (.str s)), some (.da (.str ⟨#[c]⟩))] S = .rt (.da (.bl false)) S := by
        unfold b_is_name_0
        simp_arith [notin_az, dec_neg h]
      refine .inr ⟨?_, fun z => h (z c (by simp))⟩
      simp only [List.map_cons, loopM, g, b]
theorem len_str (s : Str) (h : s.length ≤ 100000) (S : Sto) : vlN lenW [.da (.str s)] S = .ok (.da (.int s.length)) S := by
  unfold vlN lenW
  simp only [seqW, ifc_pos (sz_le h), lift]
theorem is_name_eq (s : Str) (hl : s.length ≤ 100000) : p_is_name [.str s] = .ok (.bl (dec (NameOk s))) := by
  unfold p_is_name m_is_name
  have ln := fun S => len_str s hl S
  by_cases h1 : (s.length : Int) < 1
  · rw [dec_neg (c := NameOk s) (fun z => by have := z.1; omega)]
    simp_arith [ln, dec_pos h1]
  · by_cases h2 : (8 : Int) < (s.length : Int)
    · rw [dec_neg (c := NameOk s) (fun z => by have := z.2.1; omega)]
      simp_arith [ln, dec_neg h1, dec_pos h2]
    · have sg : signs s = s.cps.toList.map fun c => W.da (.str ⟨#[c]⟩) := rfl
      rcases name_loop s [] s.cps.toList none with ⟨a, e, k⟩ | ⟨e, k⟩
      · rw [dec_pos (c := NameOk s) ⟨by omega, by omega, k⟩]
        simp_arith [ln, dec_neg h1, dec_neg h2]
        rw [sg, e]
        simp_arith []
      · rw [dec_neg (c := NameOk s) (fun z => k z.2.2)]
        simp_arith [ln, dec_neg h1, dec_neg h2]
        rw [sg, e]
        simp_arith []
/-! stars -/
def StarOk (w h l : Int) (s : Star) : Prop := (0 ≤ s.1 ∧ s.1 < w) ∧ (0 ≤ s.2.1 ∧ s.2.1 < h) ∧ (l ≤ s.2.2 ∧ s.2.2 ≤ 9)
def GlassOk (w h l : Int) (ss : List Star) : Prop := (1 ≤ w ∧ w ≤ 8) ∧ (1 ≤ h ∧ h ≤ 8) ∧ (1 ≤ l ∧ l ≤ 9) ∧ ss.length ≤ 8 ∧ (∀ s ∈ ss, StarOk w h l s) ∧ (ss.map plc).Nodup
abbrev plK (s : Star) : List Key := [.inl s.1, .inl s.2.1]
theorem plK_inj (a b : Star) : plK a = plK b ↔ plc a = plc b := by simp [plK, plc]
abbrev glR (w h l : Int) (sd : D) (o4 o5 o6 o7 : Option W) : Rho := [some (iW w), some (iW h), some (iW l), some (.da sd), o4, o5, o6, o7]
abbrev seenC (ss : List Star) : Cell := .dt (ss.map fun s => (plK s, W.da (.bl true)))
theorem look_seen (x y : Int) : ∀ ss : List Star, (look (ss.map fun s => (plK s, W.da (.bl true))) [.inl x, .inl y]).isSome = dec ((x, y) ∈ ss.map plc)
  | [] => by rw [dec_neg (by simp)]; rfl
  | s :: ss => by
    simp only [List.map_cons, look]
    by_cases h : plK s = [.inl x, .inl y]
    · rw [if_pos h, dec_pos]
      · rfl
      · simp only [List.cons.injEq, Sum.inl.injEq, and_true] at h
        exact List.mem_cons.mpr (.inl (by rw [← h.1, ← h.2]))
    · rw [if_neg h, look_seen x y ss]
      by_cases q : (x, y) ∈ ss.map plc
      · rw [dec_pos q, dec_pos (List.mem_cons_of_mem _ q)]
      · rw [dec_neg q, dec_neg]
        intro z
        rcases List.mem_cons.mp z with z | z
        · apply h
          simp only [plc, Prod.mk.injEq] at z
          rw [z.1, z.2]
        · exact q z
theorem in_seen (x y : Int) (ss : List Star) : vl2 inW (.da (.tup [.int x, .int y])) (.lo 0) [seenC ss] = .ok (.da (.bl (dec ((x, y) ∈ ss.map plc)))) [seenC ss] := by
  unfold vl2 inW inB dget
  simp only [dkW, dtW, List.getElem?_cons_zero, keysW, keysD, keyD, Option.map, look_seen, lift]
theorem put_seen (s : Star) (ss : List Star) (h : plc s ∉ ss.map plc) : putW (ss.map fun s => (plK s, W.da (.bl true))) (plK s) (.da (.bl true)) = (ss ++ [s]).map fun s => (plK s, W.da (.bl true)) := by
  unfold putW
  rw [if_neg]
  · simp
  · intro z
    rw [List.any_eq_true] at z
    obtain ⟨q, hq, e⟩ := z
    obtain ⟨u, hu, rfl⟩ := List.mem_map.mp hq
    exact h (List.mem_map.mpr ⟨u, hu, (plK_inj _ _).mp (of_decide_eq_true e)⟩)
theorem glass_loop (w h l : Int) (sd : D) : ∀ (rest done : List Star) (o5 o6 o7 : Option W), done.length + rest.length < 1000 → (done.map plc).Nodup →
    (∃ a b c, loopM (gtTup 3 (gtCons (gtName 5) (gtCons (gtName 6) (gtCons (gtName 7) gtNil)))) b_is_glass_0 (rest.map stW) (glR w h l sd (some (.lo 0)) o5 o6 o7) [seenC done] = .nx (glR w h l sd (some (.lo 0)) a b c) [seenC (done ++ rest)] ∧ (∀ s ∈ rest, StarOk w h l s) ∧ ((done ++ rest).map plc).Nodup) ∨
    ((∃ S, loopM (gtTup 3 (gtCons (gtName 5) (gtCons (gtName 6) (gtCons (gtName 7) gtNil)))) b_is_glass_0 (rest.map stW) (glR w h l sd (some (.lo 0)) o5 o6 o7) [seenC done] = .rt (.da (.bl false)) S) ∧ ¬ ((∀ s ∈ rest, StarOk w h l s) ∧ ((done ++ rest).map plc).Nodup))
  | [], done, o5, o6, o7, _, nd => .inl ⟨o5, o6, o7, by simp [loopM], by simp, by simpa using nd⟩
  | s :: rest, done, o5, o6, o7, hl, nd => by
    simp only [List.length_cons] at hl
    have g : (gtTup 3 (gtCons (gtName 5) (gtCons (gtName 6) (gtCons (gtName 7) gtNil)))) (stW s) (glR w h l sd (some (.lo 0)) o5 o6 o7) [seenC done] = some (glR w h l sd (some (.lo 0)) (some (iW s.1)) (some (iW s.2.1)) (some (iW s.2.2))) := by
      simp_arith []
    have isn := in_seen s.1 s.2.1 done
    by_cases h1 : StarOk w h l s
    · obtain ⟨⟨a1, a2⟩, ⟨a3, a4⟩, a5, a6⟩ := id h1
      by_cases h2 : plc s ∈ done.map plc
      · refine .inr ⟨⟨[seenC done], ?_⟩, fun z => ?_⟩
        · have b : b_is_glass_0 (glR w h l sd (some (.lo 0)) (some (iW s.1)) (some (iW s.2.1)) (some (iW s.2.2))) [seenC done] = .rt (.da (.bl false)) [seenC done] := by
            unfold b_is_glass_0
            simp_arith [dec_pos a1, dec_pos a2, dec_pos a3, dec_pos a4, dec_pos a5, dec_pos a6, isn, dec_pos h2]
          simp only [List.map_cons, loopM, g, b]
        · have := z.2
          rw [List.map_append, List.nodup_append] at this
          exact this.2.2 _ h2 _ (List.mem_map.mpr ⟨s, by simp, rfl⟩) rfl
      · have b : b_is_glass_0 (glR w h l sd (some (.lo 0)) (some (iW s.1)) (some (iW s.2.1)) (some (iW s.2.2))) [seenC done] = .nx (glR w h l sd (some (.lo 0)) (some (iW s.1)) (some (iW s.2.1)) (some (iW s.2.2))) [seenC (done ++ [s])] := by
          have ps := put_seen s done h2
          have kk : keysW (.da (.tup [.int s.1, .int s.2.1])) = some (plK s) := rfl
          unfold b_is_glass_0 mSetIx
          simp_arith [dec_pos a1, dec_pos a2, dec_pos a3, dec_pos a4, dec_pos a5, dec_pos a6, isn, dec_neg h2, kk, ifc_pos (sz_lt (show done.length < 100000 by omega)), ps]
        have nd2 : ((done ++ [s]).map plc).Nodup := by
          rw [List.map_append, List.nodup_append]
          refine ⟨nd, by simp, fun a ha c hc => ?_⟩
          simp only [List.map_cons, List.map_nil, List.mem_singleton] at hc
          subst hc
          intro z
          exact h2 (z ▸ ha)
        rcases glass_loop w h l sd rest (done ++ [s]) (some (iW s.1)) (some (iW s.2.1)) (some (iW s.2.2)) (by simp; omega) nd2 with ⟨x, y, z, e, k1, k2⟩ | ⟨⟨S, e⟩, k⟩
        · refine .inl ⟨x, y, z, ?_, ?_, by simpa using k2⟩
          · simp only [List.map_cons, loopM, g, b, e]
            simp
          · intro u hu
            rcases List.mem_cons.mp hu with rfl | hu
            · exact h1
            · exact k1 u hu
        · refine .inr ⟨⟨S, ?_⟩, fun z => k ⟨fun u hu => z.1 u (List.mem_cons_of_mem _ hu), by simpa using z.2⟩⟩
          simp only [List.map_cons, loopM, g, b, e]
    · refine .inr ⟨⟨[seenC done], ?_⟩, fun z => h1 (z.1 s (by simp))⟩
      have b : b_is_glass_0 (glR w h l sd (some (.lo 0)) (some (iW s.1)) (some (iW s.2.1)) (some (iW s.2.2))) [seenC done] = .rt (.da (.bl false)) [seenC done] := by
        unfold b_is_glass_0
        by_cases a1 : 0 ≤ s.1
        · by_cases a2 : s.1 < w
          · by_cases a3 : 0 ≤ s.2.1
            · by_cases a4 : s.2.1 < h
              · by_cases a5 : l ≤ s.2.2
                · have a6 : ¬ s.2.2 ≤ 9 := fun z => h1 ⟨⟨a1, a2⟩, ⟨a3, a4⟩, a5, z⟩
                  simp_arith [dec_pos a1, dec_pos a2, dec_pos a3, dec_pos a4, dec_pos a5, dec_neg a6]
                · simp_arith [dec_pos a1, dec_pos a2, dec_pos a3, dec_pos a4, dec_neg a5]
              · simp_arith [dec_pos a1, dec_pos a2, dec_pos a3, dec_neg a4]
            · simp_arith [dec_pos a1, dec_pos a2, dec_neg a3]
          · simp_arith [dec_pos a1, dec_neg a2]
        · simp_arith [dec_neg a1]
      simp only [List.map_cons, loopM, g, b]
theorem is_glass_eq (w h l : Int) (ss : List Star) (hl : ss.length ≤ 900) : p_is_glass [.int w, .int h, .int l, starsD ss] = .ok (.bl (dec (GlassOk w h l ss))) := by
  unfold p_is_glass m_is_glass
  by_cases w1 : (1 : Int) ≤ w
  · by_cases w2 : w ≤ 8
    · by_cases h1 : (1 : Int) ≤ h
      · by_cases h2 : h ≤ 8
        · by_cases l1 : (1 : Int) ≤ l
          · by_cases l2 : l ≤ 9
            · by_cases n1 : (8 : Int) < (ss.length : Int)
              · rw [dec_neg (c := GlassOk w h l ss) (fun z => by have := z.2.2.2.1; omega)]
                simp_arith [dec_pos w1, dec_pos w2, dec_pos h1, dec_pos h2, dec_pos l1, dec_pos l2, dec_pos n1]
              · rcases glass_loop w h l (starsD ss) ss [] none none none (by simp; omega) (by simp) with ⟨x, y, z, e, k1, k2⟩ | ⟨⟨S, e⟩, k⟩
                · rw [dec_pos (c := GlassOk w h l ss) ⟨⟨w1, w2⟩, ⟨h1, h2⟩, ⟨l1, l2⟩, by omega, k1, by simpa using k2⟩]
                  have dw : datWs 4 [Cell.dead] (List.map ((fun x : List Key × W => x.snd) ∘ fun s => (plK s, W.da (D.bl true))) ss) = some (ss.map fun _ => .bl true, [.dead]) := by
                    rw [show (List.map ((fun x : List Key × W => x.snd) ∘ fun s => (plK s, W.da (D.bl true))) ss) = (ss.map fun _ => D.bl true).map .da by simp [Function.comp_def]]
                    exact datWs_da 4 _ _
                  simp_arith [dec_pos w1, dec_pos w2, dec_pos h1, dec_pos h2, dec_pos l1, dec_pos l2, dec_neg n1, newDT]
                  rw [stars_map, show ([Cell.dt []] : Sto) = [seenC []] from rfl, e]
                  unfold mFrz
                  rw [List.nil_append]
                  simp_arith [dw]
                · rw [dec_neg (c := GlassOk w h l ss) (fun z => k ⟨z.2.2.2.2.1, by simpa using z.2.2.2.2.2⟩)]
                  simp_arith [dec_pos w1, dec_pos w2, dec_pos h1, dec_pos h2, dec_pos l1, dec_pos l2, dec_neg n1, newDT]
                  rw [stars_map, show ([Cell.dt []] : Sto) = [seenC []] from rfl, e]
                  simp_arith []
            · rw [dec_neg (c := GlassOk w h l ss) (fun z => l2 z.2.2.1.2)]
              simp_arith [dec_pos w1, dec_pos w2, dec_pos h1, dec_pos h2, dec_pos l1, dec_neg l2]
          · rw [dec_neg (c := GlassOk w h l ss) (fun z => l1 z.2.2.1.1)]
            simp_arith [dec_pos w1, dec_pos w2, dec_pos h1, dec_pos h2, dec_neg l1]
        · rw [dec_neg (c := GlassOk w h l ss) (fun z => h2 z.2.1.2)]
          simp_arith [dec_pos w1, dec_pos w2, dec_pos h1, dec_neg h2]
      · rw [dec_neg (c := GlassOk w h l ss) (fun z => h1 z.2.1.1)]
        simp_arith [dec_pos w1, dec_pos w2, dec_neg h1]
    · rw [dec_neg (c := GlassOk w h l ss) (fun z => w2 z.1.2)]
      simp_arith [dec_pos w1, dec_neg w2]
  · rw [dec_neg (c := GlassOk w h l ss) (fun z => w1 z.1.1)]
    simp_arith [dec_neg w1]
/-! ### a plate made -/
theorem plne : ((("name" : Str) = "width") = False) ∧ ((("name" : Str) = "height") = False) ∧ ((("name" : Str) = "limit") = False) ∧ ((("name" : Str) = "lights") = False) ∧ ((("name" : Str) = "stars") = False) ∧ ((("name" : Str) = "holds") = False) ∧ ((("name" : Str) = "says") = False) ∧ ((("name" : Str) = "places") = False) ∧ ((("width" : Str) = "name") = False) ∧ ((("width" : Str) = "height") = False) ∧ ((("width" : Str) = "limit") = False) ∧ ((("width" : Str) = "lights") = False) ∧ ((("width" : Str) = "stars") = False) ∧ ((("width" : Str) = "holds") = False) ∧ ((("width" : Str) = "says") = False) ∧ ((("width" : Str) = "places") = False) ∧ ((("height" : Str) = "name") = False) ∧ ((("height" : Str) = "width") = False) ∧ ((("height" : Str) = "limit") = False) ∧ ((("height" : Str) = "lights") = False) ∧ ((("height" : Str) = "stars") = False) ∧ ((("height" : Str) = "holds") = False) ∧ ((("height" : Str) = "says") = False) ∧ ((("height" : Str) = "places") = False) ∧ ((("limit" : Str) = "name") = False) ∧ ((("limit" : Str) = "width") = False) ∧ ((("limit" : Str) = "height") = False) ∧ ((("limit" : Str) = "lights") = False) ∧ ((("limit" : Str) = "stars") = False) ∧ ((("limit" : Str) = "holds") = False) ∧ ((("limit" : Str) = "says") = False) ∧ ((("limit" : Str) = "places") = False) ∧ ((("lights" : Str) = "name") = False) ∧ ((("lights" : Str) = "width") = False) ∧ ((("lights" : Str) = "height") = False) ∧ ((("lights" : Str) = "limit") = False) ∧ ((("lights" : Str) = "stars") = False) ∧ ((("lights" : Str) = "holds") = False) ∧ ((("lights" : Str) = "says") = False) ∧ ((("lights" : Str) = "places") = False) := by
  refine ⟨?_, ?_, ?_, ?_, ?_, ?_, ?_, ?_, ?_, ?_, ?_, ?_, ?_, ?_, ?_, ?_, ?_, ?_, ?_, ?_, ?_, ?_, ?_, ?_, ?_, ?_, ?_, ?_, ?_, ?_, ?_, ?_, ?_, ?_, ?_, ?_, ?_, ?_, ?_, ?_⟩ <;> exact eq_false (by decide +kernel)
abbrev brV (s : Star) : D := .int s.2.2
abbrev brKW (s : Star) : List Key × W := (plK s, .da (brV s))
abbrev plFs : List Str := ["name", "width", "height", "limit", "lights"]
/-- a plate, as data: its stars in order -/
abbrev plateD (n : Str) (w h l : Int) (ss : List Star) : D := .obj "Plate" plFs [.str n, .int w, .int h, .int l, .dt (ss.map plK) (ss.map brV)]
abbrev plIns (n : Str) (w h l : Int) : Cell := .ins "Plate" [("name", .da (.str n)), ("width", iW w), ("height", iW h), ("limit", iW l), ("lights", .lo 1)]
theorem put_br (s : Star) (ss : List Star) (h : plc s ∉ ss.map plc) : putW (ss.map brKW) (plK s) (.da (brV s)) = (ss ++ [s]).map brKW := by
  unfold putW
  rw [if_neg]
  · simp
  · intro z
    rw [List.any_eq_true] at z
    obtain ⟨q, hq, e⟩ := z
    obtain ⟨u, hu, rfl⟩ := List.mem_map.mp hq
    exact h (List.mem_map.mpr ⟨u, hu, (plK_inj _ _).mp (of_decide_eq_true e)⟩)
abbrev inR (n : Str) (w h l : Int) (sd : D) (o6 o7 o8 : Option W) : Rho := [some (.lo 0), some (.da (.str n)), some (iW w), some (iW h), some (iW l), some (.da sd), o6, o7, o8]
theorem init_loop (n : Str) (w h l : Int) (sd : D) : ∀ (rest done : List Star) (o6 o7 o8 : Option W), done.length + rest.length < 1000 → ((done ++ rest).map plc).Nodup →
    ∃ a b c, loopM (gtTup 3 (gtCons (gtName 6) (gtCons (gtName 7) (gtCons (gtName 8) gtNil)))) b_Plate___init___0 (rest.map stW) (inR n w h l sd o6 o7 o8) [plIns n w h l, .dt (done.map brKW)] = .nx (inR n w h l sd a b c) [plIns n w h l, .dt ((done ++ rest).map brKW)]
  | [], done, o6, o7, o8, _, nd => ⟨o6, o7, o8, by simp [loopM]⟩
  | s :: rest, done, o6, o7, o8, hl, nd => by
    simp only [List.length_cons] at hl
    have g : (gtTup 3 (gtCons (gtName 6) (gtCons (gtName 7) (gtCons (gtName 8) gtNil)))) (stW s) (inR n w h l sd o6 o7 o8) [plIns n w h l, .dt (done.map brKW)] = some (inR n w h l sd (some (iW s.1)) (some (iW s.2.1)) (some (iW s.2.2))) := by
      simp_arith []
    have h2 : plc s ∉ done.map plc := by
      rw [List.map_append, List.nodup_append] at nd
      exact fun z => nd.2.2 _ z _ (List.mem_map.mpr ⟨s, by simp, rfl⟩) rfl
    have ps := put_br s done h2
    have kk : keysW (.da (.tup [.int s.1, .int s.2.1])) = some (plK s) := rfl
    have b : b_Plate___init___0 (inR n w h l sd (some (iW s.1)) (some (iW s.2.1)) (some (iW s.2.2))) [plIns n w h l, .dt (done.map brKW)] = .nx (inR n w h l sd (some (iW s.1)) (some (iW s.2.1)) (some (iW s.2.2))) [plIns n w h l, .dt ((done ++ [s]).map brKW)] := by
      unfold b_Plate___init___0 mSetIx
      simp_arith [plne, vl1, List.mem_singleton, kk, ifc_pos (sz_lt (show done.length < 100000 by omega)), ps]
    obtain ⟨x, y, z, e⟩ := init_loop n w h l sd rest (done ++ [s]) (some (iW s.1)) (some (iW s.2.1)) (some (iW s.2.2)) (by simp; omega) (by simpa using nd)
    refine ⟨x, y, z, ?_⟩
    simp only [List.map_cons, loopM, g, b, e]
    simp
theorem dats_brs (k : Nat) (S : Sto) (ss : List Star) : datWs k S (List.map ((fun x : List Key × W => x.snd) ∘ brKW) ss) = some (ss.map brV, S) := by
  rw [show (List.map ((fun x : List Key × W => x.snd) ∘ brKW) ss) = (ss.map brV).map .da by simp [Function.comp_def]]
  exact datWs_da k _ _
theorem plate_ok (n : Str) (w h l : Int) (ss : List Star) (hn : NameOk n) (hg : GlassOk w h l ss) : makeP "Plate" q_Plate___init__ [.str n, .int w, .int h, .int l, starsD ss] = .ok (plateD n w h l (sortE stD ss)) := by
  have l1 : n.length ≤ 100000 := by have := hn.2.1; omega
  have l2 : ss.length ≤ 8 := hg.2.2.2.1
  have e1 := is_name_eq n l1
  have e2 := is_glass_eq w h l ss (by omega)
  rw [dec_pos hn] at e1
  rw [dec_pos hg] at e2
  have nd : ((sortE stD ss).map plc).Nodup := ((sortE_is ss).map plc).nodup_iff.mpr hg.2.2.2.2.2
  have sl : (sortE stD ss).length ≤ 8 := by rw [sortE_len]; exact l2
  have so := sortC_ok enc_star (by omega) sk_star (lay_star ss) (lstW_da [plIns n w h l, .dt []] ss)
  generalize sortE stD ss = st at nd sl so ⊢
  obtain ⟨a, b, c, e⟩ := init_loop n w h l (starsD ss) st [] none none none (by simp; omega) (by simpa using nd)
  have pr : List.map ((fun x : List Key × W => x.fst) ∘ brKW) st = st.map plK := by simp [Function.comp_def]
  rw [List.nil_append] at e
  unfold makeP q_Plate___init__ m_Plate___init__
  simp_arith [e1, e2, plne, List.mem_singleton, newDT, so, dats_stars]
  rw [stars_map, show ([plIns n w h l, Cell.dt []] : Sto) = [plIns n w h l, .dt (([] : List Star).map brKW)] from rfl, e]
  simp_arith []
  rw [ifc_neg (by simp)]
  simp_arith [datW, datWs, dats_brs, pr]
theorem plate_noname (n : Str) (w h l : Int) (ss : List Star) (l1 : n.length ≤ 100000) (hn : ¬ NameOk n) : makeP "Plate" q_Plate___init__ [.str n, .int w, .int h, .int l, starsD ss] = .ex ⟨"BadName", [], []⟩ := by
  have e1 := is_name_eq n l1
  rw [dec_neg hn] at e1
  unfold makeP q_Plate___init__ m_Plate___init__ mRaise
  simp_arith [e1, List.take_succ_cons]
theorem plate_noglass (n : Str) (w h l : Int) (ss : List Star) (l2 : ss.length ≤ 900) (hn : NameOk n) (hg : ¬ GlassOk w h l ss) : makeP "Plate" q_Plate___init__ [.str n, .int w, .int h, .int l, starsD ss] = .ex ⟨"BadPlate", [], []⟩ := by
  have l1 : n.length ≤ 100000 := by have := hn.2.1; omega
  have e1 := is_name_eq n l1
  have e2 := is_glass_eq w h l ss l2
  rw [dec_pos hn] at e1
  rw [dec_neg hg] at e2
  unfold makeP q_Plate___init__ m_Plate___init__ mRaise
  simp_arith [e1, e2, List.take_succ_cons]
/-! ### slices of lists -/
theorem cut_from {α : Type} (xs : List α) (k : Nat) : cutL xs (some (k : Int)) none = xs.drop k := by
  unfold cutL
  rw [HT.sIx_nat, HT.sIx_none]
  by_cases h : k ≤ xs.length
  · rw [Nat.min_eq_left h, List.take_of_length_le (by simp)]
  · rw [Nat.min_eq_right (by omega), List.drop_length, List.drop_eq_nil_of_le (by omega)]
    simp
theorem cut_to {α : Type} (xs : List α) (k : Nat) : cutL xs none (some (k : Int)) = xs.take k := by
  unfold cutL
  rw [HT.sIx_nat, HT.sIx_none]
  simp only [List.drop_zero, Nat.sub_zero]
  by_cases h : k ≤ xs.length
  · rw [Nat.min_eq_left h]
  · rw [Nat.min_eq_right (by omega), List.take_length, List.take_of_length_le (by omega)]
theorem cut_mid {α : Type} (xs : List α) (k j : Nat) (h : k ≤ j) (hj : j ≤ xs.length) : cutL xs (some (k : Int)) (some (j : Int)) = (xs.drop k).take (j - k) := by
  unfold cutL
  rw [HT.sIx_nat, HT.sIx_nat, Nat.min_eq_left hj, Nat.min_eq_left (by omega)]
theorem sl_from (ds : List D) (k : Nat) (S : Sto) : slF mkD (.da (.lst ds)) (some (k : Int)) none S = .ok (.da (.lst (ds.drop k))) S := by
  unfold slF slV
  simp only [lstW, cut_from]
  rw [← List.map_drop]
  simp only [mkD, datC, dats_da, Option.map]
theorem sl_to (ds : List D) (k : Nat) (S : Sto) : slF mkD (.da (.lst ds)) none (some (k : Int)) S = .ok (.da (.lst (ds.take k))) S := by
  unfold slF slV
  simp only [lstW, cut_to]
  rw [← List.map_take]
  simp only [mkD, datC, dats_da, Option.map]
theorem sl_mid (ds : List D) (k j : Nat) (h : k ≤ j) (hj : j ≤ ds.length) (S : Sto) : slF mkD (.da (.lst ds)) (some (k : Int)) (some (j : Int)) S = .ok (.da (.lst ((ds.drop k).take (j - k)))) S := by
  unfold slF slV
  simp only [lstW]
  rw [cut_mid _ k j h (by simpa using hj), ← List.map_drop, ← List.map_take]
  simp only [mkD, datC, dats_da, Option.map]
/-! ### names -/
abbrev abc : Str := "abcdefghijklmnopqrstuvwxyz"
def letS (i : Int) : Str := ⟨#[abc.cps.toList.getD i.toNat 97]⟩
theorem abc_len : abc.cps.toList.length = 26 := by decide +kernel
theorem abc_len2 : abc.length = 26 := by decide +kernel
theorem let_ok (i : Int) (h0 : 0 ≤ i) (h1 : i < 26) (S : Sto) : vl2 ixW (.da (.str abc)) (.da (.int i)) S = .ok (.da (.str (letS i))) S := by
  unfold vl2 ixW
  simp only [seqW]
  rw [ifc_pos (by rw [abc_len2]; decide), atI_get _ _ h0 (by rw [abc_len]; exact h1)]
  have hl : i.toNat < abc.cps.toList.length := by rw [abc_len]; omega
  simp only [Option.map, lift, letS, List.getD, List.getElem?_eq_getElem hl, Option.getD_some]
theorem let_len (i : Int) : (letS i).length = 1 := rfl
theorem str_len_append (x y : Str) : (x ++ y).length = x.length + y.length := by
  show (x ++ y).cps.size = x.cps.size + y.cps.size
  rw [Str.cps_append, Array.size_append]
theorem join0_len : ∀ ys : List Str, (∀ y ∈ ys, y.length = 1) → (Str.join "" ys).length = ys.length
  | [], _ => rfl
  | [x], h => h x (by simp)
  | x :: y :: r, h => by
    show (x ++ "" ++ Str.join "" (y :: r)).length = _
    rw [str_len_append, str_len_append, join0_len (y :: r) (fun z hz => h z (List.mem_cons_of_mem _ hz)), h x (by simp)]
    show 1 + ("" : Str).length + (y :: r).length = _
    rw [show ("" : Str).length = 0 by decide +kernel]
    simp; omega
theorem strsW_map : ∀ ys : List Str, strsW (ys.map (fun s => W.da (.str s))) = some ys
  | [] => rfl
  | y :: ys => by simp only [List.map_cons, strsW, strsW_map ys]
theorem sum_one : ∀ ys : List Str, (∀ y ∈ ys, y.length = 1) → (ys.map (·.length)).sum = ys.length
  | [], _ => rfl
  | y :: ys, h => by
    simp only [List.map_cons, List.sum_cons, List.length_cons, h y (by simp), sum_one ys (fun z hz => h z (List.mem_cons_of_mem _ hz))]
    omega
theorem join0_ok (ys : List Str) (h : ∀ y ∈ ys, y.length = 1) (hl : ys.length ≤ 1000) (S : Sto) : vmt joinW (.da (.str "")) [.da (.lst (ys.map .str))] S = .ok (.da (.str (Str.join "" ys))) S := by
  have e : (ys.map D.str).map W.da = ys.map (fun s => W.da (.str s)) := by simp [Function.comp_def]
  have z : ("" : Str).length = 0 := by decide +kernel
  unfold vmt joinW
  simp only [seqW, e, strsW_map]
  rw [ifc_pos (by rw [sum_one ys h, z]; omega), TL.join_eq]
  rfl
theorem dats_strs (ys : List Str) : dats (ys.map (fun s => W.da (.str s))) = some (ys.map .str) := by
  rw [show ys.map (fun s => W.da (.str s)) = (ys.map D.str).map .da by simp [Function.comp_def], dats_da]
/-! ### places, slices of stars, lists walked as they stand -/
abbrev pD (p : Int × Int) : D := .tup [.int p.1, .int p.2]
abbrev pW (p : Int × Int) : W := .da (pD p)
theorem enc_pair : Enc pD 1 := EncL.tup (EncL.cons enc_int (EncL.one enc_int))
theorem lay_pair (l : List (Int × Int)) : Lay pD l := fun a _ => by simp [toPy, toPyL, PyData.canLay0, PyData.canLayAll0]
theorem dats_pairs (l : List (Int × Int)) : dats (l.map pW) = some (l.map pD) := by
  rw [show l.map pW = (l.map pD).map .da by simp [Function.comp_def], dats_da]
theorem sl_tup2 (a b c : D) (S : Sto) : slF mkD (.da (.tup [a, b, c])) none (some 2) S = .ok (.da (.tup [a, b])) S := by
  unfold slF slV
  simp only [lstW, tupW, List.map_cons, List.map_nil, List.length_cons, List.length_nil]
  rw [if_neg (by intro h; revert h; decide)]
  have : cutL [W.da a, W.da b, W.da c] none (some 2) = [.da a, .da b] := cut_to [W.da a, W.da b, W.da c] 2
  simp only [this, mkD, datC, dats, Option.map]
theorem lcP_map {α β : Type} {P : Sto → Prop} (wx : α → W) (wy : β → W) (f : α → β) {g : MG} {me : ME} {ρw : Rho} {S : Sto} (hP : P S) : ∀ (xs : List α) (acc : List W), acc.length + xs.length ≤ 100000 →
    (∀ x ∈ xs, ∃ ρ2, g (wx x) ρw S = some ρ2 ∧ me ρ2 S = .ok (wy (f x)) S) → lcP P g mYes me ρw (xs.map wx) acc S = .ok (acc ++ (xs.map f).map wy) S
  | [], acc, _, _ => by simp [lcP, ifc_pos hP]
  | x :: xs, acc, hl, h => by
    obtain ⟨ρ2, e1, e2⟩ := h x (List.mem_cons_self)
    simp only [List.length_cons] at hl
    have ih := lcP_map wx wy f (g := g) (me := me) (ρw := ρw) hP xs (acc ++ [wy (f x)]) (by simp; omega) fun y hy => h y (List.mem_cons_of_mem _ hy)
    simp only [List.map_cons, lcP, e1, ifc_pos hP, mYes, e2]
    rw [ifc_pos (sz_lt (by omega)), ih]
    simp
theorem lcP_filter {α : Type} {P : Sto → Prop} (wx : α → W) (f : α → Bool) {g : MG} {mt : MT} {me : ME} {ρw : Rho} {S : Sto} (hP : P S) (xs : List α) (hl : xs.length ≤ 100000)
    (h : ∀ x ∈ xs, ∃ ρ2, g (wx x) ρw S = some ρ2 ∧ mt ρ2 S = .ok (f x) S ∧ (f x = true → me ρ2 S = .ok (wx x) S)) : lcP P g mt me ρw (xs.map wx) [] S = .ok ((xs.filter f).map wx) S := by
  have gen : ∀ (xs : List α) (acc : List W), acc.length + xs.length ≤ 100000 → (∀ x ∈ xs, ∃ ρ2, g (wx x) ρw S = some ρ2 ∧ mt ρ2 S = .ok (f x) S ∧ (f x = true → me ρ2 S = .ok (wx x) S)) → lcP P g mt me ρw (xs.map wx) acc S = .ok (acc ++ (xs.filter f).map wx) S := by
    intro xs
    induction xs with
    | nil => intro acc _ _; simp [lcP, ifc_pos hP]
    | cons x xs ih =>
      intro acc hl h
      obtain ⟨ρ2, e1, e2, e3⟩ := h x (List.mem_cons_self)
      simp only [List.length_cons] at hl
      cases q : f x with
      | true =>
        have i := ih (acc ++ [wx x]) (by simp; omega) fun y hy => h y (List.mem_cons_of_mem _ hy)
        rw [q] at e2
        simp only [List.map_cons, lcP, e1, ifc_pos hP, e2, e3 q]
        rw [ifc_pos (sz_lt (by omega)), i]
        simp [q]
      | false =>
        have i := ih acc (by omega) fun y hy => h y (List.mem_cons_of_mem _ hy)
        rw [q] at e2
        simp only [List.map_cons, lcP, e1, ifc_pos hP, e2]
        rw [i]
        simp [q]
  have := gen xs [] (by simpa using hl) h
  simpa using this
/-! ### what a plate tells -/
theorem zp (a b c d e : W) : plFs.zip [a, b, c, d, e] = ([("name", a), ("width", b), ("height", c), ("limit", d), ("lights", e)] : List (Str × W)) := rfl
/-! ### a plate's stars told, a list of its own -/
abbrev prW (s : Star) : W := .da (.tup [.tup [.int s.1, .int s.2.1], .int s.2.2])
theorem zip_maps {α β γ δ : Type} (f : α → β) (g : α → γ) (h : β × γ → δ) : ∀ l : List α, ((l.map f).zip (l.map g)).map h = l.map fun a => h (f a, g a)
  | [] => rfl
  | a :: l => by simp [zip_maps f g h l]
theorem pairs_lights (ss : List Star) : pairsD (.dt (ss.map plK) (ss.map brV)) = some (ss.map prW) := by
  simp only [pairsD, zip_maps]
  rfl
theorem zip_pr (ss : List Star) : List.map (fun p : List Key × D => W.da (D.tup [D.tup (List.map kD p.fst), p.snd])) ((ss.map plK).zip (ss.map brV)) = ss.map prW := by
  rw [zip_maps]
  rfl
theorem all_stars (l : List Star) : (l.map stW).all isDa = true := by simp [isDa]
theorem daC_lst (ws : List W) : daC (.lst ws) = ws.all isDa := rfl
theorem stars_eq (n : Str) (w h l : Int) (ss : List Star) (hl : ss.length ≤ 1000) : l_Plate_stars [plateD n w h l ss] = .ok (.lst (ss.map stW)) := by
  have lc : ∀ S, lcM (gtTupT 2 (gtCons (gtName 1) (gtCons (gtName 2) gtNil))) mYes e_Plate_stars_0 [some (.da (plateD n w h l ss)), none, none] (ss.map prW) [] S = .ok (ss.map stW) S := fun S => by
    have := lc_map prW stW id (g := gtTupT 2 (gtCons (gtName 1) (gtCons (gtName 2) gtNil))) (me := e_Plate_stars_0) (ρw := [some (.da (plateD n w h l ss)), none, none]) (S := S) ss (by omega) fun s _ => ⟨[some (.da (plateD n w h l ss)), some (.da (.tup [.int s.1, .int s.2.1])), some (iW s.2.2)], by simp_arith [], by
      unfold e_Plate_stars_0
      simp_arith []
      rfl⟩
    simpa using this
  have pd := zip_pr ss
  unfold l_Plate_stars newOf q_Plate_stars m_Plate_stars mLcI mkLst
  simp_arith [vl1, zp, plne, List.mem_singleton, pd, wipeR, lc, daC_lst, all_stars]
/-! ### names drawn -/
theorem str_app_toList (x y : Str) : (x ++ y).cps.toList = x.cps.toList ++ y.cps.toList := by
  rw [Str.cps_append, Array.toList_append]
theorem join0_mem : ∀ (ys : List Str) (c : Nat), c ∈ (Str.join "" ys).cps.toList → ∃ y ∈ ys, c ∈ y.cps.toList
  | [], c, h => by
    have e : (Str.join "" []).cps.toList = [] := by decide +kernel
    rw [e] at h; cases h
  | [x], c, h => ⟨x, by simp, h⟩
  | x :: y :: r, c, h => by
    have h' : c ∈ (x ++ "" ++ Str.join "" (y :: r)).cps.toList := h
    have e0 : ("" : Str).cps.toList = [] := by decide +kernel
    rw [str_app_toList, str_app_toList, e0, List.append_nil] at h'
    rcases List.mem_append.mp h' with h' | h'
    · exact ⟨x, by simp, h'⟩
    · obtain ⟨z, hz, k⟩ := join0_mem (y :: r) c h'
      exact ⟨z, List.mem_cons_of_mem _ hz, k⟩
theorem let_az (i : Int) (h0 : 0 ≤ i) (h1 : i < 26) : ∀ c ∈ (letS i).cps.toList, c ∈ azS.cps.toList := by
  intro c hc
  have hl : i.toNat < abc.cps.toList.length := by rw [abc_len]; omega
  have : c = abc.cps.toList.getD i.toNat 97 := by simpa [letS] using hc
  rw [this, List.getD_eq_getElem?_getD, List.getElem?_eq_getElem hl]
  exact List.getElem_mem hl
def nmS (a b : Int) (n : Nat) : Str := Str.join "" ((intsL 0 n).map fun k => letS ((a + k * b) % 26))
theorem nm_one (a b : Int) (n : Nat) : ∀ y ∈ (intsL 0 n).map (fun k => letS ((a + k * b) % 26)), Str.length y = 1 := fun y hy => by
  obtain ⟨k, _, rfl⟩ := List.mem_map.mp hy
  rfl
theorem nm_ok (a b : Int) (n : Nat) (h1 : 1 ≤ n) (h8 : n ≤ 8) : NameOk (nmS a b n) := by
  have hl : (nmS a b n).length = n := by
    unfold nmS
    rw [join0_len _ (nm_one a b n), List.length_map, len_intsL]
  refine ⟨by omega, by omega, fun c hc => ?_⟩
  obtain ⟨y, hy, k⟩ := join0_mem _ c hc
  obtain ⟨j, _, rfl⟩ := List.mem_map.mp hy
  exact let_az _ (by omega) (by omega) c k
/-! ### the law's sky: stars at unlike places -/
def HeavOk (hs : List Star) : Prop := hs.length ≤ 8 ∧ (∀ s ∈ hs, 1 ≤ s.2.2 ∧ s.2.2 ≤ 9) ∧ (hs.map plc).Nodup
abbrev hvR (sc : W) (row : List Int) (o3 o4 o5 o6 : Option W) : Rho := [some sc, some (.da (.lst (row.map .int))), some (.lo 0), o3, o4, o5, o6, none]
theorem nodup_snoc {ss : List Star} {s : Star} (nd : (ss.map plc).Nodup) (h : plc s ∉ ss.map plc) : ((ss ++ [s]).map plc).Nodup := by
  rw [List.map_append, List.nodup_append]
  refine ⟨nd, by simp, fun a ha b hb => ?_⟩
  simp only [List.map_cons, List.map_nil, List.mem_singleton] at hb
  subst hb
  intro z
  exact h (by rw [z] at ha; exact ha)
theorem hv_body (sc : W) (row : List Int) (hr : Drawn 25 row) (k : Int) (k0 : 0 ≤ k) (k8 : k < 8) (o4 o5 o6 : Option W) (ss : List Star) (hl : ss.length < 100) (ok : ∀ s ∈ ss, 1 ≤ s.2.2 ∧ s.2.2 ≤ 9) (nd : (ss.map plc).Nodup) :
    ∃ a b c, ∃ ss' : List Star, b_l_heaven_1 (hvR sc row (some (iW k)) o4 o5 o6) [.lst (ss.map stW)] = .nx (hvR sc row (some (iW k)) a b c) [.lst (ss'.map stW)] ∧ (∀ s ∈ ss', 1 ≤ s.2.2 ∧ s.2.2 ≤ 9) ∧ (ss'.map plc).Nodup ∧ ss'.length ≤ ss.length + 1 := by
  obtain ⟨x0, b0, e0⟩ := at_row hr 0 (by decide) (by decide)
  obtain ⟨x1, b1, e1⟩ := at_row hr (3 * k + 1) (by omega) (by omega)
  obtain ⟨x2, b2, e2⟩ := at_row hr (3 * k + 2) (by omega) (by omega)
  obtain ⟨x3, b3, e3⟩ := at_row hr (3 * k + 3) (by omega) (by omega)
  have m1 := fun S => mul_l 3 k S (by decide) (by decide)
  obtain ⟨br, hbr, eb⟩ : ∃ br : Int, (1 ≤ br ∧ br ≤ 9) ∧ ∃ j : Int, (if dec (x0 / 9 % 3 = 1) = true then 1 else 0) = j ∧ atI [iW (1 + x3 % 9), iW (8 + x3 % 2)] j = some (iW br) := by
    by_cases q : x0 / 9 % 3 = 1
    · exact ⟨8 + x3 % 2, by omega, 1, by rw [dec_pos q]; rfl, rfl⟩
    · exact ⟨1 + x3 % 9, by omega, 0, by rw [dec_neg q]; rfl, rfl⟩
  obtain ⟨j, hj, eb⟩ := eb
  obtain ⟨P, hP, lc⟩ : ∃ P, P = ss.map plc ∧ ∀ o4 o5 o6, lcP (fun S => S[0]? = some (.lst (ss.map stW))) (gtName 7) mYes e_l_heaven_0 (hvR sc row (some (iW k)) o4 o5 o6) (ss.map stW) [] [.lst (ss.map stW)] = .ok (P.map pW) [.lst (ss.map stW)] := by
    refine ⟨_, rfl, fun o4 o5 o6 => ?_⟩
    have := lcP_map (P := fun S => S[0]? = some (.lst (ss.map stW))) stW pW plc (g := gtName 7) (me := e_l_heaven_0) (ρw := hvR sc row (some (iW k)) o4 o5 o6) (S := [.lst (ss.map stW)]) rfl ss [] (by simp; omega) fun s _ => ⟨_, rfl, by
      unfold e_l_heaven_0
      simp_arith []⟩
    simpa using this
  have dp := dats_pairs P
  have ni := fun S => notin_e (a := (x1 % 9 - 4, x2 % 9 - 4)) (l := P) enc_pair (by omega) (lay_pair [(x1 % 9 - 4, x2 % 9 - 4)] _ (by simp)) (lay_pair P) S
  by_cases hm : (x1 % 9 - 4, x2 % 9 - 4) ∈ P
  · refine ⟨some (iW (x1 % 9 - 4)), some (iW (x2 % 9 - 4)), some (iW br), ss, ?_, ok, nd, by omega⟩
    rw [dec_pos hm] at ni
    unfold b_l_heaven_1 mMt mLc mkLst
    simp_arith [m1, e0, e1, e2, e3, int_b, hj, eb, wipeR, lc, dp, ni]
  · refine ⟨some (iW (x1 % 9 - 4)), some (iW (x2 % 9 - 4)), some (iW br), ss ++ [(x1 % 9 - 4, x2 % 9 - 4, br)], ?_, ?_, ?_, by simp⟩
    · rw [dec_neg hm] at ni
      unfold b_l_heaven_1 mMt mLc mkLst
      simp_arith [m1, e0, e1, e2, e3, int_b, hj, eb, wipeR, lc, dp, ni, tyM, ifc_pos (sz_lt (show ss.length < 100000 by omega)), List.map_append]
    · intro s hs
      rcases List.mem_append.mp hs with hs | hs
      · exact ok s hs
      · simp at hs; subst hs; exact hbr
    · exact nodup_snoc nd (by rw [← hP]; exact hm)
theorem hv_loop (sc : W) (row : List Int) (hr : Drawn 25 row) : ∀ (ks : List Int) (o3 o4 o5 o6 : Option W) (ss : List Star), (∀ k ∈ ks, 0 ≤ k ∧ k < 8) → ss.length + ks.length < 100 → (∀ s ∈ ss, 1 ≤ s.2.2 ∧ s.2.2 ≤ 9) → (ss.map plc).Nodup →
    ∃ a b c d, ∃ ss' : List Star, loopM (gtName 3) b_l_heaven_1 (ks.map iW) (hvR sc row o3 o4 o5 o6) [.lst (ss.map stW)] = .nx (hvR sc row a b c d) [.lst (ss'.map stW)] ∧ (∀ s ∈ ss', 1 ≤ s.2.2 ∧ s.2.2 ≤ 9) ∧ (ss'.map plc).Nodup ∧ ss'.length ≤ ss.length + ks.length
  | [], o3, o4, o5, o6, ss, _, _, ok, nd => ⟨o3, o4, o5, o6, ss, rfl, ok, nd, by simp⟩
  | k :: ks, o3, o4, o5, o6, ss, hk, hl, ok, nd => by
    simp only [List.length_cons] at hl
    obtain ⟨a, b, c, s1, e1, k1, k2, k3⟩ := hv_body sc row hr k (hk k (by simp)).1 (hk k (by simp)).2 o4 o5 o6 ss (by omega) ok nd
    obtain ⟨a', b', c', d', s2, e2, j1, j2, j3⟩ := hv_loop sc row hr ks (some (iW k)) a b c s1 (fun x hx => hk x (by simp [hx])) (by omega) k1 k2
    refine ⟨a', b', c', d', s2, ?_, j1, j2, by simp; omega⟩
    have g : gtName 3 (iW k) (hvR sc row o3 o4 o5 o6) [.lst (ss.map stW)] = some (hvR sc row (some (iW k)) o4 o5 o6) := rfl
    simp only [List.map_cons, loopM, g, e1, e2]
theorem datWs_stars (k : Nat) (S : Sto) (l : List Star) : datWs k S (l.map stW) = some (l.map stD, S) := by
  rw [show l.map stW = (l.map stD).map .da by simp [Function.comp_def]]
  exact datWs_da k S _
theorem heaven_ok (ns : List Int) (hn : ns.length ≤ 63) : ∃ hs : List Star, HeavOk hs ∧ p_l_heaven [.scr (ns.map .int)] = .ok (starsD hs) := by
  obtain ⟨row, hr, ed⟩ := draws_ok ns 1 25 (by decide) (by decide) (by decide) (by decide) (by omega)
  obtain ⟨x0, b0, e0⟩ := at_row hr 0 (by decide) (by decide)
  have r : rng1 [.da (.int (x0 % 9))] = some (0, (x0 % 9).toNat) := rng1_ok _ (by omega) (by omega)
  obtain ⟨a, b, c, d, ss, e, k1, k2, k3⟩ := hv_loop (.da (.scr (ns.map .int))) row hr (intsL 0 (x0 % 9).toNat) none none none none [] (fun k hk => by
    have := (mem_intsL _ _ _).mp hk
    omega) (by rw [len_intsL]; simp; omega) (by simp) (by simp)
  rw [← ints_map] at e
  rw [len_intsL] at k3
  simp only [List.length_nil, Nat.zero_add] at k3
  refine ⟨ss, ⟨by omega, k1, k2⟩, ?_⟩
  unfold p_l_heaven m_l_heaven
  simp_arith [ed, e0, r]
  rw [show ([Cell.lst []] : Sto) = [.lst (([] : List Star).map stW)] from rfl, e]
  unfold mFz fzW
  simp_arith [datWs_stars]
/-! ### the law's plates as tuples: panes -/
structure Pane where
  n : Str
  w : Int
  h : Int
  l : Int
  ss : List Star
def Pane.ok (p : Pane) : Prop := NameOk p.n ∧ GlassOk p.w p.h p.l p.ss ∧ sortE stD p.ss = p.ss
abbrev paneT (p : Pane) : D := .tup [.str p.n, .int p.w, .int p.h, .int p.l, .tup (p.ss.map stD)]
abbrev pnR (nm : W) (home : Mo) (hs : List Star) (d : D) (w h l : Int) (st : W) (o8 o9 o10 o11 o12 o13 : Option W) : Rho := [some nm, some (.da (moD home)), some (.da (starsD hs)), some (.da d), some (iW w), some (iW h), some (iW l), some st, o8, o9, o10, o11, o12, o13, none]
theorem back_inj (m : Mo) (hm : okM m) (p q : Int × Int) (h : act (bkM m) p = act (bkM m) q) : p = q := by
  have := congrArg (act m) h
  rwa [act_bk2 m p hm, act_bk2 m q hm] at this
/-- a star seen from the plate -/
def seenS (home : Mo) (s : Star) : Star := ((act (bkM home) (s.1, s.2.1)).1, (act (bkM home) (s.1, s.2.1)).2, s.2.2)
def inPane (w h l : Int) (s : Star) : Prop := 0 ≤ s.1 ∧ s.1 < w ∧ 0 ≤ s.2.1 ∧ s.2.1 < h ∧ l ≤ s.2.2
noncomputable def seenL (home : Mo) (w h l : Int) (hs : List Star) : List Star := (hs.map (seenS home)).filter fun s => dec (inPane w h l s)
theorem pn_body (nm : W) (home : Mo) (hm : okM home) (hs : List Star) (d : D) (w h l : Int) (s : Star) (o11 o12 o13 : Option W) (ss : List Star) (hl : ss.length < 1000) :
    ∃ a b, b_l_pane_0 (pnR nm home hs d w h l (.lo 0) (some (iW s.1)) (some (iW s.2.1)) (some (iW s.2.2)) o11 o12 o13) [.lst (ss.map stW)] = .nx (pnR nm home hs d w h l (.lo 0) (some (iW s.1)) (some (iW s.2.1)) (some (iW s.2.2)) o11 a b) [.lst ((ss ++ ([seenS home s].filter fun s => dec (inPane w h l s))).map stW)] := by
  have e1 := l_back_mo home (moD home) (.inl rfl) hm
  have e2 := l_moved_eq (bkM home) (ok_bk hm) s.1 s.2.1
  refine ⟨some (iW (seenS home s).1), some (iW (seenS home s).2.1), ?_⟩
  have hb : (seenS home s).2.2 = s.2.2 := rfl
  have e2' : p_l_moved [moD (bkM home), .tup [.int s.1, .int s.2.1]] = .ok (.tup [.int (seenS home s).1, .int (seenS home s).2.1]) := e2
  have hz : seenS home s = ((seenS home s).1, (seenS home s).2.1, s.2.2) := rfl
  rw [hz]
  generalize (seenS home s).1 = x at *
  generalize (seenS home s).2.1 = y at *
  by_cases q : inPane w h l (x, y, s.2.2)
  · obtain ⟨a1, a2, a3, a4, a5⟩ := id q
    rw [List.filter_cons_of_pos (by rw [dec_pos q])]
    unfold b_l_pane_0 mMt
    simp_arith [e1, e2', dec_pos a1, dec_pos a2, dec_pos a3, dec_pos a4, dec_pos a5, tyM, ifc_pos (sz_lt (show ss.length < 100000 by omega)), List.map_append, List.filter_nil]
  · rw [List.filter_cons_of_neg (by rw [dec_neg q]; simp)]
    unfold b_l_pane_0 mMt
    by_cases a1 : 0 ≤ x
    · by_cases a2 : x < w
      · by_cases a3 : 0 ≤ y
        · by_cases a4 : y < h
          · have a5 : ¬ l ≤ s.2.2 := fun z => q ⟨a1, a2, a3, a4, z⟩
            simp_arith [e1, e2', dec_pos a1, dec_pos a2, dec_pos a3, dec_pos a4, dec_neg a5, List.filter_nil]
          · simp_arith [e1, e2', dec_pos a1, dec_pos a2, dec_pos a3, dec_neg a4, List.filter_nil]
        · simp_arith [e1, e2', dec_pos a1, dec_pos a2, dec_neg a3, List.filter_nil]
      · simp_arith [e1, e2', dec_pos a1, dec_neg a2, List.filter_nil]
    · simp_arith [e1, e2', dec_neg a1, List.filter_nil]
theorem pn_loop (nm : W) (home : Mo) (hm : okM home) (hs : List Star) (d : D) (w h l : Int) (o11 : Option W) : ∀ (rest : List Star) (o8 o9 o10 o12 o13 : Option W) (ss : List Star), ss.length + rest.length < 1000 →
    ∃ a b c e f, loopM (gtTup 3 (gtCons (gtName 8) (gtCons (gtName 9) (gtCons (gtName 10) gtNil)))) b_l_pane_0 (rest.map stW) (pnR nm home hs d w h l (.lo 0) o8 o9 o10 o11 o12 o13) [.lst (ss.map stW)] = .nx (pnR nm home hs d w h l (.lo 0) a b c o11 e f) [.lst ((ss ++ seenL home w h l rest).map stW)]
  | [], o8, o9, o10, o12, o13, ss, _ => ⟨o8, o9, o10, o12, o13, by simp [loopM, seenL]⟩
  | s :: rest, o8, o9, o10, o12, o13, ss, hl => by
    simp only [List.length_cons] at hl
    obtain ⟨a, b, e⟩ := pn_body nm home hm hs d w h l s o11 o12 o13 ss (by omega)
    have h1 : ([seenS home s].filter fun s => dec (inPane w h l s)).length ≤ 1 := List.length_filter_le _ _
    obtain ⟨a', b', c', e', f', ee⟩ := pn_loop nm home hm hs d w h l o11 rest (some (iW s.1)) (some (iW s.2.1)) (some (iW s.2.2)) a b (ss ++ ([seenS home s].filter fun s => dec (inPane w h l s))) (by rw [List.length_append]; omega)
    refine ⟨a', b', c', e', f', ?_⟩
    have g : (gtTup 3 (gtCons (gtName 8) (gtCons (gtName 9) (gtCons (gtName 10) gtNil)))) (stW s) (pnR nm home hs d w h l (.lo 0) o8 o9 o10 o11 o12 o13) [.lst (ss.map stW)] = some (pnR nm home hs d w h l (.lo 0) (some (iW s.1)) (some (iW s.2.1)) (some (iW s.2.2)) o11 o12 o13) := by
      simp_arith []
    have hf : seenL home w h l (s :: rest) = ([seenS home s].filter fun s => dec (inPane w h l s)) ++ seenL home w h l rest := by
      unfold seenL
      rw [← List.filter_append]; rfl
    rw [hf, ← List.append_assoc]
    simp only [List.map_cons, loopM, g, e, ee]
theorem seen_ok (home : Mo) (hm : okM home) (w h l : Int) (hs : List Star) (hh : HeavOk hs) : (∀ s ∈ seenL home w h l hs, StarOk w h l s) ∧ ((seenL home w h l hs).map plc).Nodup ∧ (seenL home w h l hs).length ≤ 8 := by
  refine ⟨fun s hs' => ?_, ?_, ?_⟩
  · unfold seenL at hs'
    rw [List.mem_filter] at hs'
    obtain ⟨h1, h2⟩ := hs'
    obtain ⟨u, hu, rfl⟩ := List.mem_map.mp h1
    have q : inPane w h l (seenS home u) := by
      by_cases z : inPane w h l (seenS home u)
      · exact z
      · rw [dec_neg z] at h2; cases h2
    obtain ⟨a1, a2, a3, a4, a5⟩ := q
    exact ⟨⟨a1, a2⟩, ⟨a3, a4⟩, a5, (hh.2.1 u hu).2⟩
  · unfold seenL
    have nd : ((hs.map (seenS home)).map plc).Nodup := by
      have e : (hs.map (seenS home)).map plc = (hs.map plc).map (act (bkM home)) := by
        rw [List.map_map, List.map_map]
        rfl
      rw [e, List.nodup_iff_pairwise_ne, List.pairwise_map]
      exact (List.nodup_iff_pairwise_ne.mp hh.2.2).imp fun hab z => hab (back_inj home hm _ _ z)
    rw [List.nodup_iff_pairwise_ne, List.pairwise_map] at nd ⊢
    exact nd.filter _
  · unfold seenL
    refine Nat.le_trans (List.length_filter_le _ _) ?_
    rw [List.length_map]
    exact hh.1
theorem last8 {α : Type} (xs : List α) : cutL xs (some (-8)) none = xs.drop (xs.length - 8) := by
  unfold cutL
  have e : HT.sIx xs.length 0 (some (-8)) = xs.length - 8 := by
    unfold HT.sIx
    simp
    omega
  rw [e, HT.sIx_none, List.take_of_length_le (by simp)]
theorem pane_ok (nm : Str) (hn : NameOk nm) (home : Mo) (hm : okM home) (hs : List Star) (hh : HeavOk hs) (row : List Int) (hr : Drawn 12 row) : ∃ p : Pane, p.n = nm ∧ p.ok ∧ p_l_pane [.str nm, moD home, starsD hs, .lst (row.map .int)] = .ok (paneT p) := by
  obtain ⟨x3, b3, e3⟩ := at_row hr 3 (by decide) (by decide)
  obtain ⟨x4, b4, e4⟩ := at_row hr 4 (by decide) (by decide)
  obtain ⟨x5, b5, e5⟩ := at_row hr 5 (by decide) (by decide)
  obtain ⟨x6, b6, e6⟩ := at_row hr 6 (by decide) (by decide)
  obtain ⟨x10, b10, e10⟩ := at_row hr 10 (by decide) (by decide)
  obtain ⟨x11, b11, e11⟩ := at_row hr 11 (by decide) (by decide)
  have two : ∀ (a b : Int) (c : Prop), ∃ j : Int, (if dec c = true then 1 else 0) = j ∧ ∃ v, (v = a ∨ v = b) ∧ atI [iW a, iW b] j = some (iW v) := fun a b c => by
    by_cases q : c
    · exact ⟨1, by rw [dec_pos q]; rfl, b, .inr rfl, rfl⟩
    · exact ⟨0, by rw [dec_neg q]; rfl, a, .inl rfl, rfl⟩
  obtain ⟨j4, hj4, w, hw, ew⟩ := two (1 + x4 % 4) (1 + x4 / 24 % 8) (x4 / 4 % 6 = 0)
  obtain ⟨j5, hj5, h, hh', eh⟩ := two (1 + x5 % 4) (1 + x5 / 24 % 8) (x5 / 4 % 6 = 0)
  obtain ⟨j6, hj6, l, hl, el⟩ := two (1 + x6 % 3) (1 + x6 / 12 % 9) (x6 / 3 % 4 = 0)
  have w1 : 1 ≤ w ∧ w ≤ 8 := by omega
  have h1 : 1 ≤ h ∧ h ≤ 8 := by omega
  have l1 : 1 ≤ l ∧ l ≤ 9 := by omega
  obtain ⟨sk, snd, sl⟩ := seen_ok home hm w h l hs hh
  obtain ⟨a, b, c, e, f, ee⟩ := pn_loop (.da (.str nm)) home hm hs (.lst (row.map .int)) w h l none hs none none none none none [] (by have := hh.1; simp; omega)
  rw [List.nil_append] at ee
  generalize seenL home w h l hs = sn at sk snd sl ee
  have fin : ∀ ss : List Star, (∀ s ∈ ss, StarOk w h l s) → (ss.map plc).Nodup → ss.length ≤ 9 → ∃ p : Pane, p.n = nm ∧ p.ok ∧ p.w = w ∧ p.h = h ∧ p.l = l ∧ p.ss = sortE stD (ss.drop (ss.length - 8)) := fun ss o n k => by
    refine ⟨⟨nm, w, h, l, sortE stD (ss.drop (ss.length - 8))⟩, rfl, ⟨hn, ⟨w1, h1, l1, ?_, ?_, ?_⟩, sortE_idem _⟩, rfl, rfl, rfl, rfl⟩
    · rw [sortE_len, List.length_drop]; omega
    · intro s hs'
      exact o s (List.mem_of_mem_drop (sortE_mem.mp hs'))
    · refine ((sortE_is _).map plc).nodup_iff.mpr ?_
      rw [List.map_drop]
      exact List.Nodup.sublist (List.drop_sublist _ _) n
  have q4 := fun S => mod_ok x10 w S (by omega)
  have q5 := fun S => mod_ok x11 h S (by omega)
  have q6 := fun S => mod_ok (x10 / 8) (10 - l) S (by omega)
  have sl8 : ∀ (ss : List Star) (S : Sto), slF mkD (.da (starsD ss)) (some (-8)) none S = .ok (.da (starsD (ss.drop (ss.length - 8)))) S := fun ss S => by
    unfold slF slV
    simp only [lstW, last8, List.length_map]
    rw [← List.map_drop, ← List.map_drop]
    simp only [mkD, datC, dats_da, Option.map]
  have so : ∀ (ss : List Star) (S : Sto), sortC [.da (starsD ss)] S = some (.lst ((sortE stD ss).map stW)) := fun ss S => sortC_ok enc_star (by omega) sk_star (lay_star ss) (lstW_da S ss)
  by_cases q : x3 % 6 = 1
  · have a1 := Int.emod_nonneg x10 (show w ≠ 0 by omega)
    have a2 := Int.emod_lt_of_pos x10 (show 0 < w by omega)
    have a3 := Int.emod_nonneg x11 (show h ≠ 0 by omega)
    have a4 := Int.emod_lt_of_pos x11 (show 0 < h by omega)
    have a5 := Int.emod_nonneg (x10 / 8) (show 10 - l ≠ 0 by omega)
    have a6 := Int.emod_lt_of_pos (x10 / 8) (show 0 < 10 - l by omega)
    generalize x10 % w = ox at q4 a1 a2
    generalize x11 % h = oy at q5 a3 a4
    generalize x10 / 8 % (10 - l) = ob at q6 a5 a6
    obtain ⟨F, hF, lc⟩ : ∃ F, F = sn.filter (fun s => !dec (plc s = (ox, oy))) ∧ lcP (fun S => S[0]? = some (.lst (sn.map stW))) (gtName 14) t_l_pane_1 e_l_pane_2 (pnR (.da (.str nm)) home hs (.lst (row.map .int)) w h l (.lo 0) a b c (some (stW (ox, oy, l + ob))) e f) (sn.map stW) [] [.lst (sn.map stW)] = .ok (F.map stW) [.lst (sn.map stW)] := by
      refine ⟨_, rfl, ?_⟩
      refine lcP_filter (P := fun S => S[0]? = some (.lst (sn.map stW))) stW (fun s => !dec (plc s = (ox, oy))) (g := gtName 14) (mt := t_l_pane_1) (me := e_l_pane_2) (ρw := pnR (.da (.str nm)) home hs (.lst (row.map .int)) w h l (.lo 0) a b c (some (stW (ox, oy, l + ob))) e f) (S := [.lst (sn.map stW)]) rfl sn (by omega) fun s _ => ⟨_, rfl, ?_, fun _ => ?_⟩
      · have ne := fun S => ne_e (a := plc s) (b := (ox, oy)) enc_pair (by omega) (lay_pair [plc s] _ (by simp)) (lay_pair [(ox, oy)] _ (by simp)) S
        unfold t_l_pane_1 mSl moS moN
        simp_arith [sl_tup2, ne]
      · unfold e_l_pane_2
        simp_arith []
    have nd2 : ((F ++ [(ox, oy, l + ob)]).map plc).Nodup := by
      refine nodup_snoc ?_ ?_
      · rw [hF]
        rw [List.nodup_iff_pairwise_ne, List.pairwise_map] at snd ⊢
        exact snd.filter _
      · intro z
        obtain ⟨u, hu, e⟩ := List.mem_map.mp z
        rw [hF, List.mem_filter] at hu
        have := hu.2
        rw [dec_pos e] at this
        cases this
    have ok2 : ∀ s ∈ F ++ [(ox, oy, l + ob)], StarOk w h l s := fun s hs' => by
      rcases List.mem_append.mp hs' with z | z
      · rw [hF, List.mem_filter] at z
        exact sk s z.1
      · simp at z; subst z
        exact ⟨⟨a1, a2⟩, ⟨a3, a4⟩, by show l ≤ l + ob; omega, by show l + ob ≤ 9; omega⟩
    have fl : F.length ≤ 8 := by rw [hF]; exact Nat.le_trans (List.length_filter_le _ _) sl
    have dF := dats_stars F
    obtain ⟨p, p1, p2, p3, p4, p5, p6⟩ := fin (F ++ [(ox, oy, l + ob)]) ok2 nd2 (by simp; omega)
    refine ⟨p, p1, p2, ?_⟩
    have ad : ∀ S, addC (.da (starsD F)) (.da (.lst [stD (ox, oy, l + ob)])) S = .ok (.lo S.length) (S ++ [.lst ((F ++ [(ox, oy, l + ob)]).map stW)]) := fun S => by
      unfold addC addF addV
      simp only [tupW, catC, lstW, List.length_map, List.map_cons, List.map_nil, List.length_cons, List.length_nil]
      rw [ifc_pos (sz_le (by omega))]
      simp [mkC, Function.comp_def]
    generalize F ++ [((ox, oy, l + ob) : Star)] = T at p6 ad
    have s8 := sl8 T
    generalize T.drop (T.length - 8) = U at p6 s8
    have so2 := so U
    unfold paneT
    rw [p1, p3, p4, p5, p6]
    generalize sortE stD U = V at so2
    unfold p_l_pane m_l_pane mLc mkLst mSl moS moN
    simp_arith [e3, e4, e5, e6, e10, e11, int_b, hj4, hj5, hj6, ew, eh, el]
    rw [stars_map, show ([Cell.lst []] : Sto) = [.lst (([] : List Star).map stW)] from rfl, ee]
    unfold mFrz
    simp_arith [q, e3, e10, e11, q4, q5, q6, wipeR, lc, dF, ad, datWs_stars, s8, so2, tupleF, dats_stars, stars_map]
  · obtain ⟨p, p1, p2, p3, p4, p5, p6⟩ := fin sn sk snd (by omega)
    refine ⟨p, p1, p2, ?_⟩
    have s8 := sl8 sn
    generalize sn.drop (sn.length - 8) = U at p6 s8
    have so2 := so U
    unfold paneT
    rw [p1, p3, p4, p5, p6]
    generalize sortE stD U = V at so2
    unfold p_l_pane m_l_pane mLc mkLst mSl moS moN
    simp_arith [e3, e4, e5, e6, e10, e11, int_b, hj4, hj5, hj6, ew, eh, el]
    rw [stars_map, show ([Cell.lst []] : Sto) = [.lst (([] : List Star).map stW)] from rfl, ee]
    unfold mFrz
    simp_arith [dec_neg q, e3, datWs_stars, s8, so2, tupleF, dats_stars, stars_map]
/-! ### the very same -/
def kindD : D → Option (Bool × List D)
  | .tup ds => some (true, ds)
  | .wt ds => some (true, ds)
  | .lst ds => some (false, ds)
  | .scr ds => some (false, ds)
  | _ => none
def Sm : Nat → D → D → Prop
  | 0, _, _ => False
  | n + 1, a, b => (a = b ∧ flatD a = true) ∨ ∃ k xs ys, kindD a = some (k, xs) ∧ kindD b = some (k, ys) ∧ xs.length = ys.length ∧ xs.length ≤ 100000 ∧ ∀ (i : Nat) (x y : D), xs[i]? = some x → ys[i]? = some y → Sm n x y
/-- data of some depth, not too long -/
def Gd : Nat → D → Prop
  | 0, _ => False
  | n + 1, a => flatD a = true ∨ ∃ k xs, kindD a = some (k, xs) ∧ xs.length ≤ 100000 ∧ ∀ x ∈ xs, Gd n x
theorem Gd.sm : ∀ {n : Nat} {a : D}, Gd n a → Sm n a a
  | 0, _, h => h.elim
  | n + 1, a, h => by
    rcases h with h | ⟨k, xs, h1, h2, h3⟩
    · exact .inl ⟨rfl, h⟩
    · refine .inr ⟨k, xs, xs, h1, h1, rfl, h2, fun i x y e1 e2 => ?_⟩
      rw [e1] at e2
      cases e2
      exact (h3 x (List.mem_of_getElem? e1)).sm
theorem kind_seq {a : D} {k : Bool} {xs : List D} (S : Sto) (h : kindD a = some (k, xs)) : seqW S (.da a) = some (xs.map .da) ∧ tyD a = some (if k then "tuple" else "list") := by
  cases a <;> simp [kindD] at h <;> obtain ⟨rfl, rfl⟩ := h <;> exact ⟨rfl, rfl⟩
theorem len_seq {a : D} {xs : List D} {S : Sto} (h : seqW S (.da a) = some (xs.map .da)) : vlN lenW [.da a] S = .ok (.da (.int xs.length)) S := by
  simp only [vlN, lenW, h, List.length_map, lift]
/-- the loop over the places -/
theorem same_loop (p : List D → Re D) (a b : D) (xs ys : List D) (ha : seqW [] (.da a) = some (xs.map .da)) (hb : seqW [] (.da b) = some (ys.map .da)) (hl : xs.length = ys.length) (h : ∀ (i : Nat) (x y : D), xs[i]? = some x → ys[i]? = some y → p [x, y] = .ok (.bl true)) :
    ∀ (n k : Nat) (o : Option W), k + n = xs.length → ∃ o', loopM (gtName 2) (b_l_same_0 p) (intsW (k : Int) n) [some (.da a), some (.da b), o] [] = .nx [some (.da a), some (.da b), o'] []
  | 0, k, o, _ => ⟨o, rfl⟩
  | n + 1, k, o, hk => by
    have h1 : k < xs.length := by omega
    have h2 : k < ys.length := by omega
    have e1 : atI (xs.map W.da) (k : Int) = some (.da xs[k]) := by rw [atI_lit]; simp [h1]
    have e2 : atI (ys.map W.da) (k : Int) = some (.da ys[k]) := by rw [atI_lit]; simp [h2]
    have e3 := h k xs[k] ys[k] (by simp [h1]) (by simp [h2])
    obtain ⟨o', e⟩ := same_loop p a b xs ys ha hb hl h n (k + 1) (some (iW k)) (by omega)
    refine ⟨o', ?_⟩
    rw [← e]
    have eb : b_l_same_0 p [some (.da a), some (.da b), some (iW k)] [] = .nx [some (.da a), some (.da b), some (iW k)] [] := by
      unfold b_l_same_0
      simp_arith [ix_ok (k : Int) ha, ix_ok (k : Int) hb, e1, e2, e3]
    show loopM (gtName 2) (b_l_same_0 p) (iW (k : Int) :: intsW ((k : Int) + 1) n) _ _ = _
    conv => lhs; unfold loopM
    simp only [gtName, List.set_cons_succ, List.set_cons_zero, eb]
    rfl
theorem same_flat (p : List D → Re D) (a : D) (h : flatD a = true) : m_l_same p [some (.da a), some (.da a), none] [] = .rt (.da (.bl true)) [] := by
  unfold m_l_same
  cases a <;> simp [flatD] at h <;> simp_arith []
theorem same_seq (p : List D → Re D) (a b : D) (k : Bool) (xs ys : List D) (ha : kindD a = some (k, xs)) (hb : kindD b = some (k, ys)) (hl : xs.length = ys.length) (hz : xs.length ≤ 100000) (h : ∀ (i : Nat) (x y : D), xs[i]? = some x → ys[i]? = some y → p [x, y] = .ok (.bl true)) :
    m_l_same p [some (.da a), some (.da b), none] [] = .rt (.da (.bl true)) [] := by
  obtain ⟨sa, ta⟩ := kind_seq [] ha
  obtain ⟨sb, tb⟩ := kind_seq [] hb
  obtain ⟨o', e⟩ := same_loop p a b xs ys sa sb hl h xs.length 0 none (by omega)
  rw [nc_0] at e
  have r1 : rng1 [iW (ys.length : Int)] = some (0, xs.length) := by
    rw [rng1_ok _ (by omega) (by omega), hl]
    rfl
  have la := len_seq sa
  have lb := len_seq sb
  unfold m_l_same
  generalize hn : (ys.length : Int) = n at *
  have hl' : (xs.length : Int) = n := by omega
  rw [hl'] at la
  cases k <;> simp_arith [ta, tb, la, lb, r1, e]
theorem same_ok : ∀ (n : Nat) (a b : D), Sm n a b → p_l_same n [a, b] = .ok (.bl true)
  | 0, _, _, h => h.elim
  | n + 1, a, b, h => by
    refine runP_ok (S := []) rfl ?_
    rcases h with ⟨rfl, h⟩ | ⟨k, xs, ys, h1, h2, h3, h4, h5⟩
    · exact same_flat _ _ h
    · exact same_seq _ a b k xs ys h1 h2 h3 h4 fun i x y e1 e2 => same_ok n x y (h5 i x y e1 e2)
theorem sm_flat {n : Nat} {a : D} (h : flatD a = true) : Sm (n + 1) a a := .inl ⟨rfl, h⟩
theorem same_refl {a : D} (n : Nat) (h : Gd n a) : p_l_same n [a, a] = .ok (.bl true) := same_ok n a a h.sm
theorem gd_flat {n : Nat} {a : D} (h : flatD a = true) : Gd (n + 1) a := .inl h
theorem gd_lst {n : Nat} {xs : List D} (h : xs.length ≤ 100000) (k : ∀ x ∈ xs, Gd n x) : Gd (n + 1) (.lst xs) := .inr ⟨false, xs, rfl, h, k⟩
theorem gd_tup {n : Nat} {xs : List D} (h : xs.length ≤ 100000) (k : ∀ x ∈ xs, Gd n x) : Gd (n + 1) (.tup xs) := .inr ⟨true, xs, rfl, h, k⟩
theorem sm_tups {n : Nat} {xs ys : List D} (h : xs.length = ys.length) (hz : xs.length ≤ 100000) (k : ∀ (i : Nat) (x y : D), xs[i]? = some x → ys[i]? = some y → Sm n x y) : Sm (n + 1) (.tup xs) (.tup ys) := .inr ⟨true, xs, ys, rfl, rfl, h, hz, k⟩
/-! ### dicts, as data -/
theorem datW_dk (k n : Nat) (S : Sto) (kds : List (Key × D)) (h : S[n]? = some (.dk (kds.map fun q => (q.1, W.da q.2)))) : datW (k + 1) S (.lo n) = some (.dk (kds.map (·.1)) (kds.map (·.2)), S.set n .dead) := by
  unfold datW
  have e : ((kds.map fun q => (q.1, W.da q.2)).map (·.2)) = (kds.map (·.2)).map .da := by simp [Function.comp_def]
  simp only [h, e, datWs_da]
  simp [Function.comp_def]
def lookD {κ : Type} [DecidableEq κ] : List (κ × D) → κ → Option D
  | [], _ => none
  | (k, w) :: r, j => if k = j then some w else lookD r j
theorem look_map {κ : Type} [DecidableEq κ] (j : κ) : ∀ kds : List (κ × D), look ((kds.map (·.1)).zip ((kds.map (·.2)).map W.da)) j = (lookD kds j).map .da
  | [] => rfl
  | (k, d) :: r => by
    simp only [List.map_cons, List.zip_cons_cons, look, lookD, look_map j r]
    split <;> rfl
theorem look_cell {κ : Type} [DecidableEq κ] (j : κ) : ∀ kds : List (κ × D), look (kds.map fun q => (q.1, W.da q.2)) j = (lookD kds j).map .da
  | [] => rfl
  | (k, d) :: r => by
    simp only [List.map_cons, look, lookD, look_cell j r]
    split <;> rfl
theorem dk_get (kds : List (Key × D)) (w : W) (j : Key) (hw : keyW w = some j) (S : Sto) : dget (.da (.dk (kds.map (·.1)) (kds.map (·.2)))) w S = some ((lookD kds j).map .da) := by
  unfold dget
  simp only [dkW, hw, Option.map, look_map]
theorem dk_ix (kds : List (Key × D)) (w : W) (j : Key) (d : D) (hw : keyW w = some j) (h : lookD kds j = some d) (S : Sto) : vl2 ixW (.da (.dk (kds.map (·.1)) (kds.map (·.2)))) w S = .ok (.da d) S := by
  unfold vl2 ixW
  simp only [seqW, dk_get kds w j hw, h, Option.map, lift]
theorem dk_in (kds : List (Key × D)) (w : W) (j : Key) (hw : keyW w = some j) (S : Sto) : vl2 inW w (.da (.dk (kds.map (·.1)) (kds.map (·.2)))) S = .ok (.da (.bl (lookD kds j).isSome)) S := by
  unfold vl2 inW inB
  rw [dk_get kds w j hw]
  cases lookD kds j <;> rfl
theorem dk_notin (kds : List (Key × D)) (w : W) (j : Key) (hw : keyW w = some j) (S : Sto) : vl2 notinW w (.da (.dk (kds.map (·.1)) (kds.map (·.2)))) S = .ok (.da (.bl (!(lookD kds j).isSome))) S := by
  unfold vl2 notinW inB
  rw [dk_get kds w j hw]
  cases lookD kds j <;> rfl
theorem put_new {κ : Type} [DecidableEq κ] (kws : List (κ × W)) (k : κ) (w : W) (h : ∀ q ∈ kws, q.1 ≠ k) : putW kws k w = kws ++ [(k, w)] := by
  unfold putW
  rw [if_neg]
  rw [List.any_eq_true]
  intro ⟨q, hq, e⟩
  exact h q hq (of_decide_eq_true e)
/-! ### the book's cells -/
abbrev kwD (q : Key × D) : Key × W := (q.1, .da q.2)
structure BkV where
  held : List (Key × D)
  tied : List (Key × D)
  up : Int
  past : List D
  fut : List D
abbrev bkI (hh ht : Nat) (up : Int) (hp hf : Nat) : Cell := .ins "Book" [("held", .lo hh), ("tied", .lo ht), ("upcoming", iW up), ("past", .lo hp), ("future", .lo hf)]
/-- a book at the place b of the store -/
structure Bk (S : Sto) (b hh ht hp hf : Nat) (B : BkV) : Prop where
  ib : S[b]? = some (bkI hh ht B.up hp hf)
  ih : S[hh]? = some (.dk (B.held.map kwD))
  it : S[ht]? = some (.dk (B.tied.map kwD))
  ip : S[hp]? = some (.lst (B.past.map .da))
  iu : S[hf]? = some (.lst (B.fut.map .da))
  ht' : hh ≠ ht
  hf' : hp ≠ hf
theorem bkne : ((("held" : Str) = "tied") = False) ∧ ((("held" : Str) = "upcoming") = False) ∧ ((("held" : Str) = "past") = False) ∧ ((("held" : Str) = "future") = False) ∧ ((("tied" : Str) = "held") = False) ∧ ((("tied" : Str) = "upcoming") = False) ∧ ((("tied" : Str) = "past") = False) ∧ ((("tied" : Str) = "future") = False) ∧ ((("upcoming" : Str) = "held") = False) ∧ ((("upcoming" : Str) = "tied") = False) ∧ ((("upcoming" : Str) = "past") = False) ∧ ((("upcoming" : Str) = "future") = False) ∧ ((("past" : Str) = "held") = False) ∧ ((("past" : Str) = "tied") = False) ∧ ((("past" : Str) = "upcoming") = False) ∧ ((("past" : Str) = "future") = False) ∧ ((("future" : Str) = "held") = False) ∧ ((("future" : Str) = "tied") = False) ∧ ((("future" : Str) = "upcoming") = False) ∧ ((("future" : Str) = "past") = False) := by
  refine ⟨?_, ?_, ?_, ?_, ?_, ?_, ?_, ?_, ?_, ?_, ?_, ?_, ?_, ?_, ?_, ?_, ?_, ?_, ?_, ?_⟩ <;> exact eq_false (by decide +kernel)
/-- no field of a book is called so -/
def NoBk (m : Str) : Prop := ("held" : Str) ≠ m ∧ ("tied" : Str) ≠ m ∧ ("upcoming" : Str) ≠ m ∧ ("past" : Str) ≠ m ∧ ("future" : Str) ≠ m
theorem noBk {m : Str} (h : NoBk m) (a b c d e : W) : look [(("held" : Str), a), ("tied", b), ("upcoming", c), ("past", d), ("future", e)] m = none := by
  obtain ⟨h1, h2, h3, h4, h5⟩ := h
  simp only [look, if_neg h1, if_neg h2, if_neg h3, if_neg h4, if_neg h5]
theorem fst_kwD (l : List (Key × D)) : List.map ((fun x : Key × W => x.fst) ∘ kwD) l = l.map (·.1) := rfl
theorem dats_kwD (l : List (Key × D)) : dats (List.map ((fun x : Key × W => x.snd) ∘ kwD) l) = some (l.map (·.2)) := by
  rw [show (List.map ((fun x : Key × W => x.snd) ∘ kwD) l) = (l.map (·.2)).map .da by simp [Function.comp_def], dats_da]
theorem dats_kwD2 (l : List (Key × D)) : dats (List.map (fun x : Key × W => x.snd) (l.map kwD)) = some (l.map (·.2)) := by
  rw [List.map_map]; exact dats_kwD l
theorem fst_kwD2 (l : List (Key × D)) : List.map (fun x : Key × W => x.fst) (l.map kwD) = l.map (·.1) := by rw [List.map_map]; rfl
abbrev dkD (l : List (Key × D)) : D := .dk (l.map (·.1)) (l.map (·.2))
/-- what stand tells -/
abbrev standD (B : BkV) : D := .tup [dkD B.held, dkD B.tied, .int B.up]
section
variable {S : Sto} {b hh ht hp hf : Nat} {B : BkV}
theorem Bk.lt {S : Sto} {n : Nat} {c : Cell} (h : S[n]? = some c) : n < S.length := (List.getElem?_eq_some_iff.mp h).1
theorem Bk.n1 (k : Bk S b hh ht hp hf B) : b ≠ hh := fun z => by have := k.ib; rw [z, k.ih] at this; cases this
theorem Bk.n2 (k : Bk S b hh ht hp hf B) : b ≠ ht := fun z => by have := k.ib; rw [z, k.it] at this; cases this
theorem Bk.n3 (k : Bk S b hh ht hp hf B) : b ≠ hp := fun z => by have := k.ib; rw [z, k.ip] at this; cases this
theorem Bk.n4 (k : Bk S b hh ht hp hf B) : b ≠ hf := fun z => by have := k.ib; rw [z, k.iu] at this; cases this
theorem Bk.n5 (k : Bk S b hh ht hp hf B) : hh ≠ hp := fun z => by have := k.ih; rw [z, k.ip] at this; cases this
theorem Bk.n6 (k : Bk S b hh ht hp hf B) : hh ≠ hf := fun z => by have := k.ih; rw [z, k.iu] at this; cases this
theorem Bk.n7 (k : Bk S b hh ht hp hf B) : ht ≠ hp := fun z => by have := k.it; rw [z, k.ip] at this; cases this
theorem Bk.n8 (k : Bk S b hh ht hp hf B) : ht ≠ hf := fun z => by have := k.it; rw [z, k.iu] at this; cases this
theorem fld_held (k : Bk S b hh ht hp hf B) : vl1 (fldW ["Book"] "held") (.lo b) S = .ok (.lo hh) S := by
  unfold vl1 fldW insW
  simp only [k.ib, List.mem_singleton, if_true, look, lift, eq_self]
theorem fld_tied (k : Bk S b hh ht hp hf B) : vl1 (fldW ["Book"] "tied") (.lo b) S = .ok (.lo ht) S := by
  unfold vl1 fldW insW
  simp only [k.ib, List.mem_singleton, if_true, look, lift, eq_self, bkne, if_false]
theorem fld_up (k : Bk S b hh ht hp hf B) : vl1 (fldW ["Book"] "upcoming") (.lo b) S = .ok (iW B.up) S := by
  unfold vl1 fldW insW
  simp only [k.ib, List.mem_singleton, if_true, look, lift, eq_self, bkne, if_false]
theorem fld_past (k : Bk S b hh ht hp hf B) : vl1 (fldW ["Book"] "past") (.lo b) S = .ok (.lo hp) S := by
  unfold vl1 fldW insW
  simp only [k.ib, List.mem_singleton, if_true, look, lift, eq_self, bkne, if_false]
theorem fld_fut (k : Bk S b hh ht hp hf B) : vl1 (fldW ["Book"] "future") (.lo b) S = .ok (.lo hf) S := by
  unfold vl1 fldW insW
  simp only [k.ib, List.mem_singleton, if_true, look, lift, eq_self, bkne, if_false]
/-- a method of the book -/
theorem meth_bk (k : Bk S b hh ht hp hf B) {m : Str} (hm : NoBk m) {F : List W → Sto → Rs W} {mo : ME} {mr : MA} {ρ : Rho} (ho : mo ρ S = .ok (.lo b) S) : mMeth "Book" m F mo mr ρ S = (mr ρ S).bind fun ws S => F (.lo b :: ws) S := by
  unfold mMeth
  simp only [ho, Rs.bind, insW, k.ib, noBk hm, and_self, if_true]
theorem trim_ne {S0 S : Sto} {d : D} {n : Nat} (hn : n < S0.length) (h : S[n]? ≠ S0[n]?) : trimS S0 (.da d) S = .ok (.da d) S := by
  unfold trimS
  simp only
  rw [ifc_neg]
  intro z
  apply h
  rw [← z, List.getElem?_take_of_lt hn]
theorem trim_pre {S0 S : Sto} {d : D} (h : S0 <+: S) : trimS S0 (.da d) S = .ok (.da d) S0 := by
  unfold trimS
  simp only
  rw [ifc_pos]
  obtain ⟨t, rfl⟩ := h
  simp
theorem trim_self {S : Sto} {d : D} : trimS S (.da d) S = .ok (.da d) S := trim_pre (List.prefix_refl _)
theorem trimX_self {S : Sto} {c : Str} : trimX S ⟨c, [], []⟩ S = .ex ⟨c, [], []⟩ S := by
  unfold trimX
  rw [ifc_pos ⟨List.take_length, rfl⟩]
theorem lk_dk {S : Sto} {n : Nat} {l : List (Key × D)} (h : S[n]? = some (.dk (l.map kwD))) : mkL (dictC [.lo n] S) S = .ok (.da (dkD l)) S := by
  unfold dictC mkL
  simp only [dkW, h, Option.map, datL, dats_kwD2, fst_kwD2]
theorem runS_rt {n np : Nat} {m : MS} {ws : List W} {S S' : Sto} {w : W} (hl : ws.length = np) (h : m (startR n ws) S = .rt w S') : runS n np m ws S = trimS S w S' := by
  unfold runS; rw [if_pos hl, h]; rfl
theorem runS_nx {n np : Nat} {m : MS} {ws : List W} {S S' : Sto} {r : Rho} (hl : ws.length = np) (h : m (startR n ws) S = .nx r S') : runS n np m ws S = trimS S (.da .non) S' := by
  unfold runS; rw [if_pos hl, h]; rfl
theorem runS_ex {n np : Nat} {m : MS} {ws : List W} {S S' : Sto} {r : Rho} {x : Exn} (hl : ws.length = np) (h : m (startR n ws) S = .ex x r S') : runS n np m ws S = trimX S x S' := by
  unfold runS; rw [if_pos hl, h]; rfl
theorem stand_eq (k : Bk S b hh ht hp hf B) : q_Book_stand [.lo b] S = .ok (.da (standD B)) S := by
  refine (runS_rt rfl (w := .da (standD B)) (S' := S) ?_).trans trim_self
  show m_Book_stand [some (.lo b)] S = _
  unfold m_Book_stand mFld
  simp_arith [fld_held k, fld_tied k, fld_up k, lk_dk k.ih, lk_dk k.it]
end
section
variable {S : Sto} {b hh ht hp hf : Nat} {B : BkV}
theorem set_get {S : Sto} {n m : Nat} {c d : Cell} (h : S[n]? = some c) (hn : n ≠ m) : (S.set m d)[n]? = some c := by
  rw [List.getElem?_set_ne (fun z => hn z.symm)]; exact h
theorem set_at {S : Sto} {n : Nat} {c d : Cell} (h : S[n]? = some c) : (S.set n d)[n]? = some d := by
  rw [List.getElem?_set_self (Bk.lt h)]
theorem app_get {S T : Sto} {n : Nat} {c : Cell} (h : S[n]? = some c) : (S ++ T)[n]? = some c := by
  rw [List.getElem?_append_left (Bk.lt h)]; exact h
theorem app_at {S : Sto} {c : Cell} : (S ++ [c])[S.length]? = some c := by simp
/-- a deed is remembered -/
def remS (S : Sto) (b hh ht hp : Nat) (B : BkV) (deed : D) : Sto := ((S.set hp (Cell.lst ((B.past ++ [D.tup [deed, standD B]]).map W.da))) ++ [Cell.lst []]).set b (bkI hh ht B.up hp S.length)
def remB (B : BkV) (deed : D) : BkV := { B with past := B.past ++ [.tup [deed, standD B]], fut := [] }
theorem rem_bk (k : Bk S b hh ht hp hf B) (deed : D) : Bk (remS S b hh ht hp B deed) b hh ht hp S.length (remB B deed) := by
  have hl : ∀ {n : Nat} {c : Cell}, S[n]? = some c → n ≠ S.length := fun h z => by have := Bk.lt h; omega
  refine ⟨?_, ?_, ?_, ?_, ?_, k.ht', hl k.ip⟩
  · exact set_at (app_get (set_get k.ib k.n3))
  · exact set_get (app_get (set_get k.ih k.n5)) (Ne.symm k.n1)
  · exact set_get (app_get (set_get k.it k.n7)) (Ne.symm k.n2)
  · exact set_get (app_get (set_at k.ip)) (Ne.symm k.n3)
  · refine set_get ?_ (Ne.symm (hl k.ib))
    have := app_at (S := S.set hp (Cell.lst ((B.past ++ [D.tup [deed, standD B]]).map W.da))) (c := .lst [])
    rw [List.length_set] at this
    exact this
theorem set_fld {c : Str} {f : Str} {w : W} {n : Nat} {fws : List (Str × W)} (h : S[n]? = some (.ins c fws)) (hl : fws.length < 1000) : setFW [c] f (.lo n) w S = some (S.set n (.ins c (putFW f w fws))) := by
  unfold setFW
  simp only [h, List.mem_singleton, true_and, ifc_pos hl]
theorem app_cell {n : Nat} {ws : List W} {w : W} (h : S[n]? = some (.lst ws)) (hl : ws.length < 100000) : chL appL (.lo n) [w] S = .ok (.da .non) (S.set n (.lst (ws ++ [w]))) := by
  unfold chL appL
  simp only [h, ifc_pos (sz_lt hl)]
theorem ty_lst {n : Nat} {ws : List W} (h : S[n]? = some (.lst ws)) : tyM S (.lo n) = some "list" := by
  unfold tyM
  simp only [h]
theorem sz_map {α β : Type} {l : List α} {f : α → β} {n : Nat} (h : l.length < n) : (l.map f).length < n := by rw [List.length_map]; exact h
theorem rem_eq (k : Bk S b hh ht hp hf B) (deed : D) (hl : B.past.length < 10000) : q_Book_remember [.lo b, .da deed] S = .ok (.da .non) (remS S b hh ht hp B deed) := by
  have st := stand_eq k
  have nf : NoBk "stand" := ⟨by decide +kernel, by decide +kernel, by decide +kernel, by decide +kernel, by decide +kernel⟩
  have k2 := rem_bk k deed
  have sz : ifc (List.length (B.past.map W.da) < sizeLine) = fun (x y : Option (W × List W)) => x := by
    funext x y
    exact ifc_pos (sz_lt (sz_map (by omega)))
  have ib2 := app_get (T := [Cell.lst []]) (set_get (d := Cell.lst (B.past.map W.da ++ [W.da (D.tup [deed, standD B])])) k.ib k.n3)
  refine (runS_nx (r := [some (.lo b), some (.da deed)]) rfl ?_).trans (trim_ne (Bk.lt k.ib) (by
    rw [k2.ib, k.ib]
    intro z
    simp only [Option.some.injEq, Cell.ins.injEq, List.cons.injEq, Prod.mk.injEq, W.lo.injEq, true_and, and_true] at z
    have := Bk.lt k.iu
    omega))
  rw [show remS S b hh ht hp B deed = ((S.set hp (Cell.lst (B.past.map W.da ++ [W.da (D.tup [deed, standD B])]))) ++ [Cell.lst []]).set b (bkI hh ht B.up hp S.length) by unfold remS; simp]
  show m_Book_remember [some (.lo b), some (.da deed)] S = _
  generalize standD B = sd at *
  have kib := k.ib
  have kip := k.ip
  generalize List.map W.da B.past = pa at *
  have fp := fld_past k
  unfold m_Book_remember mFld mSetF mMt
  simp_arith [fp, kib, kip, tyM, noBk nf, st, sz, ib2, List.length_set, bkne, List.mem_singleton]
end
section
variable {S : Sto} {b hh ht hp hf : Nat} {B : BkV}
theorem in_cell {n : Nat} {l : List (Key × D)} {w : W} {j : Key} (h : S[n]? = some (.dk (l.map kwD))) (hw : keyW w = some j) : vl2 inW w (.lo n) S = .ok (.da (.bl (lookD l j).isSome)) S := by
  unfold vl2 inW inB dget
  simp only [dkW, h, hw, Option.map, look_cell, lift]
  cases lookD l j <;> rfl
theorem notin_cell {n : Nat} {l : List (Key × D)} {w : W} {j : Key} (h : S[n]? = some (.dk (l.map kwD))) (hw : keyW w = some j) : vl2 notinW w (.lo n) S = .ok (.da (.bl (!(lookD l j).isSome))) S := by
  unfold vl2 notinW inB dget
  simp only [dkW, h, hw, Option.map, look_cell, lift]
  cases lookD l j <;> rfl
theorem ix_cell {n : Nat} {l : List (Key × D)} {w : W} {j : Key} {d : D} (h : S[n]? = some (.dk (l.map kwD))) (hw : keyW w = some j) (hd : lookD l j = some d) : vl2 ixW (.lo n) w S = .ok (.da d) S := by
  unfold vl2 ixW dget
  simp only [seqW, dkW, h, hw, Option.map, look_cell, hd, lift]
theorem len_dk {n : Nat} {l : List (Key × D)} (h : S[n]? = some (.dk (l.map kwD))) : vlN lenW [.lo n] S = .ok (.da (.int l.length)) S := by
  unfold vlN lenW
  simp only [seqW, dkW, h, lift, List.length_map]
theorem lookD_none {l : List (Key × D)} {j : Key} : lookD l j = none ↔ ∀ q ∈ l, q.1 ≠ j := by
  induction l with
  | nil => simp [lookD]
  | cons a l ih =>
    obtain ⟨k, d⟩ := a
    simp only [lookD]
    by_cases h : k = j
    · simp [h]
    · simp [h, ih]
theorem need_ok (k : Bk S b hh ht hp hf B) {n : Str} (h : (lookD B.held (.inr n)).isSome = true) : q_Book_need [.lo b, .da (.str n)] S = .ok (.da .non) S := by
  refine (runS_nx (r := [some (.lo b), some (.da (.str n))]) (S' := S) rfl ?_).trans trim_self
  show m_Book_need [some (.lo b), some (.da (.str n))] S = _
  have ni := notin_cell (w := .da (.str n)) k.ih rfl
  rw [h] at ni
  have fh := fld_held k
  unfold m_Book_need mFld
  simp_arith [fh, ni]
theorem need_no (k : Bk S b hh ht hp hf B) {n : Str} (h : lookD B.held (.inr n) = none) : q_Book_need [.lo b, .da (.str n)] S = .ex ⟨"NoPlate", [], []⟩ S := by
  refine (runS_ex (r := [some (.lo b), some (.da (.str n))]) (S' := S) (x := ⟨"NoPlate", [], []⟩) rfl ?_).trans trimX_self
  show m_Book_need [some (.lo b), some (.da (.str n))] S = _
  have ni := notin_cell (w := .da (.str n)) k.ih rfl
  rw [h] at ni
  have fh := fld_held k
  unfold m_Book_need mFld mRaise
  simp_arith [fh, ni, Option.isSome]
/-! a plate is put in -/
abbrev putDeed (n : Str) (w h l : Int) (ss : List Star) : D := .tup [.str "put", .str n, .int w, .int h, .int l, .tup (ss.map stD)]
def putB (B : BkV) (n : Str) (w h l : Int) (ss : List Star) : BkV := { remB B (putDeed n w h l ss) with held := B.held ++ [(.inr n, plateD n w h l ss)] }
def putS (S : Sto) (b hh ht hp : Nat) (B : BkV) (n : Str) (w h l : Int) (ss : List Star) : Sto := (remS S b hh ht hp B (putDeed n w h l ss)).set hh (Cell.dk ((B.held ++ [(Sum.inr n, plateD n w h l ss)]).map kwD))
theorem put_bk (k : Bk S b hh ht hp hf B) (n : Str) (w h l : Int) (ss : List Star) : Bk (putS S b hh ht hp B n w h l ss) b hh ht hp S.length (putB B n w h l ss) := by
  have k2 := rem_bk k (putDeed n w h l ss)
  exact ⟨set_get k2.ib k2.n1, set_at k2.ih, set_get k2.it (Ne.symm k2.ht'), set_get k2.ip (Ne.symm k2.n5), set_get k2.iu (Ne.symm k2.n6), k2.ht', k2.hf'⟩
theorem noLs_br : ∀ ss : List Star, noLs (ss.map brV) = true
  | [] => rfl
  | s :: ss => by simp [noLs, noL, noLs_br ss]
theorem plate_call {n : Str} {w h l : Int} {ss : List Star} {j : Nat} {r : Re D} (hj : S[j]? = some (.lst (ss.map stW))) (e : makeP "Plate" q_Plate___init__ [.str n, .int w, .int h, .int l, starsD ss] = r) : callN (makeP "Plate" q_Plate___init__) [.da (.str n), iW w, iW h, iW l, .lo j] S = reN r S := by
  unfold callN
  simp only [dats, valsW, valW, hj, dats_stars, Option.map, e]
theorem reN_plate (n : Str) (w h l : Int) (ss : List Star) : reN (.ok (plateD n w h l ss)) S = .ok (.da (plateD n w h l ss)) S := by
  have := noLs_br ss
  simp only [reN, noL, noLs, this, Bool.and_self, if_true]
theorem reN_ex (c : Str) : reN (.ex ⟨c, [], []⟩) S = .ex ⟨c, [], []⟩ S := rfl
abbrev ptR (b : Nat) (n : Str) (w h l : Int) (j : Nat) (o : Option W) : Rho := [some (.lo b), some (.da (.str n)), some (iW w), some (iW h), some (iW l), some (.lo j), o]
section
variable {n : Str} {w h l : Int} {ss : List Star} {j : Nat} (k : Bk S b hh ht hp hf B) (hj : S[j]? = some (.lst (ss.map stW)))
include k hj
theorem put_noname (l1 : n.length ≤ 100000) (hn : ¬ NameOk n) : q_Book_put [.lo b, .da (.str n), iW w, iW h, iW l, .lo j] S = .ex ⟨"BadName", [], []⟩ S := by
  refine (runS_ex (r := ptR b n w h l j none) (S' := S) (x := ⟨"BadName", [], []⟩) rfl ?_).trans trimX_self
  show m_Book_put (ptR b n w h l j none) S = _
  have pc := plate_noname n w h l ss l1 hn
  unfold m_Book_put mCallN
  simp_arith [hj, dats_stars, pc, List.all_nil]
theorem put_noglass (l2 : ss.length ≤ 900) (hn : NameOk n) (hg : ¬ GlassOk w h l ss) : q_Book_put [.lo b, .da (.str n), iW w, iW h, iW l, .lo j] S = .ex ⟨"BadPlate", [], []⟩ S := by
  refine (runS_ex (r := ptR b n w h l j none) (S' := S) (x := ⟨"BadPlate", [], []⟩) rfl ?_).trans trimX_self
  show m_Book_put (ptR b n w h l j none) S = _
  have pc := plate_noglass n w h l ss l2 hn hg
  unfold m_Book_put mCallN
  simp_arith [hj, dats_stars, pc, List.all_nil]
variable (hn : NameOk n) (hg : GlassOk w h l ss)
include hn hg
theorem put_taken (ht2 : (lookD B.held (.inr n)).isSome = true) : q_Book_put [.lo b, .da (.str n), iW w, iW h, iW l, .lo j] S = .ex ⟨"Taken", [], []⟩ S := by
  refine (runS_ex (r := ptR b n w h l j (some (.da (plateD n w h l (sortE stD ss))))) (S' := S) (x := ⟨"Taken", [], []⟩) rfl ?_).trans trimX_self
  show m_Book_put (ptR b n w h l j none) S = _
  have pc := plate_ok n w h l ss hn hg
  have nlb := noLs_br (sortE stD ss)
  have ni := in_cell (w := .da (.str n)) k.ih rfl
  rw [ht2] at ni
  have fh := fld_held k
  unfold m_Book_put mCallN mFld mRaise
  simp_arith [hj, dats_stars, pc, nlb, List.all_nil, fh, ni]
theorem put_full (ht2 : lookD B.held (.inr n) = none) (hl : 12 ≤ (B.held.length : Int)) : q_Book_put [.lo b, .da (.str n), iW w, iW h, iW l, .lo j] S = .ex ⟨"Full", [], []⟩ S := by
  refine (runS_ex (r := ptR b n w h l j (some (.da (plateD n w h l (sortE stD ss))))) (S' := S) (x := ⟨"Full", [], []⟩) rfl ?_).trans trimX_self
  show m_Book_put (ptR b n w h l j none) S = _
  have pc := plate_ok n w h l ss hn hg
  have nlb := noLs_br (sortE stD ss)
  have ni := in_cell (w := .da (.str n)) k.ih rfl
  rw [ht2] at ni
  have fh := fld_held k
  have ln := len_dk k.ih
  generalize (B.held.length : Int) = L at ln hl
  unfold m_Book_put mCallN mFld mRaise
  simp_arith [hj, dats_stars, pc, nlb, List.all_nil, fh, ni, Option.isSome, ln, dec_pos hl]
theorem put_ok (ht2 : lookD B.held (.inr n) = none) (hl : (B.held.length : Int) < 12) (hpl : B.past.length < 10000) : q_Book_put [.lo b, .da (.str n), iW w, iW h, iW l, .lo j] S = .ok (.da .non) (putS S b hh ht hp B n w h l (sortE stD ss)) := by
  have sl : (sortE stD ss).length ≤ 8 := by rw [sortE_len]; exact hg.2.2.2.1
  have pc := plate_ok n w h l ss hn hg
  have nlb := noLs_br (sortE stD ss)
  generalize sortE stD ss = st at *
  have k2 := put_bk k n w h l st
  have kr := rem_bk k (putDeed n w h l st)
  refine (runS_nx (r := ptR b n w h l j (some (.da (plateD n w h l st)))) rfl ?_).trans (trim_ne (Bk.lt k.ib) (by
    rw [k2.ib, k.ib]
    intro z
    simp only [Option.some.injEq, Cell.ins.injEq, List.cons.injEq, Prod.mk.injEq, W.lo.injEq, true_and, and_true] at z
    have := Bk.lt k.iu
    omega))
  show m_Book_put (ptR b n w h l j none) S = _
  have ni := in_cell (w := .da (.str n)) k.ih rfl
  rw [ht2] at ni
  have fh := fld_held k
  have ln := len_dk k.ih
  have hl2 : ¬ 12 ≤ (B.held.length : Int) := by omega
  have hz : B.held.length < 100000 := by omega
  have se := stars_eq n w h l st (by omega)
  have re := rem_eq k (putDeed n w h l st) hpl
  have nf : NoBk "remember" := ⟨by decide +kernel, by decide +kernel, by decide +kernel, by decide +kernel, by decide +kernel⟩
  have noh : look (plFs.zip [W.da (.str n), .da (.int w), .da (.int h), .da (.int l), .da (.dt (st.map plK) (st.map brV))]) "stars" = none := by simp_arith [zp, plne]
  have tu : tupleF mkD [.da (starsD st)] S = .ok (.da (.tup (st.map stD))) S := by
    unfold tupleF
    simp_arith [stars_map, dats_stars]
  have fh2 := fld_held kr
  have kih := kr.ih
  have pw : putW ((remB B (putDeed n w h l st)).held.map kwD) (.inr n) (.da (plateD n w h l st)) = (B.held ++ [(Sum.inr n, plateD n w h l st)]).map kwD := by
    rw [put_new]
    · simp [remB]
    · intro q hq
      obtain ⟨u, hu, rfl⟩ := List.mem_map.mp hq
      exact lookD_none.mp ht2 u hu
  have hz2 : List.length ((remB B (putDeed n w h l st)).held.map kwD) < sizeLine := sz_lt (by rw [List.length_map]; exact hz)
  have kib := k.ib
  unfold putS
  generalize remS S b hh ht hp B (putDeed n w h l st) = S1 at *
  generalize (remB B (putDeed n w h l st)).held.map kwD = kws at *
  generalize (B.held.length : Int) = L at ln hl2
  unfold m_Book_put mCallN mFld mSetIx
  simp_arith [hj, dats_stars, pc, nlb, List.all_nil, fh, ni, Option.isSome, ln, dec_neg hl2, kib, noBk nf, noh, se, tu, re, fh2, kih, ifc_pos hz2, pw, dats_stars, keyW, keyD]
end
end
section
variable {S : Sto} {b hh ht hp hf : Nat} {B : BkV}
/-! names, windows, stars -/
abbrev plOf (n : Str) (w h l : Int) (ss : List Star) : Key × D := (.inr n, plateD n w h l ss)
theorem window_ok (k : Bk S b hh ht hp hf B) {n m : Str} {w h l : Int} {ss : List Star} (hd : lookD B.held (.inr n) = some (plateD m w h l ss)) : q_Book_window [.lo b, .da (.str n)] S = .ok (.da (.tup [.int w, .int h, .int l])) S := by
  refine (runS_rt (w := .da (.tup [.int w, .int h, .int l])) (S' := S) rfl ?_).trans trim_self
  show m_Book_window [some (.lo b), some (.da (.str n)), none] S = _
  have ne := need_ok k (n := n) (by rw [hd]; rfl)
  have ix := ix_cell (w := .da (.str n)) k.ih rfl hd
  have fh := fld_held k
  have kib := k.ib
  have nf : NoBk "need" := ⟨by decide +kernel, by decide +kernel, by decide +kernel, by decide +kernel, by decide +kernel⟩
  unfold m_Book_window mFld
  simp_arith [kib, noBk nf, ne, fh, ix, zp, plne, vl1, fldW, List.mem_singleton]
theorem window_ok2 (k : Bk S b hh ht hp hf B) : True := trivial
theorem stars_of_ok (k : Bk S b hh ht hp hf B) {n m : Str} {w h l : Int} {ss : List Star} (hs : ss.length ≤ 1000) (hd : lookD B.held (.inr n) = some (plateD m w h l ss)) : q_Book_stars_of [.lo b, .da (.str n)] S = .ok (.lo S.length) (S ++ [.lst (ss.map stW)]) := by
  refine (runS_rt (w := .lo S.length) (S' := S ++ [.lst (ss.map stW)]) rfl ?_).trans rfl
  show m_Book_stars_of [some (.lo b), some (.da (.str n))] S = _
  have ne := need_ok k (n := n) (by rw [hd]; rfl)
  have ix := ix_cell (w := .da (.str n)) k.ih rfl hd
  have fh := fld_held k
  have kib := k.ib
  have nf : NoBk "need" := ⟨by decide +kernel, by decide +kernel, by decide +kernel, by decide +kernel, by decide +kernel⟩
  have se := stars_eq m w h l ss hs
  have noh : look (plFs.zip [W.da (.str m), .da (.int w), .da (.int h), .da (.int l), .da (.dt (ss.map plK) (ss.map brV))]) "stars" = none := by simp_arith [zp, plne]
  unfold m_Book_stars_of mFld
  simp_arith [kib, noBk nf, ne, fh, ix, noh, se]
theorem names_ok (k : Bk S b hh ht hp hf B) {ws : List W} (so : sortDC [.lo hh] S = some (.lst ws)) : q_Book_names [.lo b] S = .ok (.lo S.length) (S ++ [.lst ws]) := by
  refine (runS_rt (w := .lo S.length) (S' := S ++ [.lst ws]) rfl ?_).trans rfl
  show m_Book_names [some (.lo b)] S = _
  have fh := fld_held k
  unfold m_Book_names mFld
  simp_arith [fh, so]
/-! a plate is dropped (no tie stands) -/
def drpB (B : BkV) (n : Str) : BkV := { remB B (.tup [.str "drop", .str n]) with held := B.held.filter fun q => decide (q.1 ≠ .inr n) }
def drpS (S : Sto) (b hh ht hp : Nat) (B : BkV) (n : Str) : Sto := (remS S b hh ht hp B (.tup [.str "drop", .str n])).set hh (Cell.dk ((B.held.filter fun q => decide (q.1 ≠ .inr n)).map kwD))
theorem drp_bk (k : Bk S b hh ht hp hf B) (n : Str) : Bk (drpS S b hh ht hp B n) b hh ht hp S.length (drpB B n) := by
  have k2 := rem_bk k (.tup [.str "drop", .str n])
  exact ⟨set_get k2.ib k2.n1, set_at k2.ih, set_get k2.it (Ne.symm k2.ht'), set_get k2.ip (Ne.symm k2.n5), set_get k2.iu (Ne.symm k2.n6), k2.ht', k2.hf'⟩
theorem dropW_kwD (l : List (Key × D)) (j : Key) : dropW (l.map kwD) j = (l.filter fun q => decide (q.1 ≠ j)).map kwD := by
  unfold dropW
  rw [List.filter_map]
  rfl
theorem drop_ok0 (k : Bk S b hh ht hp hf B) {n : Str} {d : D} (hd : lookD B.held (.inr n) = some d) (hpl : B.past.length < 10000) (he : B.tied = []) : q_Book_drop [.lo b, .da (.str n)] S = .ok (.da .non) (drpS S b hh ht hp B n) := by
  have k2 := drp_bk k n
  have kr := rem_bk k (.tup [.str "drop", .str n])
  refine (runS_nx (r := [some (.lo b), some (.da (.str n)), none, none, none, none]) rfl ?_).trans (trim_ne (Bk.lt k.ib) (by
    rw [k2.ib, k.ib]
    intro z
    simp only [Option.some.injEq, Cell.ins.injEq, List.cons.injEq, Prod.mk.injEq, W.lo.injEq, true_and, and_true] at z
    have := Bk.lt k.iu
    omega))
  show m_Book_drop [some (.lo b), some (.da (.str n)), none, none, none, none] S = _
  have ne := need_ok k (n := n) (by rw [hd]; rfl)
  have re := rem_eq k (.tup [.str "drop", .str n]) hpl
  have kib := k.ib
  have nf : NoBk "need" := ⟨by decide +kernel, by decide +kernel, by decide +kernel, by decide +kernel, by decide +kernel⟩
  have nf2 : NoBk "remember" := ⟨by decide +kernel, by decide +kernel, by decide +kernel, by decide +kernel, by decide +kernel⟩
  have fh := fld_held kr
  have po : ∀ hk, popF (.lo hh) (.da (.str n)) (remS S b hh ht hp B (.tup [.str "drop", .str n])) = .ok hk (drpS S b hh ht hp B n) ↔ hk = .da d := fun hk => by
    have h2 : lookD (remB B (.tup [.str "drop", .str n])).held (.inr n) = some d := hd
    unfold popF
    simp only [kr.ih, keyW, keyD, look_cell, h2, Option.map, dropW_kwD]
    constructor
    · intro z; cases z; rfl
    · intro z; subst z; rfl
  have po := (po (.da d)).mpr rfl
  have dc : dctW (remS S b hh ht hp B (.tup [.str "drop", .str n])) (.lo hh) = true := by
    unfold dctW dkW
    simp only [kr.ih, Option.isSome, Bool.true_or]
  have ft := fld_tied k2
  have li : litF mkD (.lo ht) (drpS S b hh ht hp B n) = .ok (.da (.lst [])) (drpS S b hh ht hp B n) := by
    have : (drpB B n).tied = [] := he
    unfold litF
    simp only [k2.it, this, List.map_nil, dats, List.zip_nil_left, mkD, datC, Option.map]
  generalize drpS S b hh ht hp B n = S2 at *
  generalize remS S b hh ht hp B (.tup [.str "drop", .str n]) = S1 at *
  unfold m_Book_drop mFld mPop1 mListI
  simp_arith [kib, noBk nf, noBk nf2, ne, re, fh, dc, po, ft, li]
  rfl
end
theorem home_ok (row : List Int) (hr : Drawn 12 row) : ∃ m : Mo, okM m ∧ p_l_home [.lst (row.map .int)] = .ok (moD m) := by
  obtain ⟨x7, b7, e7⟩ := at_row hr 7 (by decide) (by decide)
  obtain ⟨x8, b8, e8⟩ := at_row hr 8 (by decide) (by decide)
  obtain ⟨x9, b9, e9⟩ := at_row hr 9 (by decide) (by decide)
  refine ⟨(x7 % 8, x8 % 7 - 3, x9 % 7 - 3), ⟨by show 0 ≤ x7 % 8; omega, by show x7 % 8 ≤ 7; omega⟩, ?_⟩
  unfold p_l_home m_l_home
  simp_arith [e7, e8, e9]
/-! ### law k25: what is put -/
def BadN (n : Str) : Prop := (n.length : Int) < 1 ∨ 8 < (n.length : Int) ∨ 66 ∈ n.cps.toList
theorem good_n {n : Str} (h : NameOk n) : ¬ BadN n := by
  rintro (z | z | z)
  · have := h.1; omega
  · have := h.2.1; omega
  · exact absurd (h.2.2 66 z) (by decide +kernel)
theorem bad_n {n : Str} (h : BadN n) : ¬ NameOk n := fun z => good_n z h
def MadeOk (p : Pane) : Prop := p.n.length ≤ 9 ∧ p.ss.length ≤ 8 ∧ (p.ok ∨ BadN p.n ∨ (NameOk p.n ∧ ¬ GlassOk p.w p.h p.l p.ss ∧ (8 < p.w ∨ p.l < 1)))
abbrev paneL (p : Pane) : D := .lst [.str p.n, .int p.w, .int p.h, .int p.l, .tup (p.ss.map stD)]
theorem zs_tl (n : Int) (h0 : 0 ≤ n) (h1 : n < 8) : (Txt.mul "z" n).cps.toList = List.replicate n.toNat 122 := by
  have key : ∀ k ∈ List.range 8, (Txt.mul "z" (k : Int)).cps.toList = List.replicate k 122 := by decide +kernel
  have := key n.toNat (List.mem_range.mpr (by omega))
  rw [Int.toNat_of_nonneg h0] at this
  exact this
theorem zs_ok (n : Int) (h0 : 0 ≤ n) (h1 : n < 8) (S : Sto) : vl2 mulSW (.da (.str "z")) (.da (.int n)) S = .ok (.da (.str (Txt.mul "z" n))) S := by
  have ok : PySem.MulOk "z" n := by
    refine ⟨?_, ?_, ?_⟩
    · rw [decide_eq_false (by omega), decide_eq_false (by omega)]; rfl
    · intro h _ z
      have z2 : ((1 : Nat) : Int) > (2 ^ 63 - 1) / n := z
      have : (1 : Int) ≤ (2 ^ 63 - 1) / n := by
        rw [Int.le_ediv_iff_mul_le (by omega)]
        omega
      omega
    · intro h _
      have : (("z" : Str).length * n.toNat) = n.toNat := by
        rw [show ("z" : Str).length = 1 from by decide +kernel]; omega
      rw [this]
      have key : ∀ k ∈ List.range 8, PySem.Builtin.Str.tooLong k = false := by decide +kernel
      exact key n.toNat (List.mem_range.mpr (by omega))
  unfold vl2 mulSW
  simp only [ifc_pos ok, lift]
theorem nmz_ok (i m : Int) (i0 : 0 ≤ i) (i1 : i < 26) (m0 : 0 ≤ m) (m1 : m < 8) : NameOk (letS i ++ Txt.mul "z" m) := by
  have tl : (letS i ++ Txt.mul "z" m).cps.toList = (letS i).cps.toList ++ List.replicate m.toNat 122 := by rw [str_app_toList, zs_tl m m0 m1]
  have ln : (letS i ++ Txt.mul "z" m).length = 1 + m.toNat := by
    show (letS i ++ Txt.mul "z" m).cps.size = _
    rw [← Array.length_toList, tl, List.length_append, List.length_replicate]
    rfl
  refine ⟨by omega, by omega, fun c hc => ?_⟩
  rw [tl] at hc
  rcases List.mem_append.mp hc with hc | hc
  · exact let_az i i0 i1 c hc
  · rw [(List.mem_replicate.mp hc).2]
    decide +kernel
theorem ixn5 : ixN 5 0 = some 0 ∧ ixN 5 1 = some 1 ∧ ixN 5 3 = some 3 := ⟨rfl, rfl, rfl⟩
theorem made_ok (hs : List Star) (hh : HeavOk hs) (row : List Int) (hr : Drawn 12 row) : ∃ p : Pane, MadeOk p ∧ p_l_made [.lst (row.map .int), starsD hs] = .ok (paneL p) := by
  obtain ⟨x1, b1, e1⟩ := at_row hr 1 (by decide) (by decide)
  obtain ⟨x2, b2, e2⟩ := at_row hr 2 (by decide) (by decide)
  obtain ⟨m0, hm0, eh⟩ := home_ok row hr
  have a1 : 0 ≤ x1 % 2 * (x1 / 2 % 8) ∧ x1 % 2 * (x1 / 2 % 8) < 8 := by
    have : x1 % 2 = 0 ∨ x1 % 2 = 1 := by omega
    rcases this with h | h <;> rw [h] <;> omega
  have m1 := fun S => mul_l (x1 % 2) (x1 / 2 % 8) S (by omega) (by omega)
  generalize x1 % 2 * (x1 / 2 % 8) = m at a1 m1
  have hn := nmz_ok (x1 / 16 % 18) (1 + m - 1) (by omega) (by omega) (by omega) (by omega)
  have l1 := fun S => let_ok (x1 / 16 % 18) (by omega) (by omega) S
  have z1 := fun S => zs_ok (1 + m - 1) (by omega) (by omega) S
  have ln : (letS (x1 / 16 % 18)).length + (Txt.mul "z" (1 + m - 1)).length ≤ sizeLine := sz_le (by
    rw [← str_len_append]
    have := hn.2.1
    omega)
  have ad := fun S => add_ss (letS (x1 / 16 % 18)) (Txt.mul "z" (1 + m - 1)) S ln
  generalize letS (x1 / 16 % 18) ++ Txt.mul "z" (1 + m - 1) = nm at hn ad
  generalize Txt.mul "z" (1 + m - 1) = zz at z1 ad
  generalize letS (x1 / 16 % 18) = lt at l1 ad
  obtain ⟨p, p1, p2, ep⟩ := pane_ok nm hn m0 hm0 hs hh row hr
  obtain ⟨n, w, h, l, ss⟩ := p
  simp only at p1
  subst p1
  obtain ⟨_, hg, hso⟩ := id p2
  simp only at hg hso
  have sl : ss.length ≤ 8 := hg.2.2.2.1
  have l9 : n.length ≤ 9 := by have := hn.2.1; omega
  by_cases q1 : x2 % 18 = 1
  · obtain ⟨u, hu, bu, eu⟩ : ∃ u : Str, u.length ≤ 9 ∧ BadN u ∧ atI [W.da (.str ""), W.da (.str "zzzzzzzzz"), W.da (.str "aB"), W.da (.str "B")] (x2 / 18 % 4) = some (.da (.str u)) := by
      have : x2 / 18 % 4 = 0 ∨ x2 / 18 % 4 = 1 ∨ x2 / 18 % 4 = 2 ∨ x2 / 18 % 4 = 3 := by omega
      rcases this with h | h | h | h <;> rw [h]
      · exact ⟨"", by decide +kernel, .inl (by decide +kernel), at_0 ..⟩
      · exact ⟨"zzzzzzzzz", by decide +kernel, .inr (.inl (by decide +kernel)), at_1 ..⟩
      · exact ⟨"aB", by decide +kernel, .inr (.inr (by decide +kernel)), at_2 ..⟩
      · exact ⟨"B", by decide +kernel, .inr (.inr (by decide +kernel)), at_3 ..⟩
    refine ⟨⟨u, w, h, l, ss⟩, ⟨hu, sl, .inr (.inl bu)⟩, ?_⟩
    have q2 : ¬ x2 % 18 = 2 := by omega
    have q3 : ¬ x2 % 18 = 3 := by omega
    unfold p_l_made m_l_made mSetIx mFz
    simp_arith [e1, e2, m1, l1, z1, ad, eh, ep, dec_pos q1, dec_neg q2, dec_neg q3, eu, fzW, ixn5, List.set_cons_zero, List.set_cons_succ]
  · by_cases q2 : x2 % 18 = 2
    · refine ⟨⟨n, 9, h, l, ss⟩, ⟨l9, sl, .inr (.inr ⟨hn, fun z => ?_, .inl (by show (8 : Int) < 9; decide)⟩)⟩, ?_⟩
      · have : (9 : Int) ≤ 8 := z.1.2
        omega
      · unfold p_l_made m_l_made mSetIx mFz
        simp_arith [e1, e2, m1, l1, z1, ad, eh, ep, dec_neg q1, dec_pos q2, q2, fzW, ixn5, List.set_cons_zero, List.set_cons_succ]
    · by_cases q3 : x2 % 18 = 3
      · refine ⟨⟨n, w, h, 0, ss⟩, ⟨l9, sl, .inr (.inr ⟨hn, fun z => ?_, .inr (by show (0 : Int) < 1; decide)⟩)⟩, ?_⟩
        · have : (1 : Int) ≤ 0 := z.2.2.1.1
          omega
        · unfold p_l_made m_l_made mSetIx mFz
          simp_arith [e1, e2, m1, l1, z1, ad, eh, ep, dec_neg q1, dec_neg q2, dec_pos q3, q3, fzW, ixn5, List.set_cons_zero, List.set_cons_succ]
      · refine ⟨⟨n, w, h, l, ss⟩, ⟨l9, sl, .inl p2⟩, ?_⟩
        unfold p_l_made m_l_made mSetIx mFz
        simp_arith [e1, e2, m1, l1, z1, ad, eh, ep, dec_neg q1, dec_neg q2, dec_neg q3, fzW, ixn5, List.set_cons_zero, List.set_cons_succ]
theorem alike_strs {α : Type} (f : α → Str) (l : List α) : PySem.W.AllAlike (l.map fun a => PyData.str (f a)) ∧ PySem.W.Sortable (l.map fun a => PyData.str (f a)) := by
  refine ⟨fun d hd d' hd' => ?_, .inr fun d hd => ?_⟩
  · obtain ⟨a, _, rfl⟩ := List.mem_map.mp hd
    obtain ⟨b, _, rfl⟩ := List.mem_map.mp hd'
    rfl
  · obtain ⟨a, _, rfl⟩ := List.mem_map.mp hd
    exact ⟨by simp, by simp⟩
/-! ### dicts by names -/
def findP : List Pane → Str → Option Pane
  | [], _ => none
  | p :: ps, n => if p.n = n then some p else findP ps n
theorem find_look (f : Pane → D) (n : Str) : ∀ ps : List Pane, lookD (ps.map fun p => ((Sum.inr p.n : Key), f p)) (.inr n) = (findP ps n).map f
  | [] => rfl
  | p :: ps => by
    simp only [List.map_cons, lookD, findP]
    by_cases h : p.n = n
    · rw [if_pos (by rw [h]), if_pos h]; rfl
    · rw [if_neg (by intro z; cases z; exact h rfl), if_neg h, find_look f n ps]
theorem find_some {n : Str} : ∀ {ps : List Pane} {p : Pane}, findP ps n = some p → p ∈ ps ∧ p.n = n
  | [], _, h => by cases h
  | q :: ps, p, h => by
    simp only [findP] at h
    split at h
    · cases h; exact ⟨List.mem_cons_self, by assumption⟩
    · have := find_some h
      exact ⟨List.mem_cons_of_mem _ this.1, this.2⟩
theorem find_none {n : Str} : ∀ {ps : List Pane}, findP ps n = none → n ∉ ps.map (·.n)
  | [], _ => by simp
  | q :: ps, h => by
    simp only [findP] at h
    split at h
    · cases h
    · rename_i hq
      simp only [List.map_cons, List.mem_cons, not_or]
      exact ⟨fun z => hq z.symm, find_none h⟩
theorem find_mem : ∀ {ps : List Pane} {p : Pane}, (ps.map (·.n)).Nodup → p ∈ ps → findP ps p.n = some p
  | [], _, _, h => by cases h
  | q :: ps, p, nd, h => by
    simp only [List.map_cons, List.nodup_cons] at nd
    simp only [findP]
    rcases List.mem_cons.mp h with rfl | h
    · rw [if_pos rfl]
    · rw [if_neg (fun z => nd.1 (by rw [z]; exact List.mem_map_of_mem h)), find_mem nd.2 h]
noncomputable def sortN (ps : List Pane) : List Pane := sortE (fun p : Pane => D.str p.n) ps
theorem sort_names {S : Sto} {i : Nat} (f : Pane → D) (ps : List Pane) (h : S[i]? = some (.dk ((ps.map fun p => ((Sum.inr p.n : Key), f p)).map kwD))) : sortDC [.lo i] S = some (.lst ((sortN ps).map fun p => .da (.str p.n))) := by
  have h2 := alike_strs (fun p : Pane => p.n) ps
  have ek : (((ps.map fun p => ((Sum.inr p.n : Key), f p)).map kwD).map (·.1)) = ps.map fun p => (Sum.inr p.n : Key) := by rw [List.map_map, List.map_map]; rfl
  have em : (ps.map fun p => (Sum.inr p.n : Key)).mergeSort (PySem.W.dataLe false kPy) = (sortN ps).map fun p => (Sum.inr p.n : Key) := by
    unfold sortN sortE
    rw [← List.map_mergeSort (r := leE fun p : Pane => D.str p.n) (f := fun p : Pane => (Sum.inr p.n : Key)) (fun a _ b _ => rfl)]
  unfold sortDC
  simp only [dkW, h, ek]
  rw [ifc_pos (by rw [List.map_map]; exact h2), em, List.map_map]
  rfl
abbrev panK (p : Pane) : Key × D := (.inr p.n, paneL p)
abbrev plaK (p : Pane) : Key × D := (.inr p.n, plateD p.n p.w p.h p.l p.ss)
/-- what a put must tell -/
noncomputable def dueS (ps : List Pane) (p : Pane) : Str :=
  ifc (BadN p.n) "name" (ifc (8 < p.w ∨ p.l < 1) "plate" (ifc ((findP ps p.n).isSome = true) "taken" (ifc (11 < (ps.length : Int)) "full" "let")))
theorem in_B (n : Str) (S : Sto) : vl2 inW (.da (.str "B")) (.da (.str n)) S = .ok (.da (.bl (dec (66 ∈ n.cps.toList)))) S := by
  rw [show ("B" : Str) = ⟨#[66]⟩ by decide +kernel]
  rfl
theorem due_eq {S : Sto} {i : Nat} (ps : List Pane) (p : Pane) (hn : p.n.length ≤ 9) (h : S[i]? = some (.dk ((ps.map panK).map kwD))) : q_l_due [.lo i, .da (paneL p)] S = .ok (.da (.str (dueS ps p))) S := by
  refine (runS_rt (w := .da (.str (dueS ps p))) (S' := S) rfl ?_).trans trim_self
  show m_l_due [some (.lo i), some (.da (paneL p))] S = _
  have ln := fun S => len_str p.n (by omega) S
  have iB := fun S => in_B p.n S
  have ic := in_cell (w := .da (.str p.n)) h rfl
  rw [find_look paneL p.n ps] at ic
  have lk := len_dk h
  rw [List.length_map] at lk
  unfold dueS BadN
  generalize (ps.length : Int) = L at lk
  generalize (p.n.length : Int) = N at ln
  have im : ∀ o : Option Pane, (o.map paneL).isSome = o.isSome := fun o => by cases o <;> rfl
  rw [im] at ic
  generalize (findP ps p.n).isSome = fo at ic
  unfold m_l_due
  by_cases a1 : N < 1
  · rw [ifc_pos (.inl a1)]
    simp_arith [ln, dec_pos a1]
  · by_cases a2 : 8 < N
    · rw [ifc_pos (.inr (.inl a2))]
      simp_arith [ln, dec_neg a1, dec_pos a2]
    · by_cases a3 : 66 ∈ p.n.cps.toList
      · rw [ifc_pos (.inr (.inr a3))]
        simp_arith [ln, dec_neg a1, dec_neg a2, iB, dec_pos a3]
      · rw [ifc_neg (by rintro (z | z | z) <;> contradiction)]
        by_cases a4 : 8 < p.w
        · rw [ifc_pos (.inl a4)]
          simp_arith [ln, dec_neg a1, dec_neg a2, iB, dec_neg a3, dec_pos a4]
        · by_cases a5 : p.l < 1
          · rw [ifc_pos (.inr a5)]
            simp_arith [ln, dec_neg a1, dec_neg a2, iB, dec_neg a3, dec_neg a4, dec_pos a5]
          · rw [ifc_neg (by rintro (z | z) <;> contradiction)]
            cases fo with
            | true =>
              rw [ifc_pos rfl]
              simp_arith [ln, dec_neg a1, dec_neg a2, iB, dec_neg a3, dec_neg a4, dec_neg a5, ic]
            | false =>
              rw [ifc_neg (by decide)]
              by_cases a6 : 11 < L
              · rw [ifc_pos a6]
                simp_arith [ln, dec_neg a1, dec_neg a2, iB, dec_neg a3, dec_neg a4, dec_neg a5, ic, lk, dec_pos a6]
              · rw [ifc_neg a6]
                simp_arith [ln, dec_neg a1, dec_neg a2, iB, dec_neg a3, dec_neg a4, dec_neg a5, ic, lk, dec_neg a6]
theorem glass_rev {w h l : Int} {ss : List Star} : GlassOk w h l ss.reverse ↔ GlassOk w h l ss := by
  unfold GlassOk
  simp only [List.length_reverse, List.mem_reverse, List.map_reverse]
  have : ((ss.map plc).reverse).Nodup ↔ (ss.map plc).Nodup := (List.reverse_perm _).nodup_iff
  rw [this]
theorem xne : ((("GlassError" : Str) = "BadName") = False) ∧ ((("GlassError" : Str) = "BadPlate") = False) ∧ ((("GlassError" : Str) = "NoPlate") = False) ∧ ((("GlassError" : Str) = "Taken") = False) ∧ ((("GlassError" : Str) = "Full") = False) ∧ ((("BadName" : Str) = "GlassError") = False) ∧ ((("BadName" : Str) = "BadPlate") = False) ∧ ((("BadName" : Str) = "NoPlate") = False) ∧ ((("BadName" : Str) = "Taken") = False) ∧ ((("BadName" : Str) = "Full") = False) ∧ ((("BadPlate" : Str) = "GlassError") = False) ∧ ((("BadPlate" : Str) = "BadName") = False) ∧ ((("BadPlate" : Str) = "NoPlate") = False) ∧ ((("BadPlate" : Str) = "Taken") = False) ∧ ((("BadPlate" : Str) = "Full") = False) ∧ ((("NoPlate" : Str) = "GlassError") = False) ∧ ((("NoPlate" : Str) = "BadName") = False) ∧ ((("NoPlate" : Str) = "BadPlate") = False) ∧ ((("NoPlate" : Str) = "Taken") = False) ∧ ((("NoPlate" : Str) = "Full") = False) ∧ ((("Taken" : Str) = "GlassError") = False) ∧ ((("Taken" : Str) = "BadName") = False) ∧ ((("Taken" : Str) = "BadPlate") = False) ∧ ((("Taken" : Str) = "NoPlate") = False) ∧ ((("Taken" : Str) = "Full") = False) ∧ ((("Full" : Str) = "GlassError") = False) ∧ ((("Full" : Str) = "BadName") = False) ∧ ((("Full" : Str) = "BadPlate") = False) ∧ ((("Full" : Str) = "NoPlate") = False) ∧ ((("Full" : Str) = "Taken") = False) := by
  refine ⟨?_, ?_, ?_, ?_, ?_, ?_, ?_, ?_, ?_, ?_, ?_, ?_, ?_, ?_, ?_, ?_, ?_, ?_, ?_, ?_, ?_, ?_, ?_, ?_, ?_, ?_, ?_, ?_, ?_, ?_⟩ <;> exact eq_false (by decide +kernel)
/-- the class of a refusal, by its word -/
theorem put_word {S : Sto} {b j : Nat} {p : Pane} {hh ht hp hf : Nat} {B : BkV} (k : Bk S b hh ht hp hf B) (c u : Str) (e : q_Book_put [.lo b, .da (.str p.n), iW p.w, iW p.h, iW p.l, .lo j] S = .ex ⟨c, [], []⟩ S)
    (hc : (c = "BadName" ∧ u = "name") ∨ (c = "BadPlate" ∧ u = "plate") ∨ (c = "Taken" ∧ u = "taken") ∨ (c = "Full" ∧ u = "full")) : q_l_put [.lo b, .da (paneL p), .lo j] S = .ok (.da (.str u)) S := by
  refine (runS_rt (w := .da (.str u)) (S' := S) rfl ?_).trans trim_self
  show m_l_put [some (.lo b), some (.da (paneL p)), some (.lo j), none, none] S = _
  have kib := k.ib
  have nf : NoBk "put" := ⟨by decide +kernel, by decide +kernel, by decide +kernel, by decide +kernel, by decide +kernel⟩
  have ad : ∀ (u : Str) S, u.length ≤ 100 → ("" : Str) ++ u = u → addD (.da (.str "")) (.da (.str u)) S = .ok (.da (.str u)) S := fun u S hu he => by
    rw [add_ss _ _ S (sz_le (by rw [show ("" : Str).length = 0 from by decide +kernel]; omega)), he]
  unfold m_l_put y_l_put_0 x_l_put_1 mTryAs mIsE
  rcases hc with ⟨rfl, rfl⟩ | ⟨rfl, rfl⟩ | ⟨rfl, rfl⟩ | ⟨rfl, rfl⟩
  · have a1 := fun S => ad "name" S (by decide +kernel) (by decide +kernel)
    simp_arith [kib, noBk nf, e, xne, List.isEmpty_nil, a1]
  · have a1 := fun S => ad "plate" S (by decide +kernel) (by decide +kernel)
    simp_arith [kib, noBk nf, e, xne, List.isEmpty_nil, a1]
  · have a1 := fun S => ad "taken" S (by decide +kernel) (by decide +kernel)
    simp_arith [kib, noBk nf, e, xne, List.isEmpty_nil, a1]
  · have a1 := fun S => ad "full" S (by decide +kernel) (by decide +kernel)
    simp_arith [kib, noBk nf, e, xne, List.isEmpty_nil, a1]
theorem put_let {S S' : Sto} {b j : Nat} {p : Pane} {hh ht hp hf hf' : Nat} {B B' : BkV} (k : Bk S b hh ht hp hf B) (k' : Bk S' b hh ht hp hf' B') (hne : hf' ≠ hf) (e : q_Book_put [.lo b, .da (.str p.n), iW p.w, iW p.h, iW p.l, .lo j] S = .ok (.da .non) S') :
    q_l_put [.lo b, .da (paneL p), .lo j] S = .ok (.da (.str "let")) S' := by
  refine (runS_rt (w := .da (.str "let")) (S' := S') rfl ?_).trans (trim_ne (Bk.lt k.ib) (by
    rw [k'.ib, k.ib]
    intro z
    simp only [Option.some.injEq, Cell.ins.injEq, List.cons.injEq, Prod.mk.injEq, W.lo.injEq, true_and, and_true] at z
    exact hne z.2))
  show m_l_put [some (.lo b), some (.da (paneL p)), some (.lo j), none, none] S = _
  have kib := k.ib
  have nf : NoBk "put" := ⟨by decide +kernel, by decide +kernel, by decide +kernel, by decide +kernel, by decide +kernel⟩
  unfold m_l_put y_l_put_0 mTryAs
  simp_arith [kib, noBk nf, e]
noncomputable def dr25 : MS := (mSeq (mDrop (mPop1 (mVar 2) (mOp (vl2 ixW) (mVar 6) (mC (.int 0))))) (mIf (mTst (mOp (vl2 notNW) (mMeth "Book" "drop" q_Book_drop (mVar 1) (mCons (mOp (vl2 ixW) (mVar 6) (mC (.int 0))) mNil)) (mC .non))) (mRet (mC (.bl false))) mSkip))
noncomputable def pt25 : MS := (mSeq (mSet 9 (mCall q_l_due (mCons (mVar 2) (mCons (mVar 6) mNil)))) (mSeq (mSet 10 (mRev mkC (mCall (ndN listC) (mCons (mOp (vl2 ixW) (mVar 6) (mC (.int 4))) mNil)))) (mSeq (mIf (mOr (mTst (mOp (vl2 neW) (mCall q_l_put (mCons (mVar 1) (mCons (mVar 6) (mCons (mVar 10) mNil)))) (mVar 9))) (mTst (mOp (vl2 neW) (mVar 10) (mRev mkD (mCall (ndN listC) (mCons (mOp (vl2 ixW) (mVar 6) (mC (.int 4))) mNil)))))) (mRet (mC (.bl false))) mSkip) (mSeq (mDrop (mMt "list" (chL appL) (mVar 10) (mCons (mCall (ndN tupC) (mCons (mC (.int 0)) (mCons (mC (.int 0)) (mCons (mC (.int 9)) mNil)))) mNil))) (mIf (mTst (mOp (vl2 eqW) (mVar 9) (mC (.str "let")))) (mSetIx (mVar 2) (mOp (vl2 ixW) (mVar 6) (mC (.int 0))) (mVar 6)) mSkip)))))
noncomputable def tl25 : MS := (mSeq (mSet 7 (mMeth "Book" "names" q_Book_names (mVar 1) mNil)) (mSeq (mIf (mNot (mTru (mCallN (p_l_same 6) (mCons (mVar 7) (mCons (mCall (ndN sortDC) (mCons (mVar 2) mNil)) mNil))))) (mRet (mC (.bl false))) mSkip) (mDrop (mMt "list" (chL appL) (mVar 7) (mCons (mC (.str "zz")) mNil)))))
theorem b25 : b_law_0 = mSeq (mSet 5 (mCallN p_l_draws (mCons (mVar 0) (mCons (mVar 4) (mCons (mC (.int 12)) mNil))))) (mSeq (mSet 6 (mCallN p_l_made (mCons (mVar 5) (mCons (mVar 3) mNil)))) (mSeq (mIf (mAnd (mTst (mOp (vl2 eqW) (mOp (vl2 modW) (mOp (vl2 ixW) (mVar 5) (mC (.int 0))) (mC (.int 9))) (mC (.int 1)))) (mTst (mOp (vl2 inW) (mOp (vl2 ixW) (mVar 6) (mC (.int 0))) (mVar 2)))) dr25 pt25) tl25)) := rfl
structure In25 (S : Sto) (hf : Nat) (B : BkV) (ps : List Pane) (c : Nat) : Prop where
  k : Bk S 0 1 2 3 hf B
  pn : S[5]? = some (.dk ((ps.map panK).map kwD))
  he : B.held = ps.map plaK
  ti : B.tied = []
  ok : ∀ p ∈ ps, p.ok
  nd : (ps.map (·.n)).Nodup
  le : ps.length ≤ 12
  pa : B.past.length ≤ c
abbrev lwR (ns : List Int) (hs : List Star) (k d p told due handed : Option W) : Rho := [some (.da (.scr (ns.map .int))), some (.lo 0), some (.lo 5), some (.da (starsD hs)), k, d, p, told, none, due, handed]
theorem In25.grow {S : Sto} {hf : Nat} {B : BkV} {ps : List Pane} {c : Nat} (h : In25 S hf B ps c) {S' : Sto} (g : ∀ (n : Nat) (d : Cell), S[n]? = some d → S'[n]? = some d) : In25 S' hf B ps c :=
  ⟨⟨g _ _ h.k.ib, g _ _ h.k.ih, g _ _ h.k.it, g _ _ h.k.ip, g _ _ h.k.iu, h.k.ht', h.k.hf'⟩, g _ _ h.pn, h.he, h.ti, h.ok, h.nd, h.le, h.pa⟩
theorem grow_new {S : Sto} {c d : Cell} : ∀ (n : Nat) (x : Cell), S[n]? = some x → ((S ++ [c]).set S.length d)[n]? = some x := fun n x h => set_get (app_get h) (by have := Bk.lt h; omega)
theorem dats_names (ps : List Pane) : dats (ps.map fun p => W.da (.str p.n)) = some (ps.map fun p => D.str p.n) := by
  rw [show (ps.map fun p => W.da (.str p.n)) = (ps.map fun p => D.str p.n).map .da by simp [Function.comp_def], dats_da]
theorem tail_ok {S : Sto} {hf : Nat} {B : BkV} {ps : List Pane} {c : Nat} (h : In25 S hf B ps c) (ns : List Int) (hs : List Star) (o4 o5 o6 o7 o9 o10 : Option W) :
    ∃ a S', tl25 (lwR ns hs o4 o5 o6 o7 o9 o10) S = .nx (lwR ns hs o4 o5 o6 a o9 o10) S' ∧ In25 S' hf B ps c := by
  have nm := names_ok h.k (sort_names (S := S) (i := 1) (fun p => plateD p.n p.w p.h p.l p.ss) ps (by rw [← h.he]; exact h.k.ih))
  have kib := h.k.ib
  have nf : NoBk "names" := ⟨by decide +kernel, by decide +kernel, by decide +kernel, by decide +kernel, by decide +kernel⟩
  have sp := sort_names (S := S ++ [Cell.lst ((sortN ps).map fun p => .da (.str p.n))]) (i := 5) paneL ps (app_get h.pn)
  have sm : p_l_same 6 [.lst ((sortN ps).map fun p => D.str p.n), .lst ((sortN ps).map fun p => D.str p.n)] = .ok (.bl true) := same_refl 6 (gd_lst (by
    rw [List.length_map]
    unfold sortN
    rw [sortE_len]
    have := h.le
    omega) fun x hx => by
    obtain ⟨r, _, rfl⟩ := List.mem_map.mp hx
    exact gd_flat rfl)
  have dn := dats_names (sortN ps)
  have lw : List.length ((sortN ps).map fun p => W.da (.str p.n)) < sizeLine := sz_lt (by
    rw [List.length_map]
    unfold sortN
    rw [sortE_len]
    have := h.le
    omega)
  generalize ((sortN ps).map fun p => W.da (.str p.n)) = ws at *
  generalize ((sortN ps).map fun p => D.str p.n) = ds at *
  have at1 : (S ++ [Cell.lst ws])[S.length]? = some (.lst ws) := app_at
  refine ⟨some (.lo S.length), (S ++ [Cell.lst ws]).set S.length (.lst (ws ++ [.da (.str "zz")])), ?_, h.grow grow_new⟩
  unfold tl25 mMt
  simp_arith [kib, noBk nf, nm, sp, dn, at1, sm, tyM, ifc_pos lw, noL]
theorem lst_5 {S : Sto} {hf : Nat} {B : BkV} {ps : List Pane} {c : Nat} (h : In25 S hf B ps c) : 5 ≠ hf := fun z => by
  have := h.pn
  rw [z, h.k.iu] at this
  cases this
theorem filt_pan (f : Pane → D) (n : Str) (ps : List Pane) : ((ps.map fun p => ((Sum.inr p.n : Key), f p)).filter fun q => decide (q.1 ≠ .inr n)) = (ps.filter fun p => decide (p.n ≠ n)).map fun p => ((Sum.inr p.n : Key), f p) := by
  rw [List.filter_map]
  congr 1
  apply List.filter_congr
  intro p _
  simp
theorem drop_part {S : Sto} {hf : Nat} {B : BkV} {ps : List Pane} {c : Nat} (h : In25 S hf B ps c) (hc : c < 1000) (ns : List Int) (hs : List Star) (o4 o5 o7 o9 o10 : Option W) (p : Pane) {q : Pane} (hq : findP ps p.n = some q) :
    ∃ S' hf' B' ps', dr25 (lwR ns hs o4 o5 (some (.da (paneL p))) o7 o9 o10) S = .nx (lwR ns hs o4 o5 (some (.da (paneL p))) o7 o9 o10) S' ∧ In25 S' hf' B' ps' (c + 1) := by
  have lk : lookD (ps.map panK) (.inr p.n) = some (paneL q) := by rw [find_look paneL, hq]; rfl
  have lk2 : lookD B.held (.inr p.n) = some (plateD q.n q.w q.h q.l q.ss) := by rw [h.he, find_look (fun p => plateD p.n p.w p.h p.l p.ss), hq]; rfl
  obtain ⟨S1, hS1⟩ : ∃ S1, S1 = S.set 5 (.dk (((ps.filter fun r => decide (r.n ≠ p.n)).map panK).map kwD)) := ⟨_, rfl⟩
  have po : popF (.lo 5) (.da (.str p.n)) S = .ok (.da (paneL q)) S1 := by
    unfold popF
    simp only [h.pn, keyW, keyD, look_cell, lk, Option.map, dropW_kwD, filt_pan paneL p.n ps, hS1]
  have dc : dctW S (.lo 5) = true := by
    unfold dctW dkW
    simp only [h.pn, Option.isSome, Bool.true_or]
  have k1 : Bk S1 0 1 2 3 hf B := by
    rw [hS1]
    exact ⟨set_get h.k.ib (by decide), set_get h.k.ih (by decide), set_get h.k.it (by decide), set_get h.k.ip (by decide), set_get h.k.iu (Ne.symm (lst_5 h)), h.k.ht', h.k.hf'⟩
  have p1 : S1[5]? = some (.dk (((ps.filter fun r => decide (r.n ≠ p.n)).map panK).map kwD)) := by rw [hS1]; exact set_at h.pn
  have dk := drop_ok0 k1 lk2 (by have := h.pa; omega) h.ti
  have k2 := drp_bk k1 p.n
  have p2 : (drpS S1 0 1 2 3 B p.n)[5]? = some (.dk (((ps.filter fun r => decide (r.n ≠ p.n)).map panK).map kwD)) := by
    unfold drpS remS
    exact set_get (set_get (app_get (set_get p1 (by decide))) (by decide)) (by decide)
  refine ⟨drpS S1 0 1 2 3 B p.n, S1.length, drpB B p.n, ps.filter fun r => decide (r.n ≠ p.n), ?_, k2, p2, ?_, h.ti, ?_, ?_, ?_, ?_⟩
  · have kib := k1.ib
    have nf : NoBk "drop" := ⟨by decide +kernel, by decide +kernel, by decide +kernel, by decide +kernel, by decide +kernel⟩
    generalize drpS S1 0 1 2 3 B p.n = S2 at *
    unfold dr25 mPop1
    simp_arith [dc, po, kib, noBk nf, dk]
  · show B.held.filter _ = _
    rw [h.he]
    exact filt_pan (fun p => plateD p.n p.w p.h p.l p.ss) p.n ps
  · intro r hr
    exact h.ok r (List.mem_filter.mp hr).1
  · exact List.Nodup.sublist (List.filter_sublist.map _) h.nd
  · exact Nat.le_trans (List.length_filter_le _ _) h.le
  · show (B.past ++ [_]).length ≤ c + 1
    have := h.pa
    simp
    omega
theorem enc_stars : Enc starsD 2 := EncL.lst (EncL.many enc_star)
theorem lay_stars (l : List Star) : (toPy (starsD l)).canLay0 = true := by
  simp only [toPy, PyData.canLay0]
  exact layAll_of (lay_star l)
theorem ne_cell {S : Sto} {j : Nat} (l : List Star) (hj : S[j]? = some (.lst (l.map stW))) : vl2 neW (.lo j) (.da (starsD l)) S = .ok (.da (.bl false)) S := by
  have e := ne_e (a := l) (b := l) enc_stars (by omega) (lay_stars l) (lay_stars l) S
  rw [dec_pos rfl] at e
  have : vl2 neW (.lo j) (.da (starsD l)) S = vl2 neW (.da (starsD l)) (.da (starsD l)) S := by
    unfold vl2 neW eqB valW
    simp only [hj, dats_stars, Option.map]
  rw [this, e]
  rfl
theorem rev_c (l : List Star) (S : Sto) : revF mkC (.da (starsD l)) S = .ok (.lo S.length) (S ++ [.lst (l.reverse.map stW)]) := by
  unfold revF
  simp only [lstW, mkC, List.map_map, ← List.map_reverse]
  rfl
theorem rev_dd (l : List Star) (S : Sto) : revF mkD (.da (starsD l)) S = .ok (.da (starsD l.reverse)) S := by
  unfold revF
  simp only [lstW]
  rw [← List.map_reverse, ← List.map_reverse]
  simp only [mkD, datC, dats_da, Option.map]
theorem put_part {S : Sto} {hf : Nat} {B : BkV} {ps : List Pane} {c : Nat} (h : In25 S hf B ps c) (hc : c < 1000) (ns : List Int) (hs : List Star) (o4 o5 o7 o9 o10 : Option W) (p : Pane) (hp : MadeOk p) :
    ∃ S' hf' B' ps' a b, pt25 (lwR ns hs o4 o5 (some (.da (paneL p))) o7 o9 o10) S = .nx (lwR ns hs o4 o5 (some (.da (paneL p))) o7 a b) S' ∧ In25 S' hf' B' ps' (c + 1) := by
  obtain ⟨hn, hl, hk⟩ := hp
  have du := due_eq ps p hn h.pn
  obtain ⟨S1, hS1⟩ : ∃ S1, S1 = S ++ [Cell.lst (p.ss.reverse.map stW)] := ⟨_, rfl⟩
  have rc := rev_c p.ss S
  have rd := fun S => rev_dd p.ss S
  rw [← hS1] at rc
  have h1 : In25 S1 hf B ps c := h.grow fun n d e => by rw [hS1]; exact app_get e
  have j1 : S1[S.length]? = some (.lst (p.ss.reverse.map stW)) := by rw [hS1]; exact app_at
  have nl : ∀ (u : Str) S, vl2 neW (.da (.str u)) (.da (.str u)) S = .ok (.da (.bl false)) S := fun u S => by rw [ne_ss, dec_pos rfl]; rfl
  have l8 : (p.ss.reverse).length < 100000 := by rw [List.length_reverse]; omega
  have lz : List.length (p.ss.reverse.map stW) < sizeLine := sz_lt (by rw [List.length_map]; exact l8)
  have lst1 : ∀ S, mkD (listC [.da (.tup (p.ss.map stD))] S) S = .ok (.da (starsD p.ss)) S := fun S => by
    unfold listC
    simp only [seqW, mkD, datC, dats_da, Option.map]
  -- what is refused changes nothing
  have ref : ∀ (cl u : Str), q_Book_put [.lo 0, .da (.str p.n), iW p.w, iW p.h, iW p.l, .lo S.length] S1 = .ex ⟨cl, [], []⟩ S1 → ((cl = "BadName" ∧ u = "name") ∨ (cl = "BadPlate" ∧ u = "plate") ∨ (cl = "Taken" ∧ u = "taken") ∨ (cl = "Full" ∧ u = "full")) → dueS ps p = u → (u = "let") = False →
      ∃ S' hf' B' ps' a b, pt25 (lwR ns hs o4 o5 (some (.da (paneL p))) o7 o9 o10) S = .nx (lwR ns hs o4 o5 (some (.da (paneL p))) o7 a b) S' ∧ In25 S' hf' B' ps' (c + 1) := fun cl u e hcu hd hu => by
    have pw := put_word h1.k cl u e hcu
    rw [hd] at du
    have nc := ne_cell p.ss.reverse j1
    refine ⟨S1.set S.length (.lst (p.ss.reverse.map stW ++ [.da (.tup [.int 0, .int 0, .int 9])])), hf, B, ps, some (.da (.str u)), some (.lo S.length), ?_, ?_⟩
    · generalize p.ss.reverse.map stW = ws at *
      generalize p.ss.reverse = rs at *
      unfold pt25 mMt mRev
      simp_arith [du, stars_map, dats_stars, rc, pw, nl, rd, nc, j1, tyM, ifc_pos lz, hu, dec_false]
    · have h2 := h.grow (S' := S1.set S.length (.lst (p.ss.reverse.map stW ++ [.da (.tup [.int 0, .int 0, .int 9])]))) fun n d e => by
        rw [hS1]; exact grow_new n d e
      exact ⟨h2.k, h2.pn, h2.he, h2.ti, h2.ok, h2.nd, h2.le, by have := h2.pa; omega⟩
  have im : (lookD B.held (.inr p.n)) = (findP ps p.n).map (fun p => plateD p.n p.w p.h p.l p.ss) := by rw [h.he, find_look (fun p => plateD p.n p.w p.h p.l p.ss)]
  rcases hk with ok | bad | ⟨okn, bg, hb⟩
  · obtain ⟨okn, okg, sr⟩ := id ok
    have g2 : GlassOk p.w p.h p.l p.ss.reverse := glass_rev.mpr okg
    have nb := good_n okn
    have ng : ¬ (8 < p.w ∨ p.l < 1) := by
      have a1 := okg.1.2
      have a2 := okg.2.2.1.1
      omega
    cases hfp : findP ps p.n with
    | some q =>
      refine ref "Taken" "taken" (put_taken h1.k j1 okn g2 (by rw [im, hfp]; rfl)) (.inr (.inr (.inl ⟨rfl, rfl⟩))) ?_ (eq_false (by decide +kernel))
      unfold dueS
      rw [ifc_neg nb, ifc_neg ng, ifc_pos (by rw [hfp]; rfl)]
    | none =>
      have lkn : lookD B.held (.inr p.n) = none := by rw [im, hfp]; rfl
      have hlen : (B.held.length : Int) = ps.length := by rw [h.he, List.length_map]
      by_cases full : 11 < (ps.length : Int)
      · refine ref "Full" "full" (put_full h1.k j1 okn g2 lkn (by omega)) (.inr (.inr (.inr ⟨rfl, rfl⟩))) ?_ (eq_false (by decide +kernel))
        unfold dueS
        rw [ifc_neg nb, ifc_neg ng, ifc_neg (by rw [hfp]; decide), ifc_pos full]
      · have dl : dueS ps p = "let" := by
          unfold dueS
          rw [ifc_neg nb, ifc_neg ng, ifc_neg (by rw [hfp]; decide), ifc_neg full]
        rw [dl] at du
        have pk := put_ok h1.k j1 okn g2 lkn (by omega) (by have := h.pa; omega)
        have so : sortE stD p.ss.reverse = p.ss := by rw [sortE_perm enc_star (List.reverse_perm p.ss), sr]
        rw [so] at pk
        have kp := put_bk h1.k p.n p.w p.h p.l p.ss
        have pl := put_let h1.k kp (by have := Bk.lt h1.k.iu; omega) pk
        have p2 : ∀ (n : Nat) (d : Cell), S1[n]? = some d → n ≠ 0 → n ≠ 1 → n ≠ 3 → (putS S1 0 1 2 3 B p.n p.w p.h p.l p.ss)[n]? = some d := fun n d e n0 n1 n3 => by
          unfold putS remS
          exact set_get (set_get (app_get (set_get e n3)) n0) n1
        have hl5 : 5 < S.length := Bk.lt h.pn
        have j2 := p2 _ _ j1 (by omega) (by omega) (by omega)
        have p5 := p2 _ _ h1.pn (by decide) (by decide) (by decide)
        have le : S1.length = S.length + 1 := by rw [hS1]; simp
        generalize putS S1 0 1 2 3 B p.n p.w p.h p.l p.ss = S2 at *
        have nc := ne_cell p.ss.reverse j2
        obtain ⟨S3, hS3⟩ : ∃ S3, S3 = S2.set S.length (.lst (p.ss.reverse.map stW ++ [.da (.tup [.int 0, .int 0, .int 9])])) := ⟨_, rfl⟩
        have p53 : S3[5]? = some (.dk ((ps.map panK).map kwD)) := by rw [hS3]; exact set_get p5 (by omega)
        have pw : putW ((ps.map panK).map kwD) (.inr p.n) (.da (paneL p)) = ((ps ++ [p]).map panK).map kwD := by
          rw [put_new]
          · simp
          · intro q hq
            rw [List.map_map] at hq
            obtain ⟨u, hu, rfl⟩ := List.mem_map.mp hq
            intro z
            exact find_none hfp (List.mem_map.mpr ⟨u, hu, by simpa using z⟩)
        have hz2 : List.length ((ps.map panK).map kwD) < sizeLine := sz_lt (by rw [List.length_map, List.length_map]; have := h.le; omega)
        refine ⟨S3.set 5 (.dk (((ps ++ [p]).map panK).map kwD)), S1.length, putB B p.n p.w p.h p.l p.ss, ps ++ [p], some (.da (.str "let")), some (.lo S.length), ?_, ?_, ?_, ?_, ?_, ?_, ?_, ?_, ?_⟩
        · generalize ((ps.map panK).map kwD) = kws at *
          generalize p.ss.reverse.map stW = ws at *
          generalize p.ss.reverse = rs at *
          have tt : dec (("let" : Str) = "let") = true := dec_pos rfl
          unfold pt25 mMt mRev mSetIx
          simp_arith [du, stars_map, dats_stars, rc, pl, nl, rd, nc, j2, tyM, ifc_pos lz, tt, ← hS3, p53, keyW, keyD, ifc_pos hz2, pw]
        · have b5 : ∀ {n : Nat} {d : Cell}, S2[n]? = some d → n ≠ 5 → n ≠ S.length → (S3.set 5 (.dk (((ps ++ [p]).map panK).map kwD)))[n]? = some d := fun e n5 nl => by
            rw [hS3]; exact set_get (set_get e nl) n5
          exact ⟨b5 kp.ib (by decide) (by omega), b5 kp.ih (by decide) (by omega), b5 kp.it (by decide) (by omega), b5 kp.ip (by decide) (by omega), b5 kp.iu (by omega) (by omega), kp.ht', kp.hf'⟩
        · exact set_at p53
        · show B.held ++ [_] = _
          rw [h.he, List.map_append]; rfl
        · exact h.ti
        · intro r hr
          rcases List.mem_append.mp hr with hr | hr
          · exact h.ok r hr
          · simp at hr; subst hr; exact ok
        · rw [List.map_append, List.nodup_append]
          refine ⟨h.nd, by simp, fun a ha b hb => ?_⟩
          simp only [List.map_cons, List.map_nil, List.mem_singleton] at hb
          subst hb
          intro z
          exact find_none hfp (by rw [z] at ha; exact ha)
        · simp; omega
        · show (B.past ++ [_]).length ≤ c + 1
          have := h.pa
          simp
          omega
  · refine ref "BadName" "name" (put_noname h1.k j1 (by omega) (bad_n bad)) (.inl ⟨rfl, rfl⟩) ?_ (eq_false (by decide +kernel))
    unfold dueS
    rw [ifc_pos bad]
  · refine ref "BadPlate" "plate" (put_noglass h1.k j1 (by rw [List.length_reverse]; omega) okn (fun z => bg (glass_rev.mp z))) (.inr (.inl ⟨rfl, rfl⟩)) ?_ (eq_false (by decide +kernel))
    unfold dueS
    rw [ifc_neg (good_n okn), ifc_pos hb]
theorem body25 (ns : List Int) (hn : ns.length ≤ 63) (hs : List Star) (hh : HeavOk hs) (k : Int) (k0 : 0 ≤ k) (k1 : k < 32) {S : Sto} {hf : Nat} {B : BkV} {ps : List Pane} {c : Nat} (h : In25 S hf B ps c) (hc : c < 1000) (o5 o6 o7 o9 o10 : Option W) :
    ∃ S' hf' B' ps' a5 a6 a7 a9 a10, b_law_0 (lwR ns hs (some (iW k)) o5 o6 o7 o9 o10) S = .nx (lwR ns hs (some (iW k)) a5 a6 a7 a9 a10) S' ∧ In25 S' hf' B' ps' (c + 1) := by
  obtain ⟨row, hr, ed⟩ := draws_ok ns k 12 (by omega) (by omega) (by decide) (by decide) (by omega)
  obtain ⟨p, hp, em⟩ := made_ok hs hh row hr
  obtain ⟨x0, b0, e0⟩ := at_row hr 0 (by decide) (by decide)
  have ic := in_cell (w := .da (.str p.n)) h.pn rfl
  rw [find_look paneL p.n ps] at ic
  have go : ∀ {S2 hf2 B2 ps2 o9' o10'}, In25 S2 hf2 B2 ps2 (c + 1) → (mIf (mAnd (mTst (mOp (vl2 eqW) (mOp (vl2 modW) (mOp (vl2 ixW) (mVar 5) (mC (.int 0))) (mC (.int 9))) (mC (.int 1)))) (mTst (mOp (vl2 inW) (mOp (vl2 ixW) (mVar 6) (mC (.int 0))) (mVar 2)))) dr25 pt25) (lwR ns hs (some (iW k)) (some (.da (.lst (row.map .int)))) (some (.da (paneL p))) o7 o9 o10) S = .nx (lwR ns hs (some (iW k)) (some (.da (.lst (row.map .int)))) (some (.da (paneL p))) o7 o9' o10') S2 →
      ∃ S' hf' B' ps' a5 a6 a7 a9 a10, b_law_0 (lwR ns hs (some (iW k)) o5 o6 o7 o9 o10) S = .nx (lwR ns hs (some (iW k)) a5 a6 a7 a9 a10) S' ∧ In25 S' hf' B' ps' (c + 1) := fun {S2 hf2 B2 ps2 o9' o10'} h2 e2 => by
    obtain ⟨a7, S3, e3, h3⟩ := tail_ok h2 ns hs (some (iW k)) (some (.da (.lst (row.map .int)))) (some (.da (paneL p))) o7 o9' o10'
    refine ⟨S3, hf2, B2, ps2, some (.da (.lst (row.map .int))), some (.da (paneL p)), a7, o9', o10', ?_, h3⟩
    rw [b25]
    rw [mSeq_nx (r' := lwR ns hs (some (iW k)) (some (.da (.lst (row.map .int)))) o6 o7 o9 o10) (s' := S) (by simp_arith [ed])]
    rw [mSeq_nx (r' := lwR ns hs (some (iW k)) (some (.da (.lst (row.map .int)))) (some (.da (paneL p))) o7 o9 o10) (s' := S) (by simp_arith [em])]
    rw [mSeq_nx e2, e3]
  by_cases q : x0 % 9 = 1
  · cases hfp : findP ps p.n with
    | some r =>
      obtain ⟨S2, hf2, B2, ps2, e2, h2⟩ := drop_part h hc ns hs (some (iW k)) (some (.da (.lst (row.map .int)))) o7 o9 o10 p hfp
      refine go (o9' := o9) (o10' := o10) h2 ?_
      rw [hfp] at ic
      rw [mIf_t (s' := S), e2]
      simp_arith [e0, dec_pos q, q, ic, Option.isSome, Option.map]
    | none =>
      obtain ⟨S2, hf2, B2, ps2, a, b, e2, h2⟩ := put_part h hc ns hs (some (iW k)) (some (.da (.lst (row.map .int)))) o7 o9 o10 p hp
      refine go (o9' := a) (o10' := b) h2 ?_
      rw [hfp] at ic
      rw [mIf_f (s' := S), e2]
      simp_arith [e0, dec_pos q, q, ic, Option.isSome, Option.map]
  · obtain ⟨S2, hf2, B2, ps2, a, b, e2, h2⟩ := put_part h hc ns hs (some (iW k)) (some (.da (.lst (row.map .int)))) o7 o9 o10 p hp
    refine go (o9' := a) (o10' := b) h2 ?_
    rw [mIf_f (s' := S), e2]
    simp_arith [e0, dec_neg q]
theorem loop25 (ns : List Int) (hn : ns.length ≤ 63) (hs : List Star) (hh : HeavOk hs) : ∀ (ks : List Int) (S : Sto) (hf : Nat) (B : BkV) (ps : List Pane) (c : Nat) (o4 o5 o6 o7 o9 o10 : Option W), (∀ k ∈ ks, 0 ≤ k ∧ k < 32) → c + ks.length < 1000 → In25 S hf B ps c →
    ∃ S' hf' B' ps' c' a4 a5 a6 a7 a9 a10, loopM (gtName 4) b_law_0 (ks.map iW) (lwR ns hs o4 o5 o6 o7 o9 o10) S = .nx (lwR ns hs a4 a5 a6 a7 a9 a10) S' ∧ In25 S' hf' B' ps' c'
  | [], S, hf, B, ps, c, o4, o5, o6, o7, o9, o10, _, _, h => ⟨S, hf, B, ps, c, o4, o5, o6, o7, o9, o10, rfl, h⟩
  | k :: ks, S, hf, B, ps, c, o4, o5, o6, o7, o9, o10, hk, hl, h => by
    simp only [List.length_cons] at hl
    obtain ⟨S1, hf1, B1, ps1, a5, a6, a7, a9, a10, e1, h1⟩ := body25 ns hn hs hh k (hk k (by simp)).1 (hk k (by simp)).2 h (by omega) o5 o6 o7 o9 o10
    obtain ⟨S2, hf2, B2, ps2, c2, d4, d5, d6, d7, d9, d10, e2, h2⟩ := loop25 ns hn hs hh ks S1 hf1 B1 ps1 (c + 1) (some (iW k)) a5 a6 a7 a9 a10 (fun x hx => hk x (by simp [hx])) (by omega) h1
    refine ⟨S2, hf2, B2, ps2, c2, d4, d5, d6, d7, d9, d10, ?_, h2⟩
    have g : gtName 4 (iW k) (lwR ns hs o4 o5 o6 o7 o9 o10) S = some (lwR ns hs (some (iW k)) o5 o6 o7 o9 o10) := rfl
    simp only [List.map_cons, loopM, g, e1, e2]
/-! the end: each plate's window and stars -/
structure En25 (S : Sto) (hf : Nat) (B : BkV) (ps : List Pane) : Prop where
  k : Bk S 0 1 2 3 hf B
  he : B.held = ps.map plaK
  ok : ∀ p ∈ ps, p.ok
  nd : (ps.map (·.n)).Nodup
abbrev enR (ns : List Int) (hs : List Star) (pd : D) (o4 o5 o6 o7 o8 o9 o10 : Option W) : Rho := [some (.da (.scr (ns.map .int))), some (.lo 0), some (.da pd), some (.da (starsD hs)), o4, o5, o6, o7, o8, o9, o10]
theorem Bk.grow {S S' : Sto} {b hh ht hp hf : Nat} {B : BkV} (k : Bk S b hh ht hp hf B) (g : ∀ (n : Nat) (d : Cell), S[n]? = some d → S'[n]? = some d) : Bk S' b hh ht hp hf B := ⟨g _ _ k.ib, g _ _ k.ih, g _ _ k.it, g _ _ k.ip, g _ _ k.iu, k.ht', k.hf'⟩
theorem end_body (ns : List Int) (hs : List Star) (pd : D) (o4 o5 o7 o9 o10 : Option W) {S : Sto} {hf : Nat} {B : BkV} {ps : List Pane} (h : En25 S hf B ps) (p : Pane) (hp : p ∈ ps) :
    ∃ S' a, b_law_1 (enR ns hs pd o4 o5 (some (.da (paneL p))) o7 (some (.da (.str p.n))) o9 o10) S = .nx (enR ns hs pd o4 o5 (some (.da (paneL p))) a (some (.da (.str p.n))) o9 o10) S' ∧ En25 S' hf B ps := by
  have fd := find_mem h.nd hp
  obtain ⟨okn, okg, sr⟩ := h.ok p hp
  have lk : lookD B.held (.inr p.n) = some (plateD p.n p.w p.h p.l p.ss) := by rw [h.he, find_look (fun p => plateD p.n p.w p.h p.l p.ss), fd]; rfl
  have sl : p.ss.length ≤ 8 := okg.2.2.2.1
  have s1 := stars_of_ok h.k (by omega) lk
  obtain ⟨S1, hS1⟩ : ∃ S1, S1 = S ++ [Cell.lst (p.ss.map stW)] := ⟨_, rfl⟩
  rw [← hS1] at s1
  have k1 : Bk S1 0 1 2 3 hf B := h.k.grow fun n d e => by rw [hS1]; exact app_get e
  have j1 : S1[S.length]? = some (.lst (p.ss.map stW)) := by rw [hS1]; exact app_at
  have w1 := window_ok k1 lk
  obtain ⟨S2, hS2⟩ : ∃ S2, S2 = S1.set S.length (.lst (p.ss.map stW ++ [.da (.tup [.int 0, .int 0, .int 1])])) := ⟨_, rfl⟩
  have k2 : Bk S2 0 1 2 3 hf B := h.k.grow fun n d e => by rw [hS2, hS1]; exact grow_new n d e
  have s2 := stars_of_ok k2 (by omega) lk
  have j3 : (S2 ++ [Cell.lst (p.ss.map stW)])[S2.length]? = some (.lst (p.ss.map stW)) := app_at
  have gs : p_l_same 6 [starsD p.ss, starsD p.ss] = .ok (.bl true) := same_refl 6 (gd_lst (by simpa using (by omega : p.ss.length ≤ 100000)) fun x hx => by
    obtain ⟨r, _, rfl⟩ := List.mem_map.mp hx
    exact gd_tup (by simp) fun x hx => by
      simp only [List.mem_cons, List.not_mem_nil, or_false] at hx
      rcases hx with rfl | rfl | rfl <;> exact gd_flat rfl)
  have gw : p_l_same 6 [.tup [.int p.w, .int p.h, .int p.l], .tup [.int p.w, .int p.h, .int p.l]] = .ok (.bl true) := same_refl 6 (gd_tup (by simp) fun x hx => by
    simp only [List.mem_cons, List.not_mem_nil, or_false] at hx
    rcases hx with rfl | rfl | rfl <;> exact gd_flat rfl)
  have sl4 : ∀ S, slF mkD (.da (paneL p)) (some 1) (some 4) S = .ok (.da (.lst [.int p.w, .int p.h, .int p.l])) S := fun S => sl_mid [.str p.n, .int p.w, .int p.h, .int p.l, .tup (p.ss.map stD)] 1 4 (by decide) (by simp) S
  have lz : List.length (p.ss.map stW) < sizeLine := sz_lt (by rw [List.length_map]; omega)
  have tu : ∀ S, tupleF mkD [.da (.lst [.int p.w, .int p.h, .int p.l])] S = .ok (.da (.tup [.int p.w, .int p.h, .int p.l])) S := fun S => by
    unfold tupleF
    simp_arith []
  have dst := dats_stars p.ss
  refine ⟨S2 ++ [Cell.lst (p.ss.map stW)], some (.lo S.length), ?_, k2.grow fun n d e => app_get e, h.he, h.ok, h.nd⟩
  have kib := h.k.ib
  have kib1 := k1.ib
  have kib2 := k2.ib
  have nf : NoBk "stars_of" := ⟨by decide +kernel, by decide +kernel, by decide +kernel, by decide +kernel, by decide +kernel⟩
  have nf2 : NoBk "window" := ⟨by decide +kernel, by decide +kernel, by decide +kernel, by decide +kernel, by decide +kernel⟩
  unfold b_law_1 mMt mSl moS
  simp_arith [kib, kib1, kib2, noBk nf, noBk nf2, s1, j1, stars_map, dst, gs, w1, sl4, tu, gw, tyM, ifc_pos (sz_lt (show p.ss.length < 100000 by omega)), ← hS2, s2, j3, noL]
theorem end_loop (ns : List Int) (hs : List Star) (pd : D) (o4 o5 o9 o10 : Option W) {hf : Nat} {B : BkV} {ps : List Pane} : ∀ (rest : List Pane) (S : Sto) (o6 o7 o8 : Option W), (∀ p ∈ rest, p ∈ ps) → En25 S hf B ps →
    ∃ S' a b c, loopM (gtTup 2 (gtCons (gtName 8) (gtCons (gtName 6) gtNil))) b_law_1 (rest.map fun p => .da (.tup [.str p.n, paneL p])) (enR ns hs pd o4 o5 o6 o7 o8 o9 o10) S = .nx (enR ns hs pd o4 o5 a b c o9 o10) S'
  | [], S, o6, o7, o8, _, _ => ⟨S, o6, o7, o8, rfl⟩
  | p :: rest, S, o6, o7, o8, hr, h => by
    obtain ⟨S1, a, e1, h1⟩ := end_body ns hs pd o4 o5 o7 o9 o10 h p (hr p (by simp))
    obtain ⟨S2, b6, b7, b8, e2⟩ := end_loop ns hs pd o4 o5 o9 o10 rest S1 (some (.da (paneL p))) a (some (.da (.str p.n))) (fun x hx => hr x (by simp [hx])) h1
    refine ⟨S2, b6, b7, b8, ?_⟩
    have g : (gtTup 2 (gtCons (gtName 8) (gtCons (gtName 6) gtNil))) (.da (.tup [.str p.n, paneL p])) (enR ns hs pd o4 o5 o6 o7 o8 o9 o10) S = some (enR ns hs pd o4 o5 (some (.da (paneL p))) o7 (some (.da (.str p.n))) o9 o10) := by
      simp_arith []
    simp only [List.map_cons, loopM, g, e1, e2]
theorem law_true : ∀ ns : List Int, ns.length ≤ 63 → p_law [.scr (ns.map .int)] = .ok (.bl true) := by
  intro ns hn
  obtain ⟨hs, hh, eh⟩ := heaven_ok ns hn
  obtain ⟨S0, hS0⟩ : ∃ S0, S0 = [bkI 1 2 1 3 4, Cell.dk [], Cell.dk [], Cell.lst [], Cell.lst [], Cell.dk []] := ⟨_, rfl⟩
  have h0 : In25 S0 4 ⟨[], [], 1, [], []⟩ [] 0 := by
    subst hS0
    exact ⟨⟨rfl, rfl, rfl, rfl, rfl, by decide, by decide⟩, rfl, rfl, rfl, by simp, by simp, by simp, by simp⟩
  have mk : makeS "Book" q_Book___init__ [] [] = .ok (.lo 0) [bkI 1 2 1 3 4, Cell.dk [], Cell.dk [], Cell.lst [], Cell.lst []] := by
    unfold makeS q_Book___init__ m_Book___init__
    simp_arith [bkne, List.mem_singleton, newDK]
    rw [ifc_neg (by simp)]
  obtain ⟨m, hm, em⟩ : ∃ m : Int, (0 ≤ m ∧ m ≤ 32) ∧ (if (32 : Int) < (ns.length : Int) + 6 then (32 : Int) else (ns.length : Int) + 6) = m := by
    refine ⟨_, ?_, rfl⟩
    split <;> omega
  have r1 : rng1 [.da (.int m)] = some (0, m.toNat) := rng1_ok _ (by omega) (by omega)
  obtain ⟨S1, hf1, B1, ps1, c1, a4, a5, a6, a7, a9, a10, e1, h1⟩ := loop25 ns hn hs hh (intsL 0 m.toNat) S0 4 ⟨[], [], 1, [], []⟩ [] 0 none none none none none none (fun k hk => by
    have := (mem_intsL _ _ _).mp hk
    omega) (by rw [len_intsL]; omega) h0
  rw [← ints_map] at e1
  have fz := datW_dk 4 5 S1 (ps1.map panK) h1.pn
  have pd : pairsD (.dk ((ps1.map panK).map (·.1)) ((ps1.map panK).map (·.2))) = some (ps1.map fun p => .da (.tup [.str p.n, paneL p])) := by
    simp only [pairsD, List.map_map, zip_maps]
    rfl
  have h2 : En25 (S1.set 5 .dead) hf1 B1 ps1 := by
    have k := h1.k
    exact ⟨⟨set_get k.ib (by decide), set_get k.ih (by decide), set_get k.it (by decide), set_get k.ip (by decide), set_get k.iu (Ne.symm (lst_5 h1)), k.ht', k.hf'⟩, h1.he, h1.ok, h1.nd⟩
  obtain ⟨S2, b6, b7, b8, e2⟩ := end_loop ns hs (.dk ((ps1.map panK).map (·.1)) ((ps1.map panK).map (·.2))) a4 a5 a9 a10 ps1 (S1.set 5 .dead) a6 a7 none (fun p hp => hp) h2
  generalize D.dk ((ps1.map panK).map (·.1)) ((ps1.map panK).map (·.2)) = PD at *
  have fr : mFrz 2 (mSeq (mForI (mVar 2) (gtTup 2 (gtCons (gtName 8) (gtCons (gtName 6) gtNil))) b_law_1) (mRet (mC (.bl true)))) (lwR ns hs a4 a5 a6 a7 a9 a10) S1 = .rt (.da (.bl true)) S2 := by
    have g2 : (lwR ns hs a4 a5 a6 a7 a9 a10)[2]? = some (some (.lo 5)) := rfl
    unfold mFrz
    simp only [g2, fz]
    show mSeq _ _ (enR ns hs PD a4 a5 a6 a7 none a9 a10) (S1.set 5 .dead) = _
    refine mSeq_nx (r' := enR ns hs PD a4 a5 b6 b7 b8 a9 a10) (s' := S2) ?_
    unfold mForI
    simp_arith [pd]
    exact e2
  refine runP_ok (S := S2) rfl ?_
  show m_law [some (.da (.scr (ns.map .int))), none, none, none, none, none, none, none, none, none, none] [] = _
  unfold m_law
  simp_arith [mk, newDK, eh, em, r1]
  rw [← hS0, e1]
  exact fr
end Ng
open PySem PySem.W PyProof.Rows
set_option maxRecDepth 100000 in
set_option maxHeartbeats 0 in
theorem PySem.Challenge.cw_nightglass_k25_plates_in_the_book_holds : PySem.Challenge.rw_nightglass_k25_plates_in_the_book.Holds := by
  w_on; o_law; k_head; (case hw => w_witness2)
  k_fill
  refine Ng.walk_ng (l := PySem.Challenge.rw_nightglass_k25_plates_in_the_book) (k := 7) (x := "_law_script") (p := Ng.p_law) rfl rfl ⟨rfl, by decide, by decide⟩ (fun w h Y => PySem.W.kIn_of Y) ?F Ng.law_true
  case F =>
    intro w mg fa h KX G hmg
    refine' Ng.all_mk KX G hmg ?ka16 ?kpg16 ?khd16 ?kpo16 ?ksa16 ?kmk16 ?kkp16 ?ka19 ?kpg19 ?khd19 ?kpo19 ?ksa19 ?kmk19 ?kkp19 ?kn16_name ?kn16_width ?kn16_height ?kn16_limit ?kn16_lights ?kn19_held ?kn19_tied ?kn19_upcoming ?kn19_past ?kn19_future ?a0 ?l0 ?c0 ?k0 ?a14 ?l14 ?c14 ?k14 ?a15 ?l15 ?c15 ?k15 ?a11600 ?i11600 ?l11600 ?c11600 ?k_11600 ?a11601 ?i11601 ?l11601 ?c11601 ?k_11601 ?a11602 ?i11602 ?l11602 ?c11602 ?k_11602 ?a11603 ?i11603 ?l11603 ?c11603 ?k_11603 ?a11604 ?i11604 ?l11604 ?c11604 ?k_11604 ?a11900 ?i11900 ?l11900 ?c11900 ?k_11900 ?a11901 ?i11901 ?l11901 ?c11901 ?k_11901 ?a11902 ?i11902 ?l11902 ?c11902 ?k_11902 ?a11903 ?i11903 ?l11903 ?c11903 ?k_11903 ?a11904 ?i11904 ?l11904 ?c11904 ?k_11904 ?a11905 ?i11905 ?l11905 ?c11905 ?k_11905 ?a11906 ?i11906 ?l11906 ?c11906 ?k_11906 ?a11907 ?i11907 ?l11907 ?c11907 ?k_11907 ?a11908 ?i11908 ?l11908 ?c11908 ?k_11908 ?a11909 ?i11909 ?l11909 ?c11909 ?k_11909 ?a11910 ?i11910 ?l11910 ?c11910 ?k_11910 ?a11911 ?i11911 ?l11911 ?c11911 ?k_11911 ?a11912 ?i11912 ?l11912 ?c11912 ?k_11912 ?a11913 ?i11913 ?l11913 ?c11913 ?k_11913 ?a11914 ?i11914 ?l11914 ?c11914 ?k_11914 ?a11915 ?i11915 ?l11915 ?c11915 ?k_11915 ?a11916 ?i11916 ?l11916 ?c11916 ?k_11916 ?a11917 ?i11917 ?l11917 ?c11917 ?k_11917 ?a11918 ?i11918 ?l11918 ?c11918 ?k_11918 ?a11919 ?i11919 ?l11919 ?c11919 ?k_11919 ?a11920 ?i11920 ?l11920 ?c11920 ?k_11920 ?a11921 ?i11921 ?l11921 ?c11921 ?k_11921 ?a11922 ?i11922 ?l11922 ?c11922 ?k_11922 ?a11923 ?i11923 ?l11923 ?c11923 ?k_11923 ?a11924 ?i11924 ?l11924 ?c11924 ?k_11924 ?a11925 ?i11925 ?l11925 ?c11925 ?k_11925 ?a11926 ?i11926 ?l11926 ?c11926 ?k_11926 ?a11927 ?i11927 ?l11927 ?c11927 ?k_11927 ?a11928 ?i11928 ?l11928 ?c11928 ?k_11928 ?a11929 ?i11929 ?l11929 ?c11929 ?k_11929 ?a11930 ?i11930 ?l11930 ?c11930 ?k_11930 ?a11931 ?i11931 ?l11931 ?c11931 ?k_11931 ?a11932 ?i11932 ?l11932 ?c11932 ?k_11932 ?a11933 ?i11933 ?l11933 ?c11933 ?k_11933 ?a11934 ?i11934 ?l11934 ?c11934 ?k_11934 ?a11935 ?i11935 ?l11935 ?c11935 ?k_11935 ?a11936 ?i11936 ?l11936 ?c11936 ?k_11936 ?a11937 ?i11937 ?l11937 ?c11937 ?k_11937 ?a21 ?l21 ?c21 ?k21 ?a22 ?l22 ?c22 ?k22 ?a23 ?l23 ?c23 ?k23 ?a24 ?l24 ?c24 ?k24 ?a25 ?l25 ?c25 ?k25 ?a26 ?l26 ?c26 ?k26 ?a27 ?l27 ?c27 ?k27 ?a28 ?l28 ?c28 ?k28 ?a29 ?l29 ?c29 ?k29 ?a30 ?l30 ?c30 ?k30 ?a31 ?l31 ?c31 ?k31 ?a32 ?l32 ?c32 ?k32 ?oc_n ?oc_t ?ka2 ?kx2 ?kk2 ?kt2 ?khg2 ?khk2 ?khs2 ?khd2 ?kha2 ?khm2 ?ka3 ?kx3 ?kk3 ?kt3 ?khg3 ?khk3 ?khs3 ?khd3 ?kha3 ?khm3 ?ka4 ?kx4 ?kk4 ?kt4 ?khg4 ?khk4 ?khs4 ?khd4 ?kha4 ?khm4 ?ka5 ?kx5 ?kk5 ?kt5 ?khg5 ?khk5 ?khs5 ?khd5 ?kha5 ?khm5 ?ka6 ?kx6 ?kk6 ?kt6 ?khg6 ?khk6 ?khs6 ?khd6 ?kha6 ?khm6 ?ka7 ?kx7 ?kk7 ?kt7 ?khg7 ?khk7 ?khs7 ?khd7 ?kha7 ?khm7 ?kh_7_2 ?kh_6_2 ?kh_5_2 ?kh_4_2 ?kh_3_2 ?kh_2_2 ?ki_7_ValueError ?ki_6_ValueError ?ki_5_ValueError ?ki_4_ValueError ?ki_3_ValueError ?ki_2_ValueError ?ki_7_BadName ?ki_6_BadName ?ki_5_BadName ?ki_4_BadName ?ki_3_BadName ?ki_2_BadName ?ki_7_BadPlate ?ki_6_BadPlate ?ki_5_BadPlate ?ki_4_BadPlate ?ki_3_BadPlate ?ki_2_BadPlate ?ki_7_Taken ?ki_6_Taken ?ki_5_Taken ?ki_4_Taken ?ki_3_Taken ?ki_2_Taken ?ki_7_Full ?ki_6_Full ?ki_5_Full ?ki_4_Full ?ki_3_Full ?ki_2_Full ?z_ValueError ?z_bool ?z_dict ?z_int ?z_isinstance ?z_len ?z_list ?z_min ?z_range ?z_sorted ?z_str ?z_tuple ?y_BRIGHT_MOST ?y_LETTERS ?y_NAME_MOST ?y_PLATES_MOST ?y_SIDE_MOST ?y_STARS_MOST
    (case ka16 => k_is); (case kpg16 => k_is); (case khd16 => k_is); (case kpo16 => k_is); (case ksa16 => k_is); (case kmk16 => k_is); (case kkp16 => k_is); (case ka19 => k_is); (case kpg19 => k_is); (case khd19 => k_is); (case kpo19 => k_is); (case ksa19 => k_is); (case kmk19 => k_is); (case kkp19 => k_is); (case kn16_name => k_is); (case kn16_width => k_is); (case kn16_height => k_is); (case kn16_limit => k_is); (case kn16_lights => k_is); (case kn19_held => k_is); (case kn19_tied => k_is); (case kn19_upcoming => k_is); (case kn19_past => k_is); (case kn19_future => k_is); (case a0 => k_is); (case l0 => k_is); (case c0 => k_is); (case k0 => k_is); (case a14 => k_is); (case l14 => k_is); (case c14 => k_is); (case k14 => k_is); (case a15 => k_is); (case l15 => k_is); (case c15 => k_is); (case k15 => k_is); (case a11600 => k_is); (case i11600 => k_is); (case l11600 => k_is); (case c11600 => k_is); (case k_11600 => k_is); (case a11601 => k_is); (case i11601 => k_is); (case l11601 => k_is); (case c11601 => k_is); (case k_11601 => k_is); (case a11602 => k_is); (case i11602 => k_is); (case l11602 => k_is); (case c11602 => k_is); (case k_11602 => k_is); (case a11603 => k_is); (case i11603 => k_is); (case l11603 => k_is); (case c11603 => k_is); (case k_11603 => k_is); (case a11604 => k_is); (case i11604 => k_is); (case l11604 => k_is); (case c11604 => k_is); (case k_11604 => k_is); (case a11900 => k_is); (case i11900 => k_is); (case l11900 => k_is); (case c11900 => k_is); (case k_11900 => k_is); (case a11901 => k_is); (case i11901 => k_is); (case l11901 => k_is); (case c11901 => k_is); (case k_11901 => k_is); (case a11902 => k_is); (case i11902 => k_is); (case l11902 => k_is); (case c11902 => k_is); (case k_11902 => k_is); (case a11903 => k_is); (case i11903 => k_is); (case l11903 => k_is); (case c11903 => k_is); (case k_11903 => k_is); (case a11904 => k_is); (case i11904 => k_is); (case l11904 => k_is); (case c11904 => k_is); (case k_11904 => k_is); (case a11905 => k_is); (case i11905 => k_is); (case l11905 => k_is); (case c11905 => k_is); (case k_11905 => k_is); (case a11906 => k_is); (case i11906 => k_is); (case l11906 => k_is); (case c11906 => k_is); (case k_11906 => k_is); (case a11907 => k_is); (case i11907 => k_is); (case l11907 => k_is); (case c11907 => k_is); (case k_11907 => k_is); (case a11908 => k_is); (case i11908 => k_is); (case l11908 => k_is); (case c11908 => k_is); (case k_11908 => k_is); (case a11909 => k_is); (case i11909 => k_is); (case l11909 => k_is); (case c11909 => k_is); (case k_11909 => k_is); (case a11910 => k_is); (case i11910 => k_is); (case l11910 => k_is); (case c11910 => k_is); (case k_11910 => k_is); (case a11911 => k_is); (case i11911 => k_is); (case l11911 => k_is); (case c11911 => k_is); (case k_11911 => k_is); (case a11912 => k_is); (case i11912 => k_is); (case l11912 => k_is); (case c11912 => k_is); (case k_11912 => k_is); (case a11913 => k_is); (case i11913 => k_is); (case l11913 => k_is); (case c11913 => k_is); (case k_11913 => k_is); (case a11914 => k_is); (case i11914 => k_is); (case l11914 => k_is); (case c11914 => k_is); (case k_11914 => k_is); (case a11915 => k_is); (case i11915 => k_is); (case l11915 => k_is); (case c11915 => k_is); (case k_11915 => k_is); (case a11916 => k_is); (case i11916 => k_is); (case l11916 => k_is); (case c11916 => k_is); (case k_11916 => k_is); (case a11917 => k_is); (case i11917 => k_is); (case l11917 => k_is); (case c11917 => k_is); (case k_11917 => k_is); (case a11918 => k_is); (case i11918 => k_is); (case l11918 => k_is); (case c11918 => k_is); (case k_11918 => k_is); (case a11919 => k_is); (case i11919 => k_is); (case l11919 => k_is); (case c11919 => k_is); (case k_11919 => k_is); (case a11920 => k_is); (case i11920 => k_is); (case l11920 => k_is); (case c11920 => k_is); (case k_11920 => k_is); (case a11921 => k_is); (case i11921 => k_is); (case l11921 => k_is); (case c11921 => k_is); (case k_11921 => k_is); (case a11922 => k_is); (case i11922 => k_is); (case l11922 => k_is); (case c11922 => k_is); (case k_11922 => k_is); (case a11923 => k_is); (case i11923 => k_is); (case l11923 => k_is); (case c11923 => k_is); (case k_11923 => k_is); (case a11924 => k_is); (case i11924 => k_is); (case l11924 => k_is); (case c11924 => k_is); (case k_11924 => k_is); (case a11925 => k_is); (case i11925 => k_is); (case l11925 => k_is); (case c11925 => k_is); (case k_11925 => k_is); (case a11926 => k_is); (case i11926 => k_is); (case l11926 => k_is); (case c11926 => k_is); (case k_11926 => k_is); (case a11927 => k_is); (case i11927 => k_is); (case l11927 => k_is); (case c11927 => k_is); (case k_11927 => k_is); (case a11928 => k_is); (case i11928 => k_is); (case l11928 => k_is); (case c11928 => k_is); (case k_11928 => k_is); (case a11929 => k_is); (case i11929 => k_is); (case l11929 => k_is); (case c11929 => k_is); (case k_11929 => k_is); (case a11930 => k_is); (case i11930 => k_is); (case l11930 => k_is); (case c11930 => k_is); (case k_11930 => k_is); (case a11931 => k_is); (case i11931 => k_is); (case l11931 => k_is); (case c11931 => k_is); (case k_11931 => k_is); (case a11932 => k_is); (case i11932 => k_is); (case l11932 => k_is); (case c11932 => k_is); (case k_11932 => k_is); (case a11933 => k_is); (case i11933 => k_is); (case l11933 => k_is); (case c11933 => k_is); (case k_11933 => k_is); (case a11934 => k_is); (case i11934 => k_is); (case l11934 => k_is); (case c11934 => k_is); (case k_11934 => k_is); (case a11935 => k_is); (case i11935 => k_is); (case l11935 => k_is); (case c11935 => k_is); (case k_11935 => k_is); (case a11936 => k_is); (case i11936 => k_is); (case l11936 => k_is); (case c11936 => k_is); (case k_11936 => k_is); (case a11937 => k_is); (case i11937 => k_is); (case l11937 => k_is); (case c11937 => k_is); (case k_11937 => k_is); (case a21 => k_is); (case l21 => k_is); (case c21 => k_is); (case k21 => k_is); (case a22 => k_is); (case l22 => k_is); (case c22 => k_is); (case k22 => k_is); (case a23 => k_is); (case l23 => k_is); (case c23 => k_is); (case k23 => k_is); (case a24 => k_is); (case l24 => k_is); (case c24 => k_is); (case k24 => k_is); (case a25 => k_is); (case l25 => k_is); (case c25 => k_is); (case k25 => k_is); (case a26 => k_is); (case l26 => k_is); (case c26 => k_is); (case k26 => k_is); (case a27 => k_is); (case l27 => k_is); (case c27 => k_is); (case k27 => k_is); (case a28 => k_is); (case l28 => k_is); (case c28 => k_is); (case k28 => k_is); (case a29 => k_is); (case l29 => k_is); (case c29 => k_is); (case k29 => k_is); (case a30 => k_is); (case l30 => k_is); (case c30 => k_is); (case k30 => k_is); (case a31 => k_is); (case l31 => k_is); (case c31 => k_is); (case k31 => k_is); (case a32 => k_is); (case l32 => k_is); (case c32 => k_is); (case k32 => k_is); (case oc_n => k_is); (case oc_t => k_is); (case ka2 => k_is); (case kx2 => k_exc); (case kk2 => k_is); (case kt2 => k_is); (case khg2 => k_is); (case khk2 => k_is); (case khs2 => k_is); (case khd2 => k_is); (case kha2 => k_is); (case khm2 => k_is); (case ka3 => k_is); (case kx3 => k_exc); (case kk3 => k_is); (case kt3 => k_is); (case khg3 => k_is); (case khk3 => k_is); (case khs3 => k_is); (case khd3 => k_is); (case kha3 => k_is); (case khm3 => k_is); (case ka4 => k_is); (case kx4 => k_exc); (case kk4 => k_is); (case kt4 => k_is); (case khg4 => k_is); (case khk4 => k_is); (case khs4 => k_is); (case khd4 => k_is); (case kha4 => k_is); (case khm4 => k_is); (case ka5 => k_is); (case kx5 => k_exc); (case kk5 => k_is); (case kt5 => k_is); (case khg5 => k_is); (case khk5 => k_is); (case khs5 => k_is); (case khd5 => k_is); (case kha5 => k_is); (case khm5 => k_is); (case ka6 => k_is); (case kx6 => k_exc); (case kk6 => k_is); (case kt6 => k_is); (case khg6 => k_is); (case khk6 => k_is); (case khs6 => k_is); (case khd6 => k_is); (case kha6 => k_is); (case khm6 => k_is); (case ka7 => k_is); (case kx7 => k_exc); (case kk7 => k_is); (case kt7 => k_is); (case khg7 => k_is); (case khk7 => k_is); (case khs7 => k_is); (case khd7 => k_is); (case kha7 => k_is); (case khm7 => k_is); (case kh_7_2 => kts_exm); (case kh_6_2 => kts_exm); (case kh_5_2 => kts_exm); (case kh_4_2 => kts_exm); (case kh_3_2 => kts_exm); (case kh_2_2 => kts_exm); (case ki_7_ValueError => kit_is); (case ki_6_ValueError => kit_is); (case ki_5_ValueError => kit_is); (case ki_4_ValueError => kit_is); (case ki_3_ValueError => kit_is); (case ki_2_ValueError => kit_is); (case ki_7_BadName => kit_is); (case ki_6_BadName => kit_is); (case ki_5_BadName => kit_is); (case ki_4_BadName => kit_is); (case ki_3_BadName => kit_is); (case ki_2_BadName => kit_is); (case ki_7_BadPlate => kit_is); (case ki_6_BadPlate => kit_is); (case ki_5_BadPlate => kit_is); (case ki_4_BadPlate => kit_is); (case ki_3_BadPlate => kit_is); (case ki_2_BadPlate => kit_is); (case ki_7_Taken => kit_is); (case ki_6_Taken => kit_is); (case ki_5_Taken => kit_is); (case ki_4_Taken => kit_is); (case ki_3_Taken => kit_is); (case ki_2_Taken => kit_is); (case ki_7_Full => kit_is); (case ki_6_Full => kit_is); (case ki_5_Full => kit_is); (case ki_4_Full => kit_is); (case ki_3_Full => kit_is); (case ki_2_Full => kit_is); (case z_ValueError => k_is); (case z_bool => k_is); (case z_dict => k_is); (case z_int => k_is); (case z_isinstance => k_is); (case z_len => k_is); (case z_list => k_is); (case z_min => k_is); (case z_range => k_is); (case z_sorted => k_is); (case z_str => k_is); (case z_tuple => k_is); (case y_BRIGHT_MOST => k_is); (case y_LETTERS => k_is); (case y_NAME_MOST => k_is); (case y_PLATES_MOST => k_is); (case y_SIDE_MOST => k_is); (case y_STARS_MOST => k_is)
