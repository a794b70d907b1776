import PyProof.Rows.All
import Wide.All
import OpenK.AllK
import Wide.FinOn
import HandS.ForMost
import HandS.ForExc
import HandS.Flow
import HandS.IsInst
import HandS.Conv
import HandS.Wide
import HandS.Deep
import HandS.Small
import HandS.TupAny
import HandS.Iter
import HandS.Walk
import HandS.NoneIn
import HandS.TupLen
import HandS.More
import HandS.Exc
import HandS.ExcOwn
import HandS.ExcIs
import HandS.Text
import KE.SortKeyHeap
import HandS.FStr
import HandS.RaiseMore
import KE.DataMinMax
import KE.KDictExact
import HandS.SortKw
import HandS.Style
import KE.KDictSum
import HandS.DictEq
import KE.KDictLaw
import PySem.Challenge.RW_nightglass_k21_whole_layings
set_option Elab.async false
set_option linter.all false
set_option maxRecDepth 100000
set_option maxHeartbeats 4000000
/-! The simulation layer (second making): plain data D, cells, and what it means that a heap bears them. -/
namespace Ng
open PySem L2

/-- tests that nothing computes -/
noncomputable def ifc {a : Type} (c : Prop) (x y : a) : a := @ite a c (Classical.propDecidable c) x y
noncomputable def dec (c : Prop) : Bool := @decide c (Classical.propDecidable c)
theorem ifc_pos {a : Type} {c : Prop} {x y : a} (h : c) : ifc c x y = x := by unfold ifc; exact if_pos h
theorem ifc_neg {a : Type} {c : Prop} {x y : a} (h : ¬ c) : ifc c x y = y := by unfold ifc; exact if_neg h
theorem ifc_true {a : Type} {x y : a} : ifc True x y = x := ifc_pos trivial
theorem ifc_false {a : Type} {x y : a} : ifc False x y = y := ifc_neg (fun h => h)
theorem dec_true : dec True = true := by unfold dec; simp
theorem dec_false : dec False = false := by unfold dec; simp
theorem dec_pos {c : Prop} (h : c) : dec c = true := by unfold dec; simp [h]
theorem dec_neg {c : Prop} (h : ¬ c) : dec c = false := by unfold dec; simp [h]
theorem dec_eq (c : Prop) [i : Decidable c] : dec c = decide c := by
  by_cases h : c
  · rw [dec_pos h, decide_eq_true h]
  · rw [dec_neg h, decide_eq_false h]
theorem ifc_some {a : Type} {c : Prop} {x : a} {y : a} (h : ifc c (some x) none = some y) : c ∧ x = y := by
  by_cases e : c
  · rw [ifc_pos e] at h; cases h; exact ⟨e, rfl⟩
  · rw [ifc_neg e] at h; cases h
theorem ifc_cases {a : Type} {c : Prop} {x y : a} {P : a → Prop} (h : P (ifc c x y)) : (c ∧ P x) ∨ (¬ c ∧ P y) := by
  by_cases e : c
  · rw [ifc_pos e] at h; exact .inl ⟨e, h⟩
  · rw [ifc_neg e] at h; exact .inr ⟨e, h⟩

/-- plain data, frozen -/
inductive D where
  | non | bl (b : Bool) | int (i : Int) | str (x : Str)
  | tup (ds : List D) | wt (ds : List D) | lst (ds : List D) | scr (ds : List D)
  | dk (ks : List Key) (ds : List D) | dt (ks : List (List Key)) (ds : List D)
  | obj (c : Str) (fs : List Str) (ds : List D)

/-- what a slot holds: data, or the place of a cell -/
inductive W where
  | da (d : D) | lo (n : Nat) | xc

/-- a cell: a thing that may be changed -/
inductive Cell where
  | lst (ws : List W) | tup (ws : List W) | dk (kws : List (Key × W)) | dt (kws : List (List Key × W))
  | ins (c : Str) (fws : List (Str × W)) | dead

abbrev Rho := List (Option W)
abbrev Sto := List Cell

structure Exn where
  c : Str
  fs : List Str
  ws : List W

inductive Rs (a : Type) where
  | ok (x : a) (S : Sto) | ex (x : Exn) (S : Sto) | stuck
def Rs.bind {a b : Type} (r : Rs a) (f : a → Sto → Rs b) : Rs b := match r with
  | .ok x S => f x S
  | .ex x S => .ex x S
  | .stuck => .stuck
/-- what a plain function gives -/
inductive Re (a : Type) where
  | ok (x : a) | ex (x : Exn) | stuck
inductive Out where
  | nx (r : Rho) (s : Sto) | rt (w : W) (s : Sto) | bk (r : Rho) (s : Sto) | ct (r : Rho) (s : Sto) | ex (x : Exn) (r : Rho) (s : Sto) | stuck
abbrev ME := Rho → Sto → Rs W
abbrev MA := Rho → Sto → Rs (List W)
abbrev MT := Rho → Sto → Rs Bool
abbrev MS := Rho → Sto → Out

/-! ### heaps that grow -/
def Ex (H H' : Hp) : Prop := ∀ b o, H b = some o → H' b = some o
theorem Ex.refl (H : Hp) : Ex H H := fun _ _ h => h
theorem Ex.trans {A B C : Hp} (x : Ex A B) (y : Ex B C) : Ex A C := fun b o h => y b o (x b o h)
theorem Ex.no {F H : Hp} (x : Ex F H) {p : Addr} (h : H p = none) : F p = none := by
  cases e : F p with
  | none => rfl
  | some o => rw [x p o e] at h; cases h
theorem Ex.put {F H : Hp} {p : Addr} {o : HO} (x : Ex F H) (h : H p = some o) : Ex F (upd F p o) := fun b u e => by
  by_cases z : b = p
  · subst z; rw [x b u e] at h; cases h; exact upd_same
  · rw [upd_ne z]; exact e
theorem Ex.new {H : Hp} {p : Addr} {o : HO} (h : H p = none) : Ex H (upd H p o) := fun a u e => by
  rw [upd_ne (ne_of_none e h)]
  exact e
theorem Rd.xt {F H : Hp} (x : Ex F H) {a : Addr} {o : HO} (h : Rd F a o) : Rd H a o := by
  rcases h with h | ⟨u, h⟩
  · exact .inl (x a o h)
  · exact .inr ⟨u, x a _ h⟩
theorem sqL_xt {K : PySem.W.Frag} {F H : Hp} (x : Ex F H) {a : Addr} {vs : List V} (h : SqL K F a vs) : SqL K H a vs := h.imp (Rd.xt x) id
theorem sqT_xt {K : PySem.W.Frag} {F H : Hp} (x : Ex F H) {a : Addr} {vs : List V} (h : SqT K F a vs) : SqT K H a vs := h.imp (Rd.xt x) id

/-! ### what a heap bears -/
section
variable (K : PySem.W.Frag) (cl : Str → Option Addr) (F : Hp)
mutual
def Rp : D → V → Prop
  | .non, v => v = .non
  | .bl b, v => v = .bl b
  | .int i, v => v = .int i
  | .str x, v => v = .str x
  | .tup ds, v => ∃ a vs, v = .ref a ∧ F a = some (.tup vs) ∧ RpL ds vs
  | .wt ds, v => ∃ a vs, v = .ref a ∧ SqT K F a vs ∧ RpL ds vs
  | .lst ds, v => ∃ a vs, v = .ref a ∧ F a = some (.lst vs) ∧ RpL ds vs
  | .scr ds, v => ∃ a vs, v = .ref a ∧ SqL K F a vs ∧ RpL ds vs
  | .dk ks ds, v => ∃ a vs, v = .ref a ∧ (∃ o, F a = some (.frz o (.dK (ks.zip vs)))) ∧ ks.length = vs.length ∧ RpL ds vs
  | .dt ks ds, v => ∃ a vs, v = .ref a ∧ (∃ o, F a = some (.frz o (.dT (ks.zip vs)))) ∧ ks.length = vs.length ∧ RpL ds vs
  | .obj c fs ds, v => ∃ a C dx vs, v = .ref a ∧ cl c = some C ∧ F a = some (.ins C dx (fs.zip vs)) ∧ fs.length = vs.length ∧ RpL ds vs
def RpL : List D → List V → Prop
  | [], vs => vs = []
  | d :: ds, vs => ∃ v r, vs = v :: r ∧ Rp d v ∧ RpL ds r
end
end
section
variable {K : PySem.W.Frag} {cl : Str → Option Addr} {F H : Hp}
mutual
theorem Rp.xt (x : Ex F H) : ∀ (d : D) (v : V), Rp K cl F d v → Rp K cl H d v
  | .non, v, h => h
  | .bl b, v, h => h
  | .int i, v, h => h
  | .str s, v, h => h
  | .tup ds, v, h => by
    obtain ⟨a, vs, e, q, r⟩ := h
    exact ⟨a, vs, e, x a _ q, RpL.xt x ds vs r⟩
  | .wt ds, v, h => by
    obtain ⟨a, vs, e, q, r⟩ := h
    exact ⟨a, vs, e, sqT_xt x q, RpL.xt x ds vs r⟩
  | .lst ds, v, h => by
    obtain ⟨a, vs, e, q, r⟩ := h
    exact ⟨a, vs, e, x a _ q, RpL.xt x ds vs r⟩
  | .scr ds, v, h => by
    obtain ⟨a, vs, e, q, r⟩ := h
    exact ⟨a, vs, e, sqL_xt x q, RpL.xt x ds vs r⟩
  | .dk ks ds, v, h => by
    obtain ⟨a, vs, e, ⟨o, q⟩, l, r⟩ := h
    exact ⟨a, vs, e, ⟨o, x a _ q⟩, l, RpL.xt x ds vs r⟩
  | .dt ks ds, v, h => by
    obtain ⟨a, vs, e, ⟨o, q⟩, l, r⟩ := h
    exact ⟨a, vs, e, ⟨o, x a _ q⟩, l, RpL.xt x ds vs r⟩
  | .obj c fs ds, v, h => by
    obtain ⟨a, C, dx, vs, e, q, l, n, r⟩ := h
    exact ⟨a, C, dx, vs, e, q, x a _ l, n, RpL.xt x ds vs r⟩
theorem RpL.xt (x : Ex F H) : ∀ (ds : List D) (vs : List V), RpL K cl F ds vs → RpL K cl H ds vs
  | [], vs, h => h
  | d :: ds, vs, h => by
    obtain ⟨v, r, e, q, t⟩ := h
    exact ⟨v, r, e, Rp.xt x d v q, RpL.xt x ds r t⟩
end
theorem RpL.length : ∀ {ds : List D} {vs : List V}, RpL K cl F ds vs → ds.length = vs.length
  | [], vs, h => by cases (show vs = [] from h); rfl
  | d :: ds, vs, h => by
    obtain ⟨v, r, e, q, t⟩ := h
    subst e
    simp [RpL.length t]
theorem RpL.get : ∀ {ds : List D} {vs : List V} {i : Nat} {d : D}, RpL K cl F ds vs → ds[i]? = some d → ∃ v, vs[i]? = some v ∧ Rp K cl F d v
  | [], _, _, _, _, e => by simp at e
  | d :: ds, vs, 0, _, h, e => by
    obtain ⟨v, r, rfl, q, t⟩ := h
    simp at e
    subst e
    exact ⟨v, rfl, q⟩
  | d :: ds, vs, i + 1, _, h, e => by
    obtain ⟨v, r, rfl, q, t⟩ := h
    obtain ⟨u, e1, e2⟩ := RpL.get (i := i) t (by simpa using e)
    exact ⟨u, by simpa using e1, e2⟩
theorem RpL.append : ∀ {ds es : List D} {vs us : List V}, RpL K cl F ds vs → RpL K cl F es us → RpL K cl F (ds ++ es) (vs ++ us)
  | [], _, vs, _, h, k => by cases (show vs = [] from h); exact k
  | d :: ds, _, vs, _, h, k => by
    obtain ⟨v, r, rfl, q, t⟩ := h
    exact ⟨v, _, rfl, q, RpL.append t k⟩
theorem RpL.of_get : ∀ {ds : List D} {vs : List V}, ds.length = vs.length → (∀ (i : Nat) (d : D) (v : V), ds[i]? = some d → vs[i]? = some v → Rp K cl F d v) → RpL K cl F ds vs
  | [], [], _, _ => rfl
  | [], _ :: _, h, _ => by simp at h
  | _ :: _, [], h, _ => by simp at h
  | d :: ds, v :: vs, h, k => ⟨v, vs, rfl, k 0 d v rfl rfl, RpL.of_get (by simpa using h) fun i a b e1 e2 => k (i + 1) a b (by simpa using e1) (by simpa using e2)⟩
end

/-- the heap's side: what is frozen, the heap, the cells' places -/
structure Y where
  F : Hp
  H : Hp
  m : List Addr
/-- things may be frozen and cells made -/
structure Gr (y z : Y) : Prop where
  f : Ex y.F z.F
  m : y.m <+: z.m
theorem Gr.refl (y : Y) : Gr y y := ⟨Ex.refl _, List.prefix_refl _⟩
theorem Gr.trans {a b c : Y} (x : Gr a b) (y : Gr b c) : Gr a c := ⟨x.f.trans y.f, x.m.trans y.m⟩

/-- a slot's value -/
def RW (K : PySem.W.Frag) (cl : Str → Option Addr) (y : Y) : W → V → Prop
  | .da d, v => Rp K cl y.F d v
  | .lo n, v => ∃ a, y.m[n]? = some a ∧ v = .ref a
  | .xc, _ => False
abbrev RWL (K : PySem.W.Frag) (cl : Str → Option Addr) (y : Y) (ws : List W) (vs : List V) : Prop := Paired (RW K cl y) ws vs
abbrev RWP {κ : Type} (K : PySem.W.Frag) (cl : Str → Option Addr) (y : Y) (kws : List (κ × W)) (kvs : List (κ × V)) : Prop := Paired (fun p q => p.1 = q.1 ∧ RW K cl y p.2 q.2) kws kvs
theorem pre_get {ms ms' : List Addr} {n : Nat} {a : Addr} (p : ms <+: ms') (e : ms[n]? = some a) : ms'[n]? = some a := by
  obtain ⟨t, rfl⟩ := p
  rw [List.getElem?_append_left (List.getElem?_eq_some_iff.mp e).1]; exact e
theorem RW.grow {K : PySem.W.Frag} {cl : Str → Option Addr} {y z : Y} (g : Gr y z) : ∀ {w : W} {v : V}, RW K cl y w v → RW K cl z w v
  | .da d, v, h => Rp.xt g.f d v h
  | .lo n, v, h => by
    obtain ⟨a, e, rfl⟩ := h
    exact ⟨a, pre_get g.m e, rfl⟩
  | .xc, _, h => h.elim
theorem RWL.grow {K : PySem.W.Frag} {cl : Str → Option Addr} {y z : Y} (g : Gr y z) {ws : List W} {vs : List V} (h : RWL K cl y ws vs) : RWL K cl z ws vs :=
  Paired.mapP h fun _ _ q => q.grow g
theorem RWP.grow {κ : Type} {K : PySem.W.Frag} {cl : Str → Option Addr} {y z : Y} (g : Gr y z) {ws : List (κ × W)} {vs : List (κ × V)} (h : RWP K cl y ws vs) : RWP K cl z ws vs :=
  Paired.mapP h fun _ _ q => ⟨q.1, q.2.grow g⟩

def CellR (K : PySem.W.Frag) (cl : Str → Option Addr) (y : Y) (a : Addr) : Cell → Prop
  | .lst ws => ∃ vs, y.H a = some (.lst vs) ∧ RWL K cl y ws vs
  | .tup ws => ∃ vs, y.H a = some (.tup vs) ∧ RWL K cl y ws vs
  | .dk kws => ∃ kvs, y.H a = some (.dK kvs) ∧ RWP K cl y kws kvs
  | .dt kws => ∃ kvs, y.H a = some (.dT kvs) ∧ RWP K cl y kws kvs
  | .ins c fws => ∃ C dx fvs, cl c = some C ∧ y.H a = some (.ins C dx fvs) ∧ RWP K cl y fws fvs
  | .dead => True
theorem CellR.there {K : PySem.W.Frag} {cl : Str → Option Addr} {y : Y} {a : Addr} : ∀ {c : Cell}, c ≠ .dead → CellR K cl y a c → ∃ o, y.H a = some o
  | .lst _, _, ⟨_, e, _⟩ => ⟨_, e⟩
  | .tup _, _, ⟨_, e, _⟩ => ⟨_, e⟩
  | .dk _, _, ⟨_, e, _⟩ => ⟨_, e⟩
  | .dt _, _, ⟨_, e, _⟩ => ⟨_, e⟩
  | .ins _ _, _, ⟨_, _, _, _, e, _⟩ => ⟨_, e⟩
  | .dead, h, _ => absurd rfl h
theorem CellR.grow {K : PySem.W.Frag} {cl : Str → Option Addr} {y z : Y} {a : Addr} (g : Gr y z) (e : ∀ o, y.H a = some o → z.H a = some o) : ∀ {c : Cell}, CellR K cl y a c → CellR K cl z a c
  | .lst _, ⟨vs, h, r⟩ => ⟨vs, e _ h, RWL.grow g r⟩
  | .tup _, ⟨vs, h, r⟩ => ⟨vs, e _ h, RWL.grow g r⟩
  | .dk _, ⟨vs, h, r⟩ => ⟨vs, e _ h, RWP.grow g r⟩
  | .dt _, ⟨vs, h, r⟩ => ⟨vs, e _ h, RWP.grow g r⟩
  | .ins _ _, ⟨C, dx, vs, k, h, r⟩ => ⟨C, dx, vs, k, e _ h, RWP.grow g r⟩
  | .dead, _ => trivial

/-- a tuple: it never changes -/
def IsT (o : HO) : Prop := ∃ xs, o = .tup xs
theorem CellR.tup_of {K : PySem.W.Frag} {cl : Str → Option Addr} {y : Y} {a : Addr} {o : HO} (h : y.H a = some o) (t : IsT o) : ∀ {c : Cell}, c ≠ .dead → CellR K cl y a c → ∃ ws, c = .tup ws
  | .tup ws, _, _ => ⟨ws, rfl⟩
  | .lst _, _, ⟨_, e, _⟩ => by obtain ⟨xs, rfl⟩ := t; rw [h] at e; cases e
  | .dk _, _, ⟨_, e, _⟩ => by obtain ⟨xs, rfl⟩ := t; rw [h] at e; cases e
  | .dt _, _, ⟨_, e, _⟩ => by obtain ⟨xs, rfl⟩ := t; rw [h] at e; cases e
  | .ins _ _, _, ⟨_, _, _, _, e, _⟩ => by obtain ⟨xs, rfl⟩ := t; rw [h] at e; cases e
  | .dead, hd, _ => absurd rfl hd

/-- the heap bears the store -/
structure Bs (K : PySem.W.Frag) (cl : Str → Option Addr) (y : Y) (S : Sto) : Prop where
  fz : Ex y.F y.H
  len : y.m.length = S.length
  nd : y.m.Nodup
  has : ∀ a ∈ y.m, y.H a ≠ none
  cell : ∀ (n : Nat) (c : Cell), S[n]? = some c → c ≠ .dead → ∃ a, y.m[n]? = some a ∧ (y.F a = none ∨ ∃ ws, c = .tup ws) ∧ CellR K cl y a c

/-- what stood at the entry -/
structure Cn where
  H0 : Hp
  F0 : Hp
  m0 : List Addr
structure Fm (C : Cn) (y : Y) : Prop where
  hf : Ex C.F0 y.F
  keep : ∀ b o, C.H0 b = some o → b ∉ C.m0 → y.H b = some o
  dom : ∀ b, y.H b = none → C.H0 b = none
  newF : ∀ b o, y.F b = some o → C.F0 b = some o ∨ C.H0 b = none ∨ b ∈ C.m0 ∨ IsT o
  newC : ∀ a ∈ y.m, a ∈ C.m0 ∨ C.H0 a = none
  pre : C.m0 <+: y.m
def Y.cn (y : Y) : Cn := ⟨y.H, y.F, y.m⟩
/-- behind a part that ran by itself -/
theorem Fm.trans {C : Cn} {y z : Y} (a : Fm C y) (b : Fm y.cn z) : Fm C z := by
  have nm : ∀ c o, C.H0 c = some o → c ∉ C.m0 → c ∉ y.m := fun c o e n h => by
    rcases a.newC c h with q | q
    · exact n q
    · rw [q] at e; cases e
  refine ⟨a.hf.trans b.hf, fun c o e n => ?_, fun c e => a.dom c (b.dom c e), fun c o e => ?_, fun c h => ?_, a.pre.trans b.pre⟩
  · exact b.keep c o (a.keep c o e n) (nm c o e n)
  · rcases b.newF c o e with q | q | q | q
    · exact a.newF c o q
    · exact .inr (.inl (a.dom c q))
    · rcases a.newC c q with z | z
      · exact .inr (.inr (.inl z))
      · exact .inr (.inl z)
    · exact .inr (.inr (.inr q))
  · rcases b.newC c h with q | q
    · exact a.newC c q
    · exact .inr (a.dom c q)
theorem Fm.gr {y z : Y} (b : Fm y.cn z) : Gr y z := ⟨b.hf, b.pre⟩
theorem Fm.start (y : Y) : Fm y.cn y := ⟨Ex.refl _, fun _ _ e _ => e, fun _ e => e, fun _ _ e => .inl e, fun _ h => .inl h, List.prefix_refl _⟩
/-- what a slot holds: also the error that a suite has caught -/
def RS (K : PySem.W.Frag) (cl : Str → Option Addr) (y : Y) (xa : Option (Nat × Addr)) (i : Nat) : W → V → Prop
  | .da d, v => Rp K cl y.F d v
  | .lo n, v => ∃ a, y.m[n]? = some a ∧ v = .ref a
  | .xc, v => ∃ a, xa = some (i, a) ∧ v = .ref a
theorem RW.rs {K : PySem.W.Frag} {cl : Str → Option Addr} {y : Y} {xa : Option (Nat × Addr)} {i : Nat} : ∀ {w : W} {v : V}, RW K cl y w v → RS K cl y xa i w v
  | .da _, _, h => h
  | .lo _, _, h => h
  | .xc, _, h => h.elim
theorem RS.grow {K : PySem.W.Frag} {cl : Str → Option Addr} {y z : Y} {xa : Option (Nat × Addr)} {i : Nat} (g : Gr y z) : ∀ {w : W} {v : V}, RS K cl y xa i w v → RS K cl z xa i w v
  | .da d, v, h => RW.grow (K := K) (cl := cl) (w := .da d) g h
  | .lo n, v, h => RW.grow (K := K) (cl := cl) (w := .lo n) g h
  | .xc, _, h => h
structure Sim (K : PySem.W.Frag) (cl : Str → Option Addr) (xa : Option (Nat × Addr)) (C : Cn) (y : Y) (σ : St) (ρ : Rho) (S : Sto) : Prop where
  bs : Bs K cl y S
  fm : Fm C y
  len : σ.length = ρ.length
  slot : ∀ (i : Nat) (w : W), ρ[i]? = some (some w) → ∃ v, σ[i]? = some (some v) ∧ RS K cl y xa i w v

/-- new frozen things alone -/
structure Al (F H F' H' : Hp) : Prop where
  f : Ex F F'
  h : Ex H H'
  x : Ex F' H'
  n : ∀ b o, F' b = some o → F b = some o ∨ H b = none ∨ IsT o
theorem Al.refl {F H : Hp} (x : Ex F H) : Al F H F H := ⟨Ex.refl _, Ex.refl _, x, fun _ _ e => .inl e⟩
theorem Al.trans {F H F' H' G I : Hp} (a : Al F H F' H') (b : Al F' H' G I) : Al F H G I :=
  ⟨a.f.trans b.f, a.h.trans b.h, b.x, fun c o e => by
    rcases b.n c o e with z | z | z
    · exact a.n c o z
    · refine .inr (.inl ?_)
      cases q : H c with
      | none => rfl
      | some u => rw [a.h c u q] at z; cases z
    · exact .inr (.inr z)⟩
theorem Al.new {F H : Hp} {p : Addr} {o : HO} (x : Ex F H) (h : H p = none) : Al F H (upd F p o) (upd H p o) :=
  ⟨Ex.new (x.no h), Ex.new h, fun b u e => by
    by_cases z : b = p
    · subst z; rw [upd_same] at e ⊢; exact e
    · rw [upd_ne z] at e ⊢; exact x b u e, fun b u e => by
    by_cases z : b = p
    · subst z; exact .inr (.inl h)
    · rw [upd_ne z] at e; exact .inl e⟩
/-- an old tuple is taken in -/
theorem Al.tup {F H : Hp} {p : Addr} {xs : List V} (x : Ex F H) (h : H p = some (.tup xs)) : Al F H (upd F p (.tup xs)) H :=
  ⟨fun b u e => by
    by_cases z : b = p
    · subst z; rw [x b u e] at h; cases h; exact upd_same
    · rw [upd_ne z]; exact e, Ex.refl _, fun b u e => by
    by_cases z : b = p
    · subst z; rw [upd_same] at e; cases e; exact h
    · rw [upd_ne z] at e; exact x b u e, fun b u e => by
    by_cases z : b = p
    · subst z; rw [upd_same] at e; cases e; exact .inr (.inr ⟨xs, rfl⟩)
    · rw [upd_ne z] at e; exact .inl e⟩
/-- a new thing that is not frozen -/
theorem Al.own {F H : Hp} {p : Addr} {o : HO} (x : Ex F H) (h : H p = none) : Al F H F (upd H p o) :=
  ⟨Ex.refl _, Ex.new h, x.trans (Ex.new h), fun b u e => .inl e⟩
theorem Al.gr {y : Y} {F' H' : Hp} (a : Al y.F y.H F' H') : Gr y ⟨F', H', y.m⟩ := ⟨a.f, List.prefix_refl _⟩

section
variable {K : PySem.W.Frag} {cl : Str → Option Addr} {xa : Option (Nat × Addr)} {C : Cn} {F' H' : Hp} {y z : Y} {σ : St} {ρ : Rho} {S S' : Sto}
theorem Bs.al (b : Bs K cl y S) (a : Al y.F y.H F' H') : Bs K cl ⟨F', H', y.m⟩ S :=
  ⟨a.x, b.len, b.nd, (fun q hq e => b.has q hq (by
    cases z : y.H q with
    | none => rfl
    | some u => rw [show (⟨F', H', y.m⟩ : Y).H q = some u from a.h q u z] at e; cases e)), fun n c e d => by
    obtain ⟨q, e1, e2, e3⟩ := b.cell n c e d
    refine ⟨q, e1, ?_, CellR.grow a.gr (fun o z => a.h q o z) e3⟩
    show F' q = none ∨ _
    rcases e2 with e2 | e2
    · cases z : F' q with
      | none => exact .inl rfl
      | some o =>
        obtain ⟨u, hu⟩ := CellR.there d e3
        rcases a.n q o z with t | t | t
        · rw [e2] at t; cases t
        · rw [hu] at t; cases t
        · have := a.h q u hu
          rw [a.x q o z] at this
          cases this
          exact .inr (CellR.tup_of hu t d e3)
    · exact .inr e2⟩
theorem Fm.al (f : Fm C y) (a : Al y.F y.H F' H') : Fm C ⟨F', H', y.m⟩ :=
  ⟨f.hf.trans a.f, fun b o e n => a.h b o (f.keep b o e n), (fun b e => f.dom b (by
    cases q : y.H b with
    | none => rfl
    | some u => rw [show (⟨F', H', y.m⟩ : Y).H b = some u from a.h b u q] at e; cases e)),
   (fun b o e => by
    rcases a.n b o e with z | z | z
    · exact f.newF b o z
    · exact .inr (.inl (f.dom b z))
    · exact .inr (.inr (.inr z))), f.newC, f.pre⟩
theorem Sim.al (s : Sim K cl xa C y σ ρ S) (a : Al y.F y.H F' H') : Sim K cl xa C ⟨F', H', y.m⟩ σ ρ S :=
  ⟨s.bs.al a, s.fm.al a, s.len, fun i w e => by
    obtain ⟨v, h1, h2⟩ := s.slot i w e
    exact ⟨v, h1, h2.grow a.gr⟩⟩
/-- a part that ran by itself -/
theorem Sim.after (s : Sim K cl xa C y σ ρ S) (b : Bs K cl z S') (f : Fm y.cn z) : Sim K cl xa C z σ ρ S' :=
  ⟨b, s.fm.trans f, s.len, fun i w e => by
    obtain ⟨v, h1, h2⟩ := s.slot i w e
    exact ⟨v, h1, h2.grow f.gr⟩⟩
theorem Bs.rebase (b : Bs K cl y S) (len : σ.length = ρ.length) (slot : ∀ (i : Nat) (w : W), ρ[i]? = some (some w) → ∃ v, σ[i]? = some (some v) ∧ RS K cl y xa i w v) : Sim K cl xa y.cn y σ ρ S := ⟨b, Fm.start y, len, slot⟩
theorem Sim.rebase (s : Sim K cl xa C y σ ρ S) : Sim K cl xa y.cn y σ ρ S := ⟨s.bs, Fm.start y, s.len, s.slot⟩
end

/-! ### exceptions -/
def XR (K : PySem.W.Frag) (cl : Str → Option Addr) (y : Y) (x : Exn) (cls : Value) (dd : Option Addr) : Prop :=
  ∃ C, cl x.c = some C ∧ cls = .ref C ∧ ((x.fs = [] ∧ dd = none) ∨ (x.fs ≠ [] ∧ ∃ d vs, dd = some d ∧ y.F d = some (.xd (x.fs.zip vs)) ∧ x.fs.length = vs.length ∧ RWL K cl y x.ws vs))
theorem XR.grow {K : PySem.W.Frag} {cl : Str → Option Addr} {y z : Y} {x : Exn} {cls : Value} {dd : Option Addr} (g : Gr y z) (h : XR K cl y x cls dd) : XR K cl z x cls dd := by
  obtain ⟨C, h1, h2, h3⟩ := h
  refine ⟨C, h1, h2, h3.imp id ?_⟩
  rintro ⟨h4, d, vs, h5, h6, h7, h8⟩
  exact ⟨h4, d, vs, h5, g.f d _ h6, h7, RWL.grow g h8⟩

/-! ### the judgements over readings -/
def Post {a : Type} (K : PySem.W.Frag) (cl : Str → Option Addr) (xa : Option (Nat × Addr)) (C : Cn) (Wx : WX) (y : Y) (σ : St) (ρ : Rho) (r : Rs a) (P : a → Sto → Prop) : Prop := match r with
  | .ok w S => P w S
  | .ex x S => ∀ cls dd z, Sim K cl xa C z σ ρ S → Gr y z → XR K cl z x cls dd → Wx cls dd σ z.H
  | .stuck => False
section
variable {a b : Type} {K : PySem.W.Frag} {cl : Str → Option Addr} {xa : Option (Nat × Addr)} {C : Cn} {Wx : WX} {y z : Y} {σ : St} {ρ : Rho} {r : Rs a} {P P' : a → Sto → Prop}
theorem Post.bind {k : a → Sto → Rs b} {P : b → Sto → Prop} (h : Post K cl xa C Wx y σ ρ (r.bind k) P) : Post K cl xa C Wx y σ ρ r (fun w S => Post K cl xa C Wx y σ ρ (k w S) P) := by
  cases r <;> exact h
theorem Post.imp (h : Post K cl xa C Wx y σ ρ r P) (k : ∀ w S, P w S → P' w S) : Post K cl xa C Wx y σ ρ r P' := by
  cases r with
  | ok w S => exact k w S h
  | ex x S => exact h
  | stuck => exact h
theorem Post.mono (x : Gr y z) (h : Post K cl xa C Wx y σ ρ r P) : Post K cl xa C Wx z σ ρ r P := by
  cases r with
  | ok w S => exact h
  | ex e S => exact fun cls dd z2 s g q => h cls dd z2 s (x.trans g) q
  | stuck => exact h
/-- on: with what is known behind -/
theorem Post.go {k : a → Sto → Rs b} {P : b → Sto → Prop} (h : Post K cl xa C Wx y σ ρ (r.bind k) P) (f : ∀ w S, (∀ z, Gr y z → Post K cl xa C Wx z σ ρ (k w S) P) → P' w S) : Post K cl xa C Wx y σ ρ r P' :=
  Post.imp (Post.bind h) fun w S q => f w S fun _ g => q.mono g
end
abbrev OkE (K : PySem.W.Frag) (cl : Str → Option Addr) (xa : Option (Nat × Addr)) (C : Cn) (y : Y) (σ : St) (ρ : Rho) (Q : VK) : W → Sto → Prop := fun w S => ∀ v z, Sim K cl xa C z σ ρ S → Gr y z → RW K cl z w v → Q v z.H
abbrev OkA (K : PySem.W.Frag) (cl : Str → Option Addr) (xa : Option (Nat × Addr)) (C : Cn) (y : Y) (σ : St) (ρ : Rho) (Q : List V → Hp → Prop) : List W → Sto → Prop := fun ws S => ∀ vs z, Sim K cl xa C z σ ρ S → Gr y z → RWL K cl z ws vs → Q vs z.H
abbrev OkT (K : PySem.W.Frag) (cl : Str → Option Addr) (xa : Option (Nat × Addr)) (C : Cn) (y : Y) (σ : St) (ρ : Rho) (Q : Bool → Hp → Prop) : Bool → Sto → Prop := fun b S => ∀ z, Sim K cl xa C z σ ρ S → Gr y z → Q b z.H
def SE (K : PySem.W.Frag) (cl : Str → Option Addr) (xa : Option (Nat × Addr)) (Wx : WX) (te : TE) (m : ME) : Prop := ∀ C y σ ρ S, Sim K cl xa C y σ ρ S → ∀ Q, Post K cl xa C Wx y σ ρ (m ρ S) (OkE K cl xa C y σ ρ Q) → te σ y.H Q
def SA (K : PySem.W.Frag) (cl : Str → Option Addr) (xa : Option (Nat × Addr)) (Wx : WX) (ta : TA) (m : MA) : Prop := ∀ C y σ ρ S, Sim K cl xa C y σ ρ S → ∀ Q, Post K cl xa C Wx y σ ρ (m ρ S) (OkA K cl xa C y σ ρ Q) → ta σ y.H Q
def ST (K : PySem.W.Frag) (cl : Str → Option Addr) (xa : Option (Nat × Addr)) (Wx : WX) (tt : TT) (m : MT) : Prop := ∀ C y σ ρ S, Sim K cl xa C y σ ρ S → ∀ Q, Post K cl xa C Wx y σ ρ (m ρ S) (OkT K cl xa C y σ ρ Q) → tt σ y.H Q
def PostS (K : PySem.W.Frag) (cl : Str → Option Addr) (xa : Option (Nat × Addr)) (C : Cn) (Wx : WX) (y : Y) (r : Out) (Z : Ends) : Prop := match r with
  | .nx ρ S => ∀ σ' z, Sim K cl xa C z σ' ρ S → Gr y z → Z.nx σ' z.H
  | .rt w S => ∀ v σ' ρ' z, Sim K cl xa C z σ' ρ' S → Gr y z → RW K cl z w v → Z.rt v z.H
  | .bk ρ S => ∀ σ' z, Sim K cl xa C z σ' ρ S → Gr y z → Z.bk σ' z.H
  | .ct ρ S => ∀ σ' z, Sim K cl xa C z σ' ρ S → Gr y z → Z.ct σ' z.H
  | .ex x ρ S => ∀ cls dd σ' z, Sim K cl xa C z σ' ρ S → Gr y z → XR K cl z x cls dd → Wx cls dd σ' z.H
  | .stuck => False
theorem PostS.mono {K : PySem.W.Frag} {cl : Str → Option Addr} {xa : Option (Nat × Addr)} {C : Cn} {Wx : WX} {y z : Y} {r : Out} {Z : Ends} (x : Gr y z) (h : PostS K cl xa C Wx y r Z) : PostS K cl xa C Wx z r Z := by
  cases r with
  | nx ρ S => exact fun a b c d => h a b c (x.trans d)
  | rt w S => exact fun v a r b c d e => h v a r b c (x.trans d) e
  | bk ρ S => exact fun a b c d => h a b c (x.trans d)
  | ct ρ S => exact fun a b c d => h a b c (x.trans d)
  | ex e ρ S => exact fun c1 c2 a b c d k => h c1 c2 a b c (x.trans d) k
  | stuck => exact h
def Rs.out {a : Type} (r : Rs a) (ρ : Rho) (k : a → Sto → Out) : Out := match r with
  | .ok w S => k w S
  | .ex x S => .ex x ρ S
  | .stuck => .stuck
theorem PostS.go {a : Type} {K : PySem.W.Frag} {cl : Str → Option Addr} {xa : Option (Nat × Addr)} {C : Cn} {Wx : WX} {y : Y} {σ : St} {ρ : Rho} {r : Rs a} {k : a → Sto → Out} {Z : Ends} {P : a → Sto → Prop}
    (h : PostS K cl xa C Wx y (r.out ρ k) Z) (f : ∀ w S, (∀ z, Gr y z → PostS K cl xa C Wx z (k w S) Z) → P w S) : Post K cl xa C Wx y σ ρ r P := by
  cases r with
  | ok w S => exact f w S fun z x => PostS.mono x h
  | ex x S => exact fun cls dd z s g q => h cls dd σ z s g q
  | stuck => exact h
def SS (K : PySem.W.Frag) (cl : Str → Option Addr) (xa : Option (Nat × Addr)) (Wx : WX) (ts : TS) (m : MS) : Prop := ∀ C y σ ρ S, Sim K cl xa C y σ ρ S → ∀ Z, PostS K cl xa C Wx y (m ρ S) Z → ts Z σ y.H

/-! ### fused: a piece of syntax and its plain meaning -/
def QE (X : Cx) (cl : Str → Option Addr) (xa : Option (Nat × Addr)) (Wx : WX) (e : Expr) (m : ME) : Prop := ∃ te, PE X e te ∧ SE X.K cl xa Wx te m
def QA (X : Cx) (cl : Str → Option Addr) (xa : Option (Nat × Addr)) (Wx : WX) (es : List Expr) (m : MA) : Prop := ∃ ta, PA X es ta ∧ SA X.K cl xa Wx ta m
def QT (X : Cx) (cl : Str → Option Addr) (xa : Option (Nat × Addr)) (Wx : WX) (e : Expr) (m : MT) : Prop := ∃ tt, PT X e tt ∧ ST X.K cl xa Wx tt m
def QW (X : Cx) (cl : Str → Option Addr) (xa : Option (Nat × Addr)) (Wx : WX) (e : Expr) (m : MT) : Prop := ∃ tt, PW X e tt ∧ ST X.K cl xa Wx tt m
def QS (X : Cx) (cl : Str → Option Addr) (xa : Option (Nat × Addr)) (Wx : WX) (st : Stmt) (m : MS) : Prop := ∃ ts, PS X st ts ∧ SS X.K cl xa Wx ts m
def QB (X : Cx) (cl : Str → Option Addr) (xa : Option (Nat × Addr)) (Wx : WX) (st : List Stmt) (m : MS) : Prop := ∃ ts, PSs X st ts ∧ SS X.K cl xa Wx ts m

/-! ### cells made, changed, frozen -/
section
variable {K : PySem.W.Frag} {cl : Str → Option Addr} {xa : Option (Nat × Addr)} {C : Cn} {y : Y} {σ : St} {ρ : Rho} {S : Sto}
theorem nd_ix {ms : List Addr} (h : ms.Nodup) {i j : Nat} {a : Addr} (e1 : ms[i]? = some a) (e2 : ms[j]? = some a) : i = j := by
  obtain ⟨h1, q1⟩ := List.getElem?_eq_some_iff.mp e1
  obtain ⟨h2, q2⟩ := List.getElem?_eq_some_iff.mp e2
  exact (List.getElem_inj h).mp (q1.trans q2.symm)
def Y.new (y : Y) (p : Addr) (o : HO) : Y := ⟨y.F, upd y.H p o, y.m ++ [p]⟩
def Y.up (y : Y) (p : Addr) (o : HO) : Y := ⟨y.F, upd y.H p o, y.m⟩
def Y.fz (y : Y) (p : Addr) (o : HO) : Y := ⟨upd y.F p o, y.H, y.m⟩
theorem Y.gr_new (y : Y) (p : Addr) (o : HO) : Gr y (y.new p o) := ⟨Ex.refl _, List.prefix_append _ _⟩
theorem Sim.newCell (s : Sim K cl xa C y σ ρ S) {p : Addr} {o : HO} {c : Cell} (hp : y.H p = none) (hc : CellR K cl (y.new p o) p c) : Sim K cl xa C (y.new p o) σ ρ (S ++ [c]) := by
  have ne : ∀ a ∈ y.m, a ≠ p := fun a ha e => s.bs.has a ha (by rw [e]; exact hp)
  have ex : Ex y.H (upd y.H p o) := Ex.new hp
  have g := y.gr_new p o
  refine ⟨⟨s.bs.fz.trans ex, by simp [Y.new, s.bs.len], ?_, ?_, ?_⟩, ⟨s.fm.hf, fun b u e n => ex b u (s.fm.keep b u e n), fun b e => ?_, s.fm.newF, fun a ha => ?_, s.fm.pre.trans g.m⟩, s.len, fun i w e => ?_⟩
  · show (y.m ++ [p]).Nodup
    rw [List.nodup_append]
    exact ⟨s.bs.nd, by simp, fun a ha b hb => by simp at hb; subst hb; exact ne a ha⟩
  · intro a ha
    show upd y.H p o a ≠ none
    rcases List.mem_append.mp ha with h | h
    · rw [upd_ne (ne a h)]; exact s.bs.has a h
    · simp at h; subst h; rw [upd_same]; simp
  · intro n c' e d
    by_cases hn : n < S.length
    · rw [List.getElem?_append_left hn] at e
      obtain ⟨a, e1, e2, e3⟩ := s.bs.cell n c' e d
      exact ⟨a, pre_get g.m e1, e2, CellR.grow g (fun u z => ex a u z) e3⟩
    · have hl : n = S.length := by
        have := (List.getElem?_eq_some_iff.mp e).1
        simp at this; omega
      subst hl
      rw [List.getElem?_append_right (Nat.le_refl _)] at e
      simp at e
      subst e
      exact ⟨p, by show (y.m ++ [p])[S.length]? = some p; rw [← s.bs.len, List.getElem?_append_right (Nat.le_refl _)]; simp, .inl (s.bs.fz.no hp), hc⟩
  · refine s.fm.dom b ?_
    cases z : y.H b with
    | none => rfl
    | some u => rw [show (y.new p o).H b = some u from ex b u z] at e; cases e
  · rcases List.mem_append.mp ha with h | h
    · exact s.fm.newC a h
    · simp at h; subst h; exact .inr (s.fm.dom a hp)
  · obtain ⟨v, e1, e2⟩ := s.slot i w e
    exact ⟨v, e1, e2.grow g⟩
theorem Sim.upCell (s : Sim K cl xa C y σ ρ S) {n : Nat} {a : Addr} {o : HO} {c c' : Cell} (e : S[n]? = some c) (hl : c ≠ .dead) (ea : y.m[n]? = some a) (hc : CellR K cl (y.up a o) a c') (hnt : ∀ ws, c ≠ .tup ws := by intro ws z; cases z) : Sim K cl xa C (y.up a o) σ ρ (S.set n c') := by
  obtain ⟨a', e1, e2, e3⟩ := s.bs.cell n c e hl
  have e2 : y.F a' = none := e2.elim id fun ⟨ws, z⟩ => absurd z (hnt ws)
  rw [ea] at e1; cases e1
  have ham : a ∈ y.m := List.mem_of_getElem? ea
  have neF : ∀ b o, y.F b = some o → b ≠ a := fun b o h z => by rw [z, e2] at h; cases h
  have hn : n < S.length := (List.getElem?_eq_some_iff.mp e).1
  have g : Gr y (y.up a o) := ⟨Ex.refl _, List.prefix_refl _⟩
  refine ⟨⟨fun b u h => ?_, by simp [Y.up, s.bs.len], s.bs.nd, fun b hb => ?_, fun k d ek hd => ?_⟩, ⟨s.fm.hf, fun b u h1 h2 => ?_, fun b h => ?_, s.fm.newF, s.fm.newC, s.fm.pre⟩, s.len, fun i w e => ?_⟩
  · show upd y.H a o b = some u
    rw [upd_ne (neF b u h)]; exact s.bs.fz b u h
  · show upd y.H a o b ≠ none
    by_cases z : b = a
    · subst z; rw [upd_same]; simp
    · rw [upd_ne z]; exact s.bs.has b hb
  · by_cases z : n = k
    · subst z
      rw [List.getElem?_set_self hn] at ek
      cases ek
      exact ⟨a, ea, .inl e2, hc⟩
    · rw [List.getElem?_set_ne z] at ek
      obtain ⟨b, f1, f2, f3⟩ := s.bs.cell k d ek hd
      have nb : b ≠ a := fun q => z (nd_ix s.bs.nd ea (by rw [← q]; exact f1))
      exact ⟨b, f1, f2, CellR.grow g (fun u q => by show upd y.H a o b = some u; rw [upd_ne nb]; exact q) f3⟩
  · have nb : b ≠ a := fun q => by
      subst q
      rcases s.fm.newC b ham with z | z
      · exact h2 z
      · rw [z] at h1; cases h1
    show upd y.H a o b = some u
    rw [upd_ne nb]; exact s.fm.keep b u h1 h2
  · have h' : upd y.H a o b = none := h
    by_cases z : b = a
    · subst z; rw [upd_same] at h'; cases h'
    · rw [upd_ne z] at h'; exact s.fm.dom b h'
  · obtain ⟨v, e1, e2⟩ := s.slot i w e
    exact ⟨v, e1, e2.grow g⟩
/-- a cell is frozen: its object joins the frozen part -/
theorem Sim.frz (s : Sim K cl xa C y σ ρ S) {n : Nat} {a : Addr} {o : HO} {c : Cell} (e : S[n]? = some c) (hl : c ≠ .dead) (ea : y.m[n]? = some a) (ho : y.H a = some o) : Sim K cl xa C (y.fz a o) σ ρ (S.set n .dead) ∧ Gr y (y.fz a o) := by
  obtain ⟨a', e1, e2, e3⟩ := s.bs.cell n c e hl
  rw [ea] at e1; cases e1
  have ham : a ∈ y.m := List.mem_of_getElem? ea
  have ex : Ex y.F (upd y.F a o) := Ex.put s.bs.fz ho
  have g : Gr y (y.fz a o) := ⟨ex, List.prefix_refl _⟩
  have hn : n < S.length := (List.getElem?_eq_some_iff.mp e).1
  refine ⟨⟨⟨fun b u h => ?_, by simp [Y.fz, s.bs.len], s.bs.nd, s.bs.has, fun k d ek hd => ?_⟩, ⟨s.fm.hf.trans ex, s.fm.keep, s.fm.dom, fun b u h => ?_, s.fm.newC, s.fm.pre⟩, s.len, fun i w h => ?_⟩, g⟩
  · have h' : upd y.F a o b = some u := h
    by_cases z : b = a
    · subst z; rw [upd_same] at h'; cases h'; exact ho
    · rw [upd_ne z] at h'; exact s.bs.fz b u h'
  · by_cases z : n = k
    · subst z
      rw [List.getElem?_set_self hn] at ek
      cases ek
      exact absurd rfl hd
    · rw [List.getElem?_set_ne z] at ek
      obtain ⟨b, f1, f2, f3⟩ := s.bs.cell k d ek hd
      have nb : b ≠ a := fun q => z (nd_ix s.bs.nd ea (by rw [← q]; exact f1))
      exact ⟨b, f1, f2.imp (fun q => by show upd y.F a o b = none; rw [upd_ne nb]; exact q) id, CellR.grow g (fun u q => q) f3⟩
  · have h' : upd y.F a o b = some u := h
    by_cases z : b = a
    · subst z
      rcases s.fm.newC b ham with q | q
      · exact .inr (.inr (.inl q))
      · exact .inr (.inl q)
    · rw [upd_ne z] at h'; exact s.fm.newF b u h'
  · obtain ⟨v, h1, h2⟩ := s.slot i w h
    exact ⟨v, h1, h2.grow g⟩
theorem Sim.set (s : Sim K cl xa C y σ ρ S) {w : W} {v : V} (i : Nat) (r : RW K cl y w v) : Sim K cl xa C y (σ.set i (some v)) (ρ.set i (some w)) S :=
  ⟨s.bs, s.fm, by rw [List.length_set, List.length_set]; exact s.len, fun j u e => by
    by_cases h : i = j
    · subst h
      by_cases hl : i < ρ.length
      · rw [List.getElem?_set_self hl] at e
        cases e
        exact ⟨v, List.getElem?_set_self (by rw [s.len]; exact hl), r.rs⟩
      · rw [List.getElem?_eq_none (by rw [List.length_set]; omega)] at e
        cases e
    · rw [List.getElem?_set_ne h] at e
      obtain ⟨u', e1, e2⟩ := s.slot j u e
      exact ⟨u', by rw [List.getElem?_set_ne h]; exact e1, e2⟩⟩
theorem Bs.at (b : Bs K cl y S) {n : Nat} {c : Cell} {a : Addr} (e : S[n]? = some c) (hl : c ≠ .dead) (ea : y.m[n]? = some a) : (y.F a = none ∨ ∃ ws, c = .tup ws) ∧ CellR K cl y a c := by
  obtain ⟨a', e1, e2, e3⟩ := b.cell n c e hl
  rw [ea] at e1; cases e1
  exact ⟨e2, e3⟩
end

/-! ### cells as data -/
def dat : W → Option D
  | .da d => some d
  | _ => none
def dats : List W → Option (List D)
  | [] => some []
  | .da d :: ws => match dats ws with
    | some ds => some (d :: ds)
    | none => none
  | _ :: _ => none
/-- what a cell is worth when it is frozen -/
def datC : Cell → Option D
  | .lst ws => (dats ws).map .lst
  | .tup ws => (dats ws).map .tup
  | .ins c fws => (dats (fws.map (·.2))).map (.obj c (fws.map (·.1)))
  | _ => none
section
variable {K : PySem.W.Frag} {cl : Str → Option Addr} {y : Y}
theorem dats_ok : ∀ {ws : List W} {vs : List V} {ds : List D}, RWL K cl y ws vs → dats ws = some ds → RpL K cl y.F ds vs
  | [], _, ds, .nil, h => by cases h; exact rfl
  | .da d :: ws, _, ds, .cons r1 r2, h => by
    simp only [dats] at h
    split at h
    · rename_i ds' e
      cases h
      exact ⟨_, _, rfl, r1, dats_ok r2 e⟩
    · cases h
  | .lo n :: ws, _, ds, .cons r1 r2, h => by simp [dats] at h
  | .xc :: ws, _, ds, .cons r1 r2, h => by simp [dats] at h
theorem rwl_da : ∀ {ds : List D} {vs : List V}, RpL K cl y.F ds vs → RWL K cl y (ds.map .da) vs
  | [], vs, h => by cases (show vs = [] from h); exact .nil
  | d :: ds, vs, h => by
    obtain ⟨v, r, rfl, q, t⟩ := h
    exact .cons q (rwl_da t)
theorem dats_da : ∀ ds : List D, dats (ds.map .da) = some ds
  | [] => rfl
  | d :: ds => by simp [dats, dats_da ds]
theorem rwp_zip {κ : Type} : ∀ {kws : List (κ × W)} {kvs : List (κ × V)}, RWP K cl y kws kvs → RWL K cl y (kws.map (·.2)) (kvs.map (·.2)) ∧ kvs = (kws.map (·.1)).zip (kvs.map (·.2))
  | _, _, .nil => ⟨.nil, rfl⟩
  | (k, w) :: kws, (k', v) :: kvs, .cons h t => by
    obtain ⟨h1, h2⟩ := rwp_zip t
    obtain ⟨e, r⟩ := h
    cases (show k = k' from e)
    refine ⟨.cons r h1, ?_⟩
    simp only [List.map_cons, List.zip_cons_cons]
    rw [← h2]
theorem datC_ok {a : Addr} {c : Cell} {d : D} (h : CellR K cl y a c) (e : datC c = some d) : ∃ o, y.H a = some o ∧ c ≠ .dead ∧ ∀ F', Ex y.F F' → F' a = some o → Rp K cl F' d (.ref a) := by
  cases c with
  | lst ws =>
    obtain ⟨vs, h1, h2⟩ := h
    simp only [datC, Option.map_eq_some_iff] at e
    obtain ⟨ds, q, rfl⟩ := e
    exact ⟨_, h1, (by intro z; cases z), fun F' x e => ⟨a, vs, rfl, e, RpL.xt x _ _ (dats_ok h2 q)⟩⟩
  | tup ws =>
    obtain ⟨vs, h1, h2⟩ := h
    simp only [datC, Option.map_eq_some_iff] at e
    obtain ⟨ds, q, rfl⟩ := e
    exact ⟨_, h1, (by intro z; cases z), fun F' x e => ⟨a, vs, rfl, e, RpL.xt x _ _ (dats_ok h2 q)⟩⟩
  | dk kws => cases e
  | dt kws => cases e
  | ins c fws =>
    obtain ⟨C, dx, fvs, h0, h1, h2⟩ := h
    simp only [datC, Option.map_eq_some_iff] at e
    obtain ⟨ds, q, rfl⟩ := e
    obtain ⟨z1, z2⟩ := rwp_zip h2
    refine ⟨_, h1, (by intro z; cases z), fun F' x e => ⟨a, C, dx, fvs.map (·.2), rfl, h0, ?_, ?_, RpL.xt x _ _ (dats_ok z1 q)⟩⟩
    · rw [← z2]; exact e
    · rw [List.length_map, List.length_map]; exact Paired.length h2
  | dead => cases e
end
/-! ### dicts that are locked for good -/
inductive Lks (Q : Hp → Prop) : Hp → Prop
  | now {H : Hp} : Q H → Lks Q H
  | lock {H : Hp} (d : Addr) (u : HO) : H d = some u → Mut (some u) → (∀ od, Lks Q (upd H d (.frz od u))) → Lks Q H
theorem Lks.run {X : Cx} {pins : List (Addr × Obj)} {σ : St} {s : Shared} {Q : Hp → Prop} : ∀ {H : Hp}, Lks Q H → Inv X pins σ H s → ∃ H', Inv X pins σ H' s ∧ Q H' := by
  intro H h
  induction h with
  | now q => exact fun I => ⟨_, I, q⟩
  | lock d u hd mu _ ih =>
    intro I
    obtain ⟨od, I1⟩ := I.lock hd mu
    exact ih od I1
/-- things are locked behind an expression -/
def tLk (t : TE) : TE := fun σ H Q => t σ H fun v H1 => Lks (Q v) H1
theorem pe_lk {X : Cx} {e : Expr} {t : TE} (h : PE X e t) : PE X e (tLk t) := by
  refine ⟨fun pins s σ H Q I hw => ?_⟩
  refine thn (h.run pins s σ _ _ I hw) fun v s1 ⟨x, H1, I1, r, q⟩ => ?_
  obtain ⟨H2, I2, q2⟩ := q.run I1
  exact ⟨x, H2, I2, r, q2⟩
section
variable {K : PySem.W.Frag} {cl : Str → Option Addr} {xa : Option (Nat × Addr)} {C : Cn} {y : Y} {σ : St} {ρ : Rho} {S : Sto}
def Y.lk (y : Y) (p : Addr) (o : HO) : Y := ⟨upd y.F p o, upd y.H p o, y.m⟩
/-- a cell is locked and frozen -/
theorem Sim.lkd (s : Sim K cl xa C y σ ρ S) {n : Nat} {a : Addr} {o : HO} {c : Cell} (e : S[n]? = some c) (hl : c ≠ .dead) (ea : y.m[n]? = some a) (hnt : ∀ ws, c ≠ .tup ws := by intro ws z; cases z) : Sim K cl xa C (y.lk a o) σ ρ (S.set n .dead) ∧ Gr y (y.lk a o) := by
  obtain ⟨a', e1, e2, e3⟩ := s.bs.cell n c e hl
  rw [ea] at e1; cases e1
  have e2 : y.F a = none := e2.elim id fun ⟨ws, z⟩ => absurd z (hnt ws)
  have ham : a ∈ y.m := List.mem_of_getElem? ea
  have ex : Ex y.F (upd y.F a o) := Ex.new e2
  have g : Gr y (y.lk a o) := ⟨ex, List.prefix_refl _⟩
  have neF : ∀ b o, y.F b = some o → b ≠ a := fun b o h z => by rw [z, e2] at h; cases h
  have hn : n < S.length := (List.getElem?_eq_some_iff.mp e).1
  refine ⟨⟨⟨fun b u h => ?_, by simp [Y.lk, s.bs.len], s.bs.nd, fun b hb => ?_, fun k d ek hd => ?_⟩, ⟨s.fm.hf.trans ex, fun b u h1 h2 => ?_, fun b h => ?_, fun b u h => ?_, s.fm.newC, s.fm.pre⟩, s.len, fun i w h => ?_⟩, g⟩
  · have h' : upd y.F a o b = some u := h
    show upd y.H a o b = some u
    by_cases z : b = a
    · subst z; rw [upd_same] at h' ⊢; exact h'
    · rw [upd_ne z] at h' ⊢; exact s.bs.fz b u h'
  · show upd y.H a o b ≠ none
    by_cases z : b = a
    · subst z; rw [upd_same]; simp
    · rw [upd_ne z]; exact s.bs.has b hb
  · by_cases z : n = k
    · subst z
      rw [List.getElem?_set_self hn] at ek
      cases ek
      exact absurd rfl hd
    · rw [List.getElem?_set_ne z] at ek
      obtain ⟨b, f1, f2, f3⟩ := s.bs.cell k d ek hd
      have nb : b ≠ a := fun q => z (nd_ix s.bs.nd ea (by rw [← q]; exact f1))
      exact ⟨b, f1, f2.imp (fun q => by show upd y.F a o b = none; rw [upd_ne nb]; exact q) id, CellR.grow g (fun u q => by show upd y.H a o b = some u; rw [upd_ne nb]; exact q) f3⟩
  · have nb : b ≠ a := fun q => by
      subst q
      rcases s.fm.newC b ham with z | z
      · exact h2 z
      · rw [z] at h1; cases h1
    show upd y.H a o b = some u
    rw [upd_ne nb]; exact s.fm.keep b u h1 h2
  · have h' : upd y.H a o b = none := h
    by_cases z : b = a
    · subst z; rw [upd_same] at h'; cases h'
    · rw [upd_ne z] at h'; exact s.fm.dom b h'
  · have h' : upd y.F a o b = some u := h
    by_cases z : b = a
    · subst z
      rcases s.fm.newC b ham with q | q
      · exact .inr (.inr (.inl q))
      · exact .inr (.inl q)
    · rw [upd_ne z] at h'; exact s.fm.newF b u h'
  · obtain ⟨v, h1, h2⟩ := s.slot i w h
    exact ⟨v, h1, h2.grow g⟩
end
/-! ### all that hangs at a place, frozen -/
mutual
def datW : Nat → Sto → W → Option (D × Sto)
  | _, S, .da d => some (d, S)
  | 0, _, _ => none
  | _ + 1, _, .xc => none
  | k + 1, S, .lo n => match S[n]? with
    | some (.lst ws) => match datWs k (S.set n .dead) ws with
      | some (ds, S') => some (.lst ds, S')
      | none => none
    | some (.tup ws) => match datWs k (S.set n .dead) ws with
      | some (ds, S') => some (.tup ds, S')
      | none => none
    | some (.dk kws) => match datWs k (S.set n .dead) (kws.map (·.2)) with
      | some (ds, S') => some (.dk (kws.map (·.1)) ds, S')
      | none => none
    | some (.dt kws) => match datWs k (S.set n .dead) (kws.map (·.2)) with
      | some (ds, S') => some (.dt (kws.map (·.1)) ds, S')
      | none => none
    | some (.ins c fws) => match datWs k (S.set n .dead) (fws.map (·.2)) with
      | some (ds, S') => some (.obj c (fws.map (·.1)) ds, S')
      | none => none
    | _ => none
def datWs : Nat → Sto → List W → Option (List D × Sto)
  | _, S, [] => some ([], S)
  | k, S, w :: ws => match datW k S w with
    | some (d, S') => match datWs k S' ws with
      | some (ds, S'') => some (d :: ds, S'')
      | none => none
    | none => none
end
section
variable {K : PySem.W.Frag} {cl : Str → Option Addr} {xa : Option (Nat × Addr)} {C : Cn} {σ : St} {ρ : Rho}
/-- what freezing promises -/
abbrev FzG (K : PySem.W.Frag) (cl : Str → Option Addr) (xa : Option (Nat × Addr)) (C : Cn) (σ : St) (ρ : Rho) (y : Y) (S' : Sto) (R : Hp → Prop) : Prop := ∀ Q : Hp → Prop, (∀ z, Sim K cl xa C z σ ρ S' → Gr y z → R z.F → Lks Q z.H) → Lks Q y.H
theorem datWs_of {k : Nat} (ih : ∀ (y : Y) (S : Sto) (w : W) (v : V) (d : D) (S' : Sto), Sim K cl xa C y σ ρ S → RW K cl y w v → datW k S w = some (d, S') → FzG K cl xa C σ ρ y S' fun F => Rp K cl F d v) :
    ∀ (ws : List W) (vs : List V) (y : Y) (S : Sto) (ds : List D) (S' : Sto), Sim K cl xa C y σ ρ S → RWL K cl y ws vs → datWs k S ws = some (ds, S') → FzG K cl xa C σ ρ y S' fun F => RpL K cl F ds vs
  | [], _, y, S, ds, S', s, .nil, e => by
    unfold datWs at e
    cases e
    exact fun Q q => q y s (Gr.refl _) rfl
  | w :: ws, _, y, S, ds, S', s, .cons r rs, e => by
    unfold datWs at e
    split at e
    · rename_i d S1 e1
      split at e
      · rename_i ds1 S2 e2
        cases e
        refine fun Q q => ih y S w _ d S1 s r e1 Q fun z s1 g1 r1 => ?_
        refine datWs_of ih ws _ z S1 ds1 S' s1 (RWL.grow g1 rs) e2 Q fun z2 s2 g2 r2 => ?_
        exact q z2 s2 (g1.trans g2) ⟨_, _, rfl, Rp.xt g2.f _ _ r1, r2⟩
      · cases e
    · cases e
/-- the cell itself is frozen first, then all that hangs at it -/
theorem datW_ok : ∀ (k : Nat) (y : Y) (S : Sto) (w : W) (v : V) (d : D) (S' : Sto), Sim K cl xa C y σ ρ S → RW K cl y w v → datW k S w = some (d, S') → FzG K cl xa C σ ρ y S' fun F => Rp K cl F d v := by
  intro k
  induction k with
  | zero =>
    intro y S w v d S' s r e
    cases w with
    | da d' => simp only [datW] at e; cases e; exact fun Q q => q y s (Gr.refl _) r
    | lo n => simp [datW] at e
    | xc => simp [datW] at e
  | succ k ih =>
    intro y S w v d S' s r e
    cases w with
    | da d' => simp only [datW] at e; cases e; exact fun Q q => q y s (Gr.refl _) r
    | xc => simp [datW] at e
    | lo n =>
      obtain ⟨a, ea, rfl⟩ := r
      unfold datW at e
      split at e
      · rename_i ws hc
        split at e
        · rename_i ds S1 e1
          cases e
          obtain ⟨_, vs, ho, hr⟩ := s.bs.at hc (by intro z; cases z) ea
          obtain ⟨s1, g1⟩ := s.frz hc (by intro z; cases z) ea ho
          refine fun Q q => datWs_of ih ws vs _ _ ds S' s1 (RWL.grow g1 hr) e1 Q fun z s2 g2 r2 => ?_
          exact q z s2 (g1.trans g2) ⟨a, vs, rfl, g2.f a _ upd_same, r2⟩
        · cases e
      · rename_i ws hc
        split at e
        · rename_i ds S1 e1
          cases e
          obtain ⟨_, vs, ho, hr⟩ := s.bs.at hc (by intro z; cases z) ea
          obtain ⟨s1, g1⟩ := s.frz hc (by intro z; cases z) ea ho
          refine fun Q q => datWs_of ih ws vs _ _ ds S' s1 (RWL.grow g1 hr) e1 Q fun z s2 g2 r2 => ?_
          exact q z s2 (g1.trans g2) ⟨a, vs, rfl, g2.f a _ upd_same, r2⟩
        · cases e
      · rename_i kws hc
        split at e
        · rename_i ds S1 e1
          cases e
          obtain ⟨_, kvs, ho, hr⟩ := s.bs.at hc (by intro z; cases z) ea
          refine fun Q q => .lock a _ ho trivial fun od => ?_
          obtain ⟨s1, g1⟩ := s.lkd (o := .frz od (.dK kvs)) hc (by intro z; cases z) ea
          obtain ⟨z1, z2⟩ := rwp_zip (RWP.grow g1 hr)
          refine datWs_of ih _ _ _ _ ds S' s1 z1 e1 Q fun z s2 g2 r2 => ?_
          refine q z s2 (g1.trans g2) ⟨a, kvs.map (·.2), rfl, ⟨od, ?_⟩, ?_, r2⟩
          · rw [← z2]; exact g2.f a _ upd_same
          · rw [List.length_map, List.length_map]; exact Paired.length hr
        · cases e
      · rename_i kws hc
        split at e
        · rename_i ds S1 e1
          cases e
          obtain ⟨_, kvs, ho, hr⟩ := s.bs.at hc (by intro z; cases z) ea
          refine fun Q q => .lock a _ ho trivial fun od => ?_
          obtain ⟨s1, g1⟩ := s.lkd (o := .frz od (.dT kvs)) hc (by intro z; cases z) ea
          obtain ⟨z1, z2⟩ := rwp_zip (RWP.grow g1 hr)
          refine datWs_of ih _ _ _ _ ds S' s1 z1 e1 Q fun z s2 g2 r2 => ?_
          refine q z s2 (g1.trans g2) ⟨a, kvs.map (·.2), rfl, ⟨od, ?_⟩, ?_, r2⟩
          · rw [← z2]; exact g2.f a _ upd_same
          · rw [List.length_map, List.length_map]; exact Paired.length hr
        · cases e
      · rename_i c fws hc
        split at e
        · rename_i ds S1 e1
          cases e
          obtain ⟨_, CC, dx, kvs, h0, ho, hr⟩ := s.bs.at hc (by intro z; cases z) ea
          obtain ⟨s1, g1⟩ := s.frz hc (by intro z; cases z) ea ho
          obtain ⟨z1, z2⟩ := rwp_zip (RWP.grow g1 hr)
          refine fun Q q => datWs_of ih _ _ _ _ ds S' s1 z1 e1 Q fun z s2 g2 r2 => ?_
          refine q z s2 (g1.trans g2) ⟨a, CC, dx, kvs.map (·.2), rfl, h0, ?_, ?_, r2⟩
          · rw [← z2]; exact g2.f a _ upd_same
          · rw [List.length_map, List.length_map]; exact Paired.length hr
        · cases e
      · cases e
end
end Ng
namespace Ng
open PySem L2

/-! ### plain meanings -/
def lift (o : Option W) (S : Sto) : Rs W := match o with
  | some w => .ok w S
  | none => .stuck
def mkC (o : Option Cell) (S : Sto) : Rs W := match o with
  | some c => .ok (.lo S.length) (S ++ [c])
  | none => .stuck
def mkD (o : Option Cell) (S : Sto) : Rs W := match o with
  | some c => match datC c with
    | some d => .ok (.da d) S
    | none => .stuck
  | none => .stuck
def vl1 (f : W → Sto → Option W) : W → Sto → Rs W := fun x S => lift (f x S) S
def vl2 (f : W → W → Sto → Option W) : W → W → Sto → Rs W := fun x y S => lift (f x y S) S
def vlN (f : List W → Sto → Option W) : List W → Sto → Rs W := fun xs S => lift (f xs S) S
def nc2 (f : W → W → Sto → Option Cell) : W → W → Sto → Rs W := fun x y S => mkC (f x y S) S
def nd2 (f : W → W → Sto → Option Cell) : W → W → Sto → Rs W := fun x y S => mkD (f x y S) S
def ncN (f : List W → Sto → Option Cell) : List W → Sto → Rs W := fun xs S => mkC (f xs S) S
def ndN (f : List W → Sto → Option Cell) : List W → Sto → Rs W := fun xs S => mkD (f xs S) S
def mVar (i : Nat) : ME := fun ρ S => match ρ[i]? with
  | some (some .xc) => .stuck
  | some (some w) => .ok w S
  | _ => .stuck
def mC (d : D) : ME := fun _ S => .ok (.da d) S
def mOp (f : W → W → Sto → Rs W) (ma mb : ME) : ME := fun ρ S => (ma ρ S).bind fun x S => (mb ρ S).bind fun y S => f x y S
def mUn (f : W → Sto → Rs W) (ma : ME) : ME := fun ρ S => (ma ρ S).bind fun x S => f x S
def mNil : MA := fun _ S => .ok [] S
def mCons (ma : ME) (mr : MA) : MA := fun ρ S => (ma ρ S).bind fun x S => (mr ρ S).bind fun xs S => .ok (x :: xs) S
def mCall (f : List W → Sto → Rs W) (ma : MA) : ME := fun ρ S => (ma ρ S).bind fun ws S => f ws S
/-- truth -/
noncomputable def truW (S : Sto) : W → Option Bool
  | .da .non => some false
  | .da (.bl b) => some b
  | .da (.int i) => some (i != 0)
  | .da (.str x) => ifc (x.length ≤ sizeLine) (some ((x.length : Int) != 0)) none
  | .da (.tup ds) => some (!ds.isEmpty)
  | .da (.wt ds) => some (!ds.isEmpty)
  | .da (.lst ds) => some (!ds.isEmpty)
  | .da (.scr ds) => some (!ds.isEmpty)
  | .da _ => none
  | .lo n => match S[n]? with
    | some (.lst ws) => some (!ws.isEmpty)
    | some (.tup ws) => some (!ws.isEmpty)
    | some (.dk kws) => some (!kws.isEmpty)
    | _ => none
  | .xc => none
def liftB (o : Option Bool) (S : Sto) : Rs Bool := match o with
  | some b => .ok b S
  | none => .stuck
noncomputable def mTru (me : ME) : MT := fun ρ S => (me ρ S).bind fun w S => liftB (truW S w) S
def boolOf (w : W) (S : Sto) : Rs Bool := match w with
  | .da (.bl b) => .ok b S
  | _ => .stuck
def mTst (me : ME) : MT := fun ρ S => (me ρ S).bind boolOf
def mAnd (a b : MT) : MT := fun ρ S => (a ρ S).bind fun c S => if c = true then b ρ S else .ok false S
def mOr (a b : MT) : MT := fun ρ S => (a ρ S).bind fun c S => if c = true then .ok true S else b ρ S
def mNot (a : MT) : MT := fun ρ S => (a ρ S).bind fun c S => .ok (!c) S
def mAndV (a b : ME) : ME := fun ρ S => (a ρ S).bind fun x S => (boolOf x S).bind fun c S => if c = true then b ρ S else .ok (.da (.bl false)) S
def mOrV (a b : ME) : ME := fun ρ S => (a ρ S).bind fun x S => (boolOf x S).bind fun c S => if c = true then .ok (.da (.bl true)) S else b ρ S
def mNotV (a : ME) : ME := fun ρ S => (a ρ S).bind fun x S => (boolOf x S).bind fun c S => .ok (.da (.bl (!c))) S
noncomputable def mNotT (a : ME) : ME := fun ρ S => (a ρ S).bind fun x S => match truW S x with
  | some b => .ok (.da (.bl (!b))) S
  | none => .stuck
def mChain (f g : W → W → Sto → Rs W) (ma mb mc : ME) : ME := fun ρ S => (ma ρ S).bind fun x S => (mb ρ S).bind fun y S => (f x y S).bind fun z S => (boolOf z S).bind fun k S =>
  if k = true then (mc ρ S).bind fun w S => g y w S else .ok (.da (.bl false)) S
/-! statements -/
def mSkip : MS := fun ρ S => .nx ρ S
def seqK (o : Out) (b : MS) : Out := match o with
  | .nx ρ S => b ρ S
  | .rt w S => .rt w S
  | .bk ρ S => .bk ρ S
  | .ct ρ S => .ct ρ S
  | .ex x ρ S => .ex x ρ S
  | .stuck => .stuck
def mSeq (a b : MS) : MS := fun ρ S => seqK (a ρ S) b
def mSet (i : Nat) (e : ME) : MS := fun ρ S => (e ρ S).out ρ fun w S => .nx (ρ.set i (some w)) S
def mRet (e : ME) : MS := fun ρ S => (e ρ S).out ρ fun w S => .rt w S
def mRetN : MS := fun _ S => .rt (.da .non) S
def mDrop (e : ME) : MS := fun ρ S => (e ρ S).out ρ fun _ S => .nx ρ S
def mIf (t : MT) (a b : MS) : MS := fun ρ S => (t ρ S).out ρ fun c S => if c = true then a ρ S else b ρ S
def mBreak : MS := fun ρ S => .bk ρ S
def mContinue : MS := fun ρ S => .ct ρ S
/-- the value is frozen with all that hangs at it -/
def fzW (w : W) (S : Sto) : Rs W := match datW 5 S w with
  | some (d, S') => .ok (.da d) S'
  | none => .stuck
def mFz (m : ME) : ME := fun ρ S => (m ρ S).bind fzW

/-! ### any rule of an operation -/
def rAny (X : Cx) (g : Value → Value → Sem Value) : R2 := fun x y H Q => ∃ r, OpR X g r ∧ r x y H Q
theorem op_any {X : Cx} {g : Value → Value → Sem Value} : OpR X g (rAny X g) := fun pins s σ H x y v u Q I rx ry ⟨_, o, h⟩ => o pins s σ H x y v u Q I rx ry h
def uAny (X : Cx) (g : Value → Sem Value) : V → Hp → VK → Prop := fun x H Q => ∃ r, UnR X g r ∧ r x H Q
theorem un_any {X : Cx} {g : Value → Sem Value} : UnR X g (uAny X g) := fun pins s σ H x v Q I rx ⟨_, o, h⟩ => o pins s σ H x v Q I rx h
def cAny (X : Cx) (f : Value) : List V → Hp → VK → Prop := fun xs H Q => ∃ r, CallR X f r ∧ r xs H Q
theorem call_any {X : Cx} {f : Value} : CallR X f (cAny X f) := fun pins s σ H xs us Q I r ⟨_, o, h⟩ => o pins s σ H xs us Q I r h
def xAny (X : Cx) : R2 := fun x y H Q => ∃ r, IxR X r ∧ r x y H Q
theorem ix_any {X : Cx} : IxR X (xAny X) := fun value slice pins s σ H x y v u Q I rx ry ⟨_, o, h⟩ e => o value slice pins s σ H x y v u Q I rx ry h e
def mtAny (X : Cx) (id : String) : V → List V → Hp → VK → Prop := fun x xs H Q => ∃ r, MtR X id r ∧ r x xs H Q
theorem mt_any {X : Cx} {id : String} : MtR X id (mtAny X id) := fun pins s σ H x xs v us Q I rx r ⟨_, o, h⟩ => o pins s σ H x xs v us Q I rx r h

/-! ### operations by values: what is promised of their plain meaning -/
/-- any: F on the values, r on what the heap holds -/
abbrev H1 (X : Cx) (cl : Str → Option Addr) (r : V → Hp → VK → Prop) (F : W → Sto → Rs W) : Prop := ∀ xa C Wx y σ ρ S, Sim X.K cl xa C y σ ρ S → ∀ w v, RW X.K cl y w v → ∀ Q, Post X.K cl xa C Wx y σ ρ (F w S) (OkE X.K cl xa C y σ ρ Q) → r v y.H Q
abbrev H2 (X : Cx) (cl : Str → Option Addr) (r : R2) (F : W → W → Sto → Rs W) : Prop := ∀ xa C Wx y σ ρ S, Sim X.K cl xa C y σ ρ S → ∀ w w' v v', RW X.K cl y w v → RW X.K cl y w' v' → ∀ Q, Post X.K cl xa C Wx y σ ρ (F w w' S) (OkE X.K cl xa C y σ ρ Q) → r v v' y.H Q
abbrev HN (X : Cx) (cl : Str → Option Addr) (r : List V → Hp → VK → Prop) (F : List W → Sto → Rs W) : Prop := ∀ xa C Wx y σ ρ S, Sim X.K cl xa C y σ ρ S → ∀ ws vs, RWL X.K cl y ws vs → ∀ Q, Post X.K cl xa C Wx y σ ρ (F ws S) (OkE X.K cl xa C y σ ρ Q) → r vs y.H Q
def HOp (X : Cx) (cl : Str → Option Addr) (g : Value → Value → Sem Value) (F : W → W → Sto → Rs W) : Prop := H2 X cl (rAny X g) F
def HUn (X : Cx) (cl : Str → Option Addr) (g : Value → Sem Value) (F : W → Sto → Rs W) : Prop := H1 X cl (uAny X g) F
def HIx (X : Cx) (cl : Str → Option Addr) (F : W → W → Sto → Rs W) : Prop := H2 X cl (xAny X) F
def HCall (X : Cx) (cl : Str → Option Addr) (g : Value) (F : List W → Sto → Rs W) : Prop := HN X cl (cAny X g) F
/-- a value comes: new frozen things alone -/
abbrev Gv (K : PySem.W.Frag) (cl : Str → Option Addr) (y : Y) (w : W) (Q : VK) : Prop := ∀ v F' H', Al y.F y.H F' H' → RW K cl ⟨F', H', y.m⟩ w v → Q v H'
/-- a new thing comes -/
abbrev Gn (K : PySem.W.Frag) (cl : Str → Option Addr) (y : Y) (c : Cell) (Q : VK) : Prop := ∀ p o, y.H p = none → CellR K cl (y.new p o) p c → Q (.ref p) (upd y.H p o)
def V1 (X : Cx) (cl : Str → Option Addr) (r : V → Hp → VK → Prop) (f : W → Sto → Option W) : Prop := ∀ y S, Bs X.K cl y S → ∀ w v, RW X.K cl y w v → ∀ u, f w S = some u → ∀ Q, Gv X.K cl y u Q → r v y.H Q
def V2 (X : Cx) (cl : Str → Option Addr) (r : R2) (f : W → W → Sto → Option W) : Prop := ∀ y S, Bs X.K cl y S → ∀ w w' v v', RW X.K cl y w v → RW X.K cl y w' v' → ∀ u, f w w' S = some u → ∀ Q, Gv X.K cl y u Q → r v v' y.H Q
def VN (X : Cx) (cl : Str → Option Addr) (r : List V → Hp → VK → Prop) (f : List W → Sto → Option W) : Prop := ∀ y S, Bs X.K cl y S → ∀ ws vs, RWL X.K cl y ws vs → ∀ u, f ws S = some u → ∀ Q, Gv X.K cl y u Q → r vs y.H Q
def C2 (X : Cx) (cl : Str → Option Addr) (r : R2) (f : W → W → Sto → Option Cell) : Prop := ∀ y S, Bs X.K cl y S → ∀ w w' v v', RW X.K cl y w v → RW X.K cl y w' v' → ∀ c, f w w' S = some c → ∀ Q, Gn X.K cl y c Q → r v v' y.H Q
def CN (X : Cx) (cl : Str → Option Addr) (r : List V → Hp → VK → Prop) (f : List W → Sto → Option Cell) : Prop := ∀ y S, Bs X.K cl y S → ∀ ws vs, RWL X.K cl y ws vs → ∀ c, f ws S = some c → ∀ Q, Gn X.K cl y c Q → r vs y.H Q
section
variable {X : Cx} {cl : Str → Option Addr} {xa : Option (Nat × Addr)} {C : Cn} {Wx : WX} {y : Y} {σ : St} {ρ : Rho} {S : Sto} {Q : VK}
theorem post_val {K : PySem.W.Frag} {o : Option W} (s : Sim K cl xa C y σ ρ S) (h : Post K cl xa C Wx y σ ρ (lift o S) (OkE K cl xa C y σ ρ Q)) : ∃ u, o = some u ∧ Gv K cl y u Q := by
  unfold lift at h
  split at h
  · exact ⟨_, rfl, fun v F' H' a r => h v _ (s.al a) a.gr r⟩
  · exact h.elim
theorem post_newC {K : PySem.W.Frag} {o : Option Cell} (s : Sim K cl xa C y σ ρ S) (h : Post K cl xa C Wx y σ ρ (mkC o S) (OkE K cl xa C y σ ρ Q)) : ∃ c, o = some c ∧ Gn K cl y c Q := by
  unfold mkC at h
  split at h
  · exact ⟨_, rfl, fun p o hp hc => h (.ref p) (y.new p o) (s.newCell hp hc) (y.gr_new p o) ⟨p, by rw [← s.bs.len]; simp [Y.new], rfl⟩⟩
  · exact h.elim
theorem post_newD {K : PySem.W.Frag} {o : Option Cell} (s : Sim K cl xa C y σ ρ S) (h : Post K cl xa C Wx y σ ρ (mkD o S) (OkE K cl xa C y σ ρ Q)) : ∃ c, o = some c ∧ Gn K cl y c Q := by
  unfold mkD at h
  split at h
  · rename_i c
    split at h
    · rename_i d hd
      refine ⟨_, rfl, fun p o hp hc => ?_⟩
      obtain ⟨o', ho, _, hr⟩ := datC_ok hc hd
      have eo : some o' = some o := ho.symm.trans (upd_same)
      cases eo
      have al := Al.new (o := o) s.bs.fz hp
      exact h (.ref p) _ (s.al al) al.gr (hr _ al.f upd_same)
    · exact h.elim
  · exact h.elim
theorem V1.h {r : V → Hp → VK → Prop} {f : W → Sto → Option W} (v : V1 X cl r f) : H1 X cl r (vl1 f) := fun xa C Wx y σ ρ S s w x rx Q h => by
  obtain ⟨u, e, g⟩ := post_val s h
  exact v y S s.bs w x rx u e Q g
theorem V2.h {r : R2} {f : W → W → Sto → Option W} (v : V2 X cl r f) : H2 X cl r (vl2 f) := fun xa C Wx y σ ρ S s w w' x x' rx rx' Q h => by
  obtain ⟨u, e, g⟩ := post_val s h
  exact v y S s.bs w w' x x' rx rx' u e Q g
theorem VN.h {r : List V → Hp → VK → Prop} {f : List W → Sto → Option W} (v : VN X cl r f) : HN X cl r (vlN f) := fun xa C Wx y σ ρ S s w x rx Q h => by
  obtain ⟨u, e, g⟩ := post_val s h
  exact v y S s.bs w x rx u e Q g
theorem C2.c {r : R2} {f : W → W → Sto → Option Cell} (v : C2 X cl r f) : H2 X cl r (nc2 f) := fun xa C Wx y σ ρ S s w w' x x' rx rx' Q h => by
  obtain ⟨u, e, g⟩ := post_newC s h
  exact v y S s.bs w w' x x' rx rx' u e Q g
theorem C2.d {r : R2} {f : W → W → Sto → Option Cell} (v : C2 X cl r f) : H2 X cl r (nd2 f) := fun xa C Wx y σ ρ S s w w' x x' rx rx' Q h => by
  obtain ⟨u, e, g⟩ := post_newD s h
  exact v y S s.bs w w' x x' rx rx' u e Q g
theorem CN.c {r : List V → Hp → VK → Prop} {f : List W → Sto → Option Cell} (v : CN X cl r f) : HN X cl r (ncN f) := fun xa C Wx y σ ρ S s w x rx Q h => by
  obtain ⟨u, e, g⟩ := post_newC s h
  exact v y S s.bs w x rx u e Q g
theorem CN.d {r : List V → Hp → VK → Prop} {f : List W → Sto → Option Cell} (v : CN X cl r f) : HN X cl r (ndN f) := fun xa C Wx y σ ρ S s w x rx Q h => by
  obtain ⟨u, e, g⟩ := post_newD s h
  exact v y S s.bs w x rx u e Q g
end

section
variable {X : Cx} {cl : Str → Option Addr} {xa : Option (Nat × Addr)} {Wx : WX} {pos : Pos} {a b c e : Expr} {es : List Expr} {ma mb mc me : ME} {mr : MA} {ta tb tc : MT}
/-! ### composition -/
theorem OkE.mono {K : PySem.W.Frag} {C : Cn} {y z : Y} {σ : St} {ρ : Rho} {Q : VK} (g : Gr y z) {w : W} {S : Sto} (h : OkE K cl xa C y σ ρ Q w S) : OkE K cl xa C z σ ρ Q w S := fun v u s k r => h v u s (g.trans k) r
theorem Post.re {K : PySem.W.Frag} {C : Cn} {y z : Y} {σ : St} {ρ : Rho} {Q : VK} {r : Rs W} (h : Post K cl xa C Wx z σ ρ r (OkE K cl xa C y σ ρ Q)) (g : Gr y z) : Post K cl xa C Wx z σ ρ r (OkE K cl xa C z σ ρ Q) := Post.imp h fun _ _ k => OkE.mono g k
theorem se_op {r : R2} {t u : TE} {F : W → W → Sto → Rs W} (ho : H2 X cl r F) (ha : SE X.K cl xa Wx t ma) (hb : SE X.K cl xa Wx u mb) : SE X.K cl xa Wx (tOp r t u) (mOp F ma mb) := by
  intro C y σ ρ S s Q h
  refine ha C y σ ρ S s _ (Post.go h fun w S1 h1 v z s1 g1 r1 => ?_)
  refine hb C z σ ρ S1 s1 _ (Post.go (h1 z g1) fun w2 S2 h2 v2 z2 s2 g2 r2 => ?_)
  exact ho xa C Wx z2 σ ρ S2 s2 w w2 v v2 (r1.grow g2) r2 Q (Post.re (h2 z2 g2) (g1.trans g2))
theorem se_un {r : V → Hp → VK → Prop} {t : TE} {F : W → Sto → Rs W} (ho : H1 X cl r F) (ha : SE X.K cl xa Wx t ma) : SE X.K cl xa Wx (tUn r t) (mUn F ma) := by
  intro C y σ ρ S s Q h
  refine ha C y σ ρ S s _ (Post.go h fun w S1 h1 v z s1 g1 r1 => ?_)
  exact ho xa C Wx z σ ρ S1 s1 w v r1 Q (Post.re (h1 z g1) g1)
theorem sa_nil {K : PySem.W.Frag} : SA K cl xa Wx tNil mNil := fun C y σ ρ S s Q h => h [] y s (Gr.refl _) .nil
theorem sa_cons {K : PySem.W.Frag} {t : TE} {u : TA} (ha : SE K cl xa Wx t ma) (hr : SA K cl xa Wx u mr) : SA K cl xa Wx (tCons t u) (mCons ma mr) := by
  intro C y σ ρ S s Q h
  refine ha C y σ ρ S s _ (Post.go h fun w S1 h1 v z s1 g1 r1 => ?_)
  refine hr C z σ ρ S1 s1 _ (Post.go (h1 z g1) fun ws S2 h2 vs z2 s2 g2 r2 => ?_)
  exact h2 z2 g2 (v :: vs) z2 s2 (g1.trans g2) (.cons (r1.grow g2) r2)
theorem se_call {r : List V → Hp → VK → Prop} {t : TA} {F : List W → Sto → Rs W} (ho : HN X cl r F) (ha : SA X.K cl xa Wx t mr) : SE X.K cl xa Wx (tCB r t) (mCall F mr) := by
  intro C y σ ρ S s Q h
  refine ha C y σ ρ S s _ (Post.go h fun w S1 h1 v z s1 g1 r1 => ?_)
  exact ho xa C Wx z σ ρ S1 s1 w v r1 Q (Post.re (h1 z g1) g1)
/-- frozen -/
theorem qe_fz (h : QE X cl xa Wx e me) : QE X cl xa Wx e (mFz me) := by
  obtain ⟨t, p, q⟩ := h
  refine ⟨_, pe_lk p, fun C y σ ρ S s Q h => ?_⟩
  refine q C y σ ρ S s _ (Post.go h fun w S1 h1 v z s1 g1 r1 => ?_)
  have h2 := h1 z g1
  unfold fzW at h2
  split at h2
  · rename_i d S' hd
    refine datW_ok 5 z S1 w v d S' s1 r1 hd (Q v) fun z2 s2 g2 r2 => ?_
    exact .now (h2 v z2 s2 (g1.trans g2) r2)
  · exact h2.elim

/-! ### names, constants -/
theorem qe_var (i : Nat) {x : Str} (hN : X.N[i]? = some x := by rfl) (hv : Vis X.env.scope x := by first | exact Or.inl rfl | exact Or.inr (Or.inl rfl) | exact Or.inr (Or.inr rfl)) (hd : (x == ("__debug__" : Str)) = false := by decide)
    (hcd : (x == ("__classdict__" : Str)) = false := by decide) : QE X cl xa Wx (.Name x pos) (mVar i) :=
  ⟨_, pe_var hN hv hd hcd, fun C y σ ρ S s Q h => by
    unfold mVar at h
    cases e : ρ[i]? with
    | none => rw [e] at h; exact h.elim
    | some o =>
      cases o with
      | none => rw [e] at h; exact h.elim
      | some w =>
        rw [e] at h
        obtain ⟨v, e1, e2⟩ := s.slot i w e
        cases w with
        | xc => exact h.elim
        | da d => exact ⟨v, e1, h v y s (Gr.refl _) e2⟩
        | lo n => exact ⟨v, e1, h v y s (Gr.refl _) e2⟩⟩
theorem se_c {K : PySem.W.Frag} {d : D} {v : V} (h : ∀ F, Rp K cl F d v) : SE K cl xa Wx (tC v) (mC d) := fun C y σ ρ S s Q q => q v y s (Gr.refl _) (h y.F)
theorem qe_int {i : Int} {j} : QE X cl xa Wx (.Constant (.int i) j pos) (mC (.int i)) := ⟨_, pe_int, se_c fun _ => rfl⟩
theorem qe_str {x : Str} {j} : QE X cl xa Wx (.Constant (.str x) j pos) (mC (.str x)) := ⟨_, pe_str, se_c fun _ => rfl⟩
theorem qe_bl {x : Bool} {j} : QE X cl xa Wx (.Constant (.bool x) j pos) (mC (.bl x)) := ⟨_, pe_bl, se_c fun _ => rfl⟩
theorem qe_non {j} : QE X cl xa Wx (.Constant .none j pos) (mC .non) := ⟨_, pe_non, se_c fun _ => rfl⟩
theorem qe_glob {x : Str} {v : V} {u : Value} {d : D} (hg : Gl X x) (hm : X.mg x = some u) (r : RelV v u) (h : ∀ F, Rp X.K cl F d v) (hd : (x == ("__debug__" : Str)) = false := by decide) : QE X cl xa Wx (.Name x pos) (mC d) :=
  ⟨_, pe_glob hg hm r hd, se_c h⟩

/-! ### operations -/
theorem qe_bin {op : Operator} {F : W → W → Sto → Rs W} (ho : HOp X cl (binaryOp op) F) (ha : QE X cl xa Wx a ma) (hb : QE X cl xa Wx b mb) : QE X cl xa Wx (.BinOp a op b pos) (mOp F ma mb) := by
  obtain ⟨t, p, q⟩ := ha
  obtain ⟨t2, p2, q2⟩ := hb
  exact ⟨_, pe_op op_any p p2, se_op ho q q2⟩
theorem qe_un {op : UnaryOp} {F : W → Sto → Rs W} (ho : HUn X cl (unaryOp op) F) (ha : QE X cl xa Wx a ma) : QE X cl xa Wx (.UnaryOp op a pos) (mUn F ma) := by
  obtain ⟨t, p, q⟩ := ha
  exact ⟨_, pe_un un_any p, se_un ho q⟩
theorem qe_cmp {op : CmpOp} {F : W → W → Sto → Rs W} (ho : HOp X cl (compareOp op) F) (ha : QE X cl xa Wx a ma) (hb : QE X cl xa Wx b mb) (hm : behindInMarks op b = false) : QE X cl xa Wx (.Compare a [op] [b] pos) (mOp F ma mb) := by
  obtain ⟨t, p, q⟩ := ha
  obtain ⟨t2, p2, q2⟩ := hb
  exact ⟨_, pe_cmpR op_any p p2 hm, se_op ho q q2⟩
theorem st_test {K : PySem.W.Frag} {t : TE} (h : SE K cl xa Wx t me) : ST K cl xa Wx (tTest t) (mTst me) := by
  intro C y σ ρ S s Q q
  refine h C y σ ρ S s _ (Post.go q fun w S1 h1 v z s1 g1 r1 => ?_)
  have h2 := h1 z g1
  unfold boolOf at h2
  split at h2
  · rename_i k
    cases (show v = .bl k from r1)
    exact ⟨k, rfl, h2 z s1 g1⟩
  · exact h2.elim
theorem qt_cmp {op : CmpOp} {F : W → W → Sto → Rs W} (ho : HOp X cl (compareOp op) F) (ha : QE X cl xa Wx a ma) (hb : QE X cl xa Wx b mb) (hm : behindInMarks op b = false) : QT X cl xa Wx (.Compare a [op] [b] pos) (mTst (mOp F ma mb)) := by
  obtain ⟨t, p, q⟩ := ha
  obtain ⟨t2, p2, q2⟩ := hb
  exact ⟨_, pt_cmpR op_any p p2 hm, st_test (se_op ho q q2)⟩
theorem bool_ok {K : PySem.W.Frag} {C : Cn} {y : Y} {σ : St} {ρ : Rho} {S : Sto} {w : W} {v : V} {α : Type} {k : Bool → Sto → Rs α} {P : α → Sto → Prop} (r : RW K cl y w v) (h : Post K cl xa C Wx y σ ρ ((boolOf w S).bind k) P) :
    ∃ c, v = .bl c ∧ w = .da (.bl c) ∧ Post K cl xa C Wx y σ ρ (k c S) P := by
  unfold boolOf at h
  split at h
  · rename_i c; exact ⟨c, r, rfl, h⟩
  · exact h.elim
theorem se_chain {r r' : R2} {t u v : TE} {F G : W → W → Sto → Rs W} (ho : H2 X cl r F) (ho' : H2 X cl r' G)
    (ha : SE X.K cl xa Wx t ma) (hb : SE X.K cl xa Wx u mb) (hc : SE X.K cl xa Wx v mc) : SE X.K cl xa Wx (tChain r r' t u v) (mChain F G ma mb mc) := by
  intro C y σ ρ S s Q h
  refine ha C y σ ρ S s _ (Post.go h fun w S1 h1 v z s1 g1 r1 => ?_)
  refine hb C z σ ρ S1 s1 _ (Post.go (h1 z g1) fun w2 S2 h2 v2 z2 s2 g2 r2 => ?_)
  refine ho xa C Wx z2 σ ρ S2 s2 w w2 v v2 (r1.grow g2) r2 _ (Post.go (h2 z2 g2) fun w3 S3 h3 v3 z3 s3 g3 r3 => ?_)
  obtain ⟨k, rfl, _, h4⟩ := bool_ok r3 (h3 z3 g3)
  have g13 := (g1.trans g2).trans g3
  refine ⟨k, rfl, ?_⟩
  cases k with
  | false => exact h4 _ z3 s3 g13 rfl
  | true =>
    refine hc C z3 σ ρ S3 s3 _ (Post.go h4 fun w4 S4 h5 v4 z4 s4 g4 r4 => ?_)
    exact ho' xa C Wx z4 σ ρ S4 s4 w2 w4 v2 v4 (r2.grow (g3.trans g4)) r4 Q (Post.re (h5 z4 g4) (g13.trans g4))
theorem qe_chain {op op' : CmpOp} {F G : W → W → Sto → Rs W} (ho : HOp X cl (compareOp op) F) (ho' : HOp X cl (compareOp op') G) (ha : QE X cl xa Wx a ma) (hb : QE X cl xa Wx b mb) (hc : QE X cl xa Wx c mc)
    (hm : lastMarks [op, op'] [b, c] = false := by with_unfolding_all rfl) : QE X cl xa Wx (.Compare a [op, op'] [b, c] pos) (mChain F G ma mb mc) := by
  obtain ⟨t, p, q⟩ := ha
  obtain ⟨t2, p2, q2⟩ := hb
  obtain ⟨t3, p3, q3⟩ := hc
  exact ⟨_, pe_chain op_any op_any p p2 p3 hm, se_chain ho ho' q q2 q3⟩
theorem qt_chain {op op' : CmpOp} {F G : W → W → Sto → Rs W} (ho : HOp X cl (compareOp op) F) (ho' : HOp X cl (compareOp op') G) (ha : QE X cl xa Wx a ma) (hb : QE X cl xa Wx b mb) (hc : QE X cl xa Wx c mc)
    (hm : lastMarks [op, op'] [b, c] = false := by with_unfolding_all rfl) : QT X cl xa Wx (.Compare a [op, op'] [b, c] pos) (mTst (mChain F G ma mb mc)) := by
  obtain ⟨t, p, q⟩ := ha
  obtain ⟨t2, p2, q2⟩ := hb
  obtain ⟨t3, p3, q3⟩ := hc
  exact ⟨_, pt_chain op_any op_any p p2 p3 hm, st_test (se_chain ho ho' q q2 q3)⟩

/-! ### truth -/
theorem tru_ok {K : PySem.W.Frag} {y : Y} {S : Sto} (s : Bs K cl y S) {w : W} {v : V} {k : Bool} (r : RW K cl y w v) (h : truW S w = some k) : TruV K v y.H k := by
  unfold truW at h
  split at h
  · cases h; cases (show v = .non from r); exact rfl
  · rename_i b; cases h; cases (show v = .bl _ from r); exact rfl
  · rename_i i; cases h; cases (show v = .int i from r); exact rfl
  · rename_i x
    obtain ⟨hc, rfl⟩ := ifc_some h
    cases (show v = .str x from r)
    exact ⟨hc, rfl⟩
  · rename_i ds
    cases h
    obtain ⟨p, vs, rfl, t, l⟩ := r
    refine .inr (.inl ⟨vs, .inl (.inl (s.fz p _ t)), ?_⟩)
    have := l.length
    cases ds <;> cases vs <;> simp_all
  · rename_i ds
    cases h
    obtain ⟨p, vs, rfl, t, l⟩ := r
    refine .inr (.inl ⟨vs, sqT_xt s.fz t, ?_⟩)
    have := l.length
    cases ds <;> cases vs <;> simp_all
  · rename_i ds
    cases h
    obtain ⟨p, vs, rfl, t, l⟩ := r
    refine .inl ⟨vs, .inl (.inl (s.fz p _ t)), ?_⟩
    have := l.length
    cases ds <;> cases vs <;> simp_all
  · rename_i ds
    cases h
    obtain ⟨p, vs, rfl, t, l⟩ := r
    refine .inl ⟨vs, sqL_xt s.fz t, ?_⟩
    have := l.length
    cases ds <;> cases vs <;> simp_all
  · cases h
  · rename_i n
    obtain ⟨p, e, rfl⟩ := r
    split at h
    · rename_i ws hc
      cases h
      obtain ⟨_, vs, e2, l⟩ := s.at hc (by intro z; cases z) e
      refine .inl ⟨vs, .inl (.inl e2), ?_⟩
      cases l <;> rfl
    · rename_i ws hc
      cases h
      obtain ⟨_, vs, e2, l⟩ := s.at hc (by intro z; cases z) e
      refine .inr (.inl ⟨vs, .inl (.inl e2), ?_⟩)
      cases l <;> rfl
    · rename_i ws hc
      cases h
      obtain ⟨_, vs, e2, l⟩ := s.at hc (by intro z; cases z) e
      refine .inr (.inr ⟨vs, e2, ?_⟩)
      cases l <;> rfl
    · cases h
  · cases h
theorem qt_truth (ha : QE X cl xa Wx a ma) (he : ∀ whole, isTrue a X.env whole = (do let v ← whole; standAt a.pos; holding [v] (truthy v)) := by intro _; rfl) : QT X cl xa Wx a (mTru ma) := by
  obtain ⟨t, p, q⟩ := ha
  refine ⟨_, pt_truth p he, fun C y σ ρ S s Q h => ?_⟩
  refine q C y σ ρ S s _ (Post.go h fun w S1 h1 v z s1 g1 r1 => ?_)
  have h2 := h1 z g1
  unfold liftB at h2
  split at h2
  · rename_i k e
    exact ⟨k, tru_ok s1.bs r1 e, h2 z s1 g1⟩
  · exact h2.elim
theorem qe_notT (ha : QE X cl xa Wx a ma) : QE X cl xa Wx (.UnaryOp .Not a pos) (mNotT ma) := by
  obtain ⟨t, p, q⟩ := ha
  refine ⟨_, pe_notT p, fun C y σ ρ S s Q h => ?_⟩
  refine q C y σ ρ S s _ (Post.go h fun w S1 h1 v z s1 g1 r1 => ?_)
  have h2 := h1 z g1
  split at h2
  · rename_i k e
    exact ⟨k, tru_ok s1.bs r1 e, h2 _ z s1 g1 rfl⟩
  · exact h2.elim
theorem qt_not (ha : QT X cl xa Wx a ta) : QT X cl xa Wx (.UnaryOp .Not a pos) (mNot ta) := by
  obtain ⟨t, p, q⟩ := ha
  exact ⟨_, pt_not p, fun C y σ ρ S s Q h => q C y σ ρ S s _ (Post.go h fun w S1 h1 z s1 g1 => h1 z g1 z s1 g1)⟩
theorem st_and {K : PySem.W.Frag} {t u : TT} (ha : ST K cl xa Wx t ta) (hb : ST K cl xa Wx u tb) : ST K cl xa Wx (tAnd t u) (mAnd ta tb) := by
  intro C y σ ρ S s Q h
  refine ha C y σ ρ S s _ (Post.go h fun w S1 h1 z s1 g1 => ?_)
  cases w with
  | true => exact hb C z σ ρ S1 s1 _ (Post.imp (h1 z g1) fun w2 S2 h2 z2 s2 g2 => h2 z2 s2 (g1.trans g2))
  | false => exact h1 z g1 z s1 g1
theorem st_or {K : PySem.W.Frag} {t u : TT} (ha : ST K cl xa Wx t ta) (hb : ST K cl xa Wx u tb) : ST K cl xa Wx (tOr t u) (mOr ta tb) := by
  intro C y σ ρ S s Q h
  refine ha C y σ ρ S s _ (Post.go h fun w S1 h1 z s1 g1 => ?_)
  cases w with
  | false => exact hb C z σ ρ S1 s1 _ (Post.imp (h1 z g1) fun w2 S2 h2 z2 s2 g2 => h2 z2 s2 (g1.trans g2))
  | true => exact h1 z g1 z s1 g1
theorem qw_and {rest : List Expr} (ha : QT X cl xa Wx a ta) (hb : QW X cl xa Wx (.BoolOp .And (b :: rest) pos) tb) : QW X cl xa Wx (.BoolOp .And (a :: b :: rest) pos) (mAnd ta tb) := by
  obtain ⟨t, p, q⟩ := ha
  obtain ⟨t2, p2, q2⟩ := hb
  exact ⟨_, pw_and p p2, st_and q q2⟩
theorem qw_or {rest : List Expr} (ha : QT X cl xa Wx a ta) (hb : QW X cl xa Wx (.BoolOp .Or (b :: rest) pos) tb) : QW X cl xa Wx (.BoolOp .Or (a :: b :: rest) pos) (mOr ta tb) := by
  obtain ⟨t, p, q⟩ := ha
  obtain ⟨t2, p2, q2⟩ := hb
  exact ⟨_, pw_or p p2, st_or q q2⟩
theorem qw_and1 (ha : QT X cl xa Wx a ta) : QW X cl xa Wx (.BoolOp .And [a] pos) ta := by
  obtain ⟨t, p, q⟩ := ha
  exact ⟨_, pw_and1 p, q⟩
theorem qw_or1 (ha : QT X cl xa Wx a ta) : QW X cl xa Wx (.BoolOp .Or [a] pos) ta := by
  obtain ⟨t, p, q⟩ := ha
  exact ⟨_, pw_or1 p, q⟩
theorem QW.qt {m : MT} (h : QW X cl xa Wx e m) : QT X cl xa Wx e m := by
  obtain ⟨t, p, q⟩ := h
  exact ⟨_, p.pt, q⟩
theorem qe_and {rest : List Expr} (ha : QE X cl xa Wx a ma) (hb : QE X cl xa Wx (.BoolOp .And (b :: rest) pos) mb) : QE X cl xa Wx (.BoolOp .And (a :: b :: rest) pos) (mAndV ma mb) := by
  obtain ⟨t, p, q⟩ := ha
  obtain ⟨t2, p2, q2⟩ := hb
  refine ⟨_, pe_and p p2, fun C y σ ρ S s Q h => ?_⟩
  refine q C y σ ρ S s _ (Post.go h fun w S1 h1 v z s1 g1 r1 => ?_)
  obtain ⟨c, rfl, _, h2⟩ := bool_ok r1 (h1 z g1)
  refine ⟨c, rfl, ?_⟩
  cases c with
  | true => exact q2 C z σ ρ S1 s1 _ (Post.imp h2 fun w2 S2 h2 v2 z2 s2 g2 => h2 v2 z2 s2 (g1.trans g2))
  | false => exact h2 _ z s1 g1 rfl
theorem qe_or {rest : List Expr} (ha : QE X cl xa Wx a ma) (hb : QE X cl xa Wx (.BoolOp .Or (b :: rest) pos) mb) : QE X cl xa Wx (.BoolOp .Or (a :: b :: rest) pos) (mOrV ma mb) := by
  obtain ⟨t, p, q⟩ := ha
  obtain ⟨t2, p2, q2⟩ := hb
  refine ⟨_, pe_or p p2, fun C y σ ρ S s Q h => ?_⟩
  refine q C y σ ρ S s _ (Post.go h fun w S1 h1 v z s1 g1 r1 => ?_)
  obtain ⟨c, rfl, _, h2⟩ := bool_ok r1 (h1 z g1)
  refine ⟨c, rfl, ?_⟩
  cases c with
  | false => exact q2 C z σ ρ S1 s1 _ (Post.imp h2 fun w2 S2 h2 v2 z2 s2 g2 => h2 v2 z2 s2 (g1.trans g2))
  | true => exact h2 _ z s1 g1 rfl
theorem qe_one {op} (ha : QE X cl xa Wx a ma) : QE X cl xa Wx (.BoolOp op [a] pos) ma := by
  obtain ⟨t, p, q⟩ := ha
  exact ⟨_, pe_one p, q⟩
theorem qe_not (ha : QE X cl xa Wx a ma) : QE X cl xa Wx (.UnaryOp .Not a pos) (mNotV ma) := by
  obtain ⟨t, p, q⟩ := ha
  refine ⟨_, pe_not p, fun C y σ ρ S s Q h => ?_⟩
  refine q C y σ ρ S s _ (Post.go h fun w S1 h1 v z s1 g1 r1 => ?_)
  obtain ⟨c, rfl, _, h2⟩ := bool_ok r1 (h1 z g1)
  exact ⟨c, rfl, h2 _ z s1 g1 rfl⟩

/-! ### arguments, displays -/
theorem qa_nil : QA X cl xa Wx [] mNil := ⟨_, pa_nil, sa_nil⟩
theorem qa_cons (ha : QE X cl xa Wx e me) (hr : QA X cl xa Wx es mr) (hs : starEach (e :: es) X.env = (false, eval e X.env) :: starEach es X.env := by rfl) : QA X cl xa Wx (e :: es) (mCons me mr) := by
  obtain ⟨t, p, q⟩ := ha
  obtain ⟨t2, p2, q2⟩ := hr
  exact ⟨_, pa_cons p p2 hs, sa_cons q q2⟩
noncomputable def tupC (ws : List W) (_ : Sto) : Option Cell := ifc (ws.length ≤ sizeLine) (some (.tup ws)) none
noncomputable def lstC (ws : List W) (_ : Sto) : Option Cell := ifc (ws.length ≤ sizeLine) (some (.lst ws)) none
theorem upd_rw {K : PySem.W.Frag} {y : Y} {p : Addr} {o : HO} {ws : List W} {vs : List V} (h : RWL K cl y ws vs) : RWL K cl (y.new p o) ws vs := RWL.grow (y.gr_new p o) h
theorem cn_tup : CN X cl (fun vs H Q => vs.length ≤ sizeLine ∧ ∀ p, H p = none → Q (.ref p) (upd H p (.tup vs))) tupC := fun y S b ws vs r c e Q g => by
  obtain ⟨hl, rfl⟩ := ifc_some e
  refine ⟨by rw [← Paired.length r]; exact hl, fun p hp => g p _ hp ⟨vs, upd_same, upd_rw r⟩⟩
theorem cn_lst : CN X cl (fun vs H Q => vs.length ≤ sizeLine ∧ ∀ p, H p = none → Q (.ref p) (upd H p (.lst vs))) lstC := fun y S b ws vs r c e Q g => by
  obtain ⟨hl, rfl⟩ := ifc_some e
  refine ⟨by rw [← Paired.length r]; exact hl, fun p hp => g p _ hp ⟨vs, upd_same, upd_rw r⟩⟩
theorem qe_tupC {x1} (h : QA X cl xa Wx es mr) : QE X cl xa Wx (.Tuple es x1 pos) (mCall (ncN tupC) mr) := by
  obtain ⟨t, p, q⟩ := h
  exact ⟨_, pe_tup p, se_call cn_tup.c q⟩
theorem qe_tup {x1} (h : QA X cl xa Wx es mr) : QE X cl xa Wx (.Tuple es x1 pos) (mCall (ndN tupC) mr) := by
  obtain ⟨t, p, q⟩ := h
  exact ⟨_, pe_tup p, se_call cn_tup.d q⟩
theorem qe_lstC (h : QA X cl xa Wx es mr) : QE X cl xa Wx (.List es pos) (mCall (ncN lstC) mr) := by
  obtain ⟨t, p, q⟩ := h
  exact ⟨_, pe_lst p, se_call cn_lst.c q⟩
theorem qe_lst (h : QA X cl xa Wx es mr) : QE X cl xa Wx (.List es pos) (mCall (ndN lstC) mr) := by
  obtain ⟨t, p, q⟩ := h
  exact ⟨_, pe_lst p, se_call cn_lst.d q⟩
end
end Ng
namespace Ng
open PySem L2

/-! ### whole numbers -/
def wI (f : Int → Int → D) : W → W → Sto → Option W
  | .da (.int i), .da (.int j), _ => some (.da (f i j))
  | _, _, _ => none
noncomputable def wIg (c : Int → Int → Prop) (f : Int → Int → D) : W → W → Sto → Option W
  | .da (.int i), .da (.int j), _ => ifc (c i j) (some (.da (f i j))) none
  | _, _, _ => none
def subW := wI fun i j => .int (i - j)
noncomputable def gtW := wI fun i j => .bl (dec (j < i))
noncomputable def geW := wI fun i j => .bl (dec (j ≤ i))
noncomputable def mulW := wIg (fun i j => (-(2 ^ 64) < i ∧ i < 2 ^ 64) ∨ (-(2 ^ 64) < j ∧ j < 2 ^ 64)) fun i j => .int (i * j)
noncomputable def modW := wIg (fun _ j => 0 < j) fun i j => .int (i % j)
noncomputable def divW := wIg (fun _ j => 0 < j ∧ j < 1073741824) fun i j => .int (i / j)
noncomputable def powW := wIg (fun i j => 0 ≤ j ∧ j ≤ 1000000 ∧ i.natAbs < 2 ^ 64) fun i j => .int (i ^ j.toNat)
noncomputable def ltW : W → W → Sto → Option W
  | .da (.int i), .da (.int j), _ => some (.da (.bl (dec (i < j))))
  | .da (.str i), .da (.str j), _ => some (.da (.bl (dec (i.cps.toList < j.cps.toList))))
  | _, _, _ => none
noncomputable def leW := wI fun i j => .bl (dec (i ≤ j))
def negW : W → Sto → Option W
  | .da (.int i), _ => some (.da (.int (-i)))
  | _, _ => none
/-- the items of a tuple; of a list; of either -/
def tupW (S : Sto) : W → Option (List W)
  | .da (.tup ds) => some (ds.map .da)
  | .da (.wt ds) => some (ds.map .da)
  | .lo n => match S[n]? with
    | some (.tup ws) => some ws
    | _ => none
  | _ => none
def lstW (S : Sto) : W → Option (List W)
  | .da (.lst ds) => some (ds.map .da)
  | .lo n => match S[n]? with
    | some (.lst ws) => some ws
    | _ => none
  | _ => none
def seqW (S : Sto) : W → Option (List W)
  | .da (.tup ds) => some (ds.map .da)
  | .da (.wt ds) => some (ds.map .da)
  | .da (.lst ds) => some (ds.map .da)
  | .da (.scr ds) => some (ds.map .da)
  | .lo n => match S[n]? with
    | some (.lst ws) => some ws
    | some (.tup ws) => some ws
    | _ => none
  | _ => none
/-- x + y: numbers, texts, tuples of data; two lists -/
noncomputable def addV : W → W → Sto → Option W
  | .da (.int i), .da (.int j), _ => some (.da (.int (i + j)))
  | .da (.str x), .da (.str y), _ => ifc (x.length + y.length ≤ sizeLine) (some (.da (.str (x ++ y)))) none
  | x, y, S => match tupW S x, tupW S y with
    | some a, some b => ifc (a.isEmpty = false ∧ b.isEmpty = false ∧ a.length + b.length ≤ sizeLine) (match dats a, dats b with
      | some p, some q => some (.da (.tup (p ++ q)))
      | _, _ => none) none
    | _, _ => none
noncomputable def catC : W → W → Sto → Option Cell := fun x y S => match lstW S x, lstW S y with
  | some a, some b => ifc (a.length + b.length ≤ sizeLine) (some (.lst (a ++ b))) none
  | _, _ => none
/-- the choice: numbers, texts, tuples by values, else lists -/
noncomputable def addF (mk : Option Cell → Sto → Rs W) : W → W → Sto → Rs W := fun x y S => match addV x y S with
  | some w => .ok w S
  | none => mk (catC x y S) S
noncomputable def addD := addF mkD
noncomputable def addC := addF mkC

section
variable {X : Cx} {cl : Str → Option Addr}
theorem gv_da {K : PySem.W.Frag} {y : Y} {S : Sto} {d : D} {v : V} {Q : VK} (b : Bs K cl y S) (g : Gv K cl y (.da d) Q) (r : Rp K cl y.F d v) : Q v y.H := g v y.F y.H (Al.refl b.fz) r
theorem gv_w {K : PySem.W.Frag} {y : Y} {S : Sto} {w : W} {v : V} {Q : VK} (b : Bs K cl y S) (g : Gv K cl y w Q) (r : RW K cl y w v) : Q v y.H := g v y.F y.H (Al.refl b.fz) r
theorem opw_I {g : Value → Value → Sem Value} {f : Int → Int → D} {fv : Int → Int → V} (ho : OpR X g (rI0 fv)) (hf : ∀ i j K F, Rp K cl F (f i j) (fv i j)) : V2 X cl (rAny X g) (wI f) := fun y S b w w' v v' r r' u e Q g => by
  unfold wI at e
  split at e
  · rename_i i j
    cases e
    exact ⟨_, ho, i, j, r, r', gv_da b g (hf i j X.K y.F)⟩
  · cases e
theorem opw_Ig {g : Value → Value → Sem Value} {c P : Int → Int → Prop} {f : Int → Int → D} {fv : Int → Int → V} (ho : OpR X g (rI P fv)) (hc : ∀ i j, c i j → P i j) (hf : ∀ i j K F, Rp K cl F (f i j) (fv i j)) : V2 X cl (rAny X g) (wIg c f) := fun y S b w w' v v' r r' u e Q g => by
  unfold wIg at e
  split at e
  · rename_i i j
    obtain ⟨h, rfl⟩ := ifc_some e
    exact ⟨_, ho, i, j, r, r', hc i j h, gv_da b g (hf i j X.K y.F)⟩
  · cases e
theorem ow_sub : HOp X cl (binaryOp .Sub) (vl2 subW) := V2.h (f := subW) (opw_I op_sub fun _ _ _ _ => rfl)
theorem ow_lt : HOp X cl (compareOp .Lt) (vl2 ltW) := V2.h fun y S b w w' v v' r r' u e Q g => by
  unfold ltW at e
  split at e
  · rename_i i j
    cases e
    refine ⟨_, op_lt, i, j, r, r', gv_da b g ?_⟩
    simp only [dec_eq]; exact rfl
  · rename_i i j
    cases e
    refine ⟨_, op_lt_str, i, j, r, r', gv_da b g ?_⟩
    simp only [dec_eq]; exact rfl
  · cases e
theorem ow_le : HOp X cl (compareOp .LtE) (vl2 leW) := V2.h (f := leW) (opw_I op_le fun _ _ _ _ => by simp only [dec_eq]; exact rfl)
theorem ow_gt : HOp X cl (compareOp .Gt) (vl2 gtW) := V2.h (f := gtW) (opw_I op_gt fun _ _ _ _ => by simp only [dec_eq]; exact rfl)
theorem ow_ge : HOp X cl (compareOp .GtE) (vl2 geW) := V2.h (f := geW) (opw_I op_ge fun _ _ _ _ => by simp only [dec_eq]; exact rfl)
theorem ow_mul : HOp X cl (binaryOp .Mult) (vl2 mulW) := V2.h (f := mulW) (opw_Ig op_mul (fun _ _ e => e) fun _ _ _ _ => rfl)
theorem ow_mod : HOp X cl (binaryOp .Mod) (vl2 modW) := V2.h (f := modW) (opw_Ig op_mod (fun _ _ e => e) fun _ _ _ _ => rfl)
theorem ow_div : HOp X cl (binaryOp .FloorDiv) (vl2 divW) := V2.h (f := divW) (opw_Ig op_fdiv (fun _ _ e => e) fun _ _ _ _ => rfl)
theorem ow_pow : HOp X cl (binaryOp .Pow) (vl2 powW) := V2.h (f := powW) (opw_Ig op_pow (fun _ _ e => e) fun _ _ _ _ => rfl)
theorem uw_neg : HUn X cl (unaryOp .USub) (vl1 negW) := V1.h fun y S b w v r u e Q g => by
  unfold negW at e
  split at e
  · rename_i i
    cases e
    exact ⟨_, un_neg, i, r, gv_da b g rfl⟩
  · cases e
theorem tupW_ok {K : PySem.W.Frag} {y : Y} {S : Sto} (b : Bs K cl y S) {w : W} {v : V} {ws : List W} (r : RW K cl y w v) (h : tupW S w = some ws) : ∃ a vs, v = .ref a ∧ SqT K y.H a vs ∧ RWL K cl y ws vs := by
  unfold tupW at h
  split at h
  · cases h
    obtain ⟨a, vs, e, t, l⟩ := r
    exact ⟨a, vs, e, .inl (.inl (b.fz _ _ t)), rwl_da l⟩
  · cases h
    obtain ⟨a, vs, e, t, l⟩ := r
    exact ⟨a, vs, e, sqT_xt b.fz t, rwl_da l⟩
  · rename_i n
    obtain ⟨a, e, rfl⟩ := r
    split at h
    · rename_i ws' hc
      cases h
      obtain ⟨_, vs, e2, l⟩ := b.at hc (by intro z; cases z) e
      exact ⟨a, vs, rfl, .inl (.inl e2), l⟩
    · cases h
  · cases h
theorem lstW_ok {K : PySem.W.Frag} {y : Y} {S : Sto} (b : Bs K cl y S) {w : W} {v : V} {ws : List W} (r : RW K cl y w v) (h : lstW S w = some ws) : ∃ a vs, v = .ref a ∧ y.H a = some (.lst vs) ∧ RWL K cl y ws vs := by
  unfold lstW at h
  split at h
  · cases h
    obtain ⟨a, vs, e, t, l⟩ := r
    exact ⟨a, vs, e, b.fz _ _ t, rwl_da l⟩
  · rename_i n
    obtain ⟨a, e, rfl⟩ := r
    split at h
    · rename_i ws' hc
      cases h
      obtain ⟨_, vs, e2, l⟩ := b.at hc (by intro z; cases z) e
      exact ⟨a, vs, rfl, e2, l⟩
    · cases h
  · cases h
theorem seqW_ok {K : PySem.W.Frag} {y : Y} {S : Sto} (b : Bs K cl y S) {w : W} {v : V} {ws : List W} (r : RW K cl y w v) (h : seqW S w = some ws) : ∃ a vs, v = .ref a ∧ (SqL K y.H a vs ∨ SqT K y.H a vs) ∧ RWL K cl y ws vs := by
  unfold seqW at h
  split at h
  · cases h
    obtain ⟨a, vs, e, t, l⟩ := r
    exact ⟨a, vs, e, .inr (.inl (.inl (b.fz _ _ t))), rwl_da l⟩
  · cases h
    obtain ⟨a, vs, e, t, l⟩ := r
    exact ⟨a, vs, e, .inr (sqT_xt b.fz t), rwl_da l⟩
  · cases h
    obtain ⟨a, vs, e, t, l⟩ := r
    exact ⟨a, vs, e, .inl (.inl (.inl (b.fz _ _ t))), rwl_da l⟩
  · cases h
    obtain ⟨a, vs, e, t, l⟩ := r
    exact ⟨a, vs, e, .inl (sqL_xt b.fz t), rwl_da l⟩
  · rename_i n
    obtain ⟨a, e, rfl⟩ := r
    split at h
    · rename_i ws' hc
      cases h
      obtain ⟨_, vs, e2, l⟩ := b.at hc (by intro z; cases z) e
      exact ⟨a, vs, rfl, .inl (.inl (.inl e2)), l⟩
    · rename_i ws' hc
      cases h
      obtain ⟨_, vs, e2, l⟩ := b.at hc (by intro z; cases z) e
      exact ⟨a, vs, rfl, .inr (.inl (.inl e2)), l⟩
    · cases h
  · cases h
theorem v2_add : V2 X cl (rAny X (binaryOp .Add)) addV := fun y S b w w' v v' r r' u e Q g => by
  unfold addV at e
  split at e
  · rename_i i j
    cases e
    exact ⟨_, op_add, i, j, r, r', gv_da b g rfl⟩
  · rename_i x z
    obtain ⟨h, rfl⟩ := ifc_some e
    exact ⟨_, op_add_str, x, z, r, r', h, gv_da b g rfl⟩
  · split at e
    · rename_i p q h1 h2
      obtain ⟨a, vs, rfl, t1, l1⟩ := tupW_ok b r h1
      obtain ⟨a', vs', rfl, t2, l2⟩ := tupW_ok b r' h2
      rcases ifc_cases (P := fun r => r = some u) e with ⟨hc, e⟩ | ⟨_, e⟩
      · split at e
        · rename_i ds ds' e1 e2
          cases e
          have n1 := Paired.length l1
          have n2 := Paired.length l2
          refine ⟨_, op_catT, a, a', vs, vs', rfl, rfl, t1, t2, ?_, by rw [← n1, ← n2]; exact hc.2.2, fun z => ?_, fun _ pp hp => ?_⟩
          · intro z; subst z
            have := hc.1
            cases p <;> simp_all
          · subst z
            have := hc.2.1
            cases q <;> simp_all
          · have al := Al.new (o := .tup (vs ++ vs')) b.fz hp
            exact g _ _ _ al ⟨pp, _, rfl, upd_same, RpL.append (RpL.xt al.f _ _ (dats_ok l1 e1)) (RpL.xt al.f _ _ (dats_ok l2 e2))⟩
        · cases e
      · cases e
    · cases e
theorem paired_append {α β : Type} {R : α → β → Prop} : ∀ {a c : List α} {b d : List β}, Paired R a b → Paired R c d → Paired R (a ++ c) (b ++ d)
  | _, _, _, _, .nil, h => h
  | _, _, _, _, .cons r t, h => .cons r (paired_append t h)
theorem c2_cat : C2 X cl (rAny X (binaryOp .Add)) catC := fun y S b w w' v v' r r' c e Q g => by
  unfold catC at e
  split at e
  · rename_i p q h1 h2
    obtain ⟨a, vs, rfl, t1, l1⟩ := lstW_ok b r h1
    obtain ⟨a', vs', rfl, t2, l2⟩ := lstW_ok b r' h2
    obtain ⟨hc, rfl⟩ := ifc_some e
    refine ⟨_, op_cat, a, a', vs, vs', rfl, rfl, t1, t2, by rw [← Paired.length l1, ← Paired.length l2]; exact hc, fun pp hp => ?_⟩
    exact g pp _ hp ⟨_, upd_same, upd_rw (paired_append l1 l2)⟩
  · cases e
theorem ow_addD : HOp X cl (binaryOp .Add) addD := fun xa C Wx y σ ρ S s w w' v v' r r' Q h => by
  unfold addD addF at h
  split at h
  · rename_i u e
    exact v2_add.h xa C Wx y σ ρ S s w w' v v' r r' Q (by unfold vl2 lift; rw [e]; exact h)
  · exact c2_cat.d xa C Wx y σ ρ S s w w' v v' r r' Q h
theorem ow_addC : HOp X cl (binaryOp .Add) addC := fun xa C Wx y σ ρ S s w w' v v' r r' Q h => by
  unfold addC addF at h
  split at h
  · rename_i u e
    exact v2_add.h xa C Wx y σ ρ S s w w' v v' r r' Q (by unfold vl2 lift; rw [e]; exact h)
  · exact c2_cat.c xa C Wx y σ ρ S s w w' v v' r r' Q h
end

/-! ### data compared -/
mutual
def toPy : D → PyData
  | .non => .none
  | .bl b => .bool b
  | .int i => .int i
  | .str x => .str x
  | .tup ds => .tuple (toPyL ds)
  | .wt ds => .tuple (toPyL ds)
  | .lst ds => .list (toPyL ds)
  | .scr ds => .list (toPyL ds)
  | .dk _ _ => .dict []
  | .dt _ _ => .dict []
  | .obj _ _ _ => .dict []
def toPyL : List D → List PyData
  | [] => []
  | d :: ds => toPy d :: toPyL ds
end
theorem toPyL_map : ∀ ds : List D, toPyL ds = ds.map toPy
  | [] => rfl
  | d :: ds => by simp [toPyL, toPyL_map ds]
mutual
theorem toPy_ok {K : PySem.W.Frag} {cl : Str → Option Addr} {H : Hp} : ∀ (d : D) (v : V), (toPy d).canLay0 = true → Rp K cl H d v → Dp K H v (toPy d)
  | .non, v, _, r => by cases (show v = .non from r); exact .non
  | .bl b, v, _, r => by cases (show v = .bl b from r); exact .bl b
  | .int i, v, _, r => by cases (show v = .int i from r); exact .int i
  | .str x, v, _, r => by cases (show v = .str x from r); exact .str x
  | .tup ds, v, h, r => by
    obtain ⟨a, vs, rfl, t, l⟩ := r
    exact .tup (.inl (.inl t)) (toPyL_ok ds vs (by simpa [toPy, PyData.canLay0] using h) l)
  | .wt ds, v, h, r => by
    obtain ⟨a, vs, rfl, t, l⟩ := r
    exact .tup t (toPyL_ok ds vs (by simpa [toPy, PyData.canLay0] using h) l)
  | .lst ds, v, h, r => by
    obtain ⟨a, vs, rfl, t, l⟩ := r
    exact .lst (.inl (.inl t)) (toPyL_ok ds vs (by simpa [toPy, PyData.canLay0] using h) l)
  | .scr ds, v, h, r => by
    obtain ⟨a, vs, rfl, t, l⟩ := r
    exact .lst t (toPyL_ok ds vs (by simpa [toPy, PyData.canLay0] using h) l)
  | .dk _ _, v, h, r => by simp [toPy, PyData.canLay0] at h
  | .dt _ _, v, h, r => by simp [toPy, PyData.canLay0] at h
  | .obj _ _ _, v, h, r => by simp [toPy, PyData.canLay0] at h
theorem toPyL_ok {K : PySem.W.Frag} {cl : Str → Option Addr} {H : Hp} : ∀ (ds : List D) (vs : List V), PyData.canLayAll0 (toPyL ds) = true → RpL K cl H ds vs → DpAll K H vs (toPyL ds)
  | [], vs, _, r => by cases (show vs = [] from r); exact .nil
  | d :: ds, vs, h, r => by
    obtain ⟨v, t, rfl, r1, r2⟩ := r
    have h' : (toPy d).canLay0 = true ∧ PyData.canLayAll0 (toPyL ds) = true := by simpa [toPyL, PyData.canLayAll0] using h
    exact .cons (toPy_ok d v h'.1 r1) (toPyL_ok ds t h'.2 r2)
end
/-- the data that a value is worth -/
def valW (S : Sto) : W → Option D
  | .da d => some d
  | .lo n => match S[n]? with
    | some (.lst ws) => (dats ws).map .lst
    | some (.tup ws) => (dats ws).map .tup
    | _ => none
  | .xc => none
/-- the very same by plain ways, or by the data's own == -/
noncomputable def eqD : D → D → Option Bool
  | .int i, .int j => some (dec (i = j))
  | .str x, .str y => some (dec (x = y))
  | .bl a, .bl b => some (dec (a = b))
  | a, b => ifc (SeqAt.shaped (toPy a) = true ∧ SeqAt.shaped (toPy b) = true) (some (PyData.eqv (toPy a) (toPy b))) none
noncomputable def eqB (x y : W) (S : Sto) : Option Bool := match valW S x, valW S y with
  | some a, some b => eqD a b
  | _, _ => none
noncomputable def eqW (x y : W) (S : Sto) : Option W := (eqB x y S).map fun b => .da (.bl b)
noncomputable def neW (x y : W) (S : Sto) : Option W := (eqB x y S).map fun b => .da (.bl (!b))
/-- room for nested data -/
abbrev Hu (X : Cx) : Prop := X.A.units + 200 < cLine
section
variable {X : Cx} {cl : Str → Option Addr}
theorem valW_ok {K : PySem.W.Frag} {y : Y} {S : Sto} (b : Bs K cl y S) {w : W} {v : V} {d : D} (r : RW K cl y w v) (h : valW S w = some d) : Rp K cl y.H d v := by
  unfold valW at h
  split at h
  · cases h; exact Rp.xt b.fz _ _ r
  · obtain ⟨a, e, rfl⟩ := r
    split at h
    · rename_i ws hc
      obtain ⟨_, vs, e2, l⟩ := b.at hc (by intro z; cases z) e
      obtain ⟨ds, q, rfl⟩ := Option.map_eq_some_iff.mp h
      exact ⟨a, vs, rfl, e2, RpL.xt b.fz _ _ (dats_ok l q)⟩
    · rename_i ws hc
      obtain ⟨_, vs, e2, l⟩ := b.at hc (by intro z; cases z) e
      obtain ⟨ds, q, rfl⟩ := Option.map_eq_some_iff.mp h
      exact ⟨a, vs, rfl, e2, RpL.xt b.fz _ _ (dats_ok l q)⟩
    · cases h
  · cases h
/-- what == gives -/
theorem eqB_ok {K : PySem.W.Frag} {y : Y} {S : Sto} (b : Bs K cl y S) {wx wy : W} {x z : V} {k : Bool} (rx : RW K cl y wx x) (rz : RW K cl y wy z) (h : eqB wx wy S = some k) :
    (scal x z = true ∧ k = decide (x = z)) ∨ ∃ d e, Dp K y.H x d ∧ Dp K y.H z e ∧ SeqAt.shaped d = true ∧ SeqAt.shaped e = true ∧ k = PyData.eqv d e := by
  unfold eqB at h
  split at h
  · rename_i p q hp hq
    have r1 := valW_ok b rx hp
    have r2 := valW_ok b rz hq
    unfold eqD at h
    split at h
    · rename_i i j
      cases h
      cases (show x = .int i from r1); cases (show z = .int j from r2)
      exact .inl ⟨rfl, by rw [dec_eq]; by_cases e : i = j <;> simp [e]⟩
    · rename_i i j
      cases h
      cases (show x = .str i from r1); cases (show z = .str j from r2)
      exact .inl ⟨rfl, by rw [dec_eq]; by_cases e : i = j <;> simp [e]⟩
    · rename_i i j
      cases h
      cases (show x = .bl i from r1); cases (show z = .bl j from r2)
      exact .inl ⟨rfl, by rw [dec_eq]; by_cases e : i = j <;> simp [e]⟩
    · obtain ⟨hs, rfl⟩ := ifc_some h
      exact .inr ⟨_, _, toPy_ok _ _ (SeqAt.canLay_of_shaped hs.1) r1, toPy_ok _ _ (SeqAt.canLay_of_shaped hs.2) r2, hs.1, hs.2, rfl⟩
  · cases h
theorem ow_eq (hu : Hu X) : HOp X cl (compareOp .Eq) (vl2 eqW) := V2.h fun y S b w w' v v' r r' u e Q g => by
  obtain ⟨k, e0, rfl⟩ := Option.map_eq_some_iff.mp e
  have q := gv_da (v := .bl k) b g rfl
  rcases eqB_ok b r r' e0 with ⟨h, rfl⟩ | ⟨d, e', h1, h2, h3, h4, rfl⟩
  · exact ⟨_, op_eq, h, q⟩
  · exact ⟨_, op_eqD (by have : X.A.units + 200 < cLine := hu; omega), d, e', h1, h2, h3, h4, q⟩
theorem ow_ne (hu : Hu X) : HOp X cl (compareOp .NotEq) (vl2 neW) := V2.h fun y S b w w' v v' r r' u e Q g => by
  obtain ⟨k, e0, rfl⟩ := Option.map_eq_some_iff.mp e
  have q := gv_da (v := .bl (!k)) b g rfl
  rcases eqB_ok b r r' e0 with ⟨h, rfl⟩ | ⟨d, e', h1, h2, h3, h4, rfl⟩
  · exact ⟨_, op_ne, h, q⟩
  · exact ⟨_, op_neD (by have : X.A.units + 200 < cLine := hu; omega), d, e', h1, h2, h3, h4, q⟩
/-- x is None -/
def isN : W → Option Bool
  | .da .non => some true
  | .da _ => some false
  | .lo _ => some false
  | .xc => none
def isNW (x y : W) (_ : Sto) : Option W := match y with
  | .da .non => (isN x).map fun b => .da (.bl b)
  | _ => none
def notNW (x y : W) (_ : Sto) : Option W := match y with
  | .da .non => (isN x).map fun b => .da (.bl (!b))
  | _ => none
theorem isN_ok {K : PySem.W.Frag} {y : Y} {w : W} {v : V} {k : Bool} (r : RW K cl y w v) (h : isN w = some k) : k = decide (v = .non) := by
  cases w with
  | xc => cases h
  | lo n => obtain ⟨a, _, rfl⟩ := r; cases h; exact (decide_eq_false (by intro z; cases z)).symm
  | da d =>
    cases d with
    | non => cases h; cases (show v = .non from r); simp
    | bl b => cases h; cases (show v = .bl b from r); exact (decide_eq_false (by intro z; cases z)).symm
    | int b => cases h; cases (show v = .int b from r); exact (decide_eq_false (by intro z; cases z)).symm
    | str b => cases h; cases (show v = .str b from r); exact (decide_eq_false (by intro z; cases z)).symm
    | tup ds => cases h; obtain ⟨_, _, rfl, _⟩ := r; exact (decide_eq_false (by intro z; cases z)).symm
    | wt ds => cases h; obtain ⟨_, _, rfl, _⟩ := r; exact (decide_eq_false (by intro z; cases z)).symm
    | lst ds => cases h; obtain ⟨_, _, rfl, _⟩ := r; exact (decide_eq_false (by intro z; cases z)).symm
    | scr ds => cases h; obtain ⟨_, _, rfl, _⟩ := r; exact (decide_eq_false (by intro z; cases z)).symm
    | dk g ds => cases h; obtain ⟨_, _, rfl, _⟩ := r; exact (decide_eq_false (by intro z; cases z)).symm
    | dt g ds => cases h; obtain ⟨_, _, rfl, _⟩ := r; exact (decide_eq_false (by intro z; cases z)).symm
    | obj c g ds => cases h; obtain ⟨_, _, _, _, rfl, _⟩ := r; exact (decide_eq_false (by intro z; cases z)).symm
theorem ow_is : HOp X cl (compareOp .Is) (vl2 isNW) := V2.h fun y S b w w' v v' r r' u e Q g => by
  unfold isNW at e
  split at e
  · obtain ⟨k, e0, rfl⟩ := Option.map_eq_some_iff.mp e
    have q := gv_da (v := .bl k) b g rfl
    rw [isN_ok r e0] at q
    exact ⟨_, op_isN, r', q⟩
  · cases e
theorem ow_isnot : HOp X cl (compareOp .IsNot) (vl2 notNW) := V2.h fun y S b w w' v v' r r' u e Q g => by
  unfold notNW at e
  split at e
  · obtain ⟨k, e0, rfl⟩ := Option.map_eq_some_iff.mp e
    have q := gv_da (v := .bl (!k)) b g rfl
    rw [isN_ok r e0] at q
    exact ⟨_, op_notN, r', q⟩
  · cases e
end

/-! ### items -/
theorem RWL.get {K : PySem.W.Frag} {cl : Str → Option Addr} {y : Y} : ∀ {ws : List W} {vs : List V} {i : Nat} {w : W}, RWL K cl y ws vs → ws[i]? = some w → ∃ v, vs[i]? = some v ∧ RW K cl y w v
  | _, _, _, _, .nil, e => by simp at e
  | _, _, 0, _, .cons r _, e => by simp at e; subst e; exact ⟨_, rfl, r⟩
  | _, _, i + 1, w, .cons _ t, e => by
    obtain ⟨u, h1, h2⟩ := RWL.get (i := i) (w := w) t (by simpa using e)
    exact ⟨u, by simpa using h1, h2⟩
theorem RWL.at {K : PySem.W.Frag} {cl : Str → Option Addr} {y : Y} {ws : List W} {vs : List V} {i : Int} {w : W} (h : RWL K cl y ws vs) (e : atI ws i = some w) : ∃ v, atI vs i = some v ∧ RW K cl y w v := by
  unfold atI at e ⊢
  rw [← Paired.length h]
  cases q : ixN ws.length i with
  | none => rw [q] at e; cases e
  | some j =>
    rw [q] at e
    exact RWL.get h e
/-! ### keys -/
def keyD : D → Option Key
  | .int i => some (.inl i)
  | .str x => some (.inr x)
  | _ => none
def keysD : List D → Option (List Key)
  | [] => some []
  | d :: ds => match keyD d, keysD ds with
    | some k, some ks => some (k :: ks)
    | _, _ => none
theorem keyD_ok {K : PySem.W.Frag} {cl : Str → Option Addr} {F : Hp} {d : D} {v : V} {k : Key} (r : Rp K cl F d v) (e : keyD d = some k) : v = kV k := by
  unfold keyD at e
  split at e
  · cases e; exact r
  · cases e; exact r
  · cases e
theorem keysD_ok {K : PySem.W.Frag} {cl : Str → Option Addr} {F : Hp} : ∀ {ds : List D} {vs : List V} {ks : List Key}, RpL K cl F ds vs → keysD ds = some ks → vs = ks.map kV
  | [], vs, ks, r, e => by cases e; exact r
  | d :: ds, vs, ks, r, e => by
    obtain ⟨v, t, rfl, r1, r2⟩ := r
    simp only [keysD] at e
    split at e
    · rename_i k ks' e1 e2
      cases e
      rw [keyD_ok r1 e1, keysD_ok r2 e2]
      rfl
    · cases e
/-- a dict's pairs: by keys that are numbers or texts, by tuples of them -/
def dkW (S : Sto) : W → Option (List (Key × W))
  | .da (.dk ks ds) => some (ks.zip (ds.map .da))
  | .lo n => match S[n]? with
    | some (.dk kws) => some kws
    | _ => none
  | _ => none
def dtW (S : Sto) : W → Option (List (List Key × W))
  | .da (.dt ks ds) => some (ks.zip (ds.map .da))
  | .lo n => match S[n]? with
    | some (.dt kws) => some kws
    | _ => none
  | _ => none
def keyW : W → Option Key
  | .da d => keyD d
  | _ => none
/-- a tuple of keys that is tracked -/
def keysW : W → Option (List Key)
  | .da (.tup ds) => keysD ds
  | _ => none
def look {κ : Type} [DecidableEq κ] : List (κ × W) → κ → Option W
  | [], _ => none
  | (k, w) :: r, j => if k = j then some w else look r j
/-- what stands in a dict at y: none where y is no key or x no dict -/
def dget (x y : W) (S : Sto) : Option (Option W) := match dkW S x with
  | some kws => (keyW y).map (look kws)
  | none => match dtW S x with
    | some kws => (keysW y).map (look kws)
    | none => none
section
variable {X : Cx} {cl : Str → Option Addr}
theorem look_ok {κ : Type} [DecidableEq κ] {K : PySem.W.Frag} {y : Y} {k : κ} : ∀ {kws : List (κ × W)} {kvs : List (κ × V)}, RWP K cl y kws kvs → (∀ w, look kws k = some w → ∃ v, valV kvs k = some v ∧ RW K cl y w v) ∧ (look kws k = none → valV kvs k = none)
  | _, _, .nil => ⟨(fun w e => by cases e), fun _ => valV_nil⟩
  | (j, w) :: kws, (j', v) :: kvs, .cons ⟨e, r⟩ t => by
    cases (show j = j' from e)
    simp only [look]
    by_cases h : j = k
    · rw [if_pos h]
      refine ⟨fun u e => ?_, fun e => by cases e⟩
      cases e
      exact ⟨v, valV_pos h, r⟩
    · rw [if_neg h, valV_neg h]
      exact look_ok t
theorem rwp_of {κ : Type} {K : PySem.W.Frag} {y : Y} : ∀ {ks : List κ} {ws : List W} {vs : List V}, RWL K cl y ws vs → ks.length = vs.length → RWP K cl y (ks.zip ws) (ks.zip vs)
  | [], _, _, .nil, _ => .nil
  | [], _, _, .cons _ _, h => by simp at h
  | k :: ks, _, _, .nil, h => by simp at h
  | k :: ks, _, _, .cons r t, h => .cons ⟨rfl, r⟩ (rwp_of t (by simpa using h))
theorem dkW_ok {K : PySem.W.Frag} {y : Y} {S : Sto} (b : Bs K cl y S) {w : W} {v : V} {kws : List (Key × W)} (r : RW K cl y w v) (h : dkW S w = some kws) : ∃ a kvs, v = .ref a ∧ Rd y.H a (.dK kvs) ∧ RWP K cl y kws kvs := by
  unfold dkW at h
  split at h
  · cases h
    obtain ⟨a, vs, e, ⟨o, t⟩, n, l⟩ := r
    exact ⟨a, _, e, .inr ⟨o, b.fz _ _ t⟩, rwp_of (rwl_da l) n⟩
  · obtain ⟨a, e, rfl⟩ := r
    split at h
    · rename_i kws' hc
      cases h
      obtain ⟨_, kvs, e2, l⟩ := b.at hc (by intro z; cases z) e
      exact ⟨a, kvs, rfl, .inl e2, l⟩
    · cases h
  · cases h
theorem dtW_ok {K : PySem.W.Frag} {y : Y} {S : Sto} (b : Bs K cl y S) {w : W} {v : V} {kws : List (List Key × W)} (r : RW K cl y w v) (h : dtW S w = some kws) : ∃ a kvs, v = .ref a ∧ Rd y.H a (.dT kvs) ∧ RWP K cl y kws kvs := by
  unfold dtW at h
  split at h
  · cases h
    obtain ⟨a, vs, e, ⟨o, t⟩, n, l⟩ := r
    exact ⟨a, _, e, .inr ⟨o, b.fz _ _ t⟩, rwp_of (rwl_da l) n⟩
  · obtain ⟨a, e, rfl⟩ := r
    split at h
    · rename_i kws' hc
      cases h
      obtain ⟨_, kvs, e2, l⟩ := b.at hc (by intro z; cases z) e
      exact ⟨a, kvs, rfl, .inl e2, l⟩
    · cases h
  · cases h
theorem keyW_ok {K : PySem.W.Frag} {y : Y} {w : W} {v : V} {k : Key} (r : RW K cl y w v) (e : keyW w = some k) : v = kV k := by
  unfold keyW at e
  split at e
  · exact keyD_ok r e
  · cases e
theorem keysW_ok {K : PySem.W.Frag} {y : Y} {S : Sto} (b : Bs K cl y S) {w : W} {v : V} {k : List Key} (r : RW K cl y w v) (e : keysW w = some k) : ∃ p, v = .ref p ∧ y.H p = some (.tup (k.map kV)) := by
  unfold keysW at e
  split at e
  · obtain ⟨p, vs, e1, t, l⟩ := r
    rw [← keysD_ok l e]
    exact ⟨p, e1, b.fz _ _ t⟩
  · cases e
/-- the heap's side of dget -/
theorem dget_ok {K : PySem.W.Frag} {y : Y} {S : Sto} (b : Bs K cl y S) {wd wk : W} {d k : V} {o : Option W} (rd : RW K cl y wd d) (rk : RW K cl y wk k) (h : dget wd wk S = some o) :
    ∃ a ov, d = .ref a ∧ DGet y.H a k ov ∧ (∀ w, o = some w → ∃ v, ov = some v ∧ RW K cl y w v) ∧ (o = none → ov = none) := by
  unfold dget at h
  split at h
  · rename_i kws hk
    obtain ⟨a, kvs, e, t, l⟩ := dkW_ok b rd hk
    obtain ⟨kk, hkk, rfl⟩ := Option.map_eq_some_iff.mp h
    have ek := keyW_ok rk hkk
    obtain ⟨q1, q2⟩ := look_ok (k := kk) l
    exact ⟨a, valV kvs kk, e, .inl ⟨kvs, kk, t, ek, rfl⟩, q1, q2⟩
  · split at h
    · rename_i kws hk
      obtain ⟨a, kvs, e, t, l⟩ := dtW_ok b rd hk
      obtain ⟨kk, hkk, rfl⟩ := Option.map_eq_some_iff.mp h
      obtain ⟨p, ek, hp⟩ := keysW_ok b rk hkk
      obtain ⟨q1, q2⟩ := look_ok (k := kk) l
      exact ⟨a, valV kvs kk, e, .inr ⟨kvs, kk, p, t, ek, hp, rfl⟩, q1, q2⟩
    · cases h
open PySem.Spec PyProof.Rows in
theorem ix_dict (hu : X.A.units + 1 < cLine) : IxR X (fun x y H Q => ∃ a v, x = .ref a ∧ DGet H a y (some v) ∧ Q v H) := by
  intro value slice pins s σ H x y v u Q I rx ry h hs
  obtain ⟨a, w, rfl, g, q⟩ := h
  obtain rfl : v = Value.ref a := rx
  have hT := dict_typeIs I g
  unfold subscriptTail
  refine wpAny_bind ?_
  rw [getitemInPython_of_ne hT.not_modules]
  refine wpAny_bind (wpAny_specialOf hT PySem.F.slot_dict_getitem.lookup ?_)
  have fin : wpAny (model X.prog X.w) X.A (subscripted slice false (.ref a) u) (fun r s₃ => wpAny (model X.prog X.w) X.A (letTemporaryGo value (.ref a) r >>= fun _ => pure r) (EP X pins σ Q) X.xe s₃) X.xe s := by
    rw [hs]
    refine wpAny_operating (d_getItem hu I g ry fun w' s3 I3 rw' => ?_)
    exact wpAny_bind (wpAny_letTemporaryGo (wpAny_pure ⟨w, H, I3, rw', q⟩))
  first
    | exact wpAny_pure (wpAny_bind fin)
    | exact wpAny_bind (wpAny_pure (wpAny_bind fin))
    | exact wpAny_bind fin
theorem op_in_dict (hu : X.A.units + 1 < cLine) : OpR X (compareOp .In) (fun x y H Q => ∃ a o, y = .ref a ∧ DGet H a x o ∧ Q (.bl o.isSome) H) := by
  intro pins s σ H x y v u Q I rx ry h
  obtain ⟨a, o, rfl, g, q⟩ := h
  obtain rfl : u = Value.ref a := ry
  exact d_in hu I g rx fun s3 I3 => ⟨.bl o.isSome, H, I3, rfl, q⟩
theorem op_notin_dict (hu : X.A.units + 1 < cLine) : OpR X (compareOp .NotIn) (fun x y H Q => ∃ a o, y = .ref a ∧ DGet H a x o ∧ Q (.bl (!o.isSome)) H) := by
  intro pins s σ H x y v u Q I rx ry h
  obtain ⟨a, o, rfl, g, q⟩ := h
  obtain rfl : u = Value.ref a := ry
  exact d_notIn hu I g rx fun s3 I3 => ⟨.bl (!o.isSome), H, I3, rfl, q⟩
/-- x[i]: a sequence's item, a text's sign, a dict's value -/
noncomputable def ixW (x i : W) (S : Sto) : Option W := match seqW S x with
  | some ws => match i with
    | .da (.int k) => atI ws k
    | _ => none
  | none => match x, i with
    | .da (.str z), .da (.int k) => ifc (z.length ≤ sizeLine) ((atI z.cps.toList k).map fun c => .da (.str ⟨#[c]⟩)) none
    | _, _ => match dget x i S with
      | some o => o
      | none => none
theorem xw_ix (hu : Hu X) : HIx X cl (vl2 ixW) := V2.h fun y S b w w' v v' r r' u e Q g => by
  unfold ixW at e
  split at e
  · rename_i ws hs
    obtain ⟨a, vs, rfl, t, l⟩ := seqW_ok b r hs
    split at e
    · rename_i k
      cases (show v' = .int k from r')
      obtain ⟨z, e1, e2⟩ := RWL.at l e
      have q := gv_w b g e2
      rcases t with t | t
      · exact ⟨_, ix_list, a, vs, k, z, rfl, rfl, t, e1, q⟩
      · exact ⟨_, ix_tup, a, vs, k, z, rfl, rfl, t, e1, q⟩
    · cases e
  · split at e
    · rename_i z k _
      rcases ifc_cases (P := fun r => r = some u) e with ⟨hl, e⟩ | ⟨_, e⟩
      · obtain ⟨c, ec, rfl⟩ := Option.map_eq_some_iff.mp e
        exact ⟨_, ix_str, z, k, c, r, r', hl, ec, gv_da b g rfl⟩
      · cases e
    · split at e
      · rename_i o hd
        subst e
        obtain ⟨a, ov, rfl, dg, h1, _⟩ := dget_ok b r r' hd
        obtain ⟨z, rfl, rz⟩ := h1 u rfl
        exact ⟨_, ix_dict (by have : X.A.units + 200 < cLine := hu; omega), a, z, rfl, dg, gv_w b g rz⟩
      · cases e
theorem qe_ix {xa : Option (Nat × Addr)} {Wx : WX} {pos : Pos} {a b : Expr} {ma mb : ME} {F : W → W → Sto → Rs W} (ho : HIx X cl F) (ha : QE X cl xa Wx a ma) (hb : QE X cl xa Wx b mb) (hs : PlainIx b) : QE X cl xa Wx (.Subscript a b pos) (mOp F ma mb) := by
  obtain ⟨t, p, q⟩ := ha
  obtain ⟨t2, p2, q2⟩ := hb
  exact ⟨_, pe_ix ix_any p p2 hs, se_op ho q q2⟩
/-- x in y: a dict, a sign of a text, a list, a tuple of flat things -/
def flatD : D → Bool
  | .non => true
  | .bl _ => true
  | .int _ => true
  | .str _ => true
  | _ => false
def flV : D → V
  | .bl b => .bl b
  | .int i => .int i
  | .str x => .str x
  | _ => .non
noncomputable def inB (x y : W) (S : Sto) : Option Bool := match dget y x S with
  | some o => some o.isSome
  | none => match x, y with
    | .da (.str a), .da (.str z) => (match a with
      | ⟨⟨[c]⟩⟩ => some (dec (c ∈ z.cps.toList))
      | _ => none)
    | _, _ => match valW S x, valW S y with
      | some a, some (.lst ds) => ifc (SeqAt.shaped (toPy a) = true ∧ SeqAt.shaped (.list (toPyL ds)) = true) (some (ds.any fun z => PyData.eqv (toPy z) (toPy a))) none
      | some a, some (.scr ds) => ifc (SeqAt.shaped (toPy a) = true ∧ SeqAt.shaped (.list (toPyL ds)) = true) (some (ds.any fun z => PyData.eqv (toPy z) (toPy a))) none
      | some a, some (.tup ds) => ifc (flatD a = true ∧ ds.all flatD = true) (some (ds.any fun z => eqV (flV z) (flV a))) none
      | some a, some (.wt ds) => ifc (flatD a = true ∧ ds.all flatD = true) (some (ds.any fun z => eqV (flV z) (flV a))) none
      | _, _ => none
noncomputable def inW (x y : W) (S : Sto) : Option W := (inB x y S).map fun b => .da (.bl b)
noncomputable def notinW (x y : W) (S : Sto) : Option W := (inB x y S).map fun b => .da (.bl (!b))
theorem flat_ok {K : PySem.W.Frag} {F : Hp} {d : D} {v : V} (r : Rp K cl F d v) (h : flatD d = true) : v = flV d ∧ flatV v = true := by
  cases d <;> simp [flatD] at h
  · cases (show v = .non from r); exact ⟨rfl, rfl⟩
  · cases r; exact ⟨rfl, rfl⟩
  · cases r; exact ⟨rfl, rfl⟩
  · cases r; exact ⟨rfl, rfl⟩
theorem flats_ok {K : PySem.W.Frag} {F : Hp} {x : V} : ∀ {ds : List D} {vs : List V}, RpL K cl F ds vs → ds.all flatD = true → vs.all flatV = true ∧ inV x vs = ds.any fun z => eqV (flV z) x
  | [], vs, r, _ => by cases (show vs = [] from r); exact ⟨rfl, rfl⟩
  | d :: ds, vs, r, h => by
    obtain ⟨v, t, rfl, r1, r2⟩ := r
    simp only [List.all_cons, Bool.and_eq_true] at h
    obtain ⟨e1, e2⟩ := flat_ok r1 h.1
    obtain ⟨f1, f2⟩ := flats_ok (x := x) r2 h.2
    refine ⟨by simp [e2, f1], ?_⟩
    have : inV x (v :: t) = (eqV v x || inV x t) := rfl
    rw [this, f2, e1]
    rfl
theorem inB_ok {K : PySem.W.Frag} {y : Y} {S : Sto} (b : Bs K cl y S) {wx wy : W} {x z : V} {k : Bool} (rx : RW K cl y wx x) (rz : RW K cl y wy z) (h : inB wx wy S = some k) :
    (∃ a o, z = .ref a ∧ DGet y.H a x o ∧ k = o.isSome) ∨ (∃ (c : Nat) (t : Str), x = .str ⟨#[c]⟩ ∧ z = .str t ∧ k = decide (c ∈ t.cps.toList)) ∨
    (∃ d ds, Dp K y.H x d ∧ Dp K y.H z (.list ds) ∧ SeqAt.shaped d = true ∧ SeqAt.shaped (.list ds) = true ∧ k = ds.any fun z => PyData.eqv z d) ∨
    ∃ p xs, z = .ref p ∧ (SqL K y.H p xs ∨ SqT K y.H p xs) ∧ flatV x = true ∧ xs.all flatV = true ∧ k = inV x xs := by
  have pyl : ∀ (ds : List D) (p : PyData), (toPyL ds).any (fun z => PyData.eqv z p) = ds.any fun z => PyData.eqv (toPy z) p := fun ds p => by
    rw [toPyL_map, List.any_map]; rfl
  unfold inB at h
  split at h
  · rename_i o hd
    cases h
    obtain ⟨a, ov, e, g, h1, h2⟩ := dget_ok b rz rx hd
    refine .inl ⟨a, ov, e, g, ?_⟩
    cases o with
    | none => rw [h2 rfl]; rfl
    | some w => obtain ⟨v, rfl, _⟩ := h1 w rfl; rfl
  · split at h
    · rename_i a t _
      split at h
      · rename_i c _
        cases h
        exact .inr (.inl ⟨c, t, rx, rz, dec_eq _⟩)
      · cases h
    · split at h
      · rename_i a ds h1 h2
        have r1 := valW_ok b rx h1
        have r2 := valW_ok b rz h2
        obtain ⟨hs, rfl⟩ := ifc_some h
        exact .inr (.inr (.inl ⟨_, _, toPy_ok _ _ (SeqAt.canLay_of_shaped hs.1) r1, toPy_ok (.lst ds) _ (SeqAt.canLay_of_shaped hs.2) r2, hs.1, hs.2, (pyl _ _).symm⟩))
      · rename_i a ds h1 h2
        have r1 := valW_ok b rx h1
        have r2 := valW_ok b rz h2
        obtain ⟨hs, rfl⟩ := ifc_some h
        exact .inr (.inr (.inl ⟨_, _, toPy_ok _ _ (SeqAt.canLay_of_shaped hs.1) r1, toPy_ok (.scr ds) _ (SeqAt.canLay_of_shaped hs.2) r2, hs.1, hs.2, (pyl _ _).symm⟩))
      · rename_i a ds h1 h2
        have r1 := valW_ok b rx h1
        obtain ⟨p, xs, e, t, l⟩ := valW_ok b rz h2
        obtain ⟨hs, rfl⟩ := ifc_some h
        obtain ⟨e1, e2⟩ := flat_ok r1 hs.1
        obtain ⟨f1, f2⟩ := flats_ok (x := x) l hs.2
        refine .inr (.inr (.inr ⟨p, xs, e, .inr (.inl (.inl t)), e2, f1, ?_⟩))
        rw [f2, e1]
      · rename_i a ds h1 h2
        have r1 := valW_ok b rx h1
        obtain ⟨p, xs, e, t, l⟩ := valW_ok b rz h2
        obtain ⟨hs, rfl⟩ := ifc_some h
        obtain ⟨e1, e2⟩ := flat_ok r1 hs.1
        obtain ⟨f1, f2⟩ := flats_ok (x := x) l hs.2
        refine .inr (.inr (.inr ⟨p, xs, e, .inr t, e2, f1, ?_⟩))
        rw [f2, e1]
      · cases h
theorem ow_in (hu : Hu X) : HOp X cl (compareOp .In) (vl2 inW) := V2.h fun y S b w w' v v' r r' u e Q g => by
  obtain ⟨k, e0, rfl⟩ := Option.map_eq_some_iff.mp e
  have q := gv_da (v := .bl k) b g rfl
  have h1 : X.A.units + 200 < cLine := hu
  rcases inB_ok b r r' e0 with ⟨a, o, rfl, dg, rfl⟩ | ⟨c, t, rfl, rfl, rfl⟩ | ⟨d, ds, e1, e2, e3, e4, rfl⟩ | ⟨p, xs, rfl, e1, e2, e3, rfl⟩
  · exact ⟨_, op_in_dict (by omega), a, o, rfl, dg, q⟩
  · exact ⟨_, op_in_sign, c, t, rfl, rfl, q⟩
  · exact ⟨_, op_inD (by omega), d, ds, e1, e2, e3, e4, q⟩
  · exact ⟨_, op_in_seq, p, xs, rfl, e1, e2, e3, q⟩
theorem ow_notin (hu : Hu X) : HOp X cl (compareOp .NotIn) (vl2 notinW) := V2.h fun y S b w w' v v' r r' u e Q g => by
  obtain ⟨k, e0, rfl⟩ := Option.map_eq_some_iff.mp e
  have q := gv_da (v := .bl (!k)) b g rfl
  have h1 : X.A.units + 200 < cLine := hu
  rcases inB_ok b r r' e0 with ⟨a, o, rfl, dg, rfl⟩ | ⟨c, t, rfl, rfl, rfl⟩ | ⟨d, ds, e1, e2, e3, e4, rfl⟩ | ⟨p, xs, rfl, e1, e2, e3, rfl⟩
  · exact ⟨_, op_notin_dict (by omega), a, o, rfl, dg, q⟩
  · exact ⟨_, op_notIn_sign, c, t, rfl, rfl, q⟩
  · exact ⟨_, op_notInD (by omega), d, ds, e1, e2, e3, e4, q⟩
  · exact ⟨_, op_notIn_seq, p, xs, rfl, e1, e2, e3, q⟩
end
end Ng
namespace Ng
open PySem L2

/-! ### locked for good: dicts as data -/
def datL : Cell → Option D
  | .dk kws => (dats (kws.map (·.2))).map (.dk (kws.map (·.1)))
  | .dt kws => (dats (kws.map (·.2))).map (.dt (kws.map (·.1)))
  | _ => none
def mkL (o : Option Cell) (S : Sto) : Rs W := match o with
  | some c => match datL c with
    | some d => .ok (.da d) S
    | none => .stuck
  | none => .stuck
def lkN (f : List W → Sto → Option Cell) : List W → Sto → Rs W := fun xs S => mkL (f xs S) S
def rLk (r : List V → Hp → VK → Prop) : List V → Hp → VK → Prop := fun vs H Q => r vs H fun v H1 => Lks (Q v) H1
section
variable {X : Cx} {cl : Str → Option Addr} {xa : Option (Nat × Addr)} {C : Cn} {Wx : WX} {y : Y} {σ : St} {ρ : Rho} {S : Sto} {Q : VK}
theorem datL_ok {K : PySem.W.Frag} {p : Addr} {o : HO} {c : Cell} {d : D} (hc : CellR K cl (y.new p o) p c) (e : datL c = some d) : Mut (some o) ∧ ∀ (od : Obj) (F' : Hp), Ex y.F F' → F' p = some (.frz od o) → Rp K cl F' d (.ref p) := by
  cases c with
  | dk kws =>
    obtain ⟨kvs, h1, h2⟩ := hc
    have e1 : some o = some (.dK kvs) := upd_same.symm.trans h1
    cases e1
    obtain ⟨ds, q, rfl⟩ := Option.map_eq_some_iff.mp e
    obtain ⟨z1, z2⟩ := rwp_zip h2
    refine ⟨trivial, fun od F' x e => ⟨p, kvs.map (·.2), rfl, ⟨od, ?_⟩, ?_, RpL.xt x _ _ (dats_ok (y := y.new p _) z1 q)⟩⟩
    · rw [← z2]; exact e
    · rw [List.length_map, List.length_map]; exact Paired.length h2
  | dt kws =>
    obtain ⟨kvs, h1, h2⟩ := hc
    have e1 : some o = some (.dT kvs) := upd_same.symm.trans h1
    cases e1
    obtain ⟨ds, q, rfl⟩ := Option.map_eq_some_iff.mp e
    obtain ⟨z1, z2⟩ := rwp_zip h2
    refine ⟨trivial, fun od F' x e => ⟨p, kvs.map (·.2), rfl, ⟨od, ?_⟩, ?_, RpL.xt x _ _ (dats_ok (y := y.new p _) z1 q)⟩⟩
    · rw [← z2]; exact e
    · rw [List.length_map, List.length_map]; exact Paired.length h2
  | lst _ => cases e
  | tup _ => cases e
  | ins _ _ => cases e
  | dead => cases e
theorem upd_upd {H : Hp} {p : Addr} {o o' : HO} : upd (upd H p o) p o' = upd H p o' := by
  funext b
  by_cases h : b = p
  · subst h; rw [upd_same, upd_same]
  · rw [upd_ne h, upd_ne h, upd_ne h]
theorem post_newL {K : PySem.W.Frag} {o : Option Cell} (s : Sim K cl xa C y σ ρ S) (h : Post K cl xa C Wx y σ ρ (mkL o S) (OkE K cl xa C y σ ρ Q)) : ∃ c, o = some c ∧ Gn K cl y c (fun v H1 => Lks (Q v) H1) := by
  unfold mkL at h
  split at h
  · rename_i c
    split at h
    · rename_i d hd
      refine ⟨_, rfl, fun p o hp hc => ?_⟩
      obtain ⟨mu, hr⟩ := datL_ok hc hd
      refine .lock p o upd_same mu fun od => .now ?_
      rw [upd_upd]
      have al := Al.new (o := .frz od o) s.bs.fz hp
      exact h (.ref p) _ (s.al al) al.gr (hr od _ al.f upd_same)
    · exact h.elim
  · exact h.elim
theorem CN.l {r : List V → Hp → VK → Prop} {f : List W → Sto → Option Cell} (v : CN X cl r f) : HN X cl (rLk r) (lkN f) := fun xa C Wx y σ ρ S s w x rx Q h => by
  obtain ⟨u, e, g⟩ := post_newL s h
  exact v y S s.bs w x rx u e _ g
end

/-! ### built-ins by name -/
section
variable {X : Cx} {cl : Str → Option Addr} {xa : Option (Nat × Addr)} {Wx : WX} {pos : Pos} {a b c e : Expr} {es : List Expr} {ma mb mc me : ME} {mr : MA} {ta tb tc : MT}
theorem qe_callB {x : Str} {id : String} {p : Pos} {F : List W → Sto → Rs W} (ho : HCall X cl (.builtin id) F) (hg : Gl X x) (hm : X.mg x = none) (hv : bootBuiltins x = some (.builtin id)) (ha : QA X cl xa Wx (e :: es) mr) (hn : x ≠ "__name__" := by decide) (hdb : (x == ("__debug__" : Str)) = false := by decide)
    (he : starEach (e :: es) X.env = (false, eval e X.env) :: starEach es X.env := by rfl) (hpl : (backTo pos (starEach es X.env)).any (·.1) = false := by rfl) : QE X cl xa Wx (.Call (.Name x p) (e :: es) [] pos) (mCall F mr) := by
  obtain ⟨t, p, q⟩ := ha
  exact ⟨_, pe_callB call_any hg hm hv p hn hdb he hpl, se_call ho q⟩
theorem qe_callTy {x : Str} {T : String} {p : Pos} {F : List W → Sto → Rs W} (ho : HCall X cl (.type T) F) (hg : Gl X x) (hm : X.mg x = none) (hv : bootBuiltins x = some (.type T)) (ha : QA X cl xa Wx (e :: es) mr) (hn : x ≠ "__name__" := by decide) (hdb : (x == ("__debug__" : Str)) = false := by decide)
    (he : starEach (e :: es) X.env = (false, eval e X.env) :: starEach es X.env := by rfl) (hpl : (backTo pos (starEach es X.env)).any (·.1) = false := by rfl) : QE X cl xa Wx (.Call (.Name x p) (e :: es) [] pos) (mCall F mr) := by
  obtain ⟨t, p, q⟩ := ha
  exact ⟨_, pe_callTy call_any hg hm hv p hn hdb he hpl, se_call ho q⟩
/-- .. what is made is locked for good -/
theorem qe_callTyL {x : Str} {T : String} {p : Pos} {F : List W → Sto → Rs W} (ho : HN X cl (rLk (cAny X (.type T))) F) (hg : Gl X x) (hm : X.mg x = none) (hv : bootBuiltins x = some (.type T)) (ha : QA X cl xa Wx (e :: es) mr) (hn : x ≠ "__name__" := by decide) (hdb : (x == ("__debug__" : Str)) = false := by decide)
    (he : starEach (e :: es) X.env = (false, eval e X.env) :: starEach es X.env := by rfl) (hpl : (backTo pos (starEach es X.env)).any (·.1) = false := by rfl) : QE X cl xa Wx (.Call (.Name x p) (e :: es) [] pos) (mCall F mr) := by
  obtain ⟨t, p, q⟩ := ha
  exact ⟨_, pe_lk (pe_callTy call_any hg hm hv p hn hdb he hpl), se_call ho q⟩
theorem rwl1 {K : PySem.W.Frag} {y : Y} {w : W} {vs : List V} (h : RWL K cl y [w] vs) : ∃ v, vs = [v] ∧ RW K cl y w v := by
  cases h with
  | cons r t => cases t; exact ⟨_, rfl, r⟩
theorem rwl2 {K : PySem.W.Frag} {y : Y} {w u : W} {vs : List V} (h : RWL K cl y [w, u] vs) : ∃ v z, vs = [v, z] ∧ RW K cl y w v ∧ RW K cl y u z := by
  cases h with
  | cons r t =>
    cases t with
    | cons r2 t2 => cases t2; exact ⟨_, _, rfl, r, r2⟩
theorem call_lenR : CallR X (.builtin "len") (fun xs H Q => ∃ a kvs, xs = [V.ref a] ∧ Rd H a (.dK kvs) ∧ Q (.int kvs.length) H) := by
  intro pins s σ H xs us Q I r h
  obtain ⟨a, kvs, rfl, e, q⟩ := h
  cases r with
  | cons r1 t =>
    cases t
    cases r1
    exact d_len I e fun t s' I' => ⟨.int kvs.length, H, I', ⟨t, rfl⟩, q⟩
/-- len -/
noncomputable def lenW : List W → Sto → Option W
  | [w], S => match seqW S w with
    | some ws => some (.da (.int ws.length))
    | none => match w with
      | .da (.str z) => ifc (z.length ≤ sizeLine) (some (.da (.int z.length))) none
      | _ => match dkW S w with
        | some kws => some (.da (.int kws.length))
        | none => none
  | _, _ => none
theorem cw_len : HCall X cl (.builtin "len") (vlN lenW) := VN.h fun y S b ws vs rs u e Q g => by
  unfold lenW at e
  split at e
  · rename_i w
    obtain ⟨v, rfl, r⟩ := rwl1 rs
    split at e
    · rename_i us q
      cases e
      obtain ⟨p, vs, rfl, t, l⟩ := seqW_ok b r q
      refine ⟨_, call_len_seq, p, vs, rfl, t, ?_⟩
      rw [← Paired.length l]
      exact gv_da b g rfl
    · split at e
      · rename_i z _
        obtain ⟨hl, rfl⟩ := ifc_some e
        cases (show v = .str z from r)
        exact ⟨_, call_len, _, z.length, rfl, ⟨hl, rfl⟩, gv_da b g rfl⟩
      · split at e
        · rename_i kws q
          cases e
          obtain ⟨a, kvs, rfl, t, l⟩ := dkW_ok b r q
          refine ⟨_, call_lenR, a, kvs, rfl, t, ?_⟩
          rw [← Paired.length l]
          exact gv_da b g rfl
        · cases e
  · cases e
def min2W : List W → Sto → Option W
  | [.da (.int i), .da (.int j)], _ => some (.da (.int (if j < i then j else i)))
  | _, _ => none
def max2W : List W → Sto → Option W
  | [.da (.int i), .da (.int j)], _ => some (.da (.int (if j > i then j else i)))
  | _, _ => none
theorem cw_min2 (hc : X.calm = true) : HCall X cl (.builtin "min") (vlN min2W) := VN.h fun y S b ws vs rs u e Q g => by
  unfold min2W at e
  split at e
  · rename_i i j
    cases e
    obtain ⟨v, z, rfl, r1, r2⟩ := rwl2 rs
    cases (show v = .int i from r1); cases (show z = .int j from r2)
    exact ⟨_, call_min2 hc, i, j, rfl, gv_da b g rfl⟩
  · cases e
theorem cw_max2 (hc : X.calm = true) : HCall X cl (.builtin "max") (vlN max2W) := VN.h fun y S b ws vs rs u e Q g => by
  unfold max2W at e
  split at e
  · rename_i i j
    cases e
    obtain ⟨v, z, rfl, r1, r2⟩ := rwl2 rs
    cases (show v = .int i from r1); cases (show z = .int j from r2)
    exact ⟨_, call_max2 hc, i, j, rfl, gv_da b g rfl⟩
  · cases e
def intW : List W → Sto → Option W
  | [.da (.int i)], _ => some (.da (.int i))
  | [.da (.bl b)], _ => some (.da (.int (if b then 1 else 0)))
  | _, _ => none
theorem cw_int : HCall X cl (.type "int") (vlN intW) := VN.h fun y S b ws vs rs u e Q g => by
  unfold intW at e
  split at e
  · cases e
    obtain ⟨v, rfl, r⟩ := rwl1 rs
    cases r
    exact ⟨_, call_int1, .inl ⟨_, rfl, gv_da b g rfl⟩⟩
  · cases e
    obtain ⟨v, rfl, r⟩ := rwl1 rs
    cases r
    exact ⟨_, call_int1, .inr ⟨_, rfl, gv_da b g rfl⟩⟩
  · cases e
/-- list(x): of a list, a tuple, a dict's keys -/
def kD : Key → D
  | .inl i => .int i
  | .inr x => .str x
theorem kD_ok {K : PySem.W.Frag} {F : Hp} (k : Key) : Rp K cl F (kD k) (kV k) := by cases k <;> rfl
def listC : List W → Sto → Option Cell
  | [w], S => match seqW S w with
    | some ws => some (.lst ws)
    | none => match dkW S w with
      | some kws => some (.lst (kws.map fun kw => .da (kD kw.1)))
      | none => none
  | _, _ => none
theorem rwl_keys {K : PySem.W.Frag} {y : Y} : ∀ {kws : List (Key × W)} {kvs : List (Key × V)}, RWP K cl y kws kvs → RWL K cl y (kws.map fun kw => .da (kD kw.1)) (kvs.map fun kv => kV kv.1)
  | _, _, .nil => .nil
  | (k, w) :: kws, (k', v) :: kvs, .cons h t => by
    cases (show k = k' from h.1)
    exact .cons (kD_ok k) (rwl_keys t)
open PySem.Spec PyProof.Rows in
theorem call_list_dR (hc : X.calm = true) : CallR X (.type "list") (fun xs H Q => ∃ p kvs, xs = [V.ref p] ∧ Rd H p (.dK kvs) ∧ ∀ q, H q = none → Q (.ref q) (upd H q (.lst (kvs.map fun kv => kV kv.1)))) := by
  intro pins s σ H xs us Q I r ⟨p, kvs, e, hk, q⟩
  subst e
  obtain ⟨u, rfl, rx⟩ := vals1 r
  cases (show u = Value.ref p from rx)
  obtain ⟨z, lo, vs, rk, hd⟩ := dk_rd I.hok hk
  obtain ⟨ep, hat⟩ := hd.dictAt
  have hl : kvs.length = vs.length := Paired.length rk
  refine PySem.W.kdl_call (PySem.W.kdl_dict (knd := mixKind X.prog X.w) (kvs := vs) (ep := ep) lo) (I.ok.hd hc) hat (by omega) fun h' tk ac c' hkeep hS hacc => ?_
  have ok : ObjOk X.prog X.w (upd H s.heap.objs.size (.lst (kvs.map fun kv => kV kv.1))) h' s.heap.objs.size (.lst (kvs.map fun kv => kV kv.1)) := by
    refine ⟨by rw [List.length_map]; exact z, ac.toList, c', vals_of_at (by have q1 := hacc.1; simp only [List.length_map]; rw [show ac.toList.length = ac.size by simp, q1, hl]) fun j x w h1 h2 => ?_, by rw [Array.toArray_toList]; exact hS⟩
    obtain ⟨k, y, hky, hi⟩ := hacc.2 j w (by rw [← Array.getElem?_toList]; exact h2)
    have e1 : (kvs.map (·.1))[j]? = some k := by
      rw [KV.keys rk, List.getElem?_map, hky]; rfl
    have e2 : (kvs.map fun kv => kV kv.1) = (kvs.map (·.1)).map kV := by rw [List.map_map]; rfl
    rw [e2, List.getElem?_map, e1] at h1
    cases h1
    exact keyIs_rel hi
  exact ⟨.ref s.heap.objs.size, _, I.laid hkeep (Nat.le_refl _) ok, rfl, q _ (I.hok.fresh (Nat.le_refl _))⟩
theorem cn_list (hc : X.calm = true) : CN X cl (cAny X (.type "list")) listC := fun y S b ws vs rs c e Q g => by
  unfold listC at e
  split at e
  · rename_i w
    obtain ⟨v, rfl, r⟩ := rwl1 rs
    split at e
    · rename_i us q
      cases e
      obtain ⟨p, vs, rfl, t, l⟩ := seqW_ok b r q
      exact ⟨_, call_list_of, p, vs, rfl, t, fun q hq => g q _ hq ⟨_, upd_same, upd_rw l⟩⟩
    · split at e
      · rename_i kws q
        cases e
        obtain ⟨a, kvs, rfl, t, l⟩ := dkW_ok b r q
        refine ⟨_, call_list_dR hc, ?_⟩
        exact ⟨a, kvs, rfl, t, fun p hp => g p _ hp ⟨_, upd_same, upd_rw (rwl_keys l)⟩⟩
      · cases e
  · cases e
/-- dict(d) -/
def dictC : List W → Sto → Option Cell
  | [w], S => (dkW S w).map .dk
  | _, _ => none
theorem call_dict_of : CallR X (.type "dict") (fun xs H Q => ∃ a kvs, xs = [V.ref a] ∧ Rd H a (.dK kvs) ∧ ∀ p, H p = none → Q (.ref p) (upd H p (.dK kvs))) := by
  intro pins s σ H xs us Q I r h
  obtain ⟨a, kvs, rfl, e, q⟩ := h
  cases r with
  | cons r1 t =>
    cases t
    cases r1
    exact d_copyOf I e fun p s' hp I' => ⟨.ref p, _, I', rfl, q p hp⟩
theorem rwp_new {κ : Type} {K : PySem.W.Frag} {y : Y} {p : Addr} {o : HO} {ws : List (κ × W)} {vs : List (κ × V)} (h : RWP K cl y ws vs) : RWP K cl (y.new p o) ws vs := RWP.grow (y.gr_new p o) h
theorem cn_dict : CN X cl (cAny X (.type "dict")) dictC := fun y S b ws vs rs c e Q g => by
  unfold dictC at e
  split at e
  · rename_i w
    obtain ⟨v, rfl, r⟩ := rwl1 rs
    obtain ⟨kws, q, rfl⟩ := Option.map_eq_some_iff.mp e
    obtain ⟨a, kvs, rfl, t, l⟩ := dkW_ok b r q
    exact ⟨_, call_dict_of, a, kvs, rfl, t, fun p hp => g p _ hp ⟨_, upd_same, rwp_new l⟩⟩
  · cases e
/-- list(range(n)) -/
def intsW (lo : Int) : Nat → List W
  | 0 => []
  | n + 1 => .da (.int lo) :: intsW (lo + 1) n
theorem intsW_get : ∀ (n : Nat) (lo : Int) (i : Nat), i < n → (intsW lo n)[i]? = some (.da (.int (lo + i)))
  | 0, _, _, h => by omega
  | n + 1, lo, 0, _ => by simp [intsW]
  | n + 1, lo, i + 1, h => by
    simp only [intsW, List.getElem?_cons_succ]
    rw [intsW_get n (lo + 1) i (by omega)]
    congr 3
    omega
theorem intsW_len : ∀ (n : Nat) (lo : Int), (intsW lo n).length = n
  | 0, _ => rfl
  | n + 1, lo => by simp [intsW, intsW_len n]
theorem RWL.of_get {K : PySem.W.Frag} {y : Y} : ∀ {ds : List W} {vs : List V}, ds.length = vs.length → (∀ (i : Nat) (d : W) (v : V), ds[i]? = some d → vs[i]? = some v → RW K cl y d v) → RWL K cl y ds vs
  | [], [], _, _ => .nil
  | [], _ :: _, h, _ => by simp at h
  | _ :: _, [], h, _ => by simp at h
  | d :: ds, v :: vs, h, k => .cons (k 0 d v rfl rfl) (RWL.of_get (by simpa using h) fun i a b e1 e2 => k (i + 1) a b (by simpa using e1) (by simpa using e2))
theorem rwl_rg {K : PySem.W.Frag} {y : Y} (n : Int) : RWL K cl y (intsW 0 n.toNat) (rgV 0 n) := by
  refine RWL.of_get ?_ fun i d v e1 e2 => ?_
  · rw [intsW_len]; unfold rgV; simp
  · have hi : i < n.toNat := by
      have := (List.getElem?_eq_some_iff.mp e1).1
      rw [intsW_len] at this; exact this
    rw [intsW_get _ _ _ hi] at e1
    unfold rgV at e2
    rw [List.getElem?_map, List.getElem?_range (by simpa using hi)] at e2
    cases e1
    cases e2
    exact rfl
noncomputable def lrgC : W → Option Cell
  | .da (.int n) => ifc (0 ≤ n ∧ n ≤ 1000000) (some (.lst (intsW 0 n.toNat))) none
  | _ => none
theorem se_lrg {t : TE} {mk : Option Cell → Sto → Rs W} (hmk : ∀ (C : Cn) (y : Y) (σ : St) (ρ : Rho) (S : Sto) (o : Option Cell) (Q : VK), Sim X.K cl xa C y σ ρ S → Post X.K cl xa C Wx y σ ρ (mk o S) (OkE X.K cl xa C y σ ρ Q) → ∃ c, o = some c ∧ Gn X.K cl y c Q)
    (q : SE X.K cl xa Wx t me) : SE X.K cl xa Wx (tLstRg (tRg1 t)) (fun ρ S => (me ρ S).bind fun w S => mk (lrgC w) S) := by
  intro C y σ ρ S s Q h
  refine q C y σ ρ S s _ (Post.go h fun w S1 h1 v z s1 g1 r1 => ?_)
  obtain ⟨c, e, g⟩ := hmk C z σ ρ S1 _ Q s1 (Post.re (h1 z g1) g1)
  unfold lrgC at e
  split at e
  · rename_i n
    obtain ⟨hn, rfl⟩ := ifc_some e
    cases (show v = .int n from r1)
    refine ⟨n, rfl, ?_, fun p hp => g p _ hp ⟨_, upd_same, rwl_rg n⟩⟩
    unfold RgOk
    omega
  · cases e
noncomputable def mListRg (mk : Option Cell → Sto → Rs W) (me : ME) : ME := fun ρ S => (me ρ S).bind fun w S => mk (lrgC w) S
theorem qe_listRg {p p2 pos2 : Pos} (hc : X.calm = true) (hg : Gl X "list") (hm : X.mg "list" = none) (hg2 : Gl X "range") (hm2 : X.mg "range" = none) (ha : QE X cl xa Wx a me)
    (na : starEach [a] X.env = (false, eval a X.env) :: starEach [] X.env := by rfl) (nb : starEach [.Call (.Name "range" p2) [a] [] pos2] X.env = (false, eval (.Call (.Name "range" p2) [a] [] pos2) X.env) :: starEach [] X.env := by rfl) :
    QE X cl xa Wx (.Call (.Name "list" p) [.Call (.Name "range" p2) [a] [] pos2] [] pos) (mListRg mkD me) := by
  obtain ⟨t, pe, q⟩ := ha
  exact ⟨_, pe_listRg hc hg hm (prg_1 hg2 hm2 pe na) nb, se_lrg (fun C y σ ρ S o Q s h => post_newD s h) q⟩
/-! ### isinstance -/
def tyD : D → Option String
  | .non => some "NoneType"
  | .bl _ => some "bool"
  | .int _ => some "int"
  | .str _ => some "str"
  | .tup _ => some "tuple"
  | .wt _ => some "tuple"
  | .lst _ => some "list"
  | .scr _ => some "list"
  | .dk _ _ => some "dict"
  | .dt _ _ => none
  | .obj _ _ _ => none
def tyW (S : Sto) : W → Option String
  | .da d => tyD d
  | .lo n => match S[n]? with
    | some (.lst _) => some "list"
    | some (.tup _) => some "tuple"
    | some (.dk _) => some "dict"
    | some (.dt _) => some "dict"
    | _ => none
  | .xc => none
theorem tyX_rdL {K : PySem.W.Frag} {H : Hp} {a : Addr} {vs : List V} (h : SqL K H a vs) : TyX K H (.ref a) (.type "list") := by
  rcases h with (h | ⟨o, h⟩) | ⟨o, _, _, h, c, _⟩
  · exact .base (.lst h)
  · exact .base (.frz h)
  · exact .kList h c
theorem tyX_rdT {K : PySem.W.Frag} {H : Hp} {a : Addr} {vs : List V} (h : SqT K H a vs) : TyX K H (.ref a) (.type "tuple") := by
  rcases h with (h | ⟨o, h⟩) | ⟨o, _, _, h, c, _⟩
  · exact .base (.tup h)
  · exact .fTuple h
  · exact .kTuple h c
theorem tyW_ok {K : PySem.W.Frag} {y : Y} {S : Sto} (s : Bs K cl y S) {w : W} {v : V} {n : String} (r : RW K cl y w v) (h : tyW S w = some n) : TyX K y.H v (.type n) := by
  cases w with
  | xc => cases h
  | da d =>
    cases d with
    | non => cases h; cases (show v = .non from r); exact .base .non
    | bl b => cases h; cases (show v = .bl b from r); exact .base (.bl b)
    | int b => cases h; cases (show v = .int b from r); exact .base (.int b)
    | str b => cases h; cases (show v = .str b from r); exact .base (.str b)
    | tup ds => cases h; obtain ⟨a, vs, rfl, t, l⟩ := r; exact .base (.tup (s.fz _ _ t))
    | wt ds => cases h; obtain ⟨a, vs, rfl, t, l⟩ := r; exact tyX_rdT (sqT_xt s.fz t)
    | lst ds => cases h; obtain ⟨a, vs, rfl, t, l⟩ := r; exact .base (.lst (s.fz _ _ t))
    | scr ds => cases h; obtain ⟨a, vs, rfl, t, l⟩ := r; exact tyX_rdL (sqL_xt s.fz t)
    | dk ks ds => cases h; obtain ⟨a, vs, rfl, ⟨o, t⟩, _, l⟩ := r; exact .fDict (s.fz _ _ t)
    | dt ks ds => cases h
    | obj c fs ds => cases h
  | lo m =>
    obtain ⟨a, e, rfl⟩ := r
    simp only [tyW] at h
    split at h
    · rename_i ws q
      cases h
      obtain ⟨_, vs, e2, l⟩ := s.at q (by intro z; cases z) e
      exact .base (.lst e2)
    · rename_i ws q
      cases h
      obtain ⟨_, vs, e2, l⟩ := s.at q (by intro z; cases z) e
      exact .base (.tup e2)
    · rename_i ws q
      cases h
      obtain ⟨_, vs, e2, l⟩ := s.at q (by intro z; cases z) e
      exact .base (.dK e2)
    · rename_i ws q
      cases h
      obtain ⟨_, vs, e2, l⟩ := s.at q (by intro z; cases z) e
      exact .base (.dT e2)
    · cases h
/-- isinstance(x, T) and isinstance(x, (T, U)): built-in classes by their names -/
def isiB (ns : List String) (w : W) (S : Sto) : Option Bool := match tyW S w with
  | some t => match ns with
    | [n] => kitB t n
    | [n, k] => match kitB t n, kitB t k with
      | some b, some c => some (b || c)
      | _, _ => none
    | _ => none
  | none => none
def isiW (ns : List String) (w : W) (S : Sto) : Rs W := match isiB ns w S with
  | some b => .ok (.da (.bl b)) S
  | none => .stuck
theorem qe_isi {x : Str} {n : String} {p p2 : Pos} (hg : Gl X "isinstance") (hm : X.mg "isinstance" = none) (hg2 : Gl X x) (hm2 : X.mg x = none) (hb2 : bootBuiltins x = some (.type n)) (ha : QE X cl xa Wx e me)
    (hs : starEach [e, .Name x p2] X.env = (false, eval e X.env) :: starEach [.Name x p2] X.env := by rfl) (hs2 : starEach [.Name x p2] X.env = (false, eval (.Name x p2) X.env) :: starEach [] X.env := by rfl)
    (hpl : (backTo pos (starEach [.Name x p2] X.env)).any (·.1) = false := by rfl) (hn : x ≠ "__name__" := by decide) (hdb : (x == ("__debug__" : Str)) = false := by decide) (hv : bootBuiltins "isinstance" = some (.builtin "isinstance") := by decide +kernel) :
    QE X cl xa Wx (.Call (.Name "isinstance" p) [e, .Name x p2] [] pos) (mUn (isiW [n]) me) := by
  obtain ⟨t, pe, q⟩ := ha
  refine ⟨_, pe_callB call_isi hg hm hv (pa_cons pe (pa_cons (pe_bltn hg2 hm2 hb2 (v := .ty n) rfl hn hdb) pa_nil hs2) hs) (by decide) (by decide) hs hpl, fun C y σ ρ S s Q h => ?_⟩
  refine q C y σ ρ S s _ (Post.go h fun w S1 h1 v z s1 g1 r1 => ?_)
  have h2 := h1 z g1
  unfold isiW isiB at h2
  split at h2
  · rename_i b hb
    split at hb
    · rename_i ty ht
      simp only at hb
      exact ⟨v, .ty n, .type ty, .type n, b, rfl, .ty n, tyW_ok s1.bs r1 ht, kit_ty hb, h2 (.bl b) z s1 g1 rfl⟩
    · cases hb
  · exact h2.elim
theorem qe_isi2 {x y' : Str} {n k : String} {p p2 p3 p4 : Pos} {x1} (hg : Gl X "isinstance") (hm : X.mg "isinstance" = none) (hg2 : Gl X x) (hm2 : X.mg x = none) (hb2 : bootBuiltins x = some (.type n)) (hg3 : Gl X y') (hm3 : X.mg y' = none) (hb3 : bootBuiltins y' = some (.type k)) (ha : QE X cl xa Wx e me)
    (hs : starEach [e, .Tuple [.Name x p2, .Name y' p3] x1 p4] X.env = (false, eval e X.env) :: starEach [.Tuple [.Name x p2, .Name y' p3] x1 p4] X.env := by rfl) (hs2 : starEach [.Tuple [.Name x p2, .Name y' p3] x1 p4] X.env = (false, eval (.Tuple [.Name x p2, .Name y' p3] x1 p4) X.env) :: starEach [] X.env := by rfl)
    (hs3 : starEach [.Name x p2, .Name y' p3] X.env = (false, eval (.Name x p2) X.env) :: starEach [.Name y' p3] X.env := by rfl) (hs4 : starEach [.Name y' p3] X.env = (false, eval (.Name y' p3) X.env) :: starEach [] X.env := by rfl)
    (hpl : (backTo pos (starEach [.Tuple [.Name x p2, .Name y' p3] x1 p4] X.env)).any (·.1) = false := by rfl) (hn : x ≠ "__name__" := by decide) (hdb : (x == ("__debug__" : Str)) = false := by decide) (hn2 : y' ≠ "__name__" := by decide) (hdb2 : (y' == ("__debug__" : Str)) = false := by decide) (hv : bootBuiltins "isinstance" = some (.builtin "isinstance") := by decide +kernel) :
    QE X cl xa Wx (.Call (.Name "isinstance" p) [e, .Tuple [.Name x p2, .Name y' p3] x1 p4] [] pos) (mUn (isiW [n, k]) me) := by
  obtain ⟨t, pe, q⟩ := ha
  refine ⟨_, pe_callB call_isiT hg hm hv (pa_cons pe (pa_cons (pe_tup (pa_cons (pe_bltn hg2 hm2 hb2 (v := .ty n) rfl hn hdb) (pa_cons (pe_bltn hg3 hm3 hb3 (v := .ty k) rfl hn2 hdb2) pa_nil hs4) hs3)) pa_nil hs2) hs) (by decide) (by decide) hs hpl, fun C y σ ρ S s Q h => ?_⟩
  refine q C y σ ρ S s _ (Post.go h fun w S1 h1 v z s1 g1 r1 => ?_)
  have h2 := h1 z g1
  refine ⟨by show 2 ≤ sizeLine; decide, fun tp htp => ?_⟩
  have al := Al.new (o := .tup [.ty n, .ty k]) s1.bs.fz htp
  have s2 := s1.al al
  unfold isiW isiB at h2
  split at h2
  · rename_i b hb
    split at hb
    · rename_i ty ht
      simp only at hb
      split at hb
      · rename_i b c h3 h4
        cases hb
        refine ⟨v, tp, [.ty n, .ty k], .type ty, [.type n, .type k], (b || c), rfl, upd_same, .cons (.ty n) (.cons (.ty k) .nil), tyW_ok s2.bs (r1.grow al.gr) ht, ?_, h2 (.bl (b || c)) _ s2 (g1.trans al.gr) rfl⟩
        refine kitAny_cons (kit_ty h3) (fun e => kitAny_cons (kit_ty h4) (fun e2 => ?_) (fun e2 => ?_)) (fun e => by rw [e]; rfl)
        · rw [e, e2]; exact kitAny_nil
        · rw [e, e2]; rfl
      · cases hb
    · cases hb
  · exact h2.elim
end
end Ng
namespace Ng
open PySem L2

/-! ### targets -/
abbrev MG := W → Rho → Sto → Option Rho
abbrev MGs := List W → Rho → Sto → Option Rho
def SG (K : PySem.W.Frag) (cl : Str → Option Addr) (xa : Option (Nat × Addr)) (tg : TG) (m : MG) : Prop := ∀ C y σ ρ S, Sim K cl xa C y σ ρ S → ∀ w v, RW K cl y w v → ∀ Q : St → Hp → Prop,
  (∃ ρ', m w ρ S = some ρ' ∧ ∀ σ', Sim K cl xa C y σ' ρ' S → Q σ' y.H) → tg v σ y.H Q
def SGs (K : PySem.W.Frag) (cl : Str → Option Addr) (xa : Option (Nat × Addr)) (tg : TGs) (m : MGs) : Prop := ∀ C y σ ρ S, Sim K cl xa C y σ ρ S → ∀ ws vs, RWL K cl y ws vs → ∀ Q : St → Hp → Prop,
  (∃ ρ', m ws ρ S = some ρ' ∧ ∀ σ', Sim K cl xa C y σ' ρ' S → Q σ' y.H) → tg vs σ y.H Q
def QG (X : Cx) (cl : Str → Option Addr) (xa : Option (Nat × Addr)) (e : Expr) (m : MG) : Prop := ∃ t, PG X e t ∧ SG X.K cl xa t m
def QGs (X : Cx) (cl : Str → Option Addr) (xa : Option (Nat × Addr)) (es : List Expr) (m : MGs) : Prop := ∃ t, PGs X es t ∧ SGs X.K cl xa t m
def gtName (i : Nat) : MG := fun w ρ _ => some (ρ.set i (some w))
def gtNil : MGs := fun ws ρ _ => match ws with
  | [] => some ρ
  | _ => none
def gtCons (m : MG) (n : MGs) : MGs := fun ws ρ S => match ws with
  | w :: r => (m w ρ S).bind fun ρ' => n r ρ' S
  | _ => none
/-- a tuple unpacked; a list -/
def gtTup (n : Nat) (m : MGs) : MG := fun w ρ S => match tupW S w with
  | some ws => if ws.length = n then m ws ρ S else none
  | none => match lstW S w with
    | some ws => if ws.length = n then m ws ρ S else none
    | none => none
def mAsg (g : MG) (e : ME) : MS := fun ρ S => (e ρ S).out ρ fun w S => match g w ρ S with
  | some ρ' => .nx ρ' S
  | none => .stuck
section
variable {X : Cx} {cl : Str → Option Addr} {xa : Option (Nat × Addr)} {Wx : WX} {pos : Pos} {a b c e : Expr} {es : List Expr} {ma mb mc me : ME} {mr : MA} {ta tb tc : MT} {st : Stmt} {rest body : List Stmt} {m n : MS}
theorem qg_name {i : Nat} {x : Str} (hN : X.N.Nodup) (hi : X.N[i]? = some x) (hx : Loc X.env.scope x) (hf : X.fn x = true ∨ X.env.scope.names.lookup x = some .local := by first | exact .inl rfl | exact .inr rfl | assumption) : QG X cl xa (.Name x pos) (gtName i) :=
  ⟨_, pg_name hN hi hx hf, fun C y σ ρ S s w v r Q ⟨ρ', e, k⟩ => by
    cases e
    exact k _ (s.set i r)⟩
theorem qgs_nil : QGs X cl xa [] gtNil := ⟨_, pgs_nil, fun C y σ ρ S s ws vs r Q ⟨ρ', e, k⟩ => by
  unfold gtNil at e
  split at e
  · cases e
    cases r
    exact ⟨rfl, k _ s⟩
  · cases e⟩
theorem qgs_cons {g : MG} {gs : MGs} (h1 : QG X cl xa e g) (h2 : QGs X cl xa es gs) (hs : (assignEach (e :: es) X.env).map (·.2) = assign e X.env :: (assignEach es X.env).map (·.2) := by rfl) : QGs X cl xa (e :: es) (gtCons g gs) := by
  obtain ⟨t, p, q⟩ := h1
  obtain ⟨t2, p2, q2⟩ := h2
  refine ⟨_, pgs_cons p p2 hs, fun C y σ ρ S s ws vs r Q ⟨ρ', e, k⟩ => ?_⟩
  unfold gtCons at e
  split at e
  · rename_i w rs _
    cases r with
    | cons r1 r2 =>
      obtain ⟨ρ1, e1, e2⟩ := Option.bind_eq_some_iff.mp e
      refine ⟨_, _, rfl, ?_⟩
      exact q C y σ ρ S s w _ r1 _ ⟨ρ1, e1, fun σ1 s1 => q2 C y σ1 ρ1 S s1 rs _ r2 Q ⟨ρ', e2, k⟩⟩
  · cases e
/-- any rule of a target -/
def gAny (X : Cx) (e : Expr) : TG := fun v σ H Q => ∃ t, PG X e t ∧ t v σ H Q
theorem pg_any : PG X e (gAny X e) := by
  constructor
  intro pins s σ H v u Q I r ⟨t, p, h⟩
  exact p.run pins s σ H v u Q I r h
theorem qg_tup {k : Nat} {nn : Nat} {gs : MGs} (hc : X.calm = true) (h : QGs X cl xa es gs) (hn : (assignEach es X.env).length = nn := by rfl) (hst : (assignEach es X.env).findIdx? (·.1) = none := by rfl) : QG X cl xa (.Tuple es k pos) (gtTup nn gs) := by
  obtain ⟨t, p, q⟩ := h
  refine ⟨_, pg_any, fun C y σ ρ S s w v r Q ⟨ρ', e, k⟩ => ?_⟩
  unfold gtTup at e
  split at e
  · rename_i ws hw
    split at e
    · rename_i hl
      obtain ⟨a, vs, rfl, t, l⟩ := tupW_ok s.bs r hw
      exact ⟨_, pg_tup hc p hn hst, a, vs, rfl, t, by rw [← Paired.length l]; exact hl, q C y σ ρ S s _ vs l Q ⟨ρ', e, k⟩⟩
    · cases e
  · split at e
    · rename_i ws hw
      split at e
      · rename_i hl
        obtain ⟨a, vs, rfl, t, l⟩ := lstW_ok s.bs r hw
        exact ⟨_, pg_unl hc p hn hst, a, vs, rfl, .inl (.inl t), by rw [← Paired.length l]; exact hl, q C y σ ρ S s _ vs l Q ⟨ρ', e, k⟩⟩
      · cases e
    · cases e

/-! ### statements -/
theorem qb_nil : QB X cl xa Wx [] mSkip := ⟨_, pss_nil, fun C y σ ρ S s Z h => h σ y s (Gr.refl _)⟩
theorem ss_seq {K : PySem.W.Frag} {t u : TS} (h1 : SS K cl xa Wx t m) (h2 : SS K cl xa Wx u n) : SS K cl xa Wx (tSeq t u) (mSeq m n) := by
  intro C y σ ρ S s Z h
  refine h1 C y σ ρ S s _ ?_
  unfold mSeq at h
  cases e : m ρ S with
  | nx ρ1 S1 =>
    rw [e] at h
    exact fun σ1 z s1 g1 => h2 C z σ1 ρ1 S1 s1 Z (PostS.mono g1 h)
  | rt w S1 => rw [e] at h; exact h
  | bk ρ1 S1 => rw [e] at h; exact h
  | ct ρ1 S1 => rw [e] at h; exact h
  | ex x ρ1 S1 => rw [e] at h; exact h
  | stuck => rw [e] at h; exact h
theorem qb_cons (h1 : QS X cl xa Wx st m) (h2 : QB X cl xa Wx rest n) : QB X cl xa Wx (st :: rest) (mSeq m n) := by
  obtain ⟨t, p, q⟩ := h1
  obtain ⟨t2, p2, q2⟩ := h2
  exact ⟨_, pss_cons p p2, ss_seq q q2⟩
theorem qb_one (h1 : QS X cl xa Wx st m) : QB X cl xa Wx [st] m := by
  obtain ⟨t, p, q⟩ := h1
  exact ⟨_, pss_one p, q⟩
theorem qs_set {i : Nat} {x : Str} {pos' : Pos} (hN : X.N.Nodup) (hi : X.N[i]? = some x) (hx : Loc X.env.scope x) (he : QE X cl xa Wx e me) (hs : swapsWith e (some (.Name x pos')) pos.line X.env = pure false := by rfl)
    (hf : X.fn x = true ∨ X.env.scope.names.lookup x = some .local := by first | exact .inl rfl | exact .inr rfl | assumption) : QS X cl xa Wx (.Assign [.Name x pos'] e pos) (mSet i me) := by
  obtain ⟨t, p, q⟩ := he
  refine ⟨_, ps_set hN hi hx p hs hf, fun C y σ ρ S s Z h => ?_⟩
  refine q C y σ ρ S s _ (PostS.go h fun w S1 h1 v z s1 g1 r1 => ?_)
  exact h1 y (Gr.refl _) _ z (s1.set i r1) g1
theorem qs_asg {tg : Expr} {g : MG} (he : QE X cl xa Wx e me) (hg : QG X cl xa tg g) (hs : swapsWithSole [tg] e pos.line X.env = pure false := by rfl) (hw : swappedStores [tg] e X.env = pure none := by rfl)
    (h1 : (assignEach [tg] X.env).map (·.2) = [assign tg X.env] := by rfl) : QS X cl xa Wx (.Assign [tg] e pos) (mAsg g me) := by
  obtain ⟨t, p, q⟩ := he
  obtain ⟨t2, p2, q2⟩ := hg
  refine ⟨_, ps_asg p p2 hs hw h1, fun C y σ ρ S s Z h => ?_⟩
  refine q C y σ ρ S s _ (PostS.go h fun w S1 h1 v z s1 g1 r1 => ?_)
  have h2 := h1 y (Gr.refl _)
  split at h2
  · rename_i ρ' e2
    exact q2 C z σ ρ S1 s1 w v r1 _ ⟨ρ', e2, fun σ' s' => h2 σ' z s' g1⟩
  · exact h2.elim
theorem qs_ret (he : QE X cl xa Wx e me) : QS X cl xa Wx (.Return (some e) pos) (mRet me) := by
  obtain ⟨t, p, q⟩ := he
  refine ⟨_, ps_ret p, fun C y σ ρ S s Z h => ?_⟩
  refine q C y σ ρ S s _ (PostS.go h fun w S1 h1 v z s1 g1 r1 => ?_)
  exact h1 y (Gr.refl _) v σ ρ z s1 g1 r1
theorem qs_expr (he : QE X cl xa Wx e me) (hs : swapsWith e none pos.line X.env = pure false := by rfl) : QS X cl xa Wx (.Expr e pos) (mDrop me) := by
  obtain ⟨t, p, q⟩ := he
  refine ⟨_, ps_expr p hs, fun C y σ ρ S s Z h => ?_⟩
  refine q C y σ ρ S s _ (PostS.go h fun w S1 h1 v z s1 g1 r1 => ?_)
  exact h1 y (Gr.refl _) σ z s1 g1
theorem qs_if {sa sb : List Stmt} (hc : QT X cl xa Wx c tc) (ha : QB X cl xa Wx sa m) (hb : QB X cl xa Wx sb n) : QS X cl xa Wx (.If c sa sb pos) (mIf tc m n) := by
  obtain ⟨t, p, q⟩ := hc
  obtain ⟨t2, p2, q2⟩ := ha
  obtain ⟨t3, p3, q3⟩ := hb
  refine ⟨_, ps_if p p2 p3, fun C y σ ρ S s Z h => ?_⟩
  refine q C y σ ρ S s _ (PostS.go h fun w S1 h1 z s1 g1 => ?_)
  cases w with
  | true => exact q2 C z σ ρ S1 s1 Z (h1 z g1)
  | false => exact q3 C z σ ρ S1 s1 Z (h1 z g1)
theorem qs_pass : QS X cl xa Wx (.Pass pos) mSkip := ⟨_, ps_pass, fun C y σ ρ S s Z h => h σ y s (Gr.refl _)⟩
theorem qs_break : QS X cl xa Wx (.Break pos) mBreak := ⟨_, ps_break, fun C y σ ρ S s Z h => h σ y s (Gr.refl _)⟩
theorem qs_continue : QS X cl xa Wx (.Continue pos) mContinue := ⟨_, ps_continue, fun C y σ ρ S s Z h => h σ y s (Gr.refl _)⟩
/-- two at once -/
def mPar (i j : Nat) (mr : MA) : MS := fun ρ S => (mr ρ S).out ρ fun ws S => match ws with
  | [u, v] => .nx ((ρ.set i (some u)).set j (some v)) S
  | _ => .stuck
theorem qs_par {i j : Nat} {x y' : Str} {a b : Expr} {px py pt : Pos} {kt k2 pt2} (hc : X.calm = true) (hN : X.N.Nodup) (hi : X.N[i]? = some x) (hj : X.N[j]? = some y') (hij : i ≠ j)
    (hx : X.env.scope.names.lookup x = some .local) (hy : X.env.scope.names.lookup y' = some .local) (ha : QA X cl xa Wx [a, b] mr)
    (hw : swappedStores [.Tuple [.Name x px, .Name y' py] kt pt] (.Tuple [a, b] k2 pt2) X.env = pure (some [x, y']))
    (hs : swapsWithSole [.Tuple [.Name x px, .Name y' py] kt pt] (.Tuple [a, b] k2 pt2) pos.line X.env = pure false := by rfl) :
    QS X cl xa Wx (.Assign [.Tuple [.Name x px, .Name y' py] kt pt] (.Tuple [a, b] k2 pt2) pos) (mPar i j mr) := by
  obtain ⟨t, p, q⟩ := ha
  refine ⟨_, ps_par hc hN hi hj hij hx hy p hw hs, fun C y σ ρ S s Z h => ?_⟩
  refine q C y σ ρ S s _ (PostS.go h fun ws S1 h1 vs z s1 g1 r1 => ?_)
  have h2 := h1 z g1
  split at h2
  · rename_i u v
    obtain ⟨p, q, rfl, ru, rv⟩ := rwl2 r1
    exact ⟨p, q, rfl, h2 _ z ((s1.set i ru).set j rv) (Gr.refl _)⟩
  · exact h2.elim
def incW : W → W → Option W
  | .da (.int i), .da (.int j) => some (.da (.int (i + j)))
  | _, _ => none
def mInc (i : Nat) (me : ME) : MS := fun ρ S => match ρ[i]? with
  | some (some x) => (me ρ S).out ρ fun y S => match incW x y with
    | some z => .nx (ρ.set i (some z)) S
    | none => .stuck
  | _ => .stuck
/-- x += e, whole numbers -/
theorem qs_inc {i : Nat} {x : Str} {pos' : Pos} (hN : X.N.Nodup) (hi : X.N[i]? = some x) (hx : Loc X.env.scope x) (he : QE X cl xa Wx e me) (hf : X.fn x = true ∨ X.env.scope.names.lookup x = some .local := by first | exact .inl rfl | exact .inr rfl | assumption) :
    QS X cl xa Wx (.AugAssign (.Name x pos') .Add e pos) (mInc i me) := by
  obtain ⟨t, p, q⟩ := he
  refine ⟨_, ps_aug hN hi hx p ip_add (hf := hf), fun C y σ ρ S s Z h => ?_⟩
  unfold mInc at h
  split at h
  · rename_i u hu
    obtain ⟨v, e1, e2⟩ := s.slot i u hu
    refine ⟨v, e1, ?_⟩
    refine q C y σ ρ S s _ (PostS.go h fun w S1 h1 v1 z s1 g1 r1 => ?_)
    have h2 := h1 z g1
    split at h2
    · rename_i w2 hw
      unfold incW at hw
      split at hw
      · rename_i p k
        cases hw
        cases (show v = .int p from e2)
        cases (show v1 = .int k from r1)
        exact ⟨p, k, rfl, rfl, h2 _ z (s1.set i rfl) (Gr.refl _)⟩
      · cases hw
    · exact h2.elim
  · exact h.elim
end

/-! ### loops -/
def loopM (g : MG) (body : MS) : List W → Rho → Sto → Out
  | [], ρ, S => .nx ρ S
  | d :: ds, ρ, S => match g d ρ S with
    | none => .stuck
    | some ρ1 => match body ρ1 S with
      | .nx ρ2 S2 => loopM g body ds ρ2 S2
      | .ct ρ2 S2 => loopM g body ds ρ2 S2
      | .bk ρ2 S2 => .nx ρ2 S2
      | .rt w S2 => .rt w S2
      | .ex x ρ2 S2 => .ex x ρ2 S2
      | .stuck => .stuck
/-- a loop over a thing that must stand unchanged (P) at each turn -/
noncomputable def loopP (P : Sto → Prop) (g : MG) (body : MS) : List W → Rho → Sto → Out
  | [], ρ, S => ifc (P S) (.nx ρ S) .stuck
  | d :: ds, ρ, S => ifc (P S) (match g d ρ S with
    | none => .stuck
    | some ρ1 => match body ρ1 S with
      | .nx ρ2 S2 => loopP P g body ds ρ2 S2
      | .ct ρ2 S2 => loopP P g body ds ρ2 S2
      | .bk ρ2 S2 => .nx ρ2 S2
      | .rt w S2 => .rt w S2
      | .ex x ρ2 S2 => .ex x ρ2 S2
      | .stuck => .stuck) .stuck
theorem loopM_P (g : MG) (b : MS) : ∀ (ds : List W) (ρ : Rho) (S : Sto), loopM g b ds ρ S = loopP (fun _ => True) g b ds ρ S
  | [], ρ, S => by unfold loopM loopP; rw [ifc_true]
  | d :: ds, ρ, S => by
    unfold loopM loopP
    rw [ifc_true]
    split
    · rfl
    · split <;> first | rfl | exact loopM_P g b ds _ _
def signs (x : Str) : List W := x.cps.toList.map fun c => .da (.str ⟨#[c]⟩)
/-- what data is walked -/
def itemsD : D → Option (List W)
  | .lst ds => some (ds.map .da)
  | .scr ds => some (ds.map .da)
  | .tup ds => some (ds.map .da)
  | .wt ds => some (ds.map .da)
  | .str x => some (signs x)
  | .dk ks _ => some (ks.map fun k => .da (kD k))
  | _ => none
noncomputable def mFor (e : ME) (g : MG) (body : MS) : MS := fun ρ S => (e ρ S).out ρ fun w S => match w with
  | .da d => match itemsD d with
    | some ws => loopM g body ws ρ S
    | none => .stuck
  | .lo n => match S[n]? with
    | some (.lst ws) => loopP (fun S => S[n]? = some (.lst ws)) g body ws ρ S
    | _ => .stuck
  | .xc => .stuck
noncomputable def rng1 : List W → Option (Int × Nat)
  | [.da (.int j)] => ifc (-(2 ^ 62) ≤ j ∧ j < 2 ^ 62) (some (0, j.toNat)) none
  | _ => none
noncomputable def rng2 : List W → Option (Int × Nat)
  | [.da (.int i), .da (.int j)] => ifc (-(2 ^ 62) ≤ i ∧ i < 2 ^ 62 ∧ -(2 ^ 62) ≤ j ∧ j < 2 ^ 62) (some (i, (j - i).toNat)) none
  | _ => none
def mForR (rg : List W → Option (Int × Nat)) (a : MA) (g : MG) (body : MS) : MS := fun ρ S => (a ρ S).out ρ fun ws S => match rg ws with
  | some (lo, n) => loopM g body (intsW lo n) ρ S
  | none => .stuck
/-- what is walked gives the items ws, while G stands -/
structure Wk (K : PySem.W.Frag) (cl : Str → Option Addr) (J : It) (ws : List W) (G : Y → Sto → Prop) : Prop where
  goes : ∀ i y S, i < ws.length → Bs K cl y S → G y S → J.go i y.H
  stops : ∀ y S, Bs K cl y S → G y S → J.stop ws.length y.H
  yields : ∀ i y S x H', i < ws.length → Bs K cl y S → G y S → J.yld i y.H x H' → ∃ F' w, Al y.F y.H F' H' ∧ ws[i]? = some w ∧ RW K cl ⟨F', H', y.m⟩ w x
theorem drop_cons {α : Type} {ds : List α} {i : Nat} {d : α} (h : ds[i]? = some d) : ds.drop i = d :: ds.drop (i + 1) := by
  obtain ⟨hl, e⟩ := List.getElem?_eq_some_iff.mp h
  rw [List.drop_eq_getElem_cons hl, e]
section
variable {X : Cx} {cl : Str → Option Addr} {xa : Option (Nat × Addr)} {Wx : WX} {pos : Pos} {a b c e : Expr} {es : List Expr} {ma mb mc me : ME} {mr : MA} {ta tb tc : MT} {st : Stmt} {rest body : List Stmt} {m n : MS}
/-- what is left of a loop -/
def Left (K : PySem.W.Frag) (cl : Str → Option Addr) (xa : Option (Nat × Addr)) (C : Cn) (Wx : WX) (y0 : Y) (P : Sto → Prop) (g : MG) (body : MS) (Z : Ends) (ds : List W) (σ : St) (H : Hp) : Prop :=
  ∃ y ρ S, y.H = H ∧ Sim K cl xa C y σ ρ S ∧ Gr y0 y ∧ P S ∧ PostS K cl xa C Wx y (loopP P g body ds ρ S) Z
theorem postS_ifc {K : PySem.W.Frag} {C : Cn} {y : Y} {p : Prop} {o : Out} {Z : Ends} (h : PostS K cl xa C Wx y (ifc p o .stuck) Z) : p ∧ PostS K cl xa C Wx y o Z := by
  rcases ifc_cases (P := fun r => PostS K cl xa C Wx y r Z) h with ⟨a, b⟩ | ⟨_, b⟩
  · exact ⟨a, b⟩
  · exact b.elim
theorem loopP_at {P : Sto → Prop} {g : MG} {ds : List W} {ρ : Rho} {S : Sto} {K : PySem.W.Frag} {C : Cn} {y : Y} {Z : Ends} (h : PostS K cl xa C Wx y (loopP P g m ds ρ S) Z) : P S := by
  cases ds with
  | nil => exact (postS_ifc h).1
  | cons d ds => exact (postS_ifc h).1
/-- a for, by what is walked -/
theorem run_for {K : PySem.W.Frag} {C : Cn} {y0 : Y} {σ : St} {ρ : Rho} {S : Sto} {P : Sto → Prop} {g : MG} {tg : TG} {tb : TS} {Z : Ends} {J : It} {ws : List W} {G : Y → Sto → Prop} (hg : SG K cl xa tg g) (hb : SS K cl xa Wx tb m) (wk : Wk K cl J ws G)
    (hG : ∀ y S, Gr y0 y → P S → G y S) (s : Sim K cl xa C y0 σ ρ S) (h : PostS K cl xa C Wx y0 (loopP P g m ws ρ S) Z) :
    ∃ W : Nat → Nat → St → Hp → Prop, (∃ m, W 0 m σ y0.H) ∧ ∀ i m σ H, W i m σ H →
      (J.stop i H ∧ Z.nx σ H) ∨ (J.go i H ∧ ∃ N : St → Hp → Prop, (∀ σ' H', N σ' H' → ∃ m', m' < m ∧ W (i + 1) m' σ' H') ∧ ∀ x H', J.yld i H x H' → tg x σ H' fun σ2 H2 => tb { Z with nx := N, ct := N, bk := Z.nx } σ2 H2) := by
  refine ⟨fun i k σ H => k = ws.length - i ∧ i ≤ ws.length ∧ Left K cl xa C Wx y0 P g m Z (ws.drop i) σ H, ⟨ws.length, by simp, Nat.zero_le _, y0, ρ, S, rfl, s, Gr.refl _, loopP_at h, h⟩, ?_⟩
  rintro i k σ H ⟨rfl, hi, y, ρ, S, rfl, s, x, hP, q⟩
  by_cases hlt : i < ws.length
  · refine .inr ⟨wk.goes i y S hlt s.bs (hG y S x hP), Left K cl xa C Wx y0 P g m Z (ws.drop (i + 1)), fun σ' H' p' => ⟨ws.length - (i + 1), by omega, rfl, hlt, p'⟩, fun v H' hy => ?_⟩
    obtain ⟨F', w, al, ew, rw'⟩ := wk.yields i y S v H' hlt s.bs (hG y S x hP) hy
    rw [drop_cons ew] at q
    have q := (postS_ifc q).2
    have s1 := s.al al
    split at q
    · exact q.elim
    · rename_i ρ1 e1
      refine hg C _ σ ρ S s1 w v rw' _ ⟨ρ1, e1, fun σ1 s2 => hb C _ σ1 ρ1 S s2 _ ?_⟩
      have q := PostS.mono al.gr q
      have x' := x.trans al.gr
      cases e2 : m ρ1 S with
      | nx ρ2 S2 =>
        rw [e2] at q
        exact fun σ2 z s2 g2 => ⟨z, ρ2, S2, rfl, s2, x'.trans g2, loopP_at q, PostS.mono g2 q⟩
      | ct ρ2 S2 =>
        rw [e2] at q
        exact fun σ2 z s2 g2 => ⟨z, ρ2, S2, rfl, s2, x'.trans g2, loopP_at q, PostS.mono g2 q⟩
      | bk ρ2 S2 => rw [e2] at q; exact q
      | rt w S2 => rw [e2] at q; exact q
      | ex x ρ2 S2 => rw [e2] at q; exact q
      | stuck => rw [e2] at q; exact q
  · have e : i = ws.length := by omega
    subst e
    rw [List.drop_length] at q
    exact .inl ⟨wk.stops y S s.bs (hG y S x hP), (postS_ifc q).2 σ y s (Gr.refl _)⟩
/-! what is walked -/
theorem wk_list {K : PySem.W.Frag} {a : Addr} {ws : List W} {G : Y → Sto → Prop} (h : ∀ y S, Bs K cl y S → G y S → ∃ vs, SqL K y.H a vs ∧ RWL K cl y ws vs) : Wk K cl (Itl K a) ws G := by
  refine ⟨fun i y S hi b g => ?_, fun y S b g => ?_, fun i y S x H' hi b g hy => ?_⟩
  · obtain ⟨vs, h1, h2⟩ := h y S b g
    have hl := Paired.length h2
    exact ⟨vs, vs[i]'(by omega), h1, by simp [show i < vs.length by omega]⟩
  · obtain ⟨vs, h1, h2⟩ := h y S b g
    exact ⟨vs, h1, by rw [Paired.length h2]; exact Nat.le_refl _⟩
  · obtain ⟨vs, h1, h2⟩ := h y S b g
    obtain ⟨rfl, hx⟩ := hy
    have ew : ws[i]? = some ws[i] := List.getElem?_eq_getElem hi
    obtain ⟨v, e1, e2⟩ := RWL.get h2 ew
    rw [hx vs h1] at e1
    cases e1
    exact ⟨y.F, ws[i], Al.refl b.fz, ew, e2⟩
theorem wk_tup {K : PySem.W.Frag} {a : Addr} {ws : List W} {G : Y → Sto → Prop} (h : ∀ y S, Bs K cl y S → G y S → ∃ vs, SqT K y.H a vs ∧ RWL K cl y ws vs) : Wk K cl (Itt K a) ws G := by
  refine ⟨fun i y S hi b g => ?_, fun y S b g => ?_, fun i y S x H' hi b g hy => ?_⟩
  · obtain ⟨vs, h1, h2⟩ := h y S b g
    have hl := Paired.length h2
    exact ⟨vs, vs[i]'(by omega), h1, by simp [show i < vs.length by omega]⟩
  · obtain ⟨vs, h1, h2⟩ := h y S b g
    exact ⟨vs, h1, by rw [Paired.length h2]; exact Nat.le_refl _⟩
  · obtain ⟨vs, h1, h2⟩ := h y S b g
    obtain ⟨rfl, hx⟩ := hy
    have ew : ws[i]? = some ws[i] := List.getElem?_eq_getElem hi
    obtain ⟨v, e1, e2⟩ := RWL.get h2 ew
    rw [hx vs h1] at e1
    cases e1
    exact ⟨y.F, ws[i], Al.refl b.fz, ew, e2⟩
theorem wk_rng {K : PySem.W.Frag} {lo : Int} {k : Nat} {G : Y → Sto → Prop} : Wk K cl (Itr lo k) (intsW lo k) G := by
  refine ⟨fun i y S hi b g => ?_, fun y S b g => ?_, fun i y S x H' hi b g hy => ?_⟩
  · rw [intsW_len] at hi; exact hi
  · show k ≤ (intsW lo k).length
    rw [intsW_len]; exact Nat.le_refl _
  · obtain ⟨rfl, rfl⟩ := hy
    rw [intsW_len] at hi
    exact ⟨y.F, _, Al.refl b.fz, intsW_get k lo i hi, rfl⟩
theorem wk_str {K : PySem.W.Frag} {z : Str} {G : Y → Sto → Prop} : Wk K cl (Its z) (signs z) G := by
  have hl : (signs z).length = z.cps.size := by simp [signs]
  refine ⟨fun i y S hi b g => ?_, fun y S b g => ?_, fun i y S x H' hi b g hy => ?_⟩
  · rw [hl] at hi; exact hi
  · show z.cps.size ≤ (signs z).length
    rw [hl]; exact Nat.le_refl _
  · obtain ⟨rfl, c, hc, rfl⟩ := hy
    refine ⟨y.F, .da (.str ⟨#[c]⟩), Al.refl b.fz, ?_, rfl⟩
    unfold signs
    rw [List.getElem?_map, Array.getElem?_toList, hc]
    rfl
theorem wk_keys {K : PySem.W.Frag} {d : Addr} {o : Obj} {kvs : List (Key × V)} {G : Y → Sto → Prop} (h : ∀ y S, G y S → y.H d = some (.frz o (.dK kvs))) : Wk K cl (Itk d o kvs) ((kvs.map (·.1)).map fun k => .da (kD k)) G := by
  have hl : ((kvs.map (·.1)).map fun k => W.da (kD k)).length = kvs.length := by simp
  refine ⟨fun i y S hi b g => ⟨h y S g, by rw [hl] at hi; exact hi⟩, fun y S b g => ⟨h y S g, by rw [hl]; exact Nat.le_refl _⟩, fun i y S x H' hi b g hy => ?_⟩
  obtain ⟨rfl, k, v, hk, rfl⟩ := hy
  exact ⟨y.F, .da (kD k), Al.refl b.fz, by rw [List.getElem?_map, List.getElem?_map, hk]; rfl, kD_ok k⟩
/-- any rule of a statement -/
def sAny (X : Cx) (st : Stmt) : TS := fun D σ H => ∃ t, PS X st t ∧ t D σ H
theorem ps_anyS : PS X st (sAny X st) := by
  constructor
  intro pins s σ H D I ⟨t, p, h⟩
  exact p.run pins s σ H D I h
/-- what an expression gives, said ahead -/
theorem SE.now {K : PySem.W.Frag} {t : TE} {C : Cn} {y : Y} {σ : St} {ρ : Rho} {S S0 : Sto} {w : W} {Q : VK} (q : SE K cl xa Wx t me) (s : Sim K cl xa C y σ ρ S) (e : me ρ S = .ok w S0) (k : ∀ v z, Sim K cl xa C z σ ρ S0 → Gr y z → RW K cl z w v → Q v z.H) : t σ y.H Q :=
  q C y σ ρ S s Q (by rw [e]; exact k)
theorem SE.bad {K : PySem.W.Frag} {t : TE} {C : Cn} {y : Y} {σ : St} {ρ : Rho} {S : Sto} {k : W → Sto → Out} {Z : Ends} (q : SE K cl xa Wx t me) (s : Sim K cl xa C y σ ρ S) (h : PostS K cl xa C Wx y ((me ρ S).out ρ k) Z) (hn : ∀ w S', me ρ S ≠ .ok w S') (Q : VK) : t σ y.H Q := by
  refine q C y σ ρ S s Q ?_
  cases e : me ρ S with
  | ok w S' => exact absurd e (hn w S')
  | ex x S' => rw [e] at h; exact fun cls dd z s g r => h cls dd σ z s g r
  | stuck => rw [e] at h; exact h
theorem qs_for {iter tg : Expr} {g : MG} (hp : PassesOwn (model X.prog X.w) X.A X.env X.xe) (hc : X.calm = true) (hi : QE X cl xa Wx iter me) (hg : QG X cl xa tg g) (hb : QB X cl xa Wx body m)
    (hs : ∀ x, foldedSetIterable iter X.env x = pure x := by intro _; rfl) : QS X cl xa Wx (.For tg iter body [] pos) (mFor me g m) := by
  obtain ⟨t, p, q⟩ := hi
  obtain ⟨t2, p2, q2⟩ := hg
  obtain ⟨t3, p3, q3⟩ := hb
  refine ⟨_, ps_anyS, fun C y σ ρ S s Z h => ?_⟩
  by_cases bad : ∀ w S', me ρ S ≠ .ok w S'
  · exact ⟨_, ps_for hp hc (pi_list p) p2 p3 hs, q.bad s h bad _⟩
  · cases e : me ρ S with
    | stuck => exact absurd (by intro w S' z; rw [e] at z; cases z) bad
    | ex x S' => exact absurd (by intro w S' z; rw [e] at z; cases z) bad
    | ok w S0 =>
      unfold mFor at h
      rw [e] at h
      simp only [Rs.out] at h
      cases w with
      | xc => exact h.elim
      | lo k =>
        simp only at h
        split at h
        · rename_i ws hk
          refine ⟨_, ps_for hp hc (pi_list p) p2 p3 hs, q.now s e fun v z s1 g1 r1 => ?_⟩
          obtain ⟨a, ea, rfl⟩ := r1
          obtain ⟨_, vs, hH, l⟩ := s1.bs.at hk (by intro z; cases z) ea
          refine ⟨a, rfl, ⟨vs, .inl (.inl hH)⟩, run_for q2 q3 (wk_list (G := fun y S => Gr z y ∧ S[k]? = some (.lst ws)) ?_) (fun y S g p => ⟨g, p⟩) s1 (PostS.mono g1 h)⟩
          rintro y S b ⟨g, hk2⟩
          obtain ⟨_, vs, h1, h2⟩ := b.at hk2 (by intro z; cases z) (pre_get g.m ea)
          exact ⟨vs, .inl (.inl h1), h2⟩
        · exact h.elim
      | da d =>
        simp only at h
        split at h
        · rename_i ws hd
          rw [loopM_P] at h
          unfold itemsD at hd
          split at hd
          · cases hd
            refine ⟨_, ps_for hp hc (pi_list p) p2 p3 hs, q.now s e fun v z s1 g1 r1 => ?_⟩
            obtain ⟨a, vs, rfl, tl, l⟩ := r1
            exact ⟨a, rfl, ⟨vs, .inl (.inl (s1.bs.fz _ _ tl))⟩, run_for q2 q3 (wk_list (G := fun y S => Gr z y) fun y S b g => ⟨vs, .inl (.inl (b.fz _ _ (g.f _ _ tl))), rwl_da (RpL.xt g.f _ _ l)⟩) (fun y S g p => g) s1 (PostS.mono g1 h)⟩
          · cases hd
            refine ⟨_, ps_for hp hc (pi_list p) p2 p3 hs, q.now s e fun v z s1 g1 r1 => ?_⟩
            obtain ⟨a, vs, rfl, tl, l⟩ := r1
            exact ⟨a, rfl, ⟨vs, sqL_xt s1.bs.fz tl⟩, run_for q2 q3 (wk_list (G := fun y S => Gr z y) fun y S b g => ⟨vs, sqL_xt (g.f.trans b.fz) tl, rwl_da (RpL.xt g.f _ _ l)⟩) (fun y S g p => g) s1 (PostS.mono g1 h)⟩
          · cases hd
            refine ⟨_, ps_for hp hc (pi_tup p) p2 p3 hs, q.now s e fun v z s1 g1 r1 => ?_⟩
            obtain ⟨a, vs, rfl, tl, l⟩ := r1
            exact ⟨a, rfl, ⟨vs, .inl (.inl (s1.bs.fz _ _ tl))⟩, run_for q2 q3 (wk_tup (G := fun y S => Gr z y) fun y S b g => ⟨vs, .inl (.inl (b.fz _ _ (g.f _ _ tl))), rwl_da (RpL.xt g.f _ _ l)⟩) (fun y S g p => g) s1 (PostS.mono g1 h)⟩
          · cases hd
            refine ⟨_, ps_for hp hc (pi_tup p) p2 p3 hs, q.now s e fun v z s1 g1 r1 => ?_⟩
            obtain ⟨a, vs, rfl, tl, l⟩ := r1
            exact ⟨a, rfl, ⟨vs, sqT_xt s1.bs.fz tl⟩, run_for q2 q3 (wk_tup (G := fun y S => Gr z y) fun y S b g => ⟨vs, sqT_xt (g.f.trans b.fz) tl, rwl_da (RpL.xt g.f _ _ l)⟩) (fun y S g p => g) s1 (PostS.mono g1 h)⟩
          · rename_i x
            cases hd
            refine ⟨_, ps_for hp hc (pi_str p) p2 p3 hs, q.now s e fun v z s1 g1 r1 => ?_⟩
            exact ⟨x, r1, run_for q2 q3 (wk_str (G := fun y S => Gr z y)) (fun y S g p => g) s1 (PostS.mono g1 h)⟩
          · rename_i ks ds
            cases hd
            refine ⟨_, ps_for hp hc (pi_keys p) p2 p3 hs, q.now s e fun v z s1 g1 r1 => ?_⟩
            obtain ⟨a, vs, rfl, ⟨o, tl⟩, nl, l⟩ := r1
            have ek : (ks.zip vs).map (·.1) = ks := List.map_fst_zip (by omega)
            have wk := wk_keys (cl := cl) (K := X.K) (d := a) (o := o) (kvs := ks.zip vs) (G := fun y S => Gr z y ∧ Ex y.F y.H) (fun y S g => g.2 _ _ (g.1.f _ _ tl))
            rw [ek] at wk
            refine ⟨a, o, rfl, .inl ⟨ks.zip vs, s1.bs.fz _ _ tl, ?_⟩⟩
            refine run_for (P := fun _ => True) q2 q3 (G := fun y S => Gr z y) ⟨fun i y S hi b g => wk.goes i y S hi b ⟨g, b.fz⟩, fun y S b g => wk.stops y S b ⟨g, b.fz⟩, fun i y S x H' hi b g => wk.yields i y S x H' hi b ⟨g, b.fz⟩⟩ (fun y S g p => g) s1 (PostS.mono g1 h)
          · cases hd
        · exact h.elim
theorem SA.now {K : PySem.W.Frag} {t : TA} {C : Cn} {y : Y} {σ : St} {ρ : Rho} {S S0 : Sto} {ws : List W} {Q : List V → Hp → Prop} (q : SA K cl xa Wx t mr) (s : Sim K cl xa C y σ ρ S) (e : mr ρ S = .ok ws S0) (k : ∀ vs z, Sim K cl xa C z σ ρ S0 → Gr y z → RWL K cl z ws vs → Q vs z.H) : t σ y.H Q :=
  q C y σ ρ S s Q (by rw [e]; exact k)
theorem qs_range1 {tg : Expr} {g : MG} {p p' : Pos} (hp : PassesOwn (model X.prog X.w) X.A X.env X.xe) (hc : X.calm = true) (hgl : Gl X "range") (hm : X.mg "range" = none) (ha : QA X cl xa Wx [a] mr) (hg : QG X cl xa tg g) (hb : QB X cl xa Wx body m)
    (hs : starEach [a] X.env = [(false, eval a X.env)] := by rfl) (hf : ∀ x, foldedSetIterable (.Call (.Name "range" p) [a] [] p') X.env x = pure x := by intro _; rfl) :
    QS X cl xa Wx (.For tg (.Call (.Name "range" p) [a] [] p') body [] pos) (mForR rng1 mr g m) := by
  obtain ⟨t, p, q⟩ := ha
  obtain ⟨t2, p2, q2⟩ := hg
  obtain ⟨t3, p3, q3⟩ := hb
  refine ⟨_, ps_for hp hc (pi_range1 hgl hm p hs) p2 p3 hf, fun C y σ ρ S s Z h => ?_⟩
  refine q C y σ ρ S s _ (PostS.go h fun ws S1 h1 vs z s1 g1 r1 => ?_)
  have h2 := h1 z g1
  split at h2
  · rename_i lo k e
    unfold rng1 at e
    split at e
    · rename_i j
      obtain ⟨hj, e⟩ := ifc_some e
      cases e
      obtain ⟨v, rfl, rv⟩ := rwl1 r1
      cases (show v = .int j from rv)
      rw [loopM_P] at h2
      exact ⟨j, rfl, hj.1, hj.2, run_for q2 q3 (wk_rng (G := fun y S => True)) (fun y S g p => trivial) s1 h2⟩
    · cases e
  · exact h2.elim
theorem qs_range2 {tg : Expr} {g : MG} {p p' : Pos} (hp : PassesOwn (model X.prog X.w) X.A X.env X.xe) (hc : X.calm = true) (hgl : Gl X "range") (hm : X.mg "range" = none) (ha : QA X cl xa Wx [a, b] mr) (hg : QG X cl xa tg g) (hb : QB X cl xa Wx body m)
    (hs : starEach [a, b] X.env = [(false, eval a X.env), (false, eval b X.env)] := by rfl) (hs2 : starEach [b] X.env = [(false, eval b X.env)] := by rfl) (hf : ∀ x, foldedSetIterable (.Call (.Name "range" p) [a, b] [] p') X.env x = pure x := by intro _; rfl) :
    QS X cl xa Wx (.For tg (.Call (.Name "range" p) [a, b] [] p') body [] pos) (mForR rng2 mr g m) := by
  obtain ⟨t, p, q⟩ := ha
  obtain ⟨t2, p2, q2⟩ := hg
  obtain ⟨t3, p3, q3⟩ := hb
  refine ⟨_, ps_for hp hc (pi_range2 hgl hm p hs hs2) p2 p3 hf, fun C y σ ρ S s Z h => ?_⟩
  refine q C y σ ρ S s _ (PostS.go h fun ws S1 h1 vs z s1 g1 r1 => ?_)
  have h2 := h1 z g1
  split at h2
  · rename_i lo k e
    unfold rng2 at e
    split at e
    · rename_i i j
      obtain ⟨hj, e⟩ := ifc_some e
      cases e
      obtain ⟨v, v2, rfl, rv, rv2⟩ := rwl2 r1
      cases (show v = .int lo from rv)
      cases (show v2 = .int j from rv2)
      rw [loopM_P] at h2
      exact ⟨lo, j, rfl, hj, run_for q2 q3 (wk_rng (G := fun y S => True)) (fun y S g p => trivial) s1 h2⟩
    · cases e
  · exact h2.elim
end
/-! ### while -/
def whileN (c : MT) (b : MS) : Nat → Rho → Sto → Out
  | 0, _, _ => .stuck
  | k + 1, ρ, S => match c ρ S with
    | .stuck => .stuck
    | .ex x S => .ex x ρ S
    | .ok false S => .nx ρ S
    | .ok true S => match b ρ S with
      | .nx ρ2 S2 => whileN c b k ρ2 S2
      | .ct ρ2 S2 => whileN c b k ρ2 S2
      | .bk ρ2 S2 => .nx ρ2 S2
      | .rt w S2 => .rt w S2
      | .ex x ρ2 S2 => .ex x ρ2 S2
      | .stuck => .stuck
open Classical in
/-- a while: where some number of turns ends it -/
noncomputable def mWhile (c : MT) (b : MS) : MS := fun ρ S => if h : ∃ k, whileN c b k ρ S ≠ .stuck then whileN c b h.choose ρ S else .stuck
theorem whileN_more (c : MT) (b : MS) : ∀ (k : Nat) (ρ : Rho) (S : Sto), whileN c b k ρ S ≠ .stuck → ∀ j, k ≤ j → whileN c b j ρ S = whileN c b k ρ S
  | 0, ρ, S, h, _, _ => absurd rfl h
  | k + 1, ρ, S, h, 0, hj => by omega
  | k + 1, ρ, S, h, j + 1, hj => by
    unfold whileN at h ⊢
    cases e : c ρ S with
    | stuck => rfl
    | ex x S1 => rfl
    | ok v S1 =>
      rw [e] at h
      cases v with
      | false => rfl
      | true =>
        simp only at h ⊢
        cases e2 : b ρ S1 with
        | nx ρ2 S2 => rw [e2] at h; exact whileN_more c b k ρ2 S2 h j (by omega)
        | ct ρ2 S2 => rw [e2] at h; exact whileN_more c b k ρ2 S2 h j (by omega)
        | bk ρ2 S2 => rfl
        | rt w S2 => rfl
        | ex x ρ2 S2 => rfl
        | stuck => rfl
theorem mWhile_of {c : MT} {b : MS} {ρ : Rho} {S : Sto} (k : Nat) (h : whileN c b k ρ S ≠ .stuck) : mWhile c b ρ S = whileN c b k ρ S := by
  unfold mWhile
  have h' : ∃ k, whileN c b k ρ S ≠ .stuck := ⟨k, h⟩
  rw [dif_pos h']
  rcases Nat.le_total k h'.choose with z | z
  · exact whileN_more c b k ρ S h _ z
  · exact (whileN_more c b _ ρ S h'.choose_spec _ z).symm
section
variable {X : Cx} {cl : Str → Option Addr} {xa : Option (Nat × Addr)} {Wx : WX} {pos : Pos} {c : Expr} {tc : MT} {body : List Stmt} {m : MS}
theorem qs_while (hp : PassesOwn (model X.prog X.w) X.A X.env X.xe) (hc : QT X cl xa Wx c tc) (hb : QB X cl xa Wx body m) : QS X cl xa Wx (.While c body [] pos) (mWhile tc m) := by
  obtain ⟨t, p, q⟩ := hc
  obtain ⟨t2, p2, q2⟩ := hb
  refine ⟨_, ps_while hp p p2, fun C y σ ρ S s Z h => ?_⟩
  have hk : ∃ k, PostS X.K cl xa C Wx y (whileN tc m k ρ S) Z := by
    unfold mWhile at h
    split at h
    · exact ⟨_, h⟩
    · exact h.elim
  obtain ⟨k, hk⟩ := hk
  let Iv : Nat → St → Hp → Prop := fun j σ H => ∃ y1 ρ S, y1.H = H ∧ Sim X.K cl xa C y1 σ ρ S ∧ PostS X.K cl xa C Wx y1 (whileN tc m j ρ S) Z
  refine ⟨Iv, ⟨k, y, ρ, S, rfl, s, hk⟩, ?_⟩
  rintro j σ' H' ⟨y1, ρ1, S1, rfl, s1, h1⟩
  cases j with
  | zero => exact h1.elim
  | succ j =>
    unfold whileN at h1
    refine q C y1 σ' ρ1 S1 s1 _ ?_
    cases e : tc ρ1 S1 with
    | stuck => rw [e] at h1; exact h1.elim
    | ex x S2 => rw [e] at h1; exact fun cls dd z s2 g2 r2 => h1 cls dd σ' z s2 g2 r2
    | ok v S2 =>
      rw [e] at h1
      intro z s2 g2
      cases v with
      | false => exact h1 σ' z s2 g2
      | true =>
        refine ⟨Iv j, fun σ3 H3 z => ⟨j, Nat.lt_succ_self _, z⟩, ?_⟩
        refine q2 C z σ' ρ1 S2 s2 _ ?_
        simp only at h1
        have h1 := PostS.mono g2 h1
        cases e2 : m ρ1 S2 with
        | nx ρ2 S3 =>
          rw [e2] at h1
          exact fun σ3 z3 s3 g3 => ⟨z3, ρ2, S3, rfl, s3, PostS.mono g3 h1⟩
        | ct ρ2 S3 =>
          rw [e2] at h1
          exact fun σ3 z3 s3 g3 => ⟨z3, ρ2, S3, rfl, s3, PostS.mono g3 h1⟩
        | bk ρ2 S3 => rw [e2] at h1; exact h1
        | rt w S3 => rw [e2] at h1; exact h1
        | ex x ρ2 S3 => rw [e2] at h1; exact h1
        | stuck => rw [e2] at h1; exact h1
end
end Ng
namespace Ng
open PySem PySem.Spec PyProof.Rows L2

/-- the classes of the text's top, by their names -/
def clOf (K : PySem.W.Frag) : Str → Option Addr := fun x => match PySem.W.nsIn K mainGlobals x with
  | some (some (.ref a)) => some a
  | _ => none
/-! ### a def over the store -/
def startR (n : Nat) (ws : List W) : Rho := ws.map some ++ List.replicate (n - ws.length) none
def isDa : W → Bool
  | .da _ => true
  | _ => false
/-- what a def leaves: its own cells go where nothing of the caller's was changed and data comes out -/
noncomputable def trimS (S0 : Sto) (w : W) (S : Sto) : Rs W := match w with
  | .da d => ifc (S.take S0.length = S0) (.ok (.da d) S0) (.ok (.da d) S)
  | w => .ok w S
noncomputable def trimX (S0 : Sto) (x : Exn) (S : Sto) : Rs W := ifc (S.take S0.length = S0 ∧ x.ws.all isDa = true) (.ex x S0) (.ex x S)
noncomputable def endS (S0 : Sto) : Out → Rs W
  | .rt w S => trimS S0 w S
  | .nx _ S => trimS S0 (.da .non) S
  | .ex x _ S => trimX S0 x S
  | _ => .stuck
noncomputable def runS (n np : Nat) (m : MS) : List W → Sto → Rs W := fun ws S => if ws.length = np then endS S (m (startR n ws) S) else .stuck
/-- the promise of a def: it is the function p over the store -/
def SpR (K : PySem.W.Frag) (cl : Str → Option Addr) (y : Y) (Q : VK) (E : XK) (r : Rs W) : Prop := match r with
  | .ok w S' => ∀ v z, Bs K cl z S' → Fm y.cn z → RW K cl z w v → Q v z.H
  | .ex x S' => ∀ cls dd z, Bs K cl z S' → Fm y.cn z → XR K cl z x cls dd → E cls dd z.H
  | .stuck => False
def SpS (K : PySem.W.Frag) (cl : Str → Option Addr) (p : List W → Sto → Rs W) : Sp := fun vs H Q E => ∃ y S ws, y.H = H ∧ Bs K cl y S ∧ RWL K cl y ws vs ∧ SpR K cl y Q E (p ws S)
/-- .. of a def that changes nothing that stood and gives data: it is the plain function p -/
def SpP (K : PySem.W.Frag) (cl : Str → Option Addr) (p : List D → Re D) : Sp := fun vs H Q E => ∃ F ds, Ex F H ∧ RpL K cl F ds vs ∧ match p ds with
  | .ok d => ∀ v F' H', Al F H F' H' → Rp K cl F' d v → Q v H'
  | .ex x => ∀ cls dd F' H', Al F H F' H' → XR K cl ⟨F', H', []⟩ x cls dd → E cls dd H'
  | .stuck => False
noncomputable def pureOf (p : List W → Sto → Rs W) (ds : List D) : Re D := match p (ds.map .da) [] with
  | .ok (.da d) _ => .ok d
  | .ex x _ => ifc (x.ws.all isDa = true) (.ex x) .stuck
  | _ => .stuck
noncomputable def runP (n np : Nat) (m : MS) : List D → Re D := pureOf (runS n np m)
section
variable {K : PySem.W.Frag} {cl : Str → Option Addr} {xa : Option (Nat × Addr)}
theorem sim_start {y : Y} {S : Sto} {ws : List W} {vs : List V} {N : List Str} (b : Bs K cl y S) (r : RWL K cl y ws vs) : Sim K cl xa y.cn y (L2.start N vs) (startR N.length ws) S := by
  refine b.rebase ?_ ?_
  · unfold L2.start startR
    simp [Paired.length r]
  · intro i w e
    unfold startR at e
    by_cases hi : i < ws.length
    · rw [List.getElem?_append_left (by simpa using hi), List.getElem?_map, List.getElem?_eq_getElem hi] at e
      simp at e
      subst e
      obtain ⟨v, e1, e2⟩ := RWL.get r (List.getElem?_eq_getElem hi)
      refine ⟨v, ?_, e2.rs⟩
      unfold L2.start
      have hv : i < vs.length := by rw [← Paired.length r]; exact hi
      rw [List.getElem?_append_left (by simpa using hv), List.getElem?_map, e1]
      rfl
    · rw [List.getElem?_append_right (by simpa using Nat.le_of_not_lt hi)] at e
      rw [List.getElem?_replicate] at e
      split at e <;> simp at e
/-- the cells that stood at the entry alone -/
theorem rw_cut {y z : Y} {m : List Addr} {F H : Hp} (hm : m <+: z.m) : ∀ {w : W} {v v0 : V}, RW K cl z w v → RW K cl ⟨F, H, m⟩ w v0 → RW K cl ⟨z.F, z.H, m⟩ w v
  | .da d, v, _, h, _ => h
  | .lo n, v, _, ⟨a, e, h⟩, ⟨a0, e0, _⟩ => by
    have q := pre_get hm e0
    rw [e] at q
    cases q
    exact ⟨a, e0, h⟩
  | .xc, _, _, h, _ => h.elim
theorem rwl_cut {y z : Y} {m : List Addr} {F H : Hp} (hm : m <+: z.m) : ∀ {ws : List W} {vs vs0 : List V}, RWL K cl z ws vs → RWL K cl ⟨F, H, m⟩ ws vs0 → RWL K cl ⟨z.F, z.H, m⟩ ws vs
  | _, _, _, .nil, _ => .nil
  | _, _, _, .cons r t, .cons r0 t0 => .cons (rw_cut (y := y) hm r r0) (rwl_cut (y := y) hm t t0)
theorem rwp_cut {κ : Type} {y z : Y} {m : List Addr} {F H : Hp} (hm : m <+: z.m) : ∀ {ws : List (κ × W)} {vs vs0 : List (κ × V)}, RWP K cl z ws vs → RWP K cl ⟨F, H, m⟩ ws vs0 → RWP K cl ⟨z.F, z.H, m⟩ ws vs
  | _, _, _, .nil, _ => .nil
  | _, _, _, .cons r t, .cons r0 t0 => .cons ⟨r.1, rw_cut (y := y) hm r.2 r0.2⟩ (rwp_cut (y := y) hm t t0)
theorem cell_cut {y z : Y} {a a0 : Addr} (hm : y.m <+: z.m) : ∀ {c : Cell}, CellR K cl z a c → CellR K cl y a0 c → CellR K cl ⟨z.F, z.H, y.m⟩ a c
  | .lst _, ⟨vs, h, r⟩, ⟨_, _, r0⟩ => ⟨vs, h, rwl_cut (y := y) hm r r0⟩
  | .tup _, ⟨vs, h, r⟩, ⟨_, _, r0⟩ => ⟨vs, h, rwl_cut (y := y) hm r r0⟩
  | .dk _, ⟨vs, h, r⟩, ⟨_, _, r0⟩ => ⟨vs, h, rwp_cut (y := y) hm r r0⟩
  | .dt _, ⟨vs, h, r⟩, ⟨_, _, r0⟩ => ⟨vs, h, rwp_cut (y := y) hm r r0⟩
  | .ins _ _, ⟨C, dx, vs, k, h, r⟩, ⟨_, _, _, _, _, r0⟩ => ⟨C, dx, vs, k, h, rwp_cut (y := y) hm r r0⟩
  | .dead, _, _ => trivial
theorem bs_cut {y z : Y} {S0 S : Sto} (b0 : Bs K cl y S0) (b : Bs K cl z S) (f : Fm y.cn z) (h : S.take S0.length = S0) : Bs K cl ⟨z.F, z.H, y.m⟩ S0 ∧ Fm y.cn ⟨z.F, z.H, y.m⟩ := by
  refine ⟨⟨b.fz, b0.len, b0.nd, fun a ha => b.has a (f.pre.subset ha), fun n c e hd => ?_⟩, ⟨f.hf, f.keep, f.dom, f.newF, fun a ha => .inl ha, List.prefix_refl _⟩⟩
  have hn : n < S0.length := (List.getElem?_eq_some_iff.mp e).1
  have e' : S[n]? = some c := by
    rw [← h, List.getElem?_take] at e
    rw [if_pos hn] at e
    exact e
  obtain ⟨a, e1, e2, e3⟩ := b.cell n c e' hd
  obtain ⟨a0, f1, f2, f3⟩ := b0.cell n c e hd
  have q := pre_get f.pre f1
  rw [e1] at q
  cases q
  exact ⟨a, f1, e2, cell_cut f.pre e3 f3⟩
theorem rwl_da_cut {z : Y} {m : List Addr} : ∀ {ws : List W} {vs : List V}, ws.all isDa = true → RWL K cl z ws vs → RWL K cl ⟨z.F, z.H, m⟩ ws vs
  | _, _, _, .nil => .nil
  | w :: ws, _, h, .cons r t => by
    simp only [List.all_cons, Bool.and_eq_true] at h
    refine .cons ?_ (rwl_da_cut h.2 t)
    cases w with
    | da d => exact r
    | lo n => cases h.1
    | xc => cases h.1
theorem xr_cut {z : Y} {m : List Addr} {x : Exn} {cls : Value} {dd : Option Addr} (h : x.ws.all isDa = true) (r : XR K cl z x cls dd) : XR K cl ⟨z.F, z.H, m⟩ x cls dd := by
  obtain ⟨C, h1, h2, h3⟩ := r
  refine ⟨C, h1, h2, h3.imp id ?_⟩
  rintro ⟨h4, d, vs, h5, h6, h7, h8⟩
  exact ⟨h4, d, vs, h5, h6, h7, rwl_da_cut h h8⟩
end
section
variable {P : Program} {w : World} {K : PySem.W.Frag} {mg : Str → Option Value} {base : Heap} {cl : Str → Option Addr}
/-- a def's body, walked: its promise -/
theorem fnS {x qual : Str} {st : Stmt} {f : Addr} {fd : FuncData} {N ps : List Str} {k : Nat} {m : MS} (F : Fun K x qual st f fd) (S : FnScope N ps (defScope st))
    (hb : ∀ (cdv : Value) (A : Around) (outer : List Env) (s : Shared) (H : Hp) (E : XK), Room k (A.deeper (envOfC qual (defScope st) s.heap.objs.size f cdv)) →
      QB (cxOf (L2.CX P w) P w K mg base N qual (defScope st) f cdv A outer s H E) cl none (fun cls d _ H' => E cls d H') (defBody st) m) :
    FnOk P w K mg base (L2.CX P w) (k + 1) f fd ps (SpS K cl (runS N.length ps.length m)) := by
  refine F.okX S (fun vs H Q E h => ?_) (fun cdv A outer s H vs Q E hr h => ?_)
  · obtain ⟨y, S0, ws, _, _, r, q⟩ := h
    rw [← Paired.length r]
    by_cases hl : ws.length = ps.length
    · exact hl
    · rw [show runS N.length ps.length m ws S0 = .stuck by unfold runS; rw [if_neg hl]] at q
      exact q.elim
  · obtain ⟨y, S0, ws, rfl, b, r, q⟩ := h
    obtain ⟨t, p, z⟩ := hb cdv A outer s y.H E hr
    refine ⟨t, p, z y.cn y _ _ S0 (sim_start b r) _ ?_⟩
    by_cases hl : ws.length = ps.length
    · rw [show runS N.length ps.length m ws S0 = endS S0 (m (startR N.length ws) S0) by unfold runS; rw [if_pos hl]] at q
      have trim : ∀ (w : W) (S' : Sto), SpR K cl y Q E (trimS S0 w S') → ∀ v z, Bs K cl z S' → Fm y.cn z → RW K cl z w v → Q v z.H := fun w S' q v z bz fz rz => by
        cases w with
        | da d =>
          simp only [trimS] at q
          by_cases ht : S'.take S0.length = S0
          · rw [ifc_pos ht] at q
            obtain ⟨b2, f2⟩ := bs_cut b bz fz ht
            exact q v ⟨z.F, z.H, y.m⟩ b2 f2 rz
          · rw [ifc_neg ht] at q
            exact q v z bz fz rz
        | lo n => exact q v z bz fz rz
        | xc => exact rz.elim
      cases e : m (startR N.length ws) S0 with
      | nx ρ S' =>
        rw [e] at q
        exact fun σ' z s' _ => trim (.da .non) S' q .non z s'.bs s'.fm rfl
      | rt u S' =>
        rw [e] at q
        exact fun v σ' ρ' z s' _ rw' => trim u S' q v z s'.bs s'.fm rw'
      | bk ρ S' => rw [e] at q; exact q.elim
      | ct ρ S' => rw [e] at q; exact q.elim
      | ex x ρ S' =>
        rw [e] at q
        intro cls dd σ' z s' _ xr
        simp only [endS, trimX] at q
        by_cases ht : S'.take S0.length = S0 ∧ x.ws.all isDa = true
        · rw [ifc_pos ht] at q
          obtain ⟨b2, f2⟩ := bs_cut b s'.bs s'.fm ht.1
          exact q cls dd ⟨z.F, z.H, y.m⟩ b2 f2 (xr_cut ht.2 xr)
        · rw [ifc_neg ht] at q
          exact q cls dd z s'.bs s'.fm xr
      | stuck => rw [e] at q; exact q.elim
    · rw [show runS N.length ps.length m ws S0 = .stuck by unfold runS; rw [if_neg hl]] at q
      exact q.elim
theorem FnOk.weak {f : Addr} {fd : FuncData} {ps : List Str} {CX : CXT} {k : Nat} {sp sp' : Sp} (F : FnOk P w K mg base CX k f fd ps sp) (h : ∀ vs H Q E, sp' vs H Q E → sp vs H Q E) : FnOk P w K mg base CX k f fd ps sp' :=
  ⟨fun vs H Q E q => F.len vs H Q E (h vs H Q E q), fun A outer s H args us vs Q E hr he hb hv q => F.run A outer s H args us vs Q E hr he hb hv (h vs H Q E q)⟩
theorem Fm.al0 {F H : Hp} {z : Y} (b : Ex z.F z.H) (f : Fm (Y.cn ⟨F, H, []⟩) z) : Al F H z.F z.H :=
  ⟨f.hf, fun b o e => f.keep b o e (by simp [Y.cn]), b, fun b o e => by
    rcases f.newF b o e with q | q | q | q
    · exact .inl q
    · exact .inr (.inl q)
    · simp [Y.cn] at q
    · exact .inr (.inr q)⟩
/-- a plain function out of it -/
theorem fnP {f : Addr} {fd : FuncData} {ps : List Str} {k : Nat} {p : List W → Sto → Rs W} (F : FnOk P w K mg base (L2.CX P w) k f fd ps (SpS K cl p)) : FnOk P w K mg base (L2.CX P w) k f fd ps (SpP K cl (pureOf p)) := by
  refine FnOk.weak F fun vs H Q E h => ?_
  obtain ⟨G, ds, x, r, q⟩ := h
  refine ⟨⟨G, H, []⟩, [], ds.map .da, rfl, ⟨x, rfl, List.nodup_nil, (by intro a ha; cases ha), (by intro n c e; cases e)⟩, rwl_da r, ?_⟩
  unfold pureOf at q
  split at q
  · rename_i d hd
    split at hd
    · rename_i d' S' e
      cases hd
      rw [e]
      exact fun v z bz fz rz => q v z.F z.H (fz.al0 bz.fz) rz
    · rename_i x' S' e
      rcases ifc_cases (P := fun r => r = Re.ok d) hd with ⟨_, hd⟩ | ⟨_, hd⟩ <;> cases hd
    · cases hd
  · rename_i y hd
    split at hd
    · cases hd
    · rename_i x' S' e
      rcases ifc_cases (P := fun r => r = Re.ex y) hd with ⟨ha, hd⟩ | ⟨_, hd⟩
      · cases hd
        rw [e]
        exact fun cls dd z bz fz xr => q cls dd z.F z.H (fz.al0 bz.fz) (xr_cut ha xr)
      · cases hd
    · cases hd
  · exact q.elim
theorem fn_stuck {f : Addr} {fd : FuncData} {ps : List Str} {CX : CXT} {k : Nat} : FnOk P w K mg base CX k f fd ps (SpP K cl fun _ => .stuck) :=
  ⟨fun vs H Q E h => by obtain ⟨_, _, _, _, q⟩ := h; exact q.elim, fun A outer s H args us vs Q E hr he hb hv h => by obtain ⟨_, _, _, _, q⟩ := h; exact q.elim⟩
/-- a def of the text's top as it stands -/
structure DefAt (K : PySem.W.Frag) (mg : Str → Option Value) (x : Str) (st : Stmt) (ps : List Str) (f : Addr) (fd : FuncData) : Prop where
  fn : Fun K x x st f fd
  mgd : mg x = some (.ref f)
  bd : Binds K fd ps []
/-- a constant of the text's top -/
structure GlobAt (K : PySem.W.Frag) (mg : Str → Option Value) (cl : Str → Option Addr) (x : Str) (d : D) : Prop where
  at_ : ∃ v u, mg x = some u ∧ RelV v u ∧ ∀ F, Rp K cl F d v
theorem qe_globAt {X : Cx} {xa : Option (Nat × Addr)} {Wx : WX} {x : Str} {d : D} {pos : Pos} (h : GlobAt X.K X.mg cl x d) (hg : Gl X x := by rfl) (hd : (x == ("__debug__" : Str)) = false := by decide) : QE X cl xa Wx (.Name x pos) (mC d) := by
  obtain ⟨v, u, h1, h2, h3⟩ := h.at_
  exact qe_glob hg h1 h2 h3 hd
theorem hu_ng {A : Around} {k : Nat} (hr : Room k A) : A.units + 200 < cLine := by have := hr.un; omega
end
/-! ### calls -/
def valsW (S : Sto) : List W → Option (List D)
  | [] => some []
  | w :: ws => match valW S w, valsW S ws with
    | some d, some ds => some (d :: ds)
    | _, _ => none
def reK (r : Re D) (S : Sto) : Rs W := match r with
  | .ok d => .ok (.da d) S
  | .ex x => .ex x S
  | .stuck => .stuck
def reF (r : Re D) (S : Sto) : Rs W := match r with
  | .ok d => if flatD d = true then .ok (.da d) S else .stuck
  | .ex x => if x.fs.isEmpty = true then .ex x S else .stuck
  | .stuck => .stuck
/-- a plain function called: by data; by cells that it reads, where a flat value comes out -/
def callP (p : List D → Re D) (ws : List W) (S : Sto) : Rs W := match dats ws with
  | some ds => reK (p ds) S
  | none => match valsW S ws with
    | some ds => reF (p ds) S
    | none => .stuck
def mCallP (p : List D → Re D) (mr : MA) : ME := mCall (callP p) mr
section
variable {X : Cx} {cl : Str → Option Addr} {xa : Option (Nat × Addr)} {Wx : WX}
open Classical in
/-- all cells as if they were frozen -/
noncomputable def Y.fzAll (y : Y) : Hp := fun b => if b ∈ y.m ∧ y.F b = none then y.H b else y.F b
theorem Y.fzAll_ex (y : Y) : Ex y.F y.fzAll := fun b o e => by
  unfold Y.fzAll
  rw [if_neg (by rintro ⟨_, h⟩; rw [e] at h; cases h)]
  exact e
theorem Y.fzAll_h {y : Y} (x : Ex y.F y.H) : Ex y.fzAll y.H := fun b o e => by
  unfold Y.fzAll at e
  split at e
  · exact e
  · exact x b o e
theorem fzAll_at {K : PySem.W.Frag} {y : Y} {S : Sto} (b : Bs K cl y S) {n : Nat} {c : Cell} {a : Addr} (hc : S[n]? = some c) (hd : c ≠ .dead) (ea : y.m[n]? = some a) : y.fzAll a = y.H a := by
  unfold Y.fzAll
  cases h : y.F a with
  | none => rw [if_pos ⟨List.mem_of_getElem? ea, rfl⟩]
  | some o => rw [if_neg (fun z => nomatch z.2), b.fz a o h]
theorem valF_ok {K : PySem.W.Frag} {y : Y} {S : Sto} (b : Bs K cl y S) {w : W} {v : V} {d : D} (r : RW K cl y w v) (h : valW S w = some d) : Rp K cl y.fzAll d v := by
  unfold valW at h
  split at h
  · cases h; exact Rp.xt y.fzAll_ex _ _ r
  · obtain ⟨a, e, rfl⟩ := r
    split at h
    · rename_i ws hc
      obtain ⟨_, vs, e2, l⟩ := b.at hc (by intro z; cases z) e
      obtain ⟨ds, q, rfl⟩ := Option.map_eq_some_iff.mp h
      exact ⟨a, vs, rfl, by rw [fzAll_at b hc (by intro z; cases z) e]; exact e2, RpL.xt y.fzAll_ex _ _ (dats_ok l q)⟩
    · rename_i ws hc
      obtain ⟨_, vs, e2, l⟩ := b.at hc (by intro z; cases z) e
      obtain ⟨ds, q, rfl⟩ := Option.map_eq_some_iff.mp h
      exact ⟨a, vs, rfl, by rw [fzAll_at b hc (by intro z; cases z) e]; exact e2, RpL.xt y.fzAll_ex _ _ (dats_ok l q)⟩
    · cases h
  · cases h
theorem valsF_ok {K : PySem.W.Frag} {y : Y} {S : Sto} (b : Bs K cl y S) : ∀ {ws : List W} {vs : List V} {ds : List D}, RWL K cl y ws vs → valsW S ws = some ds → RpL K cl y.fzAll ds vs
  | _, _, ds, .nil, h => by cases h; exact rfl
  | w :: ws, _, ds, .cons r t, h => by
    simp only [valsW] at h
    split at h
    · rename_i d ds' e1 e2
      cases h
      exact ⟨_, _, rfl, valF_ok b r e1, valsF_ok b t e2⟩
    · cases h
/-- a call's promise, used -/
theorem useP {K : PySem.W.Frag} {C : Cn} {y : Y} {σ : L2.St} {ρ : Rho} {S : Sto} {ws : List W} {vs : List V} {p : List D → Re D} {Q : VK} (s : Sim K cl xa C y σ ρ S) (r : RWL K cl y ws vs) (h : Post K cl xa C Wx y σ ρ (callP p ws S) (OkE K cl xa C y σ ρ Q)) : SpP K cl p vs y.H Q (WE Wx σ) := by
  unfold callP at h
  split at h
  · rename_i ds hd
    refine ⟨y.F, ds, s.bs.fz, dats_ok r hd, ?_⟩
    cases e : p ds with
    | ok d => rw [e] at h; exact fun v F' H' al rd => h v _ (s.al al) al.gr rd
    | ex x => rw [e] at h; exact fun cls dd F' H' al xr => h cls dd _ (s.al al) al.gr (XR.grow (y := ⟨F', H', []⟩) ⟨Ex.refl _, List.nil_prefix⟩ xr)
    | stuck => rw [e] at h; exact h
  · split at h
    · rename_i ds hd
      refine ⟨y.fzAll, ds, y.fzAll_h s.bs.fz, valsF_ok s.bs r hd, ?_⟩
      have back : ∀ F' H', Al y.fzAll y.H F' H' → Al y.F y.H y.F H' := fun F' H' al => ⟨Ex.refl _, al.h, s.bs.fz.trans al.h, fun b o e => .inl e⟩
      cases e : p ds with
      | ok d =>
        rw [e] at h
        simp only [reF] at h
        split at h
        · rename_i hf
          intro v F' H' al rd
          have rd' : Rp K cl y.F d v := by
            cases d <;> simp [flatD] at hf <;> exact rd
          exact h v _ (s.al (back F' H' al)) (back F' H' al).gr rd'
        · exact h.elim
      | ex x =>
        rw [e] at h
        simp only [reF] at h
        split at h
        · rename_i hf
          intro cls dd F' H' al xr
          obtain ⟨C', h1, h2, h3⟩ := xr
          have he : x.fs = [] := by cases hx : x.fs <;> simp_all
          refine h cls dd _ (s.al (back F' H' al)) (back F' H' al).gr ⟨C', h1, h2, ?_⟩
          rcases h3 with ⟨_, h3⟩ | ⟨h3, _⟩
          · exact .inl ⟨he, h3⟩
          · exact absurd he h3
        · exact h.elim
      | stuck => rw [e] at h; exact h
    · exact h.elim
theorem useS {K : PySem.W.Frag} {C : Cn} {y : Y} {σ : L2.St} {ρ : Rho} {S : Sto} {ws : List W} {vs : List V} {p : List W → Sto → Rs W} {Q : VK} (s : Sim K cl xa C y σ ρ S) (r : RWL K cl y ws vs) (h : Post K cl xa C Wx y σ ρ (p ws S) (OkE K cl xa C y σ ρ Q)) : SpS K cl p vs y.H Q (WE Wx σ) := by
  refine ⟨y, S, ws, rfl, s.bs, r, ?_⟩
  cases e : p ws S with
  | ok w S' => rw [e] at h; exact fun v z bz fz rz => h v z (s.after bz fz) fz.gr rz
  | ex x S' => rw [e] at h; exact fun cls dd z bz fz xr => h cls dd z (s.after bz fz) fz.gr xr
  | stuck => rw [e] at h; exact h
variable {CX : CXT} {k : Nat} {f : Addr} {fd : FuncData} {ps : List Str} {x : Str} {pp pos : Pos} {e : Expr} {es : List Expr} {mr : MA} {p : List D → Re D} {pS : List W → Sto → Rs W}
theorem qe_call (G : FnOk X.prog X.w X.K X.mg X.base CX k f fd ps (SpP X.K cl p)) (hr : Room k X.A) (hg : Gl X x) (hm : X.mg x = some (.ref f)) (hk : PySem.W.keepIn X.K (.ref f) = true) (hb : Binds X.K fd ps []) (px : ∀ σ, PassesAt CX X σ (WE Wx σ))
    (ha : QA X cl xa Wx (e :: es) mr) (hdb : (x == ("__debug__" : Str)) = false := by decide) (he : starEach (e :: es) X.env = (false, eval e X.env) :: starEach es X.env := by rfl) (hpl : (backTo pos (starEach es X.env)).any (·.1) = false := by rfl) :
    QE X cl xa Wx (.Call (.Name x pp) (e :: es) [] pos) (mCallP p mr) := by
  obtain ⟨t, pa, q⟩ := ha
  refine ⟨_, pe_callS G hr hg hm hk hb px pa hdb he hpl, fun C y σ ρ S s Q h => ?_⟩
  refine q C y σ ρ S s _ (Post.go h fun ws S1 h1 vs z s1 g1 r1 => ?_)
  exact useP s1 r1 (Post.re (h1 z g1) g1)
theorem qe_callS (G : FnOk X.prog X.w X.K X.mg X.base CX k f fd ps (SpS X.K cl pS)) (hr : Room k X.A) (hg : Gl X x) (hm : X.mg x = some (.ref f)) (hk : PySem.W.keepIn X.K (.ref f) = true) (hb : Binds X.K fd ps []) (px : ∀ σ, PassesAt CX X σ (WE Wx σ))
    (ha : QA X cl xa Wx (e :: es) mr) (hdb : (x == ("__debug__" : Str)) = false := by decide) (he : starEach (e :: es) X.env = (false, eval e X.env) :: starEach es X.env := by rfl) (hpl : (backTo pos (starEach es X.env)).any (·.1) = false := by rfl) :
    QE X cl xa Wx (.Call (.Name x pp) (e :: es) [] pos) (mCall pS mr) := by
  obtain ⟨t, pa, q⟩ := ha
  refine ⟨_, pe_callS G hr hg hm hk hb px pa hdb he hpl, fun C y σ ρ S s Q h => ?_⟩
  refine q C y σ ρ S s _ (Post.go h fun ws S1 h1 vs z s1 g1 r1 => ?_)
  exact useS s1 r1 (Post.re (h1 z g1) g1)
end
end Ng
namespace Ng
open PySem L2
/-! ### list comprehensions -/
section
variable {K : PySem.W.Frag} {cl : Str → Option Addr} {xa : Option (Nat × Addr)} {C : Cn} {y : Y} {σ σ' : St} {ρ ρ' : Rho} {S : Sto}
/-- a thing of our own that is neither frozen nor a cell -/
theorem Sim.other (s : Sim K cl xa C y σ ρ S) {p : Addr} {o : HO} (h1 : y.F p = none) (h2 : p ∉ y.m) (h3 : C.H0 p = none) : Sim K cl xa C (y.up p o) σ ρ S := by
  have neF : ∀ b o, y.F b = some o → b ≠ p := fun b o h z => by rw [z, h1] at h; cases h
  have g : Gr y (y.up p o) := ⟨Ex.refl _, List.prefix_refl _⟩
  refine ⟨⟨fun b u h => ?_, s.bs.len, s.bs.nd, fun b hb => ?_, fun k d ek hd => ?_⟩, ⟨s.fm.hf, fun b u e1 e2 => ?_, fun b h => ?_, s.fm.newF, s.fm.newC, s.fm.pre⟩, s.len, fun i w e => ?_⟩
  · show upd y.H p o b = some u
    rw [upd_ne (neF b u h)]; exact s.bs.fz b u h
  · show upd y.H p o b ≠ none
    rw [upd_ne (fun (z : b = p) => h2 (z ▸ hb))]; exact s.bs.has b hb
  · obtain ⟨b, f1, f2, f3⟩ := s.bs.cell k d ek hd
    have nb : b ≠ p := fun z => h2 (z ▸ List.mem_of_getElem? f1)
    exact ⟨b, f1, f2, CellR.grow g (fun u q => by show upd y.H p o b = some u; rw [upd_ne nb]; exact q) f3⟩
  · show upd y.H p o b = some u
    rw [upd_ne (fun z => by rw [z, h3] at e1; cases e1)]; exact s.fm.keep b u e1 e2
  · have h' : upd y.H p o b = none := h
    by_cases z : b = p
    · subst z; rw [upd_same] at h'; cases h'
    · rw [upd_ne z] at h'; exact s.fm.dom b h'
  · obtain ⟨v, e1, e2⟩ := s.slot i w e
    exact ⟨v, e1, e2.grow g⟩
/-- .. becomes a cell -/
theorem Sim.adoptC (s : Sim K cl xa C y σ ρ S) {p : Addr} {c : Cell} (h1 : y.F p = none) (h2 : p ∉ y.m) (h3 : C.H0 p = none) (h4 : y.H p ≠ none) (hc : CellR K cl y p c) : Sim K cl xa C ⟨y.F, y.H, y.m ++ [p]⟩ σ ρ (S ++ [c]) ∧ Gr y ⟨y.F, y.H, y.m ++ [p]⟩ := by
  have g : Gr y ⟨y.F, y.H, y.m ++ [p]⟩ := ⟨Ex.refl _, List.prefix_append _ _⟩
  refine ⟨⟨⟨s.bs.fz, by simp [s.bs.len], ?_, ?_, ?_⟩, ⟨s.fm.hf, s.fm.keep, s.fm.dom, s.fm.newF, fun a ha => ?_, s.fm.pre.trans g.m⟩, s.len, fun i w e => ?_⟩, g⟩
  · show (y.m ++ [p]).Nodup
    rw [List.nodup_append]
    exact ⟨s.bs.nd, by simp, fun a ha b hb => by simp at hb; subst hb; exact fun z => h2 (z ▸ ha)⟩
  · intro a ha
    rcases List.mem_append.mp ha with h | h
    · exact s.bs.has a h
    · simp at h; subst h; exact h4
  · intro n c' e d
    by_cases hn : n < S.length
    · rw [List.getElem?_append_left hn] at e
      obtain ⟨a, e1, e2, e3⟩ := s.bs.cell n c' e d
      exact ⟨a, pre_get g.m e1, e2, CellR.grow g (fun u z => z) e3⟩
    · have hl : n = S.length := by
        have := (List.getElem?_eq_some_iff.mp e).1
        simp at this; omega
      subst hl
      rw [List.getElem?_append_right (Nat.le_refl _)] at e
      simp at e
      subst e
      exact ⟨p, by show (y.m ++ [p])[S.length]? = some p; rw [← s.bs.len, List.getElem?_append_right (Nat.le_refl _)]; simp, .inl h1, CellR.grow g (fun u z => z) hc⟩
  · rcases List.mem_append.mp ha with h | h
    · exact s.fm.newC a h
    · simp at h; subst h; exact .inr h3
  · obtain ⟨v, e1, e2⟩ := s.slot i w e
    exact ⟨v, e1, e2.grow g⟩
/-- .. is frozen -/
theorem Sim.adoptF (s : Sim K cl xa C y σ ρ S) {p : Addr} {o : HO} (h1 : y.F p = none) (h2 : p ∉ y.m) (h3 : C.H0 p = none) (h4 : y.H p = some o) : Sim K cl xa C (y.fz p o) σ ρ S ∧ Gr y (y.fz p o) := by
  have ex : Ex y.F (upd y.F p o) := Ex.new h1
  have g : Gr y (y.fz p o) := ⟨ex, List.prefix_refl _⟩
  refine ⟨⟨⟨fun b u h => ?_, s.bs.len, s.bs.nd, s.bs.has, fun k d ek hd => ?_⟩, ⟨s.fm.hf.trans ex, s.fm.keep, s.fm.dom, fun b u h => ?_, s.fm.newC, s.fm.pre⟩, s.len, fun i w e => ?_⟩, g⟩
  · have h' : upd y.F p o b = some u := h
    by_cases z : b = p
    · subst z; rw [upd_same] at h'; cases h'; exact h4
    · rw [upd_ne z] at h'; exact s.bs.fz b u h'
  · obtain ⟨b, f1, f2, f3⟩ := s.bs.cell k d ek hd
    have nb : b ≠ p := fun z => h2 (z ▸ List.mem_of_getElem? f1)
    exact ⟨b, f1, f2.imp (fun q => by show upd y.F p o b = none; rw [upd_ne nb]; exact q) id, CellR.grow g (fun u q => q) f3⟩
  · have h' : upd y.F p o b = some u := h
    by_cases z : b = p
    · subst z; exact .inr (.inl h3)
    · rw [upd_ne z] at h'; exact s.fm.newF b u h'
  · obtain ⟨v, e1, e2⟩ := s.slot i w e
    exact ⟨v, e1, e2.grow g⟩
end
def wipeR (ρ : Rho) : List Nat → Rho
  | [] => ρ
  | v :: vs => (wipeR ρ vs).set v none
theorem wipeR_some {ρ : Rho} {i : Nat} {w : W} : ∀ {vs : List Nat}, (wipeR ρ vs)[i]? = some (some w) → ρ[i]? = some (some w) ∧ i ∉ vs
  | [], h => ⟨h, by simp⟩
  | v :: vs, h => by
    unfold wipeR at h
    by_cases e : v = i
    · subst e
      by_cases hl : v < (wipeR ρ vs).length
      · rw [List.getElem?_set_self hl] at h; cases h
      · rw [List.getElem?_eq_none (by rw [List.length_set]; omega)] at h; cases h
    · rw [List.getElem?_set_ne e] at h
      obtain ⟨h1, h2⟩ := wipeR_some h
      exact ⟨h1, by
        intro z
        rcases List.mem_cons.mp z with z | z
        · exact e z.symm
        · exact h2 z⟩
theorem wipeR_len (ρ : Rho) : ∀ vs : List Nat, (wipeR ρ vs).length = ρ.length
  | [] => rfl
  | v :: vs => by unfold wipeR; rw [List.length_set, wipeR_len ρ vs]
theorem Sim.wipe {K : PySem.W.Frag} {cl : Str → Option Addr} {xa : Option (Nat × Addr)} {C : Cn} {y : Y} {σ : St} {ρ : Rho} {S : Sto} (s : Sim K cl xa C y σ ρ S) (vs : List Nat) : Sim K cl xa C y (L2.wipe σ vs) (wipeR ρ vs) S :=
  ⟨s.bs, s.fm, by rw [wipeR_len, wipe_length]; exact s.len, fun i w e => by
    obtain ⟨h1, h2⟩ := wipeR_some e
    obtain ⟨v, e1, e2⟩ := s.slot i w h1
    exact ⟨v, by rw [wipe_out h2]; exact e1, e2⟩⟩
/-- readings that ask for no more than the meaning -/
def TEm (K : PySem.W.Frag) (cl : Str → Option Addr) (xa : Option (Nat × Addr)) (Wx : WX) (m : ME) : TE := fun σ H Q => ∃ C y ρ S, y.H = H ∧ Sim K cl xa C y σ ρ S ∧ Post K cl xa C Wx y σ ρ (m ρ S) (OkE K cl xa C y σ ρ Q)
def TTm (K : PySem.W.Frag) (cl : Str → Option Addr) (xa : Option (Nat × Addr)) (Wx : WX) (m : MT) : TT := fun σ H Q => ∃ C y ρ S, y.H = H ∧ Sim K cl xa C y σ ρ S ∧ Post K cl xa C Wx y σ ρ (m ρ S) (OkT K cl xa C y σ ρ Q)
theorem pe_m {X : Cx} {cl : Str → Option Addr} {xa : Option (Nat × Addr)} {Wx : WX} {e : Expr} {m : ME} (h : QE X cl xa Wx e m) : PE X e (TEm X.K cl xa Wx m) := ⟨fun pins s σ H Q I ⟨C, y, ρ, S, e1, sim, post⟩ => by
  subst e1
  obtain ⟨t, p, q⟩ := h
  exact p.run pins s σ _ Q I (q C y σ ρ S sim Q post)⟩
theorem pt_m {X : Cx} {cl : Str → Option Addr} {xa : Option (Nat × Addr)} {Wx : WX} {e : Expr} {m : MT} (h : QT X cl xa Wx e m) : PT X e (TTm X.K cl xa Wx m) := ⟨fun pins s σ H Q I ⟨C, y, ρ, S, e1, sim, post⟩ => by
  subst e1
  obtain ⟨t, p, q⟩ := h
  exact p.run pins s σ _ Q I (q C y σ ρ S sim Q post)⟩
/-- a target that stores in the block's own slots alone -/
def SGw (K : PySem.W.Frag) (cl : Str → Option Addr) (vs : List Nat) (tg : TG) (m : MG) : Prop := ∀ xa C y σ ρ S, Sim K cl xa C y σ ρ S → ∀ w v, RW K cl y w v → ∀ Q : St → Hp → Prop,
  (∃ ρ', m w ρ S = some ρ' ∧ ∀ σ', Sim K cl xa C y σ' ρ' S → L2.wipe σ' vs = L2.wipe σ vs → Q σ' y.H) → tg v σ y.H Q
def SGws (K : PySem.W.Frag) (cl : Str → Option Addr) (vs : List Nat) (tg : TGs) (m : MGs) : Prop := ∀ xa C y σ ρ S, Sim K cl xa C y σ ρ S → ∀ w v, RWL K cl y w v → ∀ Q : St → Hp → Prop,
  (∃ ρ', m w ρ S = some ρ' ∧ ∀ σ', Sim K cl xa C y σ' ρ' S → L2.wipe σ' vs = L2.wipe σ vs → Q σ' y.H) → tg v σ y.H Q
theorem set_wipe {σ : St} {i : Nat} {x : Option V} : ∀ {vs : List Nat}, i ∈ vs → L2.wipe (σ.set i x) vs = L2.wipe σ vs
  | [], h => by cases h
  | v :: vs, h => by
    show (L2.wipe (σ.set i x) vs).set v none = (L2.wipe σ vs).set v none
    by_cases k : i ∈ vs
    · rw [set_wipe k]
    · have e : i = v := by
        rcases List.mem_cons.mp h with z | z
        · exact z
        · exact absurd z k
      subst e
      apply List.ext_getElem?
      intro j
      by_cases hj : i = j
      · subst hj
        by_cases hl : i < σ.length
        · rw [List.getElem?_set_self (by rw [wipe_length, List.length_set]; exact hl), List.getElem?_set_self (by rw [wipe_length]; exact hl)]
        · rw [List.getElem?_eq_none (by rw [List.length_set, wipe_length, List.length_set]; omega), List.getElem?_eq_none (by rw [List.length_set, wipe_length]; omega)]
      · rw [List.getElem?_set_ne hj, List.getElem?_set_ne hj]
        have go : ∀ us : List Nat, (L2.wipe (σ.set i x) us)[j]? = (L2.wipe σ us)[j]? := fun us => by
          induction us with
          | nil => exact List.getElem?_set_ne hj
          | cons u us ih =>
            show ((L2.wipe (σ.set i x) us).set u none)[j]? = ((L2.wipe σ us).set u none)[j]?
            by_cases q : u = j
            · subst q
              by_cases hl : u < σ.length
              · rw [List.getElem?_set_self (by rw [wipe_length, List.length_set]; exact hl), List.getElem?_set_self (by rw [wipe_length]; exact hl)]
              · rw [List.getElem?_eq_none (by rw [List.length_set, wipe_length, List.length_set]; omega), List.getElem?_eq_none (by rw [List.length_set, wipe_length]; omega)]
            · rw [List.getElem?_set_ne q, List.getElem?_set_ne q]; exact ih
        exact go vs
theorem sgw_name {K : PySem.W.Frag} {cl : Str → Option Addr} {vs : List Nat} {i : Nat} (h : i ∈ vs) : SGw K cl vs (gName i) (gtName i) := fun xa C y σ ρ S s w v r Q ⟨ρ', e, k⟩ => by
  cases e
  exact k _ (s.set i r) (set_wipe h)
/-- a tuple unpacked -/
def gtTupT (n : Nat) (m : MGs) : MG := fun w ρ S => match tupW S w with
  | some ws => if ws.length = n then m ws ρ S else none
  | none => none
theorem sgws_nil {K : PySem.W.Frag} {cl : Str → Option Addr} {vs : List Nat} : SGws K cl vs gNil gtNil := fun xa C y σ ρ S s ws us r Q ⟨ρ', e, k⟩ => by
  unfold gtNil at e
  split at e
  · cases e
    cases r
    exact ⟨rfl, k _ s rfl⟩
  · cases e
theorem sgws_cons {K : PySem.W.Frag} {cl : Str → Option Addr} {vs : List Nat} {t : TG} {u : TGs} {g : MG} {gs : MGs} (h1 : SGw K cl vs t g) (h2 : SGws K cl vs u gs) : SGws K cl vs (gCons t u) (gtCons g gs) := fun xa C y σ ρ S s ws us r Q ⟨ρ', e, k⟩ => by
  unfold gtCons at e
  split at e
  · rename_i w rs _
    cases r with
    | cons r1 r2 =>
      obtain ⟨ρ1, e1, e2⟩ := Option.bind_eq_some_iff.mp e
      refine ⟨_, _, rfl, ?_⟩
      exact h1 xa C y σ ρ S s w _ r1 _ ⟨ρ1, e1, fun σ1 s1 w1 => h2 xa C y σ1 ρ1 S s1 rs _ r2 Q ⟨ρ', e2, fun σ2 s2 w2 => k σ2 s2 (w2.trans w1)⟩⟩
  · cases e
theorem sgw_tup {K : PySem.W.Frag} {cl : Str → Option Addr} {vs : List Nat} {u : TGs} {gs : MGs} {n : Nat} (h : SGws K cl vs u gs) : SGw K cl vs (gTup K n u) (gtTupT n gs) := fun xa C y σ ρ S s w v r Q ⟨ρ', e, k⟩ => by
  unfold gtTupT at e
  split at e
  · rename_i ws hw
    split at e
    · rename_i hl
      obtain ⟨a, us, rfl, t, l⟩ := tupW_ok s.bs r hw
      exact ⟨a, us, rfl, t, by rw [← Paired.length l]; exact hl, h xa C y σ ρ S s _ us l Q ⟨ρ', e, k⟩⟩
    · cases e
  · cases e
/-- the items that a comprehension makes -/
noncomputable def lcP (P : Sto → Prop) (g : MG) (mt : MT) (me : ME) (ρw : Rho) : List W → List W → Sto → Rs (List W)
  | [], acc, S => ifc (P S) (.ok acc S) .stuck
  | d :: ds, acc, S => ifc (P S) (match g d ρw S with
    | none => .stuck
    | some ρ2 => match mt ρ2 S with
      | .ok true S1 => match me ρ2 S1 with
        | .ok u S2 => ifc (acc.length < sizeLine) (lcP P g mt me ρw ds (acc ++ [u]) S2) .stuck
        | _ => .stuck
      | .ok false S1 => lcP P g mt me ρw ds acc S1
      | _ => .stuck) .stuck
noncomputable def lcM (g : MG) (mt : MT) (me : ME) (ρw : Rho) : List W → List W → Sto → Rs (List W)
  | [], acc, S => .ok acc S
  | d :: ds, acc, S => match g d ρw S with
    | none => .stuck
    | some ρ2 => match mt ρ2 S with
      | .ok true S1 => match me ρ2 S1 with
        | .ok u S2 => ifc (acc.length < sizeLine) (lcM g mt me ρw ds (acc ++ [u]) S2) .stuck
        | _ => .stuck
      | .ok false S1 => lcM g mt me ρw ds acc S1
      | _ => .stuck
theorem lcM_P (g : MG) (mt : MT) (me : ME) (ρw : Rho) : ∀ (ds acc : List W) (S : Sto), lcM g mt me ρw ds acc S = lcP (fun _ => True) g mt me ρw ds acc S
  | [], acc, S => by unfold lcM lcP; rw [ifc_true]
  | d :: ds, acc, S => by
    unfold lcM lcP
    rw [ifc_true]
    split
    · rfl
    · split
      · split
        · rw [lcM_P g mt me ρw ds _ _]
        · rfl
      · exact lcM_P g mt me ρw ds _ _
      · rfl
theorem lcP_at {P : Sto → Prop} {g : MG} {mt : MT} {me : ME} {ρw : Rho} {ds acc ys : List W} {S S' : Sto} (h : lcP P g mt me ρw ds acc S = .ok ys S') : P S := by
  cases ds with
  | nil =>
    rcases ifc_cases (P := fun r => r = Rs.ok ys S') h with ⟨a, _⟩ | ⟨_, b⟩
    · exact a
    · cases b
  | cons d ds =>
    rcases ifc_cases (P := fun r => r = Rs.ok ys S') h with ⟨a, _⟩ | ⟨_, b⟩
    · exact a
    · cases b
theorem lcP_noex {P : Sto → Prop} {g : MG} {mt : MT} {me : ME} {ρw : Rho} : ∀ (ds acc : List W) (S : Sto) (x : Exn) (S' : Sto), lcP P g mt me ρw ds acc S ≠ .ex x S'
  | [], acc, S, x, S' => by
    intro h
    rcases ifc_cases (P := fun r => r = Rs.ex x S') h with ⟨_, h⟩ | ⟨_, h⟩ <;> cases h
  | d :: ds, acc, S, x, S' => by
    intro h
    rcases ifc_cases (P := fun r => r = Rs.ex x S') h with ⟨_, h⟩ | ⟨_, h⟩
    · split at h
      · cases h
      · split at h
        · split at h
          · rcases ifc_cases (P := fun r => r = Rs.ex x S') h with ⟨_, h⟩ | ⟨_, h⟩
            · exact lcP_noex ds _ _ x S' h
            · cases h
          · cases h
        · exact lcP_noex ds _ _ x S' h
        · cases h
    · cases h
def mYes : MT := fun _ S => .ok true S
def mkLst (mk : Option Cell → Sto → Rs W) (ys : List W) (S : Sto) : Rs W := mk (some (.lst ys)) S
noncomputable def mLc (mk : Option Cell → Sto → Rs W) (e : ME) (vs : List Nat) (g : MG) (mt : MT) (me : ME) : ME := fun ρ S => (e ρ S).bind fun w S => match w with
  | .da d => match itemsD d with
    | some ws => (lcM g mt me (wipeR ρ vs) ws [] S).bind (mkLst mk)
    | none => .stuck
  | .lo n => match S[n]? with
    | some (.lst ws) => (lcP (fun S => S[n]? = some (.lst ws)) g mt me (wipeR ρ vs) ws [] S).bind (mkLst mk)
    | _ => .stuck
  | .xc => .stuck
noncomputable def mLcR (mk : Option Cell → Sto → Rs W) (rg : List W → Option (Int × Nat)) (a : MA) (vs : List Nat) (g : MG) (mt : MT) (me : ME) : ME := fun ρ S => (a ρ S).bind fun ws S => match rg ws with
  | some (lo, n) => (lcM g mt me (wipeR ρ vs) (intsW lo n) [] S).bind (mkLst mk)
  | none => .stuck
abbrev W0 : WX := fun _ _ _ _ => False
/-- between two turns: what is made stands at p, the rest gives ys -/
def LcAt (K : PySem.W.Frag) (cl : Str → Option Addr) (xa : Option (Nat × Addr)) (C : Cn) (y0 : Y) (σ : St) (ρ : Rho) (P : Sto → Prop) (vs : List Nat) (g : MG) (mt : MT) (me : ME) (ys : List W) (S' : Sto) (p : Addr) (ds : List W) (H : Hp) : Prop :=
  ∃ y acc vacc S, y.H = H ∧ Sim K cl xa C y σ ρ S ∧ Gr y0 y ∧ y.F p = none ∧ p ∉ y.m ∧ H p = some (.lst vacc) ∧ RWL K cl y acc vacc ∧ P S ∧ lcP P g mt me (wipeR ρ vs) ds acc S = .ok ys S'
section
variable {K : PySem.W.Frag} {cl : Str → Option Addr} {xa : Option (Nat × Addr)}
theorem wipe_wipe (σ : St) (vs : List Nat) : L2.wipe (L2.wipe σ vs) vs = L2.wipe σ vs := by
  apply List.ext_getElem?
  intro j
  by_cases k : j ∈ vs
  · have f : ∀ (τ : St) (ws : List Nat), j ∈ ws → (L2.wipe τ ws)[j]? = if j < τ.length then some none else none := fun τ ws => by
      induction ws with
      | nil => intro z; cases z
      | cons y ys ih =>
        intro z
        show ((L2.wipe τ ys).set y none)[j]? = _
        by_cases q : y = j
        · subst q
          by_cases hl : y < τ.length
          · rw [List.getElem?_set_self (by rw [wipe_length]; exact hl), if_pos hl]
          · rw [List.getElem?_eq_none (by rw [List.length_set, wipe_length]; omega), if_neg hl]
        · rw [List.getElem?_set_ne q]
          exact ih (by
            rcases List.mem_cons.mp z with z | z
            · exact absurd z.symm q
            · exact z)
    rw [f _ _ k, f _ _ k, wipe_length]
  · rw [wipe_out k]
/-- what a part that ran by itself leaves of a thing of ours -/
theorem keep_own {y z : Y} {p : Addr} {o : HO} (fz : Ex z.F z.H) (f : Fm y.cn z) (h1 : y.F p = none) (h2 : p ∉ y.m) (h3 : y.H p = some o) (hnt : ∀ xs, o ≠ .tup xs := by intro xs z; cases z) : z.H p = some o ∧ z.F p = none ∧ p ∉ z.m := by
  refine ⟨f.keep p o h3 h2, ?_, fun h => ?_⟩
  · cases e : z.F p with
    | none => rfl
    | some u =>
      rcases f.newF p u e with q | q | q | ⟨xs, q⟩
      · rw [show y.F p = some u from q] at h1; cases h1
      · rw [show y.H p = none from q] at h3; cases h3
      · exact absurd q h2
      · have k := f.keep p o h3 h2
        rw [fz p u e] at k
        cases k
        exact absurd q (hnt xs)
  · rcases f.newC p h with q | q
    · exact h2 q
    · rw [show y.H p = none from q] at h3; cases h3
theorem al_own {y : Y} {F' H' : Hp} {p : Addr} {o : HO} (a : Al y.F y.H F' H') (h1 : y.F p = none) (h3 : y.H p = some o) (hnt : ∀ xs, o ≠ .tup xs := by intro xs z; cases z) : H' p = some o ∧ F' p = none := by
  refine ⟨a.h p o h3, ?_⟩
  cases e : F' p with
  | none => rfl
  | some u =>
    rcases a.n p u e with q | q | ⟨xs, q⟩
    · rw [h1] at q; cases q
    · rw [h3] at q; cases q
    · have k := a.h p o h3
      rw [a.x p u e] at k
      cases k
      exact absurd q (hnt xs)
theorem run_lc {C : Cn} {y0 : Y} {σ : St} {ρ : Rho} {S S' : Sto} {P : Sto → Prop} {g : MG} {tg : TG} {J : It} {ws ys : List W} {G : Y → Sto → Prop} {mt : MT} {me : ME} {vs : List Nat} {Qd : Hp → Prop} {p : Addr} (hg : SGw K cl vs tg g) (wk : Wk K cl J ws G)
    (hG : ∀ y S, Gr y0 y → P S → G y S) (s : Sim K cl xa C y0 σ ρ S) (hp : y0.H p = none) (h : lcP P g mt me (wipeR ρ vs) ws [] S = .ok ys S')
    (hd : ∀ z vacc, Sim K cl xa C z σ ρ S' → Gr y0 z → z.F p = none → p ∉ z.m → C.H0 p = none → z.H p = some (.lst vacc) → RWL K cl z ys vacc → Qd z.H) :
    ∃ W : Nat → Nat → Hp → Prop, (∃ m, W 0 m (upd y0.H p (.lst []))) ∧ ∀ i m H, W i m H →
      (J.stop i H ∧ Qd H) ∨ (J.go i H ∧ ∃ Nx : Hp → Prop, (∀ H', Nx H' → ∃ m', m' < m ∧ W (i + 1) m' H') ∧ ∀ x H', J.yld i H x H' → tg x (L2.wipe σ vs) H' fun σ2 H2 => L2.wipe σ2 vs = L2.wipe σ vs ∧ TTm K cl xa W0 mt σ2 H2 fun b H3 =>
        if b = true then TEm K cl xa W0 me σ2 H3 fun u H4 => ∃ acc, H4 p = some (.lst acc) ∧ acc.length < sizeLine ∧ Nx (upd H4 p (.lst (acc ++ [u]))) else Nx H3) := by
  have c0 : C.H0 p = none := s.fm.dom p hp
  have fp0 : y0.F p = none := s.bs.fz.no hp
  have pm0 : p ∉ y0.m := fun z => s.bs.has p z hp
  refine ⟨fun i k H => k = ws.length - i ∧ i ≤ ws.length ∧ LcAt K cl xa C y0 σ ρ P vs g mt me ys S' p (ws.drop i) H, ⟨ws.length, by simp, Nat.zero_le _, y0.up p (.lst []), [], [], S, rfl, s.other fp0 pm0 c0, ⟨Ex.refl _, List.prefix_refl _⟩, fp0, pm0, upd_same, .nil, lcP_at h, h⟩, ?_⟩
  rintro i k H ⟨rfl, hi, y, acc, vacc, S1, rfl, s, x, fp, pm, hpp, ra, hP, q⟩
  by_cases hlt : i < ws.length
  · refine .inr ⟨wk.goes i y S1 hlt s.bs (hG y S1 x hP), LcAt K cl xa C y0 σ ρ P vs g mt me ys S' p (ws.drop (i + 1)), fun H' p' => ⟨ws.length - (i + 1), by omega, rfl, hlt, p'⟩, fun v H' hy => ?_⟩
    obtain ⟨F', w, al, ew, rw'⟩ := wk.yields i y S1 v H' hlt s.bs (hG y S1 x hP) hy
    rw [drop_cons ew] at q
    have s1 := s.al al
    obtain ⟨hp1, fp1⟩ := al_own al fp hpp
    rcases ifc_cases (P := fun r => r = Rs.ok ys S') q with ⟨_, q⟩ | ⟨_, q⟩
    · split at q
      · cases q
      · rename_i ρ2 e1
        refine hg xa _ ⟨F', H', y.m⟩ _ _ S1 (s1.wipe vs).rebase w v rw' _ ⟨ρ2, e1, fun σ2 s2 hw => ⟨hw.trans (wipe_wipe σ vs), ?_⟩⟩
        refine ⟨_, ⟨F', H', y.m⟩, ρ2, S1, rfl, s2, ?_⟩
        split at q
        · rename_i S2 e2
          rw [e2]
          intro z3 s3 g3
          rw [if_pos rfl]
          refine ⟨_, z3, ρ2, S2, rfl, s3, ?_⟩
          split at q
          · rename_i u S3 e3
            rw [e3]
            intro uv z4 s4 g4 ru
            obtain ⟨k1, k2, k3⟩ := keep_own s4.bs.fz s4.fm fp1 pm hp1
            rcases ifc_cases (P := fun r => r = Rs.ok ys S') q with ⟨hz, q⟩ | ⟨_, q⟩
            · have s5 := s1.after s4.bs s4.fm
              have gg : Gr y (z4.up p (.lst (vacc ++ [uv]))) := ⟨al.gr.f.trans s4.fm.gr.f, al.gr.m.trans s4.fm.gr.m⟩
              have g2 : Gr z4 (z4.up p (.lst (vacc ++ [uv]))) := ⟨Ex.refl _, List.prefix_refl _⟩
              exact ⟨vacc, k1, by rw [← Paired.length ra]; exact hz, z4.up p (.lst (vacc ++ [uv])), acc ++ [u], vacc ++ [uv], S3, rfl, s5.other k2 k3 c0, x.trans gg, k2, k3, upd_same, paired_append (RWL.grow gg ra) (.cons (ru.grow g2) .nil), lcP_at q, q⟩
            · cases q
          · cases q
        · rename_i S2 e2
          rw [e2]
          intro z3 s3 g3
          rw [if_neg (by simp)]
          obtain ⟨k1, k2, k3⟩ := keep_own s3.bs.fz s3.fm fp1 pm hp1
          have gg : Gr y z3 := al.gr.trans s3.fm.gr
          exact ⟨z3, acc, vacc, S2, rfl, s1.after s3.bs s3.fm, x.trans gg, k2, k3, k1, RWL.grow gg ra, lcP_at q, q⟩
        · cases q
    · cases q
  · have e : i = ws.length := by omega
    subst e
    have st := wk.stops y _ s.bs (hG y _ x hP)
    rw [List.drop_length] at q
    rcases ifc_cases (P := fun r => r = Rs.ok ys S') q with ⟨_, q⟩ | ⟨_, q⟩
    · cases q
      exact .inl ⟨st, hd y vacc s x fp pm c0 hpp ra⟩
    · cases q
/-- what comes of the list: a cell, or data -/
def MkOk (K : PySem.W.Frag) (cl : Str → Option Addr) (xa : Option (Nat × Addr)) (mk : Option Cell → Sto → Rs W) : Prop := ∀ (C : Cn) (Wx : WX) (y0 z : Y) (σ : St) (ρ : Rho) (S : Sto) (ys : List W) (vacc : List V) (p : Addr) (Q : VK), Sim K cl xa C z σ ρ S → Gr y0 z → z.F p = none → p ∉ z.m → C.H0 p = none → z.H p = some (.lst vacc) → RWL K cl z ys vacc →
  Post K cl xa C Wx y0 σ ρ (mk (some (.lst ys)) S) (OkE K cl xa C y0 σ ρ Q) → Q (.ref p) z.H
theorem mkC_ok : MkOk K cl xa mkC := fun C Wx y0 z σ ρ S ys vacc p Q s g h1 h2 h3 h4 r h => by
  obtain ⟨s2, g2⟩ := s.adoptC (c := .lst ys) h1 h2 h3 (by rw [h4]; simp) ⟨vacc, h4, r⟩
  exact h (.ref p) ⟨z.F, z.H, z.m ++ [p]⟩ s2 (g.trans g2) ⟨p, by rw [← s.bs.len]; simp, rfl⟩
theorem mkD_ok : MkOk K cl xa mkD := fun C Wx y0 z σ ρ S ys vacc p Q s g h1 h2 h3 h4 r h => by
  unfold mkD at h
  simp only at h
  split at h
  · rename_i d hd
    obtain ⟨s2, g2⟩ := s.adoptF h1 h2 h3 h4
    obtain ⟨ds, q, rfl⟩ := Option.map_eq_some_iff.mp hd
    exact h (.ref p) (z.fz p (.lst vacc)) s2 (g.trans g2) ⟨p, vacc, rfl, upd_same, RpL.xt g2.f _ _ (dats_ok r q)⟩
  · exact h.elim
end
section
variable {X : Cx} {cl : Str → Option Addr} {xa : Option (Nat × Addr)} {Wx : WX} {pos : Pos} {elt tg iter a : Expr} {ifs : List Expr} {scope : Scope} {own : List (Str × Nat)} {mi me : ME} {mr : MA} {mt : MT} {g : MG} {gt : TG} {mk : Option Cell → Sto → Rs W}
/-- any rule of an expression -/
def eAny (X : Cx) (e : Expr) : TE := fun σ H Q => ∃ t, PE X e t ∧ t σ H Q
theorem pe_anyE {e : Expr} : PE X e (eAny X e) := by
  constructor
  intro pins s σ H Q I ⟨t, p, h⟩
  exact p.run pins s σ H Q I h
theorem SE.badE {K : PySem.W.Frag} {t : TE} {C : Cn} {y : Y} {σ : St} {ρ : Rho} {S : Sto} {k : W → Sto → Rs W} {P : W → Sto → Prop} (q : SE K cl xa Wx t mi) (s : Sim K cl xa C y σ ρ S) (h : Post K cl xa C Wx y σ ρ ((mi ρ S).bind k) P) (hn : ∀ w S', mi ρ S ≠ .ok w S') (Q : VK) : t σ y.H Q := by
  refine q C y σ ρ S s Q ?_
  cases e : mi ρ S with
  | ok w S' => exact absurd e (hn w S')
  | ex x S' => rw [e] at h; exact h
  | stuck => rw [e] at h; exact h
/-- what a comprehension walks: the rule that fits the value -/
theorem walk_lc {t : TE} (hmk : MkOk X.K cl xa mk) (p : PE X iter t) (q : SE X.K cl xa Wx t mi) {vs0 : List Nat} (hsg : SGw X.K cl vs0 gt g) {C : Cn} {y : Y} {σ : St} {ρ : Rho} {S : Sto} (s : Sim X.K cl xa C y σ ρ S) {Q : VK}
    (h : Post X.K cl xa C Wx y σ ρ (mLc mk mi vs0 g mt me ρ S) (OkE X.K cl xa C y σ ρ Q)) : ∃ wi, PI X tg iter wi ∧ tLc wi gt (TTm X.K cl xa W0 mt) (TEm X.K cl xa W0 me) vs0 σ y.H Q := by
  unfold mLc at h
  by_cases bad : ∀ w S', mi ρ S ≠ .ok w S'
  · exact ⟨_, pi_list p, q.badE s h bad _⟩
  · cases e : mi ρ S with
    | stuck => exact absurd (by intro w S' z; rw [e] at z; cases z) bad
    | ex x S' => exact absurd (by intro w S' z; rw [e] at z; cases z) bad
    | ok w S0 =>
      rw [e] at h
      simp only [Rs.bind] at h
      have fin : ∀ {P : Sto → Prop} {ws : List W} {J : It} {G : Y → Sto → Prop} {z : Y} {pp : Addr}, Post X.K cl xa C Wx y σ ρ ((lcP P g mt me (wipeR ρ vs0) ws [] S0).bind (mkLst mk)) (OkE X.K cl xa C y σ ρ Q) → Wk X.K cl J ws G → (∀ y S, Gr z y → P S → G y S) → Sim X.K cl xa C z σ ρ S0 → Gr y z → z.H pp = none →
          ∃ W : Nat → Nat → Hp → Prop, (∃ m, W 0 m (upd z.H pp (.lst []))) ∧ ∀ i m H, W i m H →
            (J.stop i H ∧ Q (.ref pp) H) ∨ (J.go i H ∧ ∃ Nx : Hp → Prop, (∀ H', Nx H' → ∃ m', m' < m ∧ W (i + 1) m' H') ∧ ∀ x H', J.yld i H x H' → gt x (L2.wipe σ vs0) H' fun σ2 H2 => L2.wipe σ2 vs0 = L2.wipe σ vs0 ∧ TTm X.K cl xa W0 mt σ2 H2 fun b H3 =>
              if b = true then TEm X.K cl xa W0 me σ2 H3 fun u H4 => ∃ acc, H4 pp = some (.lst acc) ∧ acc.length < sizeLine ∧ Nx (upd H4 pp (.lst (acc ++ [u]))) else Nx H3) := fun {P ws J G z pp} h wk hG s1 g1 hp => by
        cases e2 : lcP P g mt me (wipeR ρ vs0) ws [] S0 with
        | stuck => rw [e2] at h; exact h.elim
        | ex x S' => exact absurd e2 (lcP_noex _ _ _ _ _)
        | ok ys S' =>
          rw [e2] at h
          exact run_lc hsg wk hG s1 hp e2 fun z2 vacc s2 g2 k1 k2 k3 k4 k5 => hmk C Wx y z2 σ ρ S' ys vacc pp Q s2 (g1.trans g2) k1 k2 k3 k4 k5 h
      cases w with
      | xc => exact h.elim
      | lo k =>
        simp only at h
        split at h
        · rename_i ws hk
          refine ⟨_, pi_list p, q.now s e fun v z s1 g1 r1 => ?_⟩
          obtain ⟨a, ea, rfl⟩ := r1
          obtain ⟨_, vs, hH, l⟩ := s1.bs.at hk (by intro z; cases z) ea
          refine ⟨a, rfl, ⟨vs, .inl (.inl hH)⟩, fun pp hp => fin h (wk_list (G := fun y S => Gr z y ∧ S[k]? = some (.lst ws)) ?_) (fun y S g p => ⟨g, p⟩) s1 g1 hp⟩
          rintro y S b ⟨g, hk2⟩
          obtain ⟨_, vs, h1, h2⟩ := b.at hk2 (by intro z; cases z) (pre_get g.m ea)
          exact ⟨vs, .inl (.inl h1), h2⟩
        · exact h.elim
      | da d =>
        simp only at h
        split at h
        · rename_i ws hd
          rw [lcM_P] at h
          unfold itemsD at hd
          split at hd
          · cases hd
            refine ⟨_, pi_list p, q.now s e fun v z s1 g1 r1 => ?_⟩
            obtain ⟨a, vs, rfl, tl, l⟩ := r1
            exact ⟨a, rfl, ⟨vs, .inl (.inl (s1.bs.fz _ _ tl))⟩, fun pp hp => fin h (wk_list (G := fun y S => Gr z y) fun y S b g => ⟨vs, .inl (.inl (b.fz _ _ (g.f _ _ tl))), rwl_da (RpL.xt g.f _ _ l)⟩) (fun y S g p => g) s1 g1 hp⟩
          · cases hd
            refine ⟨_, pi_list p, q.now s e fun v z s1 g1 r1 => ?_⟩
            obtain ⟨a, vs, rfl, tl, l⟩ := r1
            exact ⟨a, rfl, ⟨vs, sqL_xt s1.bs.fz tl⟩, fun pp hp => fin h (wk_list (G := fun y S => Gr z y) fun y S b g => ⟨vs, sqL_xt (g.f.trans b.fz) tl, rwl_da (RpL.xt g.f _ _ l)⟩) (fun y S g p => g) s1 g1 hp⟩
          · cases hd
            refine ⟨_, pi_tup p, q.now s e fun v z s1 g1 r1 => ?_⟩
            obtain ⟨a, vs, rfl, tl, l⟩ := r1
            exact ⟨a, rfl, ⟨vs, .inl (.inl (s1.bs.fz _ _ tl))⟩, fun pp hp => fin h (wk_tup (G := fun y S => Gr z y) fun y S b g => ⟨vs, .inl (.inl (b.fz _ _ (g.f _ _ tl))), rwl_da (RpL.xt g.f _ _ l)⟩) (fun y S g p => g) s1 g1 hp⟩
          · cases hd
            refine ⟨_, pi_tup p, q.now s e fun v z s1 g1 r1 => ?_⟩
            obtain ⟨a, vs, rfl, tl, l⟩ := r1
            exact ⟨a, rfl, ⟨vs, sqT_xt s1.bs.fz tl⟩, fun pp hp => fin h (wk_tup (G := fun y S => Gr z y) fun y S b g => ⟨vs, sqT_xt (g.f.trans b.fz) tl, rwl_da (RpL.xt g.f _ _ l)⟩) (fun y S g p => g) s1 g1 hp⟩
          · rename_i x
            cases hd
            refine ⟨_, pi_str p, q.now s e fun v z s1 g1 r1 => ?_⟩
            exact ⟨x, r1, fun pp hp => fin h (wk_str (G := fun y S => Gr z y)) (fun y S g p => g) s1 g1 hp⟩
          · rename_i ks ds
            cases hd
            refine ⟨_, pi_keys p, q.now s e fun v z s1 g1 r1 => ?_⟩
            obtain ⟨a, vs, rfl, ⟨o, tl⟩, nl, l⟩ := r1
            have ek : (ks.zip vs).map (·.1) = ks := List.map_fst_zip (by omega)
            have wk := wk_keys (cl := cl) (K := X.K) (d := a) (o := o) (kvs := ks.zip vs) (G := fun y S => Gr z y ∧ Ex y.F y.H) (fun y S g => g.2 _ _ (g.1.f _ _ tl))
            rw [ek] at wk
            refine ⟨a, o, rfl, .inl ⟨ks.zip vs, s1.bs.fz _ _ tl, fun pp hp => ?_⟩⟩
            exact fin h (G := fun y S => Gr z y) ⟨fun i y S hi b g => wk.goes i y S hi b ⟨g, b.fz⟩, fun y S b g => wk.stops y S b ⟨g, b.fz⟩, fun i y S x H' hi b g => wk.yields i y S x H' hi b ⟨g, b.fz⟩⟩ (fun y S g p => g) s1 g1 hp
          · cases hd
        · exact h.elim
theorem qe_lc (hmk : MkOk X.K cl xa mk) (hc : X.calm = true) (hN : X.N.Nodup) (hi : QE X cl xa Wx iter mi) (ok : BlkOk X.N X.env.scope scope own) (hsg : SGw X.K cl (own.map (·.2)) gt g)
    (hg : ∀ (s : Shared) (H : Hp) (A : Addr) (c2 : List (Str × Addr)) (fp : List Addr), PG (X.blk s H scope (compEnvC scope c2 A X.env) fp) tg gt)
    (ht : ∀ (s : Shared) (H : Hp) (A : Addr) (c2 : List (Str × Addr)) (fp : List Addr), PTs (X.blk s H scope (compEnvC scope c2 A X.env) fp) ifs (TTm X.K cl xa W0 mt))
    (he : ∀ (s : Shared) (H : Hp) (A : Addr) (c2 : List (Str × Addr)) (fp : List Addr), QE (X.blk s H scope (compEnvC scope c2 A X.env) fp) cl xa W0 elt me) (hs : ∀ x, foldedSetIterable iter X.env x = pure x := by intro _; rfl) :
    QE X cl xa Wx (.ListComp elt [⟨tg, iter, ifs, 0⟩] scope pos) (mLc mk mi (own.map (·.2)) g mt me) := by
  obtain ⟨t, p, q⟩ := hi
  refine ⟨_, pe_anyE, fun C y σ ρ S s Q h => ?_⟩
  obtain ⟨wi, hpi, hr⟩ := walk_lc (tg := tg) hmk p q hsg s h
  exact ⟨_, pe_lc (te := TEm X.K cl xa W0 me) hc hN hpi ok hg ht (fun s H A c2 fp => pe_m (he s H A c2 fp)) hs, hr⟩
theorem walk_lcR1 {t : TA} (hmk : MkOk X.K cl xa mk) (q : SA X.K cl xa Wx t mr) {vs0 : List Nat} (hsg : SGw X.K cl vs0 gt g) : SE X.K cl xa Wx (tLc (iRng1 t) gt (TTm X.K cl xa W0 mt) (TEm X.K cl xa W0 me) vs0) (mLcR mk rng1 mr vs0 g mt me) := by
  intro C y σ ρ S s Q h
  refine q C y σ ρ S s _ (Post.go h fun ws S1 h1 vs z s1 g1 r1 => ?_)
  have h2 := h1 z g1
  split at h2
  · rename_i lo k e
    unfold rng1 at e
    split at e
    · rename_i j
      obtain ⟨hj, e⟩ := ifc_some e
      cases e
      obtain ⟨v, rfl, rv⟩ := rwl1 r1
      cases (show v = .int j from rv)
      rw [lcM_P] at h2
      refine ⟨j, rfl, hj.1, hj.2, fun pp hp => ?_⟩
      cases e2 : lcP (fun _ => True) g mt me (wipeR ρ vs0) (intsW 0 j.toNat) [] S1 with
      | stuck => rw [e2] at h2; exact h2.elim
      | ex x S' => exact absurd e2 (lcP_noex _ _ _ _ _)
      | ok ys S' =>
        rw [e2] at h2
        exact run_lc hsg (wk_rng (G := fun y S => True)) (fun y S g p => trivial) s1 hp e2 fun z2 vacc s2 g2 k1 k2 k3 k4 k5 => hmk C Wx z z2 σ ρ S' ys vacc pp Q s2 g2 k1 k2 k3 k4 k5 (Post.re h2 g1)
    · cases e
  · exact h2.elim
theorem qe_lcR1 {p p' : Pos} (hmk : MkOk X.K cl xa mk) (hc : X.calm = true) (hN : X.N.Nodup) (hgl : Gl X "range") (hm : X.mg "range" = none) (ha : QA X cl xa Wx [a] mr) (ok : BlkOk X.N X.env.scope scope own) (hsg : SGw X.K cl (own.map (·.2)) gt g)
    (hg : ∀ (s : Shared) (H : Hp) (A : Addr) (c2 : List (Str × Addr)) (fp : List Addr), PG (X.blk s H scope (compEnvC scope c2 A X.env) fp) tg gt)
    (ht : ∀ (s : Shared) (H : Hp) (A : Addr) (c2 : List (Str × Addr)) (fp : List Addr), PTs (X.blk s H scope (compEnvC scope c2 A X.env) fp) ifs (TTm X.K cl xa W0 mt))
    (he : ∀ (s : Shared) (H : Hp) (A : Addr) (c2 : List (Str × Addr)) (fp : List Addr), QE (X.blk s H scope (compEnvC scope c2 A X.env) fp) cl xa W0 elt me)
    (hst : starEach [a] X.env = [(false, eval a X.env)] := by rfl) (hs : ∀ x, foldedSetIterable (.Call (.Name "range" p) [a] [] p') X.env x = pure x := by intro _; rfl) :
    QE X cl xa Wx (.ListComp elt [⟨tg, .Call (.Name "range" p) [a] [] p', ifs, 0⟩] scope pos) (mLcR mk rng1 mr (own.map (·.2)) g mt me) := by
  obtain ⟨t, pa, q⟩ := ha
  exact ⟨_, pe_lc (te := TEm X.K cl xa W0 me) hc hN (pi_range1 hgl hm pa hst) ok hg ht (fun s H A c2 fp => pe_m (he s H A c2 fp)) hs, walk_lcR1 hmk q hsg⟩
theorem ss_set {K : PySem.W.Frag} {t : TE} {i : Nat} (q : SE K cl xa Wx t me) : SS K cl xa Wx (tAsg t (gName i)) (mSet i me) := by
  intro C y σ ρ S s Z h
  refine q C y σ ρ S s _ (PostS.go h fun w S1 h1 v z s1 g1 r1 => ?_)
  exact h1 y (Gr.refl _) _ z (s1.set i r1) g1
theorem qs_setLc {i : Nat} {y' : Str} {py spos : Pos} (hmk : MkOk X.K cl xa mk) (hc : X.calm = true) (hN : X.N.Nodup) (hy : X.N[i]? = some y') (hyl : X.env.scope.names.lookup y' = some .local)
    (hsw : swapsWith (.ListComp elt [⟨tg, iter, ifs, 0⟩] scope pos) (some (.Name y' py)) spos.line X.env = pure true) (hi : QE X cl xa Wx iter mi) (ok : BlkOk X.N X.env.scope scope own) (hsg : SGw X.K cl (own.map (·.2)) gt g)
    (hg : ∀ (s : Shared) (H : Hp) (A : Addr) (c2 : List (Str × Addr)) (fp : List Addr), PG (X.blk s H scope (compEnvC scope c2 A X.env) fp) tg gt)
    (ht : ∀ (s : Shared) (H : Hp) (A : Addr) (c2 : List (Str × Addr)) (fp : List Addr), PTs (X.blk s H scope (compEnvC scope c2 A X.env) fp) ifs (TTm X.K cl xa W0 mt))
    (he : ∀ (s : Shared) (H : Hp) (A : Addr) (c2 : List (Str × Addr)) (fp : List Addr), QE (X.blk s H scope (compEnvC scope c2 A X.env) fp) cl xa W0 elt me) (hs : ∀ x, foldedSetIterable iter X.env x = pure x := by intro _; rfl) :
    QS X cl xa Wx (.Assign [.Name y' py] (.ListComp elt [⟨tg, iter, ifs, 0⟩] scope pos) spos) (mSet i (mLc mk mi (own.map (·.2)) g mt me)) := by
  obtain ⟨t, p, q⟩ := hi
  refine ⟨_, ps_anyS, fun C y σ ρ S s Z h => ?_⟩
  have h2 : Post X.K cl xa C Wx y σ ρ (mLc mk mi (own.map (·.2)) g mt me ρ S) (OkE X.K cl xa C y σ ρ fun v H => (gName i) v σ H fun σ' H' => Z.nx σ' H') := PostS.go h fun w S1 h1 v z s1 g1 r1 => h1 y (Gr.refl _) _ z (s1.set i r1) g1
  obtain ⟨wi, hpi, hr⟩ := walk_lc (tg := tg) hmk p q hsg s h2
  exact ⟨_, ps_setLc (te := TEm X.K cl xa W0 me) hc hN hy hyl hsw hpi ok hg ht (fun s H A c2 fp => pe_m (he s H A c2 fp)) hs, hr⟩
theorem qs_setLcR1 {i : Nat} {y : Str} {py spos p p' : Pos} (hmk : MkOk X.K cl xa mk) (hc : X.calm = true) (hN : X.N.Nodup) (hy : X.N[i]? = some y) (hyl : X.env.scope.names.lookup y = some .local)
    (hsw : swapsWith (.ListComp elt [⟨tg, .Call (.Name "range" p) [a] [] p', ifs, 0⟩] scope pos) (some (.Name y py)) spos.line X.env = pure true) (hgl : Gl X "range") (hm : X.mg "range" = none) (ha : QA X cl xa Wx [a] mr) (ok : BlkOk X.N X.env.scope scope own) (hsg : SGw X.K cl (own.map (·.2)) gt g)
    (hg : ∀ (s : Shared) (H : Hp) (A : Addr) (c2 : List (Str × Addr)) (fp : List Addr), PG (X.blk s H scope (compEnvC scope c2 A X.env) fp) tg gt)
    (ht : ∀ (s : Shared) (H : Hp) (A : Addr) (c2 : List (Str × Addr)) (fp : List Addr), PTs (X.blk s H scope (compEnvC scope c2 A X.env) fp) ifs (TTm X.K cl xa W0 mt))
    (he : ∀ (s : Shared) (H : Hp) (A : Addr) (c2 : List (Str × Addr)) (fp : List Addr), QE (X.blk s H scope (compEnvC scope c2 A X.env) fp) cl xa W0 elt me)
    (hst : starEach [a] X.env = [(false, eval a X.env)] := by rfl) (hs : ∀ x, foldedSetIterable (.Call (.Name "range" p) [a] [] p') X.env x = pure x := by intro _; rfl) :
    QS X cl xa Wx (.Assign [.Name y py] (.ListComp elt [⟨tg, .Call (.Name "range" p) [a] [] p', ifs, 0⟩] scope pos) spos) (mSet i (mLcR mk rng1 mr (own.map (·.2)) g mt me)) := by
  obtain ⟨t, pa, q⟩ := ha
  exact ⟨_, ps_setLc (te := TEm X.K cl xa W0 me) hc hN hy hyl hsw (pi_range1 hgl hm pa hst) ok hg ht (fun s H A c2 fp => pe_m (he s H A c2 fp)) hs, ss_set (walk_lcR1 hmk q hsg)⟩
theorem passW0 {X : Cx} {σ : St} : PassesAt (L2.CX X.prog X.w) X σ (WE W0 σ) := fun _ _ _ _ _ _ h => by
  obtain ⟨_, _, _, _, _, _, _, _, _, _, _, _, z⟩ := h
  exact z.elim
theorem pts_yes {X : Cx} {K : PySem.W.Frag} : PTs X [] (TTm K cl xa W0 mYes) := ⟨fun pins s σ H Q I ⟨C, y, ρ, S, e, sim, post⟩ => by
  subst e
  exact pts_nil.run pins s σ _ Q I (post y sim (Gr.refl _))⟩
end
end Ng
namespace Ng
open PySem L2
/-! ### methods of built-in types -/
def HMt (X : Cx) (cl : Str → Option Addr) (id : String) (F : W → List W → Sto → Rs W) : Prop := ∀ xa C Wx y σ ρ S, Sim X.K cl xa C y σ ρ S → ∀ w v, RW X.K cl y w v → ∀ ws vs, RWL X.K cl y ws vs → ∀ Q, Post X.K cl xa C Wx y σ ρ (F w ws S) (OkE X.K cl xa C y σ ρ Q) → mtAny X id v vs y.H Q
def tyM (S : Sto) : W → Option String
  | .da (.str _) => some "str"
  | .da (.lst _) => some "list"
  | .lo n => match S[n]? with
    | some (.lst _) => some "list"
    | some (.dk _) => some "dict"
    | some (.dt _) => some "dict"
    | _ => none
  | _ => none
def mMt (T : String) (F : W → List W → Sto → Rs W) (mo : ME) (mr : MA) : ME := fun ρ S => (mo ρ S).bind fun w S => if tyM S w = some T then (mr ρ S).bind fun ws S => F w ws S else .stuck
section
variable {X : Cx} {cl : Str → Option Addr} {xa : Option (Nat × Addr)} {Wx : WX} {pos apos cpos : Pos} {a b c e o : Expr} {es : List Expr} {ma mb mc me mi mo : ME} {mr : MA} {ta tb tc : MT} {st : Stmt} {rest body : List Stmt} {m n : MS}
theorem tyM_ok {K : PySem.W.Frag} {y : Y} {S : Sto} (b : Bs K cl y S) {w : W} {v : V} {T : String} (r : RW K cl y w v) (h : tyM S w = some T) : tyV K T v y.H := by
  unfold tyM at h
  split at h
  · cases h; cases (show v = .str _ from r); exact rfl
  · cases h; obtain ⟨a, vs, rfl, t, l⟩ := r; exact .inl ⟨rfl, vs, .inl (.inl (b.fz _ _ t))⟩
  · obtain ⟨a, ea, rfl⟩ := r
    split at h
    · rename_i ws hc
      cases h
      obtain ⟨_, vs, e2, l⟩ := b.at hc (by intro z; cases z) ea
      exact .inl ⟨rfl, vs, .inl (.inl e2)⟩
    · rename_i ws hc
      cases h
      obtain ⟨_, vs, e2, l⟩ := b.at hc (by intro z; cases z) ea
      exact .inr (.inr (.inl ⟨rfl, .inl ⟨vs, e2⟩⟩))
    · rename_i ws hc
      cases h
      obtain ⟨_, vs, e2, l⟩ := b.at hc (by intro z; cases z) ea
      exact .inr (.inr (.inl ⟨rfl, .inr ⟨vs, e2⟩⟩))
    · cases h
  · cases h
theorem qe_bm {T id : String} {name : Str} {F : W → List W → Sto → Rs W} (pa : PlainAttrs T) (slot : Slot T name id) (hty : typeOf (.builtin id) = pure (.type "method_descriptor")) (hm : HMt X cl id F) (ho : QE X cl xa Wx o mo) (ha : QA X cl xa Wx (e :: es) mr)
    (hbase : attributeBase o name X.env (eval o X.env) = eval o X.env := by rfl)
    (hfew : ((backTo cpos (starEach (e :: es) X.env)).all (fun x => !x.1) && (backToKw cpos (keywordEach [] X.env)).all (fun x => x.1.isSome) && decide ((e :: es).length + ([] : List Keyword).length + (if ([] : List Keyword).isEmpty then 0 else 1) < 30)) = true := by rfl)
    (hline : (apos.endLine == cpos.line) = true := by rfl) (hs : starEach (e :: es) X.env = (false, eval e X.env) :: starEach es X.env := by rfl) (hplain : (backTo cpos (starEach es X.env)).any (·.1) = false := by rfl) :
    QE X cl xa Wx (.Call (.Attribute o name apos) (e :: es) [] cpos) (mMt T F mo mr) := by
  obtain ⟨t, p, q⟩ := ho
  obtain ⟨t2, p2, q2⟩ := ha
  refine ⟨_, pe_bm pa slot hty mt_any p p2 hbase hfew hline hs hplain, fun C y σ ρ S s Q h => ?_⟩
  refine q C y σ ρ S s _ (Post.go h fun w S1 h1 v z s1 g1 r1 => ?_)
  have h2 := h1 z g1
  split at h2
  · rename_i ht
    refine ⟨tyM_ok s1.bs r1 ht, ?_⟩
    refine q2 C z σ ρ S1 s1 _ (Post.go h2 fun ws S2 h3 vs z2 s2 g2 r2 => ?_)
    exact hm xa C Wx z2 σ ρ S2 s2 w v (r1.grow g2) ws vs r2 Q (Post.re (h3 z2 g2) (g1.trans g2))
  · exact h2.elim
theorem qe_bm0 {T id : String} {name : Str} {F : W → List W → Sto → Rs W} (pa : PlainAttrs T) (slot : Slot T name id) (hty : typeOf (.builtin id) = pure (.type "method_descriptor")) (hm : HMt X cl id F) (ho : QE X cl xa Wx o mo)
    (hbase : attributeBase o name X.env (eval o X.env) = eval o X.env := by rfl) (hline : (apos.endLine == cpos.line) = true := by rfl) :
    QE X cl xa Wx (.Call (.Attribute o name apos) [] [] cpos) (mMt T F mo mNil) := by
  obtain ⟨t, p, q⟩ := ho
  refine ⟨_, pe_bm0 pa slot hty mt_any p hbase hline, fun C y σ ρ S s Q h => ?_⟩
  refine q C y σ ρ S s _ (Post.go h fun w S1 h1 v z s1 g1 r1 => ?_)
  have h2 := h1 z g1
  split at h2
  · rename_i ht
    exact ⟨tyM_ok s1.bs r1 ht, hm xa C Wx z σ ρ S1 s1 w v r1 [] [] .nil Q (Post.re h2 g1)⟩
  · exact h2.elim
/-- a list that is a cell is changed: what comes, what it holds then -/
def chL (f : List W → List W → Option (W × List W)) : W → List W → Sto → Rs W := fun w as S => match w with
  | .lo n => match S[n]? with
    | some (.lst ws) => match f ws as with
      | some (u, ws') => .ok u (S.set n (.lst ws'))
      | none => .stuck
    | _ => .stuck
  | _ => .stuck
theorem hm_chL {id : String} {f : List W → List W → Option (W × List W)}
    (h : ∀ (y : Y) (a : Addr) (ws : List W) (vs : List V) (as : List W) (bs : List V) (u : W) (ws' : List W) (Q : VK), y.H a = some (.lst vs) → RWL X.K cl y ws vs → RWL X.K cl y as bs → f ws as = some (u, ws') → (∀ uv vs', RW X.K cl y u uv → RWL X.K cl y ws' vs' → Q uv (upd y.H a (.lst vs'))) → mtAny X id (.ref a) bs y.H Q) : HMt X cl id (chL f) := by
  intro xa C Wx y σ ρ S s w v r as bs ra Q hp
  unfold chL at hp
  split at hp
  · rename_i n
    obtain ⟨a, ea, rfl⟩ := r
    split at hp
    · rename_i ws hc
      split at hp
      · rename_i u ws' hf
        obtain ⟨_, vs, hH, l⟩ := s.bs.at hc (by intro z; cases z) ea
        refine h y a ws vs as bs u ws' Q hH l ra hf fun uv vs' ru rv => ?_
        have g : Gr y (y.up a (.lst vs')) := ⟨Ex.refl _, List.prefix_refl _⟩
        exact hp uv (y.up a (.lst vs')) (s.upCell hc (by intro z; cases z) ea ⟨vs', upd_same, RWL.grow g rv⟩) g (ru.grow g)
      · exact hp.elim
    · exact hp.elim
  · exact hp.elim
noncomputable def appL (ws as : List W) : Option (W × List W) := match as with
  | [x] => ifc (ws.length < sizeLine) (some (.da .non, ws ++ [x])) none
  | _ => none
theorem hm_append : HMt X cl "list.append" (chL appL) := hm_chL fun y a ws vs as bs u ws' Q hH l ra hf k => by
  unfold appL at hf
  split at hf
  · obtain ⟨hz, e⟩ := ifc_some hf
    cases e
    obtain ⟨v, rfl, r⟩ := rwl1 ra
    exact ⟨_, mt_append, a, vs, v, rfl, rfl, hH, by rw [← Paired.length l]; exact hz, k .non _ rfl (paired_append l (.cons r .nil))⟩
  · cases hf
theorem paired_take {α β : Type} {R : α → β → Prop} : ∀ {a : List α} {b : List β} (n : Nat), Paired R a b → Paired R (a.take n) (b.take n)
  | _, _, 0, _ => by simp only [List.take_zero]; exact .nil
  | _, _, n + 1, .nil => .nil
  | _, _, n + 1, .cons r t => .cons r (paired_take n t)
theorem paired_drop {α β : Type} {R : α → β → Prop} : ∀ {a : List α} {b : List β} (n : Nat), Paired R a b → Paired R (a.drop n) (b.drop n)
  | _, _, 0, h => h
  | _, _, n + 1, .nil => .nil
  | _, _, n + 1, .cons r t => paired_drop n t
theorem paired_rev {α β : Type} {R : α → β → Prop} : ∀ {a : List α} {b : List β}, Paired R a b → Paired R a.reverse b.reverse
  | _, _, .nil => .nil
  | _, _, .cons r t => by
    rw [List.reverse_cons, List.reverse_cons]
    exact paired_append (paired_rev t) (.cons r .nil)
noncomputable def insL (ws as : List W) : Option (W × List W) := match as with
  | [.da (.int i), x] => ifc (ws.length < sizeLine ∧ 0 ≤ i ∧ i < 2 ^ 63) (some (.da .non, ws.take i.toNat ++ [x] ++ ws.drop i.toNat)) none
  | _ => none
theorem hm_insert : HMt X cl "list.insert" (chL insL) := hm_chL fun y a ws vs as bs u ws' Q hH l ra hf k => by
  unfold insL at hf
  split at hf
  · rename_i i x
    obtain ⟨hz, e⟩ := ifc_some hf
    cases e
    obtain ⟨v, v2, rfl, r, r2⟩ := rwl2 ra
    cases (show v = .int i from r)
    exact ⟨_, mt_insert, a, vs, i, v2, rfl, rfl, hH, by rw [← Paired.length l]; exact hz.1, hz.2.1, hz.2.2, k .non _ rfl (paired_append (paired_append (paired_take _ l) (.cons r2 .nil)) (paired_drop _ l))⟩
  · cases hf
def revL (ws as : List W) : Option (W × List W) := match as with
  | [] => some (.da .non, ws.reverse)
  | _ => none
theorem hm_reverse : HMt X cl "list.reverse" (chL revL) := hm_chL fun y a ws vs as bs u ws' Q hH l ra hf k => by
  unfold revL at hf
  split at hf
  · cases hf
    cases ra
    exact ⟨_, mt_reverse, a, vs, rfl, rfl, hH, k .non _ rfl (paired_rev l)⟩
  · cases hf
def popL (ws as : List W) : Option (W × List W) := match as with
  | [] => match ws[ws.length - 1]? with
    | some u => some (u, ws.dropLast)
    | none => none
  | _ => none
theorem hm_pop : HMt X cl "list.pop" (chL popL) := hm_chL fun y a ws vs as bs u ws' Q hH l ra hf k => by
  unfold popL at hf
  split at hf
  · split at hf
    · rename_i w hw
      cases hf
      cases ra
      obtain ⟨v, e1, e2⟩ := RWL.get l hw
      rw [Paired.length l] at e1
      refine ⟨_, mt_pop, a, vs, v, rfl, rfl, hH, e1, k v _ e2 ?_⟩
      rw [List.dropLast_eq_take, List.dropLast_eq_take, Paired.length l]
      exact paired_take _ l
    · cases hf
  · cases hf
/-! ### stores -/
/-- in its place where the key is there, else at the end -/
def putW {κ : Type} [DecidableEq κ] (kws : List (κ × W)) (k : κ) (w : W) : List (κ × W) :=
  if kws.any (fun q => decide (q.1 = k)) = true then kws.map (fun q => if q.1 = k then (q.1, w) else q) else kws ++ [(k, w)]
noncomputable def setW (o i w : W) (S : Sto) : Option Sto := match o with
  | .lo n => match S[n]? with
    | some (.lst ws) => match i with
      | .da (.int k) => match ixN ws.length k with
        | some j => some (S.set n (.lst (ws.set j w)))
        | none => none
      | _ => none
    | some (.dk kws) => match keyW i with
      | some k => ifc (kws.length < sizeLine) (some (S.set n (.dk (putW kws k w)))) none
      | none => none
    | some (.dt kws) => match keysW i with
      | some k => ifc (kws.length < sizeLine) (some (S.set n (.dt (putW kws k w)))) none
      | none => none
    | _ => none
  | _ => none
noncomputable def mSetIx (mo mi me : ME) : MS := fun ρ S => (me ρ S).out ρ fun w S => (mo ρ S).out ρ fun o S => (mi ρ S).out ρ fun i S => match setW o i w S with
  | some S' => .nx ρ S'
  | none => .stuck
theorem RWP.anyK {κ : Type} [DecidableEq κ] {K : PySem.W.Frag} {y : Y} {k : κ} : ∀ {kws : List (κ × W)} {kvs : List (κ × V)}, RWP K cl y kws kvs → kws.any (fun q => decide (q.1 = k)) = kvs.any (fun q => decide (q.1 = k))
  | _, _, .nil => rfl
  | (j, _) :: _, (j', _) :: _, .cons h t => by
    cases (show j = j' from h.1)
    simp only [List.any_cons, RWP.anyK t]
theorem RWP.repl {κ : Type} [DecidableEq κ] {K : PySem.W.Frag} {y : Y} {k : κ} {w : W} {v : V} (r : RW K cl y w v) : ∀ {kws : List (κ × W)} {kvs : List (κ × V)}, RWP K cl y kws kvs → RWP K cl y (kws.map (fun q => if q.1 = k then (q.1, w) else q)) (kvs.map (fun q => if q.1 = k then (q.1, v) else q))
  | _, _, .nil => .nil
  | (j, u) :: _, (j', z) :: _, .cons h t => by
    cases (show j = j' from h.1)
    simp only [List.map_cons]
    refine .cons ?_ (RWP.repl r t)
    by_cases e : j = k
    · rw [if_pos e, if_pos e]; exact ⟨rfl, r⟩
    · rw [if_neg e, if_neg e]; exact h
theorem RWP.put {κ : Type} [DecidableEq κ] {K : PySem.W.Frag} {y : Y} {k : κ} {w : W} {v : V} (r : RW K cl y w v) {kws : List (κ × W)} {kvs : List (κ × V)} (h : RWP K cl y kws kvs) : RWP K cl y (putW kws k w) (putK kvs k v) := by
  unfold putW putK
  rw [RWP.anyK h]
  split
  · exact RWP.repl r h
  · exact paired_append h (.cons ⟨rfl, r⟩ .nil)
theorem RWL.setAt {K : PySem.W.Frag} {y : Y} {w : W} {v : V} (r : RW K cl y w v) : ∀ {ws : List W} {vs : List V} (j : Nat), RWL K cl y ws vs → RWL K cl y (ws.set j w) (vs.set j v)
  | _, _, _, .nil => .nil
  | _, _, 0, .cons _ t => .cons r t
  | _, _, j + 1, .cons a t => .cons a (RWL.setAt r j t)
/-- any rule of a store -/
def pAny (X : Cx) : V → V → V → Hp → (Hp → Prop) → Prop := fun o i v H Q => ∃ t, PSet X t ∧ t o i v H Q
theorem set_any : PSet X (pAny X) := fun pins s σ H o i v ov iv u Q I ro ri rv ⟨t, p, h⟩ => p pins s σ H o i v ov iv u Q I ro ri rv h
theorem qs_setIx {ix : Expr} {p1 : Pos} (hu : Hu X) (ho : QE X cl xa Wx o mo) (hi : QE X cl xa Wx ix mi) (he : QE X cl xa Wx e me)
    (hs : swapsWithSole [.Subscript o ix p1] e pos.line X.env = pure false := by rfl) (hw : swappedStores [.Subscript o ix p1] e X.env = pure none := by rfl)
    (h1 : (assignEach [.Subscript o ix p1] X.env).map (·.2) = [assign (.Subscript o ix p1) X.env] := by rfl)
    (ha : ∀ v, assign (.Subscript o ix p1) X.env v = (do
      let ov ← holding [v] (eval o X.env)
      let iv ← holding [v, ov] (eval ix X.env)
      standAt p1
      holding [v, ov, iv] (setItem ov iv v)
      release [v, ov, iv] []) := by intro _; rfl) :
    QS X cl xa Wx (.Assign [.Subscript o ix p1] e pos) (mSetIx mo mi me) := by
  obtain ⟨t, p, q⟩ := he
  obtain ⟨t2, p2, q2⟩ := ho
  obtain ⟨t3, p3, q3⟩ := hi
  refine ⟨_, ps_asg p (pg_sub p2 p3 set_any ha) hs hw h1, fun C y σ ρ S s Z h => ?_⟩
  refine q C y σ ρ S s _ (PostS.go h fun w S1 h1 v z s1 g1 r1 => ?_)
  refine q2 C z σ ρ S1 s1 _ (PostS.go (h1 z g1) fun w2 S2 h2 v2 z2 s2 g2 r2 => ?_)
  refine q3 C z2 σ ρ S2 s2 _ (PostS.go (h2 z2 g2) fun w3 S3 h3 v3 z3 s3 g3 r3 => ?_)
  have h4 := h3 z3 g3
  have hu1 : X.A.units + 1 < cLine := by have : X.A.units + 200 < cLine := hu; omega
  split at h4
  · rename_i S' hS
    have rw3 := r1.grow (g2.trans g3)
    have ro3 := r2.grow g3
    unfold setW at hS
    split at hS
    · rename_i n
      obtain ⟨a, ea, rfl⟩ := ro3
      split at hS
      · rename_i ws hc
        split at hS
        · rename_i k
          cases (show v3 = .int k from r3)
          split at hS
          · rename_i j hj
            cases hS
            obtain ⟨_, vs, hH, l⟩ := s3.bs.at hc (by intro z; cases z) ea
            have g : Gr z3 (z3.up a (.lst (vs.set j v))) := ⟨Ex.refl _, List.prefix_refl _⟩
            refine ⟨_, set_list, a, vs, k, j, rfl, rfl, hH, by rw [← Paired.length l]; exact hj, ?_⟩
            exact h4 σ _ (s3.upCell hc (by intro z; cases z) ea ⟨_, upd_same, RWL.grow g (RWL.setAt rw3 j l)⟩) g
          · cases hS
        · cases hS
      · rename_i kws hc
        split at hS
        · rename_i k hk
          obtain ⟨hz, e⟩ := ifc_some hS
          cases e
          obtain ⟨_, kvs, hH, l⟩ := s3.bs.at hc (by intro z; cases z) ea
          have g : Gr z3 (z3.up a (.dK (putK kvs k v))) := ⟨Ex.refl _, List.prefix_refl _⟩
          refine ⟨_, set_dict hu1, a, _, rfl, .inl ⟨kvs, k, hH, keyW_ok r3 hk, by rw [← Paired.length l]; exact hz, rfl⟩, ?_⟩
          exact h4 σ _ (s3.upCell hc (by intro z; cases z) ea ⟨_, upd_same, RWP.grow g (RWP.put rw3 l)⟩) g
        · cases hS
      · rename_i kws hc
        split at hS
        · rename_i k hk
          obtain ⟨hz, e⟩ := ifc_some hS
          cases e
          obtain ⟨_, kvs, hH, l⟩ := s3.bs.at hc (by intro z; cases z) ea
          obtain ⟨b, hb, hb2⟩ := keysW_ok s3.bs r3 hk
          have g : Gr z3 (z3.up a (.dT (putK kvs k v))) := ⟨Ex.refl _, List.prefix_refl _⟩
          refine ⟨_, set_dict hu1, a, _, rfl, .inr ⟨kvs, k, b, hH, hb, hb2, by rw [← Paired.length l]; exact hz, rfl⟩, ?_⟩
          exact h4 σ _ (s3.upCell hc (by intro z; cases z) ea ⟨_, upd_same, RWP.grow g (RWP.put rw3 l)⟩) g
        · cases hS
      · cases hS
    · cases hS
  · exact h4.elim
/-! {} -/
def newDK : List W → Sto → Option Cell
  | [], _ => some (.dk [])
  | _, _ => none
def newDT : List W → Sto → Option Cell
  | [], _ => some (.dt [])
  | _, _ => none
theorem qe_newDK : QE X cl xa Wx (.Dict [] [] pos) (mCall (ncN newDK) mNil) :=
  ⟨_, pe_dnewK, fun C y σ ρ S s Q h => fun p hp => h (.ref p) _ (s.newCell (o := .dK []) hp ⟨[], upd_same, .nil⟩) (y.gr_new p _) ⟨p, by rw [← s.bs.len]; simp [Y.new], rfl⟩⟩
theorem qe_newDT : QE X cl xa Wx (.Dict [] [] pos) (mCall (ncN newDT) mNil) :=
  ⟨_, pe_dnewT, fun C y σ ρ S s Q h => fun p hp => h (.ref p) _ (s.newCell (o := .dT []) hp ⟨[], upd_same, .nil⟩) (y.gr_new p _) ⟨p, by rw [← s.bs.len]; simp [Y.new], rfl⟩⟩
end
/-! ### own errors: raised, caught, asked -/
def veB : List Value := [.type "ValueError", .type "Exception", .type "BaseException", .type "object"]
structure ExcAt (K : PySem.W.Frag) (mg : Str → Option Value) (cl : Str → Option Addr) (c : Str) (C : Addr) : Prop where
  at_ : cl c = some C
  mgd : mg c = some (.ref C)
  ex : PySem.W.excIn K C veB "ValueError.__new__" = true
  kp : PySem.W.keepIn K (.ref C) = true
  sb : PySem.W.subIn K (.ref C) (.type "BaseException") = some true
  ty : PySem.W.typeIn K (.ref C) = some (.type "type")
def mRaise (c : Str) : MS := fun ρ S => .ex ⟨c, [], []⟩ ρ S
def outOff (i : Nat) : Out → Out
  | .nx r s => .nx (r.set i none) s
  | .bk r s => .bk (r.set i none) s
  | .ct r s => .ct (r.set i none) s
  | .rt w s => .rt w s
  | _ => .stuck
def mTryAs (hit : Str → Option Bool) (i : Nat) (mb : MS) (ms : Exn → MS) : MS := fun ρ S => match mb ρ S with
  | .ex x ρ' S' => match hit x.c with
    | some true => outOff i (ms x (ρ'.set i (some .xc)) S')
    | some false => .ex x ρ' S'
    | none => .stuck
  | r => r
section
variable {K : PySem.W.Frag} {cl : Str → Option Addr} {C : Cn} {y : Y} {σ : St} {ρ : Rho} {S : Sto}
theorem Sim.catch (s : Sim K cl none C y σ ρ S) (i : Nat) (a : Addr) : Sim K cl (some (i, a)) C y (σ.set i (some (.ref a))) (ρ.set i (some .xc)) S :=
  ⟨s.bs, s.fm, by rw [List.length_set, List.length_set]; exact s.len, fun j u e => by
    by_cases h : i = j
    · subst h
      by_cases hl : i < ρ.length
      · rw [List.getElem?_set_self hl] at e
        cases e
        exact ⟨_, List.getElem?_set_self (by rw [s.len]; exact hl), a, rfl, rfl⟩
      · rw [List.getElem?_eq_none (by rw [List.length_set]; omega)] at e
        cases e
    · rw [List.getElem?_set_ne h] at e
      obtain ⟨u', e1, e2⟩ := s.slot j u e
      refine ⟨u', by rw [List.getElem?_set_ne h]; exact e1, ?_⟩
      cases u with
      | da d => exact e2
      | lo n => exact e2
      | xc => obtain ⟨a', q, _⟩ := e2; cases q⟩
theorem Sim.uncatch {i : Nat} {a : Addr} (s : Sim K cl (some (i, a)) C y σ ρ S) : Sim K cl none C y (σ.set i none) (ρ.set i none) S :=
  ⟨s.bs, s.fm, by rw [List.length_set, List.length_set]; exact s.len, fun j u e => by
    by_cases h : i = j
    · subst h
      by_cases hl : i < ρ.length
      · rw [List.getElem?_set_self hl] at e
        cases e
      · rw [List.getElem?_eq_none (by rw [List.length_set]; omega)] at e
        cases e
    · rw [List.getElem?_set_ne h] at e
      obtain ⟨u', e1, e2⟩ := s.slot j u e
      refine ⟨u', by rw [List.getElem?_set_ne h]; exact e1, ?_⟩
      cases u with
      | da d => exact e2
      | lo n => exact e2
      | xc => obtain ⟨a', q, _⟩ := e2; cases q; exact absurd rfl h⟩
end
/-- readings of a block that ask for no more than the meaning -/
def TSm (K : PySem.W.Frag) (cl : Str → Option Addr) (xa : Option (Nat × Addr)) (Wx : WX) (m : MS) : TS := fun D σ H => ∃ C y ρ S, y.H = H ∧ Sim K cl xa C y σ ρ S ∧ PostS K cl xa C Wx y (m ρ S) D
section
variable {X : Cx} {cl : Str → Option Addr} {xa : Option (Nat × Addr)} {Wx : WX} {pos : Pos} {a b c e : Expr} {es : List Expr} {ma mb mc me mi : ME} {mr : MA} {ta tb tc : MT} {st : Stmt} {rest body : List Stmt} {m n : MS}
theorem pss_m (h : QB X cl xa Wx body m) : PSs X body (TSm X.K cl xa Wx m) := ⟨fun pins s σ H D I ⟨C, y, ρ, S, e, sim, post⟩ => by
  subst e
  obtain ⟨t, p, q⟩ := h
  exact p.run pins s σ _ D I (q C y σ ρ S sim D post)⟩
theorem qs_raise {x m : Str} {j : Nat} {p p2 p3 : Pos} {E : Addr} (hc : X.calm = true) (tk : Takes X Wx) (A : ExcAt X.K X.mg cl x E) (hg : Gl X x) (hdb : (x == ("__debug__" : Str)) = false := by decide) :
    QS X cl xa Wx (.Raise (some (.Call (.Name x p) [.Constant (.str m) j p2] [] p3)) none pos) (mRaise x) :=
  ⟨_, ps_raise hc tk (pmk_own PySem.F.excBase_ValueError A.ex A.mgd A.kp (raises_own A.sb A.ty) hg hdb), fun C y σ ρ S s Z h => h (.ref E) none σ y s (Gr.refl _) ⟨E, A.at_, rfl, .inl ⟨rfl, rfl⟩⟩⟩
theorem qs_tryAs {x nm : Str} {cv : Value} {i : Nat} {b₀ : Stmt} {suite : List Stmt} {np pos' : Pos} {hit : Str → Option Bool} {mb : MS} {mx : Exn → MS}
    (hs : X.stack = X.env :: X.outer) (hf : X.env.frame = some X.env.locals) (hN : X.N.Nodup) (hi : X.N[i]? = some nm) (hln : X.env.kindOf nm = some .local) (hc : Names X x cv) (tk : Takes X Wx)
    (hh : ∀ y b, hit y = some b → ∀ D, cl y = some D → PySem.W.exmOne X.K (.ref D) cv = some b)
    (hb : ∀ (W : WX) (pn : List (Addr × Obj)) (xe : Value → Shared → Prop), Takes (X.tr pn xe) W → PassesOwn (model X.prog X.w) X.A X.env xe → QB (X.tr pn xe) cl none W body mb)
    (hsu : ∀ (a : Addr) (oe : Obj) (E : Addr) (d : Option Addr) (y : Exn) (pn : List (Addr × Obj)), Zc (.ref E) d oe → (∃ vs, oe.data = .fields vs) → cl y.c = some E → (y.fs = [] → d = none) → QB (X.suite a ((a, oe) :: pn)) cl (some (i, a)) W0 (b₀ :: suite) (mx y)) :
    QS X cl none Wx (.Try body [.ExceptHandler (some (.Name x np)) (some nm) (b₀ :: suite) pos'] [] [] pos) (mTryAs hit i mb mx) := by
  refine ⟨_, ps_try_as (tb := fun W => TSm X.K cl none W mb) (ts := fun a cls d D σ H => ∃ y E, cls = .ref E ∧ cl y.c = some E ∧ (y.fs = [] → d = none) ∧ TSm X.K cl (some (i, a)) W0 (mx y) D σ H) (Wout := Wx) hs hf hN hi hln hc tk
    (fun W pn xe t1 t2 => pss_m (hb W pn xe t1 t2)) (fun a oe cls d pn hz hv => ⟨fun pins s σ H D I ⟨y, E, e1, e2, e3, h⟩ => ?_⟩), fun C y σ ρ S s Z h => ?_⟩
  · subst e1
    exact (pss_m (hsu a oe E d y pn hz hv e2 e3)).run pins s σ H D I h
  · refine ⟨C, y, ρ, S, rfl, s, ?_⟩
    unfold mTryAs at h
    cases e : mb ρ S with
    | nx r t => rw [e] at h; exact h
    | rt r t => rw [e] at h; exact h
    | bk r t => rw [e] at h; exact h
    | ct r t => rw [e] at h; exact h
    | stuck => rw [e] at h; exact h
    | ex x r t =>
      rw [e] at h
      intro cls dd σ' z s' g' xr
      obtain ⟨E, q1, rfl, q2⟩ := xr
      cases eh : hit x.c with
      | none => simp only [eh] at h; exact h.elim
      | some b =>
        refine ⟨b, hh x.c b eh E q1, fun hb1 a ha => ?_, fun hb0 => ?_⟩
        · subst hb1
          simp only [eh] at h
          refine ⟨x, E, rfl, q1, fun z => ?_, ?_⟩
          · rcases q2 with ⟨_, q2⟩ | ⟨q3, _⟩
            · exact q2
            · exact absurd z q3
          · refine ⟨C, z, _, t, rfl, s'.catch i a, ?_⟩
            have h' := PostS.mono g' h
            cases eo : mx x (r.set i (some .xc)) t with
            | nx r2 t2 => rw [eo] at h'; exact fun σ2 z2 s2 g2 => h' _ z2 s2.uncatch g2
            | bk r2 t2 => rw [eo] at h'; exact fun σ2 z2 s2 g2 => h' _ z2 s2.uncatch g2
            | ct r2 t2 => rw [eo] at h'; exact fun σ2 z2 s2 g2 => h' _ z2 s2.uncatch g2
            | rt w t2 => rw [eo] at h'; exact fun v σ2 ρ2 z2 s2 g2 r2 => h' v _ _ z2 s2.uncatch g2 r2
            | ex y2 r2 t2 => rw [eo] at h'; exact h'.elim
            | stuck => rw [eo] at h'; exact h'.elim
        · subst hb0
          simp only [eh] at h
          exact h _ dd σ' z s' g' ⟨E, q1, rfl, q2⟩
/-! classes by their names -/
def hitL : List (Str × Bool) → Str → Option Bool
  | [], _ => none
  | (x, b) :: r, y => if y = x then some b else hitL r y
/-- an except clause of the class cv: which errors it takes -/
def Hits (K : PySem.W.Frag) (cl : Str → Option Addr) (cv : Value) (l : List (Str × Bool)) : Prop := ∀ y b, hitL l y = some b → ∀ D, cl y = some D → PySem.W.exmOne K (.ref D) cv = some b
theorem hits_nil {K : PySem.W.Frag} {cv : Value} : Hits K cl cv [] := fun y b e => by cases e
theorem hits_cons {K : PySem.W.Frag} {cv : Value} {x : Str} {b : Bool} {C : Addr} {l : List (Str × Bool)} (A : cl x = some C) (e : PySem.W.exmOne K (.ref C) cv = some b) (h : Hits K cl cv l) : Hits K cl cv ((x, b) :: l) := fun y b' e' D hD => by
  simp only [hitL] at e'
  split at e'
  · rename_i hy
    cases e'
    subst hy
    rw [A] at hD
    cases hD
    exact e
  · exact h y b' e' D hD
/-- isinstance(e, cv) -/
def Isis (K : PySem.W.Frag) (cl : Str → Option Addr) (cv : Value) (l : List (Str × Bool)) : Prop := ∀ y b, hitL l y = some b → ∀ D, cl y = some D → ExcC K D ∧ PySem.W.kitOne K (.ref D) cv = some b
theorem isis_nil {K : PySem.W.Frag} {cv : Value} : Isis K cl cv [] := fun y b e => by cases e
theorem isis_cons {K : PySem.W.Frag} {cv : Value} {x : Str} {b : Bool} {C : Addr} {l : List (Str × Bool)} (A : cl x = some C) (E : ExcC K C) (e : PySem.W.kitOne K (.ref C) cv = some b) (h : Isis K cl cv l) : Isis K cl cv ((x, b) :: l) := fun y b' e' D hD => by
  simp only [hitL] at e'
  split at e'
  · rename_i hy
    cases e'
    subst hy
    rw [A] at hD
    cases hD
    exact ⟨E, e⟩
  · exact h y b' e' D hD
/-- the caught error x is asked of its class: the answer by the classes' names -/
def mIsE (i : Nat) (l : List (Str × Bool)) (x : Exn) : ME := fun ρ S => match ρ[i]? with
  | some (some .xc) => if x.fs.isEmpty = true then (match hitL l x.c with
    | some k => .ok (.da (.bl k)) S
    | none => .stuck) else .stuck
  | _ => .stuck
theorem qe_isE {i : Nat} {nm x : Str} {p p2 p3 : Pos} {ea E : Addr} {oe : Obj} {pn : List (Addr × Obj)} {d : Option Addr} {l : List (Str × Bool)} {cv : Value} {u : V} {y' : Exn} (hl : Isis X.K cl cv l) (hz : Zc (.ref E) d oe) (hf : ∃ vs, oe.data = .fields vs) (hc : cl y'.c = some E) (hd : y'.fs = [] → d = none)
    (hN : X.N[i]? = some nm) (hv : Vis X.env.scope nm) (hg : Gl X "isinstance") (hm : X.mg "isinstance" = none) (hx : PE (X.suite ea ((ea, oe) :: pn)) (.Name x p2) (tC u)) (hcv : ∀ w, RelV u w → w = cv)
    (hdb : (nm == ("__debug__" : Str)) = false := by decide) (hcd : (nm == ("__classdict__" : Str)) = false := by decide)
    (hs : starEach [.Name nm p3, .Name x p2] (X.suite ea ((ea, oe) :: pn)).env = (false, eval (.Name nm p3) (X.suite ea ((ea, oe) :: pn)).env) :: starEach [.Name x p2] (X.suite ea ((ea, oe) :: pn)).env := by rfl)
    (hs2 : starEach [.Name x p2] (X.suite ea ((ea, oe) :: pn)).env = (false, eval (.Name x p2) (X.suite ea ((ea, oe) :: pn)).env) :: starEach [] (X.suite ea ((ea, oe) :: pn)).env := by rfl)
    (hpl : (backTo pos (starEach [.Name x p2] (X.suite ea ((ea, oe) :: pn)).env)).any (·.1) = false := by rfl) (hbv : bootBuiltins "isinstance" = some (.builtin "isinstance") := by decide +kernel) :
    QE (X.suite ea ((ea, oe) :: pn)) cl (some (i, ea)) Wx (.Call (.Name "isinstance" p) [.Name nm p3, .Name x p2] [] pos) (mIsE i l y') := by
  refine ⟨_, pe_anyE, fun C y σ ρ S s Q h => ?_⟩
  unfold mIsE at h
  split at h
  · rename_i hr
    split at h
    · rename_i hfs
      split at h
      · rename_i k hk
        obtain ⟨EC, hkit⟩ := hl y'.c k hk E hc
        have hd' : d = none := hd (by cases q : y'.fs <;> simp_all)
        subst hd'
        refine ⟨_, pe_callB (X := X.suite ea ((ea, oe) :: pn)) (call_isE EC hz hf) hg hm hbv (pa_cons (pe_var (X := X.suite ea ((ea, oe) :: pn)) (i := i) hN hv hdb hcd) (pa_cons hx pa_nil hs2) hs) (by decide) (by decide) hs hpl, ?_⟩
        obtain ⟨v, e1, a', e2, rfl⟩ := s.slot i _ hr
        cases e2
        exact ⟨_, e1, u, cv, k, rfl, hcv, hkit, h (.bl k) y s (Gr.refl _) rfl⟩
      · exact h.elim
    · exact h.elim
  · exact h.elim
theorem pe_cls {X : Cx} {x : Str} {C : Addr} {p : Pos} (hg : Gl X x) (hm : X.mg x = some (.ref C)) (hd : (x == ("__debug__" : Str)) = false := by decide) : PE X (.Name x p) (tC (.ref C)) := pe_glob hg hm rfl hd
theorem relv_ref {C : Addr} : ∀ w, RelV (.ref C) w → w = Value.ref C := fun _ h => h
theorem relv_ty {n : String} : ∀ w, RelV (.ty n) w → w = Value.type n := fun _ h => h
/-! ### a thing in a slot is frozen from here on -/
def mFrz (i : Nat) (m : MS) : MS := fun ρ S => match ρ[i]? with
  | some (some (.lo n)) => match datW 5 S (.lo n) with
    | some (d, S') => m (ρ.set i (some (.da d))) S'
    | none => .stuck
  | some (some (.da _)) => m ρ S
  | _ => .stuck
def tLkS (t : TS) : TS := fun D σ H => Lks (fun H' => t D σ H') H
theorem pss_lk {t : TS} (h : PSs X body t) : PSs X body (tLkS t) := ⟨fun pins s σ H D I hw => by
  obtain ⟨H2, I2, q2⟩ := Lks.run hw I
  exact h.run pins s σ H2 D I2 q2⟩
theorem qb_frz (i : Nat) (h : QB X cl xa Wx body m) : QB X cl xa Wx body (mFrz i m) := by
  obtain ⟨t, p, q⟩ := h
  refine ⟨_, pss_lk p, fun C y σ ρ S s Z h => ?_⟩
  unfold mFrz at h
  split at h
  · rename_i k hk
    split at h
    · rename_i d S' hd
      obtain ⟨v, e1, e2⟩ := s.slot i _ hk
      have r0 : RW X.K cl y (.lo k) v := e2
      refine datW_ok 5 y S (.lo k) v d S' s r0 hd _ fun z s2 g2 r2 => .now ?_
      have s3 := s2.set (w := .da d) (v := v) i r2
      have es : σ.set i (some v) = σ := by
        obtain ⟨hl, hv⟩ := List.getElem?_eq_some_iff.mp e1
        rw [← hv]
        exact List.set_getElem_self hl
      rw [es] at s3
      exact q C z σ _ S' s3 Z (PostS.mono g2 h)
    · exact h.elim
  · exact .now (q C y σ ρ S s Z h)
  · exact h.elim
end
/-! ### the end -/
theorem clOf_at {K : PySem.W.Frag} {x : Str} {a : Addr} (h : PySem.W.nsIn K mainGlobals x = some (some (.ref a))) : clOf K x = some a := by
  unfold clOf
  rw [h]
theorem law_end {K : PySem.W.Frag} {H : Hp} {a : Addr} {ns : List Int} {cl : Str → Option Addr} {p : List D → Re D} (hS : SqL K H a (ns.map V.int)) (h : p [.scr (ns.map .int)] = .ok (.bl true)) : SpP K cl p [.ref a] H (fun v _ => v = .bl true) fun _ _ _ => False := by
  have rl : ∀ ns : List Int, RpL K cl H (ns.map .int) (ns.map V.int) := fun ns => by
    induction ns with
    | nil => exact rfl
    | cons x r ih => exact ⟨_, _, rfl, rfl, ih⟩
  refine ⟨H, [.scr (ns.map .int)], Ex.refl H, ⟨_, _, rfl, ⟨a, ns.map V.int, rfl, hS, rl ns⟩, rfl⟩, ?_⟩
  rw [h]
  exact fun v F' H' _ r => r
open PySem.Spec PyProof.Rows in
/-- the law's plain function tells True of every script -/
theorem walk_ng {l : PySem.W.OpenLaw} {q : Program} {loose : List Str} {XP : (Str → Option Value) → Heap → Prop} {YP : World → Heap → Prop} {d : DefRec} {K : Params → PySem.W.Frag} {k : Nat} {x : Str} {p : List D → Re D}
    (hn : l.most = some 63) (hdf : d.params.defaults = []) (hr : Room k callerA) (hY : ∀ (w : World) (h : Heap), YP w h → (K w.params).In h)
    (F : ∀ (w : World) (mg : Str → Option Value) (fa : Addr) (h : Heap), (K w.params).In h → h.Ns mainGlobals mg → mg d.name = some (.ref fa) →
      ∃ fd : FuncData, (∀ (s : Shared) (u : Value), BindsTo s fd ⟨[u], []⟩ [(x, u)]) ∧ ∀ base : Heap, (K w.params).In base → base.Ns mainGlobals mg → FnOk l.prog w (K w.params) mg base (L2.CX l.prog w) k fa fd [x] (SpP (K w.params) (clOf (K w.params)) p))
    (hp : ∀ ns : List Int, ns.length ≤ 63 → p [.scr (ns.map .int)] = .ok (.bl true)) : PySem.W.WalkO q loose XP YP l.row.toRowW d [] (fun f vs => PySem.call f vs) :=
  L2.walk_of (n := 63) (k := k) (x := x) (CX := fun w => L2.CX l.prog w) (sp := fun w => SpP (K w.params) (clOf (K w.params)) p) hn (by decide) hdf hr hY F (fun w H a ns hl _ hS => law_end hS (hp ns hl)) (fun _ _ _ _ _ h => by
    obtain ⟨_, _, _, _, _, _, _, _, _, _, _, _, z⟩ := h
    exact z)
end Ng
namespace Ng
open PySem L2
/-! ### dict displays -/
abbrev MP := Rho → Sto → Rs (List (W × W))
def mpNil : MP := fun _ S => .ok [] S
def mpCons (mk mv : ME) (mr : MP) : MP := fun ρ S => (mk ρ S).bind fun k S => (mv ρ S).bind fun v S => (mr ρ S).bind fun r S => .ok ((k, v) :: r) S
def RWW (K : PySem.W.Frag) (cl : Str → Option Addr) (y : Y) (wws : List (W × W)) (vvs : List (V × V)) : Prop := Paired (fun p q => RW K cl y p.1 q.1 ∧ RW K cl y p.2 q.2) wws vvs
def SPr (K : PySem.W.Frag) (cl : Str → Option Addr) (xa : Option (Nat × Addr)) (Wx : WX) (trs : List (TE × TE)) (m : MP) : Prop := ∀ C y σ ρ S, Sim K cl xa C y σ ρ S → ∀ Q, Post K cl xa C Wx y σ ρ (m ρ S) (fun wws S' => ∀ vvs z, Sim K cl xa C z σ ρ S' → Gr y z → RWW K cl z wws vvs → Q vvs z.H) → tPairs trs σ y.H Q
def QPr (X : Cx) (cl : Str → Option Addr) (xa : Option (Nat × Addr)) (Wx : WX) (pos : Pos) (ks : List (Option Expr)) (vs : List Expr) (m : MP) : Prop := ∃ trs, PPs X pos ks vs trs ∧ SPr X.K cl xa Wx trs m
def mergeW (kws more : List (Key × W)) : List (Key × W) := more.foldl (fun acc kw => putW acc kw.1 kw.2) kws
def keysP : List (W × W) → Option (List (Key × W))
  | [] => some []
  | (k, w) :: r => match keyW k, keysP r with
    | some j, some t => some ((j, w) :: t)
    | _, _ => none
def dispC (wws : List (W × W)) : Option Cell := match keysP wws with
  | some kws => if kws.length ≤ 15 then some (.dk (mergeW [] kws)) else none
  | none => none
def mDisp (mk : Option Cell → Sto → Rs W) (mp : MP) : ME := fun ρ S => (mp ρ S).bind fun wws S => mk (dispC wws) S
section
variable {X : Cx} {cl : Str → Option Addr} {xa : Option (Nat × Addr)} {Wx : WX} {pos : Pos} {k v : Expr} {ks : List (Option Expr)} {vs : List Expr} {mk mv : ME} {mr : MP}
theorem RWW.grow {K : PySem.W.Frag} {y z : Y} (g : Gr y z) {a : List (W × W)} {b : List (V × V)} (h : RWW K cl y a b) : RWW K cl z a b := Paired.mapP h fun _ _ q => ⟨q.1.grow g, q.2.grow g⟩
theorem qpr_nil : QPr X cl xa Wx pos [] [] mpNil := ⟨_, pps_nil, fun C y σ ρ S s Q h => h [] y s (Gr.refl _) .nil⟩
theorem qpr_cons (hk : QE X cl xa Wx k mk) (hv : QE X cl xa Wx v mv) (hr : QPr X cl xa Wx pos ks vs mr) : QPr X cl xa Wx pos (some k :: ks) (v :: vs) (mpCons mk mv mr) := by
  obtain ⟨t, p, q⟩ := hk
  obtain ⟨t2, p2, q2⟩ := hv
  obtain ⟨t3, p3, q3⟩ := hr
  refine ⟨_, pps_cons p p2 p3, fun C y σ ρ S s Q h => ?_⟩
  refine q C y σ ρ S s _ (Post.go h fun w S1 h1 x z s1 g1 r1 => ?_)
  refine q2 C z σ ρ S1 s1 _ (Post.go (h1 z g1) fun w2 S2 h2 x2 z2 s2 g2 r2 => ?_)
  refine q3 C z2 σ ρ S2 s2 _ (Post.go (h2 z2 g2) fun w3 S3 h3 x3 z3 s3 g3 r3 => ?_)
  exact h3 z3 g3 _ z3 s3 ((g1.trans g2).trans g3) (.cons ⟨r1.grow (g2.trans g3), r2.grow g3⟩ r3)
theorem Post.rebase {α : Type} {K : PySem.W.Frag} {C : Cn} {y z : Y} {σ : St} {ρ : Rho} {S : Sto} {r : Rs α} {P P' : α → Sto → Prop} (s : Sim K cl xa C z σ ρ S) (g : Gr y z) (h : Post K cl xa C Wx y σ ρ r P) (k : ∀ w S, P w S → P' w S) : Post K cl xa z.cn Wx z σ ρ r P' := by
  cases r with
  | ok w S => exact k w S h
  | ex x S => exact fun cls dd u su gu xr => h cls dd u (s.after su.bs su.fm) (g.trans gu) xr
  | stuck => exact h
theorem keysP_ok {K : PySem.W.Frag} {y : Y} : ∀ {wws : List (W × W)} {vvs : List (V × V)} {kws : List (Key × W)}, RWW K cl y wws vvs → keysP wws = some kws → ∃ kvs : List (Key × V), vvs = kvs.map (fun kv => (kV kv.1, kv.2)) ∧ RWP K cl y kws kvs
  | _, _, _, .nil, h => by cases h; exact ⟨[], rfl, .nil⟩
  | (a, w) :: r, (b, u) :: t, kws, .cons h1 h2, h => by
    simp only [keysP] at h
    split at h
    · rename_i j t' e1 e2
      cases h
      obtain ⟨kvs, rfl, r2⟩ := keysP_ok h2 e2
      refine ⟨(j, u) :: kvs, ?_, .cons ⟨rfl, h1.2⟩ r2⟩
      rw [List.map_cons, ← keyW_ok h1.1 e1]
    · cases h
theorem merge_ok {K : PySem.W.Frag} {y : Y} : ∀ {more : List (Key × W)} {more' : List (Key × V)} {kws : List (Key × W)} {kvs : List (Key × V)}, RWP K cl y more more' → RWP K cl y kws kvs → RWP K cl y (mergeW kws more) (mergeK kvs more')
  | _, _, _, _, .nil, h => h
  | (j, w) :: r, (j', u) :: r', kws, kvs, .cons h1 h2, h => by
    cases (show j = j' from h1.1)
    show RWP K cl y (mergeW (putW kws j w) r) (mergeK (putK kvs j u) r')
    exact merge_ok h2 (RWP.put h1.2 h)
/-- what comes of a new dict: a cell, or data that is locked for good -/
def MkDk (K : PySem.W.Frag) (cl : Str → Option Addr) (xa : Option (Nat × Addr)) (mk : Option Cell → Sto → Rs W) (wrap : VK → VK) : Prop := ∀ (C : Cn) (Wx : WX) (y0 z : Y) (σ : St) (ρ : Rho) (S : Sto) (kws : List (Key × W)) (kvs : List (Key × V)) (p : Addr) (Q : VK), Sim K cl xa C z σ ρ S → Gr y0 z → z.F p = none → p ∉ z.m → C.H0 p = none → z.H p = some (.dK kvs) → RWP K cl z kws kvs →
  Post K cl xa C Wx y0 σ ρ (mk (some (.dk kws)) S) (OkE K cl xa C y0 σ ρ Q) → wrap Q (.ref p) z.H
theorem dkC_ok {K : PySem.W.Frag} : MkDk K cl xa mkC (fun Q => Q) := fun C Wx y0 z σ ρ S kws kvs p Q s g h1 h2 h3 h4 r h => by
  obtain ⟨s2, g2⟩ := s.adoptC (c := .dk kws) h1 h2 h3 (by rw [h4]; simp) ⟨kvs, h4, r⟩
  exact h (.ref p) ⟨z.F, z.H, z.m ++ [p]⟩ s2 (g.trans g2) ⟨p, by rw [← s.bs.len]; simp, rfl⟩
theorem dkL_ok {K : PySem.W.Frag} : MkDk K cl xa mkL (fun Q v H => Lks (Q v) H) := fun C Wx y0 z σ ρ S kws kvs p Q s g h1 h2 h3 h4 r h => by
  unfold mkL at h
  simp only at h
  split at h
  · rename_i d hd
    obtain ⟨ds, q, rfl⟩ := Option.map_eq_some_iff.mp hd
    refine .lock p _ h4 trivial fun od => .now ?_
    have s2 := s.other (o := .frz od (.dK kvs)) h1 h2 h3
    obtain ⟨s3, g3⟩ := s2.adoptF h1 h2 h3 upd_same
    have g2 : Gr z (z.up p (.frz od (.dK kvs))) := ⟨Ex.refl _, List.prefix_refl _⟩
    obtain ⟨z1, z2⟩ := rwp_zip r
    refine h (.ref p) _ s3 (g.trans (g2.trans g3)) ⟨p, kvs.map (·.2), rfl, ⟨od, ?_⟩, ?_, RpL.xt (g2.trans g3).f _ _ (dats_ok z1 q)⟩
    · rw [← z2]; exact upd_same
    · rw [List.length_map, List.length_map]; exact Paired.length r
  · exact h.elim
theorem se_disp {trs : List (TE × TE)} {m : MP} {mkf : Option Cell → Sto → Rs W} {wrap : VK → VK} (hmk : MkDk X.K cl xa mkf wrap) (h0 : ∀ S, mkf none S = .stuck) (q : SPr X.K cl xa Wx trs m) {C : Cn} {y : Y} {σ : St} {ρ : Rho} {S : Sto} (s : Sim X.K cl xa C y σ ρ S) {Q : VK}
    (h : Post X.K cl xa C Wx y σ ρ (mDisp mkf m ρ S) (OkE X.K cl xa C y σ ρ Q)) : tDisp trs σ y.H (wrap Q) := by
  intro p hp
  have c0 : C.H0 p = none := s.fm.dom p hp
  have fp0 : y.F p = none := s.bs.fz.no hp
  have pm0 : p ∉ y.m := fun z => s.bs.has p z hp
  have s1 := s.other (o := .dK []) fp0 pm0 c0
  have g1 : Gr y (y.up p (.dK [])) := ⟨Ex.refl _, List.prefix_refl _⟩
  refine q _ (y.up p (.dK [])) σ ρ S s1.rebase _ (Post.rebase s1 g1 (Post.bind h) fun wws S1 h1 vvs z s2 g2 r2 => ?_)
  obtain ⟨k1, k2, k3⟩ := keep_own s2.bs.fz s2.fm fp0 pm0 upd_same
  have s3 := s1.after s2.bs s2.fm
  refine ⟨k1, ?_⟩
  unfold dispC at h1
  split at h1
  · rename_i kws hk
    obtain ⟨kvs, ek, rk⟩ := keysP_ok r2 hk
    split at h1
    · rename_i hl
      refine ⟨kvs, ek, by rw [← Paired.length rk]; exact hl, ?_⟩
      have g3 : Gr z (z.up p (.dK (mergeK [] kvs))) := ⟨Ex.refl _, List.prefix_refl _⟩
      exact hmk C Wx y (z.up p (.dK (mergeK [] kvs))) σ ρ S1 (mergeW [] kws) (mergeK [] kvs) p Q (s3.other k2 k3 c0) ((g1.trans g2).trans g3) k2 k3 c0 upd_same (RWP.grow g3 (merge_ok rk .nil)) h1
    · rw [h0] at h1; exact h1.elim
  · rw [h0] at h1; exact h1.elim
theorem qe_dispC {m : MP} (h : QPr X cl xa Wx pos ks vs m) (hall : ks.all (·.isSome) = true := by rfl) (hl : ks.length = vs.length := by rfl) (hne : ks ≠ [] := by simp) (h15 : ks.length ≤ 15 := by decide) : QE X cl xa Wx (.Dict ks vs pos) (mDisp mkC m) := by
  obtain ⟨t, p, q⟩ := h
  exact ⟨_, pe_disp p hall hl hne h15, fun C y σ ρ S s Q h => se_disp dkC_ok (fun _ => rfl) q s h⟩
theorem qe_dispL {m : MP} (h : QPr X cl xa Wx pos ks vs m) (hall : ks.all (·.isSome) = true := by rfl) (hl : ks.length = vs.length := by rfl) (hne : ks ≠ [] := by simp) (h15 : ks.length ≤ 15 := by decide) : QE X cl xa Wx (.Dict ks vs pos) (mDisp mkL m) := by
  obtain ⟨t, p, q⟩ := h
  exact ⟨_, pe_lk (pe_disp p hall hl hne h15), fun C y σ ρ S s Q h => se_disp dkL_ok (fun _ => rfl) q s h⟩
end
end Ng
namespace Ng
open PySem L2
/-! ### methods that change nothing -/
def vmt (f : W → List W → Sto → Option W) : W → List W → Sto → Rs W := fun w ws S => lift (f w ws S) S
def strsW : List W → Option (List Str)
  | [] => some []
  | .da (.str x) :: r => match strsW r with
    | some t => some (x :: t)
    | none => none
  | _ => none
section
variable {X : Cx} {cl : Str → Option Addr} {xa : Option (Nat × Addr)} {Wx : WX} {pos apos cpos : Pos} {a b c e o : Expr} {es : List Expr} {ma mb mc me mi mo : ME} {mr : MA} {ta tb tc : MT} {st : Stmt} {rest body : List Stmt} {m n : MS}
theorem hm_val {id : String} {f : W → List W → Sto → Option W}
    (h : ∀ (y : Y) (S : Sto) (w : W) (v : V) (ws : List W) (vs : List V) (u : W) (Q : VK), Bs X.K cl y S → RW X.K cl y w v → RWL X.K cl y ws vs → f w ws S = some u → Gv X.K cl y u Q → mtAny X id v vs y.H Q) : HMt X cl id (vmt f) := by
  intro xa C Wx y σ ρ S s w v r as bs ra Q hp
  obtain ⟨u, e, g⟩ := post_val s hp
  exact h y S w v as bs u Q s.bs r ra e g
theorem strsW_ok {K : PySem.W.Frag} {y : Y} : ∀ {ws : List W} {vs : List V} {ys : List Str}, RWL K cl y ws vs → strsW ws = some ys → vs = ys.map V.str
  | [], _, _, .nil, h => by cases h; rfl
  | w :: ws, _, ys, .cons r t, h => by
    unfold strsW at h
    split at h
    · rename_i e
      cases e
    · rename_i x r' e
      cases e
      split at h
      · rename_i t' ht
        cases h
        rw [strsW_ok t ht]
        cases r
        rfl
      · cases h
    · cases h
noncomputable def joinW (w : W) (ws : List W) (S : Sto) : Option W := match w, ws with
  | .da (.str a), [x] => match seqW S x with
    | some us => match strsW us with
      | some ys => ifc ((ys.map (·.length)).sum + ys.length * a.length ≤ 16777216) (some (.da (.str (Txt.join a ys)))) none
      | none => none
    | none => none
  | _, _ => none
theorem hm_join : HMt X cl "str.join" (vmt joinW) := hm_val fun y S w v ws vs u Q b r rs e g => by
  unfold joinW at e
  split at e
  · rename_i a x
    cases (show v = .str a from r)
    obtain ⟨v, rfl, r1⟩ := rwl1 rs
    split at e
    · rename_i us q
      split at e
      · rename_i ys hys
        obtain ⟨hz, rfl⟩ := ifc_some e
        obtain ⟨p, vs, rfl, t, l⟩ := seqW_ok b r1 q
        cases strsW_ok l hys
        exact ⟨_, mt_join, a, p, ys, rfl, rfl, t, hz, gv_da b g rfl⟩
      · cases e
    · cases e
  · cases e
end
end Ng
namespace Ng
open PySem L2
/-! ### sorted -/
noncomputable def sortD (ds : List D) : List D := ds.mergeSort (PySem.W.dataLe false toPy)
noncomputable def sortC : List W → Sto → Option Cell
  | [w], S => match lstW S w with
    | some ws => match dats ws with
      | some ds => ifc (PySem.W.AllAlike (ds.map toPy) ∧ PySem.W.Sortable (ds.map toPy) ∧ (∀ d ∈ ds, (toPy d).canLay0 = true ∧ (toPy d).depth ≤ 64)) (some (.lst ((sortD ds).map .da))) none
      | none => none
    | none => none
  | _, _ => none
section
variable {X : Cx} {cl : Str → Option Addr} {xa : Option (Nat × Addr)} {Wx : WX}
/-- V beside what it is worth -/
theorem each_zip {pins : List (Addr × Obj)} {σ : St} {H : Hp} {s : Shared} (I : Inv X pins σ H s) : ∀ {vs : List V} {us : List Value} {ps : List PyData}, Vals vs us → DpAll X.K H vs ps →
    PySem.W.EachIs (fun u (b : V × PyData) => RelV b.1 u) us (vs.zip ps) ∧ PySem.W.EachIs (fun u (b : V × PyData) => ∃ as, Reads s.heap u b.2 as) us (vs.zip ps) ∧ ps.length = vs.length
  | _, _, _, .nil, .nil => ⟨.nil, .nil, rfl⟩
  | _, _, _, .cons r t, .cons d t2 => by
    obtain ⟨a, b, c⟩ := each_zip I t t2
    exact ⟨.cons r a, .cons (Dp.reads I _ _ _ d r) b, by simp [c]⟩
theorem vals_each : ∀ {us : List Value} {bs : List (V × PyData)}, PySem.W.EachIs (fun u (b : V × PyData) => RelV b.1 u) us bs → Vals (bs.map (·.1)) us
  | _, _, .nil => .nil
  | _, _, .cons r t => .cons r (vals_each t)
def rSortD (K : PySem.W.Frag) : List V → Hp → VK → Prop := fun vs H Q => ∃ (a : Addr) (xs : List V) (ps : List PyData), vs = [.ref a] ∧ SqL K H a xs ∧ DpAll K H xs ps ∧ PySem.W.AllAlike ps ∧ PySem.W.Sortable ps ∧ (∀ d ∈ ps, d.depth ≤ 64) ∧
  ∀ p, H p = none → Q (.ref p) (upd H p (.lst (((xs.zip ps).mergeSort (PySem.W.dataLe false (·.2))).map (·.1))))
theorem cr_sortD (hu : Hu X) : CallR X (.builtin "sorted") (rSortD X.K) := by
  intro pins s σ H vs us Q I r h
  obtain ⟨a, xs, ps, rfl, hs, hd, hal, hk, hdep, q⟩ := h
  obtain ⟨its, rv, hl, hz⟩ := I.list hs
  rw [Vals.ref1 r]
  obtain ⟨e1, e2, e3⟩ := each_zip I rv hd
  have em : (xs.zip ps).map (·.2) = ps := List.map_snd_zip (Nat.le_of_eq e3)
  have hu' : X.A.units + 200 < cLine := hu
  have hb : (xs.zip ps).length = xs.length := by rw [List.length_zip, e3, Nat.min_self]
  refine PySem.W.sorted_data (enc := (·.2)) hl.isList e1 e2 (by rw [em]; exact hal) (by rw [em]; exact hk) (by rw [hb]; exact hz) (fun b hb => ?_) fun out ho eo => ?_
  · have := hdep b.2 (by rw [← em]; exact List.mem_map.mpr ⟨b, hb, rfl⟩)
    omega
  · obtain ⟨ep, he'⟩ := PyProof.Rows.sortedAll_at s.heap its out.toArray
    refine ⟨.ref _, _, I.laid (t' := s.toks) (o := .lst (((xs.zip ps).mergeSort (PySem.W.dataLe false (·.2))).map (·.1))) (fun _ _ => PyProof.Rows.sortedAll_old) (Nat.le_succ _) ⟨?_, out, ep, vals_each eo, he'⟩, rfl, q _ (I.hok.fresh (Nat.le_succ _))⟩
    rw [List.length_map, List.length_mergeSort, hb]
    exact hz
theorem toPyL_all {K : PySem.W.Frag} {H : Hp} : ∀ (ds : List D) (vs : List V), (∀ d ∈ ds, (toPy d).canLay0 = true) → RpL K cl H ds vs → DpAll K H vs (ds.map toPy)
  | [], vs, _, r => by cases (show vs = [] from r); exact .nil
  | d :: ds, vs, h, r => by
    obtain ⟨v, t, rfl, r1, r2⟩ := r
    exact .cons (toPy_ok d v (h d (by simp)) r1) (toPyL_all ds t (fun x hx => h x (by simp [hx])) r2)
theorem rpl_zip {K : PySem.W.Frag} {F : Hp} : ∀ (ds : List D) (vs : List V), RpL K cl F ds vs → ds.length = vs.length ∧ ∀ p ∈ vs.zip ds, Rp K cl F p.2 p.1
  | [], vs, r => by cases (show vs = [] from r); exact ⟨rfl, by simp⟩
  | d :: ds, vs, r => by
    obtain ⟨v, t, rfl, r1, r2⟩ := r
    obtain ⟨a, b⟩ := rpl_zip ds t r2
    refine ⟨by simp [a], fun p hp => ?_⟩
    rw [List.zip_cons_cons] at hp
    rcases List.mem_cons.mp hp with rfl | hp
    · exact r1
    · exact b p hp
theorem zip_rpl {K : PySem.W.Frag} {F : Hp} : ∀ (ps : List (V × D)), (∀ p ∈ ps, Rp K cl F p.2 p.1) → RpL K cl F (ps.map (·.2)) (ps.map (·.1))
  | [], _ => rfl
  | p :: ps, h => ⟨_, _, rfl, h p (by simp), zip_rpl ps (fun q hq => h q (by simp [hq]))⟩
/-- the sort goes along -/
theorem sort_rp {K : PySem.W.Frag} {F : Hp} {ds : List D} {vs : List V} (r : RpL K cl F ds vs) : RpL K cl F (sortD ds) (((vs.zip (ds.map toPy)).mergeSort (PySem.W.dataLe false (·.2))).map (·.1)) := by
  obtain ⟨hl, hz⟩ := rpl_zip ds vs r
  have e1 : ((vs.zip ds).mergeSort (PySem.W.dataLe false (fun p => toPy p.2))).map (·.2) = sortD ds := by
    unfold sortD
    rw [List.map_mergeSort (r := PySem.W.dataLe false (fun p : V × D => toPy p.2)) (s := PySem.W.dataLe false toPy) (f := fun p : V × D => p.2) (fun a _ b _ => rfl), List.map_snd_zip (Nat.le_of_eq hl)]
  have e2 : ((vs.zip ds).mergeSort (PySem.W.dataLe false (fun p => toPy p.2))).map (·.1) = ((vs.zip (ds.map toPy)).mergeSort (PySem.W.dataLe false (·.2))).map (·.1) := by
    have : vs.zip (ds.map toPy) = (vs.zip ds).map (fun p => (p.1, toPy p.2)) := by
      rw [List.zip_map_right]
      rfl
    rw [this, ← List.map_mergeSort (r := PySem.W.dataLe false (fun p : V × D => toPy p.2)) (f := fun p : V × D => (p.1, toPy p.2)) (fun a _ b _ => rfl), List.map_map]
    rfl
  rw [← e1, ← e2]
  exact zip_rpl _ fun p hp => hz p ((List.mergeSort_perm _ _).mem_iff.mp hp)
theorem cn_sorted (hu : Hu X) : CN X cl (cAny X (.builtin "sorted")) sortC := fun y S b ws vs rs c e Q g => by
  unfold sortC at e
  split at e
  · rename_i w
    obtain ⟨v, rfl, r⟩ := rwl1 rs
    split at e
    · rename_i us q
      split at e
      · rename_i ds hd
        obtain ⟨⟨h1, h2, h3⟩, rfl⟩ := ifc_some e
        obtain ⟨p, vs, rfl, t, l⟩ := lstW_ok b r q
        have rp := dats_ok l hd
        refine ⟨_, cr_sortD hu, p, vs, ds.map toPy, rfl, .inl (.inl t), toPyL_all ds vs (fun d hd => (h3 d hd).1) (RpL.xt b.fz _ _ rp), h1, h2, fun d hd => ?_, fun p hp => g p _ hp ⟨_, upd_same, upd_rw (rwl_da (sort_rp rp))⟩⟩
        obtain ⟨x, hx, rfl⟩ := List.mem_map.mp hd
        exact (h3 x hx).2
      · cases e
    · cases e
  · cases e
end
end Ng
namespace Ng
open PySem L2
/-! ### what is not walked -/
def mNoE : ME := fun _ _ => .stuck
def mNoT : MT := fun _ _ => .stuck
def mNoS : MS := fun _ _ => .stuck
section
variable {X : Cx} {cl : Str → Option Addr} {xa : Option (Nat × Addr)} {Wx : WX} {pos p2 apos cpos : Pos} {a b c e o : Expr} {es : List Expr} {ma mb mc me mi mo : ME} {mr : MA} {ta tb tc : MT} {st : Stmt} {rest body : List Stmt} {m n : MS}
theorem qe_no : QE X cl xa Wx e mNoE := ⟨fun _ _ _ => False, ⟨fun _ _ _ _ _ _ h => h.elim⟩, fun C y σ ρ S s Q h => h⟩
theorem qt_no : QT X cl xa Wx e mNoT := ⟨fun _ _ _ => False, ⟨fun _ _ _ _ _ _ h => h.elim⟩, fun C y σ ρ S s Q h => h⟩
theorem qs_no : QS X cl xa Wx st mNoS := ⟨fun _ _ _ => False, ⟨fun _ _ _ _ _ _ h => h.elim⟩, fun C y σ ρ S s Q h => h⟩
/-! ### slices -/
def cutL {α : Type} (xs : List α) (lo hi : Option Int) : List α := (xs.drop (HT.sIx xs.length 0 lo)).take (HT.sIx xs.length xs.length hi - HT.sIx xs.length 0 lo)
abbrev MO := Rho → Sto → Rs (Option Int)
def moN : MO := fun _ S => .ok none S
def moS (m : ME) : MO := fun ρ S => (m ρ S).bind fun w S => match w with
  | .da (.int i) => .ok (some i) S
  | _ => .stuck
def SO (K : PySem.W.Frag) (cl : Str → Option Addr) (xa : Option (Nat × Addr)) (Wx : WX) (t : TO) (m : MO) : Prop := ∀ C y σ ρ S, Sim K cl xa C y σ ρ S → ∀ Q, Post K cl xa C Wx y σ ρ (m ρ S) (fun i S' => ∀ z, Sim K cl xa C z σ ρ S' → Gr y z → Q i z.H) → t σ y.H Q
def QO (X : Cx) (cl : Str → Option Addr) (xa : Option (Nat × Addr)) (Wx : WX) (lo : Option Expr) (m : MO) : Prop := ∃ t, PO X lo t ∧ SO X.K cl xa Wx t m
theorem qo_none : QO X cl xa Wx none moN := ⟨_, po_none, fun C y σ ρ S s Q h => h y s (Gr.refl _)⟩
theorem qo_some (h : QE X cl xa Wx e me) : QO X cl xa Wx (some e) (moS me) := by
  obtain ⟨t, p, q⟩ := h
  refine ⟨_, po_some p, fun C y σ ρ S s Q h => ?_⟩
  refine q C y σ ρ S s _ (Post.go h fun w S1 h1 v z s1 g1 r1 => ?_)
  have h2 := h1 z g1
  split at h2
  · cases (show v = .int _ from r1)
    exact ⟨_, rfl, h2 z s1 g1⟩
  · exact h2.elim
/-- any rule of a slice -/
def slAny (X : Cx) : V → Option Int → Option Int → Hp → VK → Prop := fun x lo hi H Q => ∃ r, SlR X r ∧ r x lo hi H Q
theorem sl_any : SlR X (slAny X) := fun pins s σ H x v vl vu lo hi sl Q I rx hs pl pu ⟨r, o, h⟩ => o pins s σ H x v vl vu lo hi sl Q I rx hs pl pu h
/-- what a slice is: a value, or a new list or tuple -/
noncomputable def slV (w : W) (lo hi : Option Int) (S : Sto) : Option (W ⊕ Cell) := match w with
  | .da (.str z) => ifc (z.length ≤ sizeLine) (some (.inl (.da (.str (cutS z lo hi))))) none
  | _ => match lstW S w with
    | some ws => some (.inr (.lst (cutL ws lo hi)))
    | none => match tupW S w with
      | some ws => if HT.sIx ws.length 0 lo = 0 ∧ HT.sIx ws.length ws.length hi = ws.length then some (.inl w) else some (.inr (.tup (cutL ws lo hi)))
      | none => none
noncomputable def slF (mk : Option Cell → Sto → Rs W) (w : W) (lo hi : Option Int) (S : Sto) : Rs W := match slV w lo hi S with
  | some (.inl u) => .ok u S
  | some (.inr c) => mk (some c) S
  | none => .stuck
noncomputable def mSl (mk : Option Cell → Sto → Rs W) (me : ME) (ml mh : MO) : ME := fun ρ S => (me ρ S).bind fun w S => (ml ρ S).bind fun lo S => (mh ρ S).bind fun hi S => slF mk w lo hi S
theorem cut_rw {K : PySem.W.Frag} {y : Y} {ws : List W} {vs : List V} (l : RWL K cl y ws vs) (lo hi : Option Int) : RWL K cl y (cutL ws lo hi) (cutV vs lo hi) := by
  unfold cutL cutV
  rw [Paired.length l]
  exact paired_take _ (paired_drop _ l)
def GG (K : PySem.W.Frag) (cl : Str → Option Addr) (y : Y) (Q : VK) : W ⊕ Cell → Prop
  | .inl u => Gv K cl y u Q
  | .inr c => Gn K cl y c Q
theorem slV_ok {y : Y} {S : Sto} (b : Bs X.K cl y S) {w : W} {v : V} (r : RW X.K cl y w v) {lo hi : Option Int} {z : W ⊕ Cell} (h : slV w lo hi S = some z) {Q : VK} (g : GG X.K cl y Q z) : slAny X v lo hi y.H Q := by
  unfold slV at h
  split at h
  · obtain ⟨hz, rfl⟩ := ifc_some h
    cases (show v = .str _ from r)
    exact ⟨_, sl_str, _, rfl, hz, gv_da b g rfl⟩
  · split at h
    · rename_i ws q
      cases h
      obtain ⟨p, vs, rfl, t, l⟩ := lstW_ok b r q
      exact ⟨_, sl_list, p, vs, rfl, .inl (.inl t), fun p hp => g p _ hp ⟨_, upd_same, upd_rw (cut_rw l lo hi)⟩⟩
    · split at h
      · rename_i ws q
        obtain ⟨p, vs, rfl, t, l⟩ := tupW_ok b r q
        have hl := Paired.length l
        split at h
        · rename_i hw
          cases h
          rw [hl] at hw
          exact ⟨_, sl_tupA, p, vs, rfl, t, fun _ => gv_w b g r, fun hn => absurd hw hn⟩
        · rename_i hw
          cases h
          rw [hl] at hw
          exact ⟨_, sl_tupA, p, vs, rfl, t, fun hn => absurd hn hw, fun _ p hp => g p _ hp ⟨_, upd_same, upd_rw (cut_rw l lo hi)⟩⟩
      · cases h
theorem qe_sl {lo hi : Option Expr} {ml mh : MO} {mk : Option Cell → Sto → Rs W} (hmk : ∀ (C : Cn) (y : Y) (σ : St) (ρ : Rho) (S : Sto) (o : Option Cell) (Q : VK), Sim X.K cl xa C y σ ρ S → Post X.K cl xa C Wx y σ ρ (mk o S) (OkE X.K cl xa C y σ ρ Q) → ∃ c, o = some c ∧ Gn X.K cl y c Q)
    (he : QE X cl xa Wx e me) (hl : QO X cl xa Wx lo ml) (hh : QO X cl xa Wx hi mh) : QE X cl xa Wx (.Subscript e (.Slice lo hi none p2) pos) (mSl mk me ml mh) := by
  obtain ⟨t, p, q⟩ := he
  obtain ⟨t1, p1, q1⟩ := hl
  obtain ⟨t2, p2, q2⟩ := hh
  refine ⟨_, pe_slice sl_any p p1 p2, fun C y σ ρ S s Q h => ?_⟩
  refine q C y σ ρ S s _ (Post.go h fun w S1 h1 v z s1 g1 r1 => ?_)
  refine q1 C z σ ρ S1 s1 _ (Post.go (h1 z g1) fun lo S2 h2 z2 s2 g2 => ?_)
  refine q2 C z2 σ ρ S2 s2 _ (Post.go (h2 z2 g2) fun hi S3 h3 z3 s3 g3 => ?_)
  have h4 := Post.re (h3 z3 g3) (g1.trans (g2.trans g3))
  have r3 := r1.grow (g2.trans g3)
  unfold slF at h4
  split at h4
  · rename_i u hu
    exact slV_ok s3.bs r3 hu (by
      obtain ⟨u', e, g⟩ := post_val (o := some u) s3 h4
      cases e
      exact g)
  · rename_i c hc
    exact slV_ok s3.bs r3 hc (by
      obtain ⟨c', e, g⟩ := hmk C z3 σ ρ S3 _ Q s3 h4
      cases e
      exact g)
  · exact h4.elim
theorem qe_slD {lo hi : Option Expr} {ml mh : MO} (he : QE X cl xa Wx e me) (hl : QO X cl xa Wx lo ml) (hh : QO X cl xa Wx hi mh) : QE X cl xa Wx (.Subscript e (.Slice lo hi none p2) pos) (mSl mkD me ml mh) := qe_sl (fun C y σ ρ S o Q s h => post_newD s h) he hl hh
theorem qe_slC {lo hi : Option Expr} {ml mh : MO} (he : QE X cl xa Wx e me) (hl : QO X cl xa Wx lo ml) (hh : QO X cl xa Wx hi mh) : QE X cl xa Wx (.Subscript e (.Slice lo hi none p2) pos) (mSl mkC me ml mh) := qe_sl (fun C y σ ρ S o Q s h => post_newC s h) he hl hh
end
end Ng
namespace Ng
open PySem L2
/-! ### min of a list -/
mutual
def plainD : D → Bool
  | .non => true
  | .bl _ => true
  | .int _ => true
  | .str _ => true
  | .tup ds => plainL ds
  | .lst ds => plainL ds
  | _ => false
def plainL : List D → Bool
  | [] => true
  | d :: ds => plainD d && plainL ds
end
mutual
theorem toPy_inj : ∀ a b : D, plainD a = true → plainD b = true → toPy a = toPy b → a = b
  | .non, b, _, hb, e => by cases b <;> simp [toPy, plainD] at e hb; rfl
  | .bl x, b, _, hb, e => by cases b <;> simp [toPy, plainD] at e hb; rw [e]
  | .int x, b, _, hb, e => by cases b <;> simp [toPy, plainD] at e hb; rw [e]
  | .str x, b, _, hb, e => by cases b <;> simp [toPy, plainD] at e hb; rw [e]
  | .tup x, b, ha, hb, e => by
    cases b <;> simp [toPy, plainD] at e hb ha
    rw [toPyL_inj _ _ ha hb e]
  | .lst x, b, ha, hb, e => by
    cases b <;> simp [toPy, plainD] at e hb ha
    rw [toPyL_inj _ _ ha hb e]
  | .wt _, _, ha, _, _ => by simp [plainD] at ha
  | .scr _, _, ha, _, _ => by simp [plainD] at ha
  | .dk _ _, _, ha, _, _ => by simp [plainD] at ha
  | .dt _ _, _, ha, _, _ => by simp [plainD] at ha
  | .obj _ _ _, _, ha, _, _ => by simp [plainD] at ha
theorem toPyL_inj : ∀ a b : List D, plainL a = true → plainL b = true → toPyL a = toPyL b → a = b
  | [], [], _, _, _ => rfl
  | [], _ :: _, _, _, e => by simp [toPyL] at e
  | _ :: _, [], _, _, e => by simp [toPyL] at e
  | a :: as, b :: bs, ha, hb, e => by
    simp only [plainL, Bool.and_eq_true] at ha hb
    simp only [toPyL, List.cons.injEq] at e
    rw [toPy_inj a b ha.1 hb.1 e.1, toPyL_inj as bs ha.2 hb.2 e.2]
end
def minDD (d : D) (ds : List D) : D := ds.foldl (fun a y => if PySem.W.dataLt (toPy y) (toPy a) then y else a) d
theorem minDD_py : ∀ (ds : List D) (d : D), toPy (minDD d ds) = PySem.W.minD (toPy d) (ds.map toPy)
  | [], _ => rfl
  | y :: ds, d => by
    have := minDD_py ds (if PySem.W.dataLt (toPy y) (toPy d) then y else d)
    unfold minDD PySem.W.minD at *
    simp only [List.foldl_cons, List.map_cons]
    rw [this]
    congr 1
    split <;> rfl
theorem minDD_mem : ∀ (ds : List D) (d : D), minDD d ds ∈ d :: ds
  | [], _ => by simp [minDD]
  | y :: ds, d => by
    have := minDD_mem ds (if PySem.W.dataLt (toPy y) (toPy d) then y else d)
    unfold minDD at *
    simp only [List.foldl_cons]
    rcases List.mem_cons.mp this with h | h
    · rw [h]
      split <;> simp
    · simp [h]
noncomputable def minLW : List W → Sto → Option W
  | [w], S => match lstW S w with
    | some ws => match dats ws with
      | some (d :: ds) => ifc (PySem.W.AlikeAll ((d :: ds).map toPy) ∧ plainL (d :: ds) = true ∧ (∀ x ∈ d :: ds, (toPy x).canLay0 = true) ∧ PyData.depthAll ((d :: ds).map toPy) ≤ 64) (some (.da (minDD d ds))) none
      | _ => none
    | none => none
  | _, _ => none
section
variable {X : Cx} {cl : Str → Option Addr} {xa : Option (Nat × Addr)} {Wx : WX} {pos p2 apos cpos : Pos} {a b c e o : Expr} {es : List Expr} {ma mb mc me mi mo : ME} {mr : MA}
theorem plainL_mem : ∀ {ds : List D} {d : D}, plainL ds = true → d ∈ ds → plainD d = true
  | x :: ds, d, h, hm => by
    simp only [plainL, Bool.and_eq_true] at h
    rcases List.mem_cons.mp hm with rfl | hm
    · exact h.1
    · exact plainL_mem h.2 hm
def rMinD (K : PySem.W.Frag) : List V → Hp → VK → Prop := fun vs H Q => ∃ (a : Addr) (xs : List V) (p : PyData) (ps : List PyData), vs = [.ref a] ∧ SqL K H a xs ∧ DpAll K H xs (p :: ps) ∧ PySem.W.AlikeAll (p :: ps) ∧ PyData.depthAll (p :: ps) ≤ 64 ∧
  ∀ (i : Nat) (v : V), xs[i]? = some v → (p :: ps)[i]? = some (PySem.W.minD p ps) → Q v H
theorem vals_get : ∀ {vs : List V} {us : List Value} {i : Nat} {u : Value}, Vals vs us → us[i]? = some u → ∃ v, vs[i]? = some v ∧ RelV v u
  | _, _, 0, u, .cons r t, h => by cases h; exact ⟨_, rfl, r⟩
  | _, _, i + 1, u, .cons r t, h => vals_get (i := i) t (by simpa using h)
  | _, _, _, u, .nil, h => by simp at h
theorem reads_get {h : Heap} : ∀ {us : List Value} {ds : List PyData} {as : List Addr} {i : Nat} {u : Value}, ReadsAll h us ds as → us[i]? = some u → ∃ d bs, ds[i]? = some d ∧ Reads h u d bs
  | _, _, _, 0, u, .cons r t, e => by cases e; exact ⟨_, _, rfl, r⟩
  | _, _, _, i + 1, u, .cons r t, e => reads_get (i := i) t (by simpa using e)
  | _, _, _, _, u, .nil, e => by simp at e
theorem minP_mem : ∀ (ds : List PyData) (d : PyData), PySem.W.minD d ds ∈ d :: ds
  | [], _ => by simp [PySem.W.minD]
  | y :: ds, d => by
    have := minP_mem ds (if PySem.W.dataLt y d then y else d)
    unfold PySem.W.minD at *
    simp only [List.foldl_cons]
    rcases List.mem_cons.mp this with h | h
    · rw [h]
      split <;> simp
    · simp [h]
theorem cr_minD (hc : X.calm = true) (hu : Hu X) : CallR X (.builtin "min") (rMinD X.K) := by
  intro pins s σ H vs us Q I r h
  obtain ⟨a, xs, p, ps, rfl, hs, hd, hal, hdep, q⟩ := h
  obtain ⟨its, rv, hl, hz⟩ := I.list hs
  rw [Vals.ref1 r]
  obtain ⟨as, hr⟩ := Dp.readsAll I (p :: ps) xs its hd rv
  have hu' : X.A.units + 200 < cLine := hu
  refine PySem.W.min_list_data (vs := its.toArray) (I.ok.hd hc) hl.isList hr hal (by omega) fun i u h' tk bs hi hrd kp => ?_
  have hi' : its[i]? = some u := by simpa using hi
  obtain ⟨v, e1, e2⟩ := vals_get rv hi'
  refine ⟨v, H, I.kept (t' := tk) kp, e2, q i v e1 ?_⟩
  obtain ⟨d, bs', e3, e4⟩ := reads_get hr hi'
  rw [e3, PySem.W.alike_unique d _ u bs' bs (hal.1 d (List.mem_of_getElem? e3) _ (minP_mem ps p)) (PyProof.Rows.Reads.keeps kp e4) hrd]
theorem cw_minL (hc : X.calm = true) (hu : Hu X) : HCall X cl (.builtin "min") (vlN minLW) := VN.h fun y S b ws vs rs u e Q g => by
  unfold minLW at e
  split at e
  · rename_i w
    obtain ⟨v, rfl, r⟩ := rwl1 rs
    split at e
    · rename_i us q
      split at e
      · rename_i d ds hd
        obtain ⟨⟨h1, h2, h3, h4⟩, rfl⟩ := ifc_some e
        obtain ⟨p, vs, rfl, t, l⟩ := lstW_ok b r q
        have rp := dats_ok l hd
        refine ⟨_, cr_minD hc hu, p, vs, toPy d, ds.map toPy, rfl, .inl (.inl t), toPyL_all (d :: ds) vs h3 (RpL.xt b.fz _ _ rp), h1, h4, fun i v hv hm => ?_⟩
        have hm' : ((d :: ds).map toPy)[i]? = some (PySem.W.minD (toPy d) (ds.map toPy)) := hm
        rw [List.getElem?_map] at hm'
        obtain ⟨x, hx, ex⟩ := Option.map_eq_some_iff.mp hm'
        have hxe : x = minDD d ds := toPy_inj x _ (plainL_mem h2 (List.mem_of_getElem? hx)) (plainL_mem h2 (minDD_mem ds d)) (ex.trans (minDD_py ds d).symm)
        have rw1 : RW X.K cl y (.da x) v := by
          obtain ⟨v', e1, e2⟩ := RWL.get (rwl_da rp) (show ((d :: ds).map W.da)[i]? = some (.da x) by rw [List.getElem?_map, hx]; rfl)
          rw [hv] at e1
          cases e1
          exact e2
        rw [← hxe] at g
        exact gv_w b g rw1
      · cases e
    · cases e
  · cases e
/-! ### tuple(x), str(x), int(x) -/
def tupleF (mk : Option Cell → Sto → Rs W) : List W → Sto → Rs W := fun ws S => match ws with
  | [w] => match lstW S w with
    | some us => mk (some (.tup us)) S
    | none => match tupW S w with
      | some _ => .ok w S
      | none => .stuck
  | _ => .stuck
theorem hc_tuple {mk : Option Cell → Sto → Rs W} (hmk : ∀ (xa : Option (Nat × Addr)) (Wx : WX) (C : Cn) (y : Y) (σ : St) (ρ : Rho) (S : Sto) (o : Option Cell) (Q : VK), Sim X.K cl xa C y σ ρ S → Post X.K cl xa C Wx y σ ρ (mk o S) (OkE X.K cl xa C y σ ρ Q) → ∃ c, o = some c ∧ Gn X.K cl y c Q) :
    HCall X cl (.type "tuple") (tupleF mk) := fun xa C Wx y σ ρ S s ws vs rs Q h => by
  unfold tupleF at h
  split at h
  · rename_i w
    obtain ⟨v, rfl, r⟩ := rwl1 rs
    split at h
    · rename_i us q
      obtain ⟨p, vs, rfl, t, l⟩ := lstW_ok s.bs r q
      obtain ⟨c, e, g⟩ := hmk xa Wx C y σ ρ S _ Q s h
      cases e
      exact ⟨_, call_tuple_of, p, vs, rfl, .inl ⟨.inl (.inl t), fun q hq => g q _ hq ⟨_, upd_same, upd_rw l⟩⟩⟩
    · split at h
      · rename_i us q
        obtain ⟨p, vs, rfl, t, l⟩ := tupW_ok s.bs r q
        obtain ⟨u', e, g⟩ := post_val (o := some w) s h
        cases e
        exact ⟨_, call_tuple_of, p, vs, rfl, .inr ⟨t, gv_w s.bs g r⟩⟩
      · exact h.elim
  · exact h.elim
theorem hc_tupleD : HCall X cl (.type "tuple") (tupleF mkD) := hc_tuple fun xa Wx C y σ ρ S o Q s h => post_newD s h
theorem hc_tupleC : HCall X cl (.type "tuple") (tupleF mkC) := hc_tuple fun xa Wx C y σ ρ S o Q s h => post_newC s h
noncomputable def strW : List W → Sto → Option W
  | [.da (.int i)], _ => ifc (i.natAbs.log2 < 1920) (some (.da (.str (toString i)))) none
  | [.da (.str x)], _ => some (.da (.str x))
  | _, _ => none
theorem cw_str : HCall X cl (.type "str") (vlN strW) := VN.h fun y S b ws vs rs u e Q g => by
  unfold strW at e
  split at e
  · obtain ⟨hz, rfl⟩ := ifc_some e
    obtain ⟨v, rfl, r⟩ := rwl1 rs
    cases r
    exact ⟨_, call_str_int, _, rfl, hz, gv_da b g rfl⟩
  · cases e
    obtain ⟨v, rfl, r⟩ := rwl1 rs
    cases r
    exact ⟨_, SkE.call_str_str, _, rfl, gv_da b g rfl⟩
  · cases e
noncomputable def intSW : List W → Sto → Option W
  | [.da (.str a)], _ => match PySem.intText? a with
    | some n => ifc (a.length ≤ 640) (some (.da (.int n))) none
    | none => none
  | ws, S => intW ws S
theorem cw_intS : HCall X cl (.type "int") (vlN intSW) := fun xa C Wx y σ ρ S s ws vs rs Q h => by
  unfold vlN at h
  obtain ⟨u, e, g⟩ := post_val s h
  unfold intSW at e
  split at e
  · split at e
    · rename_i n hn
      obtain ⟨hz, rfl⟩ := ifc_some e
      obtain ⟨v, rfl, r⟩ := rwl1 rs
      cases r
      exact ⟨_, call_int_str, _, _, rfl, hn, hz, gv_da s.bs g rfl⟩
    · cases e
  · rename_i hne
    refine cw_int xa C Wx y σ ρ S s ws vs rs Q ?_
    have e2 : intSW ws S = intW ws S := by
      unfold intSW
      split
      · exact (hne _ rfl).elim
      · rfl
    show Post X.K cl xa C Wx y σ ρ (lift (intW ws S) S) _
    rw [← e2]
    exact h
/-! ### more of texts -/
def swW (w : W) (ws : List W) (_ : Sto) : Option W := match w, ws with
  | .da (.str a), [.da (.str b)] => some (.da (.bl (Txt.startswith a b)))
  | _, _ => none
theorem hm_startswith : HMt X cl "str.startswith" (vmt swW) := hm_val fun y S w v ws vs u Q b r rs e g => by
  unfold swW at e
  split at e
  · cases e
    cases r
    obtain ⟨v, rfl, r1⟩ := rwl1 rs
    cases r1
    exact ⟨_, mt_startswith, _, _, rfl, rfl, gv_da b g rfl⟩
  · cases e
noncomputable def splitC (w : W) (ws : List W) : Option Cell := match w, ws with
  | .da (.str a), [.da (.str b)] => ifc ((b.length == 0) = false ∧ a.length + 2 ≤ sizeLine) (some (.lst ((Txt.split a b).map fun s => .da (.str s)))) none
  | _, _ => none
noncomputable def splF (mk : Option Cell → Sto → Rs W) : W → List W → Sto → Rs W := fun w ws S => mk (splitC w ws) S
theorem rwl_strs {K : PySem.W.Frag} {y : Y} : ∀ ys : List Str, RWL K cl y (ys.map fun s => .da (.str s)) (ys.map V.str)
  | [] => .nil
  | _ :: ys => .cons rfl (rwl_strs ys)
theorem hm_splitD : HMt X cl "str.split" (splF mkD) := fun xa C Wx y σ ρ S s w v r ws vs rs Q h => by
  obtain ⟨c, e, g⟩ := post_newD s h
  unfold splitC at e
  split at e
  · obtain ⟨hz, rfl⟩ := ifc_some e
    cases r
    obtain ⟨v, rfl, r1⟩ := rwl1 rs
    cases r1
    exact ⟨_, mt_split, _, _, rfl, rfl, hz.1, hz.2, fun p hp => g p _ hp ⟨_, upd_same, upd_rw (rwl_strs _)⟩⟩
  · cases e
/-! ### f-texts -/
noncomputable def fmtW (w : W) : Option Str := match w with
  | .da (.str y) => ifc (y.length ≤ sizeLine) (some y) none
  | .da (.int i) => ifc (i.natAbs.log2 < 1920) (some (toString i)) none
  | _ => none
noncomputable def mFmt (m : ME) : ME := fun ρ S => (m ρ S).bind fun w S => match fmtW w with
  | some y => .ok (.da (.str y)) S
  | none => .stuck
theorem qe_fmt (h : QE X cl xa Wx e me) : QE X cl xa Wx (.FormattedValue e (-1) none pos) (mFmt me) := by
  obtain ⟨t, p, q⟩ := h
  refine ⟨_, pe_fmt p, fun C y σ ρ S s Q h => ?_⟩
  refine q C y σ ρ S s _ (Post.go h fun w S1 h1 v z s1 g1 r1 => ?_)
  have h2 := h1 z g1
  split at h2
  · rename_i yy hy
    unfold fmtW at hy
    split at hy
    · obtain ⟨hz, e⟩ := ifc_some hy
      cases e
      cases r1
      exact .inl ⟨_, rfl, hz, h2 _ z s1 g1 rfl⟩
    · obtain ⟨hz, e⟩ := ifc_some hy
      cases e
      cases r1
      exact .inr ⟨_, rfl, hz, h2 _ z s1 g1 rfl⟩
    · cases hy
  · exact h2.elim
abbrev MJ := Str → Rho → Sto → Rs Str
def mjNil : MJ := fun acc _ S => .ok acc S
noncomputable def mjCons (m : ME) (r : MJ) : MJ := fun acc ρ S => (m ρ S).bind fun w S => match w with
  | .da (.str y) => ifc ((acc ++ y).length ≤ sizeLine) (r (acc ++ y) ρ S) .stuck
  | _ => .stuck
def SJ (K : PySem.W.Frag) (cl : Str → Option Addr) (xa : Option (Nat × Addr)) (Wx : WX) (ts : List TE) (m : MJ) : Prop := ∀ acc C y σ ρ S, Sim K cl xa C y σ ρ S → ∀ Q, Post K cl xa C Wx y σ ρ (m acc ρ S) (fun t S' => ∀ z, Sim K cl xa C z σ ρ S' → Gr y z → Q t z.H) → tJs ts acc σ y.H Q
def QJ (X : Cx) (cl : Str → Option Addr) (xa : Option (Nat × Addr)) (Wx : WX) (es : List Expr) (m : MJ) : Prop := ∃ ts, PJ X es ts ∧ SJ X.K cl xa Wx ts m
theorem qj_nil : QJ X cl xa Wx [] mjNil := ⟨_, .nil, fun acc C y σ ρ S s Q h => h y s (Gr.refl _)⟩
theorem ifc_post {K : PySem.W.Frag} {α : Type} {C : Cn} {y : Y} {σ : St} {ρ : Rho} {p : Prop} {r : Rs α} {k : α → Sto → Prop} (h : Post K cl xa C Wx y σ ρ (ifc p r .stuck) k) : p ∧ Post K cl xa C Wx y σ ρ r k := by
  by_cases hp : p
  · rw [ifc_pos hp] at h; exact ⟨hp, h⟩
  · rw [ifc_neg hp] at h; exact h.elim
theorem qj_cons {mr : MJ} (h : QE X cl xa Wx e me) (hr : QJ X cl xa Wx es mr) : QJ X cl xa Wx (e :: es) (mjCons me mr) := by
  obtain ⟨t, p, q⟩ := h
  obtain ⟨ts, ps, qs⟩ := hr
  refine ⟨_, .cons p ps, fun acc C y σ ρ S s Q h => ?_⟩
  refine q C y σ ρ S s _ (Post.go h fun w S1 h1 v z s1 g1 r1 => ?_)
  have h2 := h1 z g1
  split at h2
  · rename_i yy
    cases (show v = .str yy from r1)
    obtain ⟨hz, h3⟩ := ifc_post h2
    exact ⟨yy, rfl, hz, qs _ C z σ ρ S1 s1 Q (Post.imp h3 fun t S2 h4 z2 s2 g2 => h4 z2 s2 (g1.trans g2))⟩
  · exact h2.elim
noncomputable def mJoined (m : MJ) : ME := fun ρ S => (m Str.empty ρ S).bind fun t S => .ok (.da (.str t)) S
theorem qe_joined {v1 v2 : Expr} {rest : List Expr} {m : MJ} (h : QJ X cl xa Wx (v1 :: v2 :: rest) m) : QE X cl xa Wx (.JoinedStr (v1 :: v2 :: rest) pos) (mJoined m) := by
  obtain ⟨ts, ps, qs⟩ := h
  refine ⟨_, pe_joined ps, fun C y σ ρ S s Q h => ?_⟩
  exact qs Str.empty C y σ ρ S s _ (Post.go h fun t S1 h1 z s1 g1 => h1 z g1 _ z s1 g1 rfl)
end
end Ng
namespace Ng
open PySem L2
/-! ### comprehensions over range(a, b) -/
section
variable {X : Cx} {cl : Str → Option Addr} {xa : Option (Nat × Addr)} {Wx : WX} {pos : Pos} {elt tg iter a b : Expr} {ifs : List Expr} {scope : Scope} {own : List (Str × Nat)} {mi me : ME} {mr : MA} {mt : MT} {g : MG} {gt : TG} {mk : Option Cell → Sto → Rs W}
theorem walk_lcR2 {t : TA} (hmk : MkOk X.K cl xa mk) (q : SA X.K cl xa Wx t mr) {vs0 : List Nat} (hsg : SGw X.K cl vs0 gt g) : SE X.K cl xa Wx (tLc (iRng2 t) gt (TTm X.K cl xa W0 mt) (TEm X.K cl xa W0 me) vs0) (mLcR mk rng2 mr vs0 g mt me) := by
  intro C y σ ρ S s Q h
  refine q C y σ ρ S s _ (Post.go h fun ws S1 h1 vs z s1 g1 r1 => ?_)
  have h2 := h1 z g1
  split at h2
  · rename_i lo k e
    unfold rng2 at e
    split at e
    · rename_i i j
      obtain ⟨hj, e⟩ := ifc_some e
      cases e
      obtain ⟨v, v2, rfl, rv, rv2⟩ := rwl2 r1
      cases (show v = .int lo from rv)
      cases (show v2 = .int j from rv2)
      rw [lcM_P] at h2
      refine ⟨lo, j, rfl, hj, fun pp hp => ?_⟩
      cases e2 : lcP (fun _ => True) g mt me (wipeR ρ vs0) (intsW lo (j - lo).toNat) [] S1 with
      | stuck => rw [e2] at h2; exact h2.elim
      | ex x S' => exact absurd e2 (lcP_noex _ _ _ _ _)
      | ok ys S' =>
        rw [e2] at h2
        exact run_lc hsg (wk_rng (G := fun y S => True)) (fun y S g p => trivial) s1 hp e2 fun z2 vacc s2 g2 k1 k2 k3 k4 k5 => hmk C Wx z z2 σ ρ S' ys vacc pp Q s2 g2 k1 k2 k3 k4 k5 (Post.re h2 g1)
    · cases e
  · exact h2.elim
theorem qe_lcR2 {p p' : Pos} (hmk : MkOk X.K cl xa mk) (hc : X.calm = true) (hN : X.N.Nodup) (hgl : Gl X "range") (hm : X.mg "range" = none) (ha : QA X cl xa Wx [a, b] mr) (ok : BlkOk X.N X.env.scope scope own) (hsg : SGw X.K cl (own.map (·.2)) gt g)
    (hg : ∀ (s : Shared) (H : Hp) (A : Addr) (c2 : List (Str × Addr)) (fp : List Addr), PG (X.blk s H scope (compEnvC scope c2 A X.env) fp) tg gt)
    (ht : ∀ (s : Shared) (H : Hp) (A : Addr) (c2 : List (Str × Addr)) (fp : List Addr), PTs (X.blk s H scope (compEnvC scope c2 A X.env) fp) ifs (TTm X.K cl xa W0 mt))
    (he : ∀ (s : Shared) (H : Hp) (A : Addr) (c2 : List (Str × Addr)) (fp : List Addr), QE (X.blk s H scope (compEnvC scope c2 A X.env) fp) cl xa W0 elt me)
    (hst : starEach [a, b] X.env = [(false, eval a X.env), (false, eval b X.env)] := by rfl) (hst2 : starEach [b] X.env = [(false, eval b X.env)] := by rfl) (hs : ∀ x, foldedSetIterable (.Call (.Name "range" p) [a, b] [] p') X.env x = pure x := by intro _; rfl) :
    QE X cl xa Wx (.ListComp elt [⟨tg, .Call (.Name "range" p) [a, b] [] p', ifs, 0⟩] scope pos) (mLcR mk rng2 mr (own.map (·.2)) g mt me) := by
  obtain ⟨t, pa, q⟩ := ha
  exact ⟨_, pe_lc (te := TEm X.K cl xa W0 me) hc hN (pi_range2 hgl hm pa hst hst2) ok hg ht (fun s H A c2 fp => pe_m (he s H A c2 fp)) hs, walk_lcR2 hmk q hsg⟩
theorem qs_setLcR2 {i : Nat} {y : Str} {py spos p p' : Pos} (hmk : MkOk X.K cl xa mk) (hc : X.calm = true) (hN : X.N.Nodup) (hy : X.N[i]? = some y) (hyl : X.env.scope.names.lookup y = some .local)
    (hsw : swapsWith (.ListComp elt [⟨tg, .Call (.Name "range" p) [a, b] [] p', ifs, 0⟩] scope pos) (some (.Name y py)) spos.line X.env = pure true) (hgl : Gl X "range") (hm : X.mg "range" = none) (ha : QA X cl xa Wx [a, b] mr) (ok : BlkOk X.N X.env.scope scope own) (hsg : SGw X.K cl (own.map (·.2)) gt g)
    (hg : ∀ (s : Shared) (H : Hp) (A : Addr) (c2 : List (Str × Addr)) (fp : List Addr), PG (X.blk s H scope (compEnvC scope c2 A X.env) fp) tg gt)
    (ht : ∀ (s : Shared) (H : Hp) (A : Addr) (c2 : List (Str × Addr)) (fp : List Addr), PTs (X.blk s H scope (compEnvC scope c2 A X.env) fp) ifs (TTm X.K cl xa W0 mt))
    (he : ∀ (s : Shared) (H : Hp) (A : Addr) (c2 : List (Str × Addr)) (fp : List Addr), QE (X.blk s H scope (compEnvC scope c2 A X.env) fp) cl xa W0 elt me)
    (hst : starEach [a, b] X.env = [(false, eval a X.env), (false, eval b X.env)] := by rfl) (hst2 : starEach [b] X.env = [(false, eval b X.env)] := by rfl) (hs : ∀ x, foldedSetIterable (.Call (.Name "range" p) [a, b] [] p') X.env x = pure x := by intro _; rfl) :
    QS X cl xa Wx (.Assign [.Name y py] (.ListComp elt [⟨tg, .Call (.Name "range" p) [a, b] [] p', ifs, 0⟩] scope pos) spos) (mSet i (mLcR mk rng2 mr (own.map (·.2)) g mt me)) := by
  obtain ⟨t, pa, q⟩ := ha
  exact ⟨_, ps_setLc (te := TEm X.K cl xa W0 me) hc hN hy hyl hsw (pi_range2 hgl hm pa hst hst2) ok hg ht (fun s H A c2 fp => pe_m (he s H A c2 fp)) hs, ss_set (walk_lcR2 hmk q hsg)⟩
end
/-! ### a text so many times -/
noncomputable def mulSW (x y : W) (S : Sto) : Option W := match x, y with
  | .da (.str z), .da (.int n) => ifc (PySem.MulOk z n) (some (.da (.str (Txt.mul z n)))) none
  | _, _ => mulW x y S
section
variable {X : Cx} {cl : Str → Option Addr}
theorem op_mulS : OpR X (binaryOp .Mult) (fun x y H Q => ∃ z n, x = .str z ∧ y = .int n ∧ PySem.MulOk z n ∧ Q (.str (Txt.mul z n)) H) := by
  intro pins s σ H x y v u Q I rx ry h
  obtain ⟨z, n, rfl, rfl, hz, q⟩ := h
  obtain ⟨t, rfl⟩ := rx
  obtain ⟨t2, rfl⟩ := ry
  exact SB.mul hz fun t' k => ⟨.str _, H, I.tok k, ⟨t', rfl⟩, q⟩
theorem ow_mulS : HOp X cl (binaryOp .Mult) (vl2 mulSW) := fun xa C Wx y σ ρ S s w w' v v' r r' Q h => by
  obtain ⟨u, e, g⟩ := post_val s h
  by_cases hs : ∃ z n, w = .da (.str z) ∧ w' = .da (.int n)
  · obtain ⟨z, n, rfl, rfl⟩ := hs
    unfold mulSW at e
    obtain ⟨hz, rfl⟩ := ifc_some e
    cases r
    cases r'
    exact ⟨_, op_mulS, z, n, rfl, rfl, hz, gv_da s.bs g rfl⟩
  · have e2 : mulSW w w' S = mulW w w' S := by
      unfold mulSW
      split
      · exact absurd ⟨_, _, rfl, rfl⟩ hs
      · rfl
    refine ow_mul xa C Wx y σ ρ S s w w' v v' r r' Q ?_
    show Post X.K cl xa C Wx y σ ρ (lift (mulW w w' S) S) _
    rw [← e2]
    exact h
end
end Ng
namespace Ng
open PySem PySem.Spec PyProof.Rows L2
/-! ### d.items() of locked dicts -/
/-- the pairs of a locked dict of tuple keys, each a new tuple of the key's own tuple and the value -/
def Itit (d : Addr) (o : Obj) (kvs : List (List Key × V)) : It :=
  ⟨fun i H => H d = some (.frz o (.dT kvs)) ∧ i < kvs.length, fun i H x H' => ∃ (T : Addr) (q : Addr) (k : List Key) (v : V), kvs[i]? = some (k, v) ∧ x = .ref T ∧ H q = some (.tup (k.map kV)) ∧ H T = none ∧ H' = upd H T (.tup [.ref q, v]), fun i H => H d = some (.frz o (.dT kvs)) ∧ kvs.length ≤ i⟩
section
variable {X : Cx} {pins : List (Addr × Obj)} {σ : L2.St} {H : Hp} {s : Shared} {d : Addr} {o : Obj}
theorem inv_frzT {kvs : List (List Key × V)} (I : Inv X pins σ H s) (h : H d = some (.frz o (.dT kvs))) :
    (d == sysModules) = false ∧ ∃ (es : Array DictEntry) (ep : Nat), s.heap.DictRaw d es ep ∧ o.data = .dict es ep ∧ es.size = kvs.length ∧
      ∀ (i : Nat) (k : List Key) (v : V), kvs[i]? = some (k, v) → ∃ (en : DictEntry) (q : Addr), es[i]? = some en ∧ en.key = .ref q ∧ H q = some (.tup (k.map kV)) ∧ RelV v en.val := by
  obtain ⟨hd, z, hs, xs, pr, o', es, ep, ho, hx, hdt, he, _⟩ := I.hok d _ h
  rw [hd] at ho
  cases ho
  refine ⟨hs, es, ep, ⟨o, hd, hx, hdt⟩, hdt, ?_, fun i k v e => ?_⟩
  · have l1 : es.size = xs.length := size_of_entries he
    have l2 : kvs.length = xs.length := Paired.length pr
    omega
  · obtain ⟨b, hb, e1, e2, e3⟩ := L2.paired_get pr e
    have q := entry_at he i
    rw [hb] at q
    exact ⟨_, b.2.1, q, rfl, e2, e3⟩
end
section
variable {P : Program} {w : World} {K : PySem.W.Frag} {tg : Expr} {d : Addr} {o : Obj} {es : Array DictEntry} {ep : Nat}
theorem turn_itemsT {kvs : List (List Key × V)} {elts : List Expr} {kk : Nat} {tpos : Pos} (it : Addr) (hod : o.data = .dict es ep) :
    Turn P w K (.Tuple elts kk tpos) (Itit d o kvs) [it] it (fun i h => ∃ ok ov, IsItemIter h it d i kvs.length ep ok ov) where
  mem := by simp
  obj := fun i h st b hb => by
    have e : b = it := by simpa using hb
    subst e
    obtain ⟨ok, ov, e⟩ := st
    exact ⟨_, e, fun v z => nomatch z⟩
  keep := fun i h h' st k => let ⟨ok, ov, e⟩ := st; ⟨ok, ov, k it (by simp) _ e⟩
  item := by
    intro X hP hw hK hc i pins s σ H E I hf st hg
    subst hP hw hK
    obtain ⟨hd, hi⟩ := hg
    obtain ⟨hs, es', ep', hraw, hdt, hsz, ent⟩ := inv_frzT I hd
    obtain ⟨rfl, rfl⟩ := dict_ep hod hdt
    obtain ⟨⟨k, v⟩, hkv⟩ : ∃ p, kvs[i]? = some p := ⟨kvs[i], List.getElem?_eq_getElem hi⟩
    obtain ⟨en, q, hen, hkey, hq, ru⟩ := ent i k v hkv
    have hi' : i < es'.size := by omega
    have hen' : es'[i] = en := by
      have z := Array.getElem?_eq_getElem hi'
      rw [hen] at z
      exact (Option.some.inj z).symm
    obtain ⟨ok, ov, he⟩ := st
    rw [← hsz] at he
    have hlt : it < s.heap.objs.size := Heap.lt_size he
    refine wpAny_pyNext_items_item_raw he hraw hi' fun h' ho hT hz hk => ?_
    rw [hen', hkey] at ho hT
    refine ⟨_, rfl, wpAny_letOwnedTupleGo_items (s := { s with heap := h' }) ho fun h'' he' sb => ?_⟩
    have hT2 : h''.get? s.heap.objs.size = some { cls := .type "tuple", data := .seq #[.ref q, en.val] } := (sb.2 _ (Nat.ne_of_gt hlt)).trans hT
    have new : ObjOk X.prog X.w (upd H s.heap.objs.size (.tup [.ref q, v])) h'' s.heap.objs.size (.tup [.ref q, v]) :=
      ⟨by show 2 ≤ sizeLine; decide, [.ref q, en.val], .cons (show RelV (.ref q) (.ref q) from rfl) (.cons ru .nil), ⟨_, hT2, rfl, _, rfl⟩⟩
    have I1 : Inv X pins σ (upd H s.heap.objs.size (.tup [.ref q, v])) { s with heap := h'' } :=
      I.turnedNew (t' := s.toks) (ch := [it]) (fun b ob hb e => (sb.2 b (by simpa using hb)).trans (hk b ob (by simpa using hb) e)) hf (Nat.le_refl _) new
    refine ⟨.ref s.heap.objs.size, _, I1, rfl, ⟨_, q, k, v, hkv, rfl, hq, I.hok.fresh (Nat.le_refl _), rfl⟩, ⟨.ref q, en.val, ?_⟩, fun b hb => ?_⟩
    · rw [← hsz]; exact he'
    · have e : b = it := by simpa using hb
      rw [e, upd_ne (Nat.ne_of_lt hlt)]
      exact (hf it (by simp)).1
  done := by
    intro X hP hw hK hc i pins s σ H E I hf st hg
    subst hP hw hK
    obtain ⟨hd, hi⟩ := hg
    obtain ⟨f0, f1, f2, f3, f4, f5⟩ := hf it (by simp)
    obtain ⟨hs, es', ep', hraw, hdt, hsz, ent⟩ := inv_frzT I hd
    obtain ⟨rfl, rfl⟩ := dict_ep hod hdt
    obtain ⟨ok, ov, he⟩ := st
    rw [← hsz] at he
    exact wpAny_pyNext_items_end_raw (I.ok.hd hc) he hraw (by omega) fun h' eb => ⟨rfl, I.turned (t' := s.toks) (fun b ob hb e => eb b ob hb e) f0 f1 f3 f4 f5⟩
  self := fun A i s Q E st h => let ⟨_, _, e⟩ := st; PySem.W.kcp_self e h
end
def iItemsT (td : TE) : TI := fun σ H R => td σ H fun x H1 => ∃ d o kvs, x = .ref d ∧ H1 d = some (.frz o (.dT kvs)) ∧ R (Itit d o kvs) H1
theorem pi_itemsT {X : Cx} {e : Expr} {td : TE} {apos cpos : Pos} {elts : List Expr} {kk : Nat} {tpos : Pos} (he : PE X e td) (hbase : attributeBase e "items" X.env (eval e X.env) = eval e X.env := by rfl) (hline : (apos.endLine == cpos.line) = true := by rfl) :
    PI X (.Tuple elts kk tpos) (.Call (.Attribute e "items" apos) [] [] cpos) (iItemsT td) := by
  refine ⟨fun pins s σ H R I h => ?_⟩
  refine wpAny_Call_method (T := "dict") (id := "dict.items") hbase rfl hline F.plainAttrs_dict F.slot_dict_items F.type_dict_items (thn (he.run pins s σ H _ I h) fun u s1 ⟨x, H1, I1, rx, d, o, kvs, ex, hd, q⟩ => ?_)
  subst ex
  obtain rfl : u = Value.ref d := rx
  obtain ⟨hs, es, ep, hraw, hdt, hsz, ent⟩ := inv_frzT I1 hd
  refine ⟨hraw.typeIs, (fun a ea => by cases ea; exact (let ⟨_, h1, h2, _⟩ := hraw; ⟨_, h1, h2.2.1⟩)), ?_⟩
  have I2 : Inv X pins σ H1 { s1 with heap := s1.heap.push { cls := .type "dict_items", data := .fields #[.ref d] } } := I1.kept (t' := s1.toks) fun b ob q => Heap.get?_push_of_some _ q
  have fin : wpAny (model X.prog X.w) X.A (pyIter (.ref s1.heap.objs.size)) (PIE X pins σ (.Tuple elts kk tpos) R) X.xe { s1 with heap := s1.heap.push { cls := .type "dict_items", data := .fields #[.ref d] } } := by
    refine wpAny_pyIter_items_raw (d := d) ⟨_, Heap.get?_push_size _ rfl, rfl, rfl⟩ (hraw.at fun o h => Heap.get?_push_of_some _ h) (pi_one (tk := s1.toks) I2 _ (turn_itemsT _ hdt) ⟨.none, .none, ?_⟩ q)
    rw [← hsz]
    exact Heap.get?_push_size _ rfl
  show wpAny _ _ (callWith cpos (.builtin "dict.items") [.ref d] [] []) _ X.xe s1
  exact method_meetsIn F.slot_dict_items F.entry_dict_items rfl (PySem.evalArgs_none ⟨rfl, hraw.typeIs, F.args_dict_items_1 _, _, meets_dict_items_raw d hs, ⟨es, ep, hraw⟩, fin⟩)
/-- the pairs of data -/
def pairsD : D → Option (List W)
  | .dk ks ds => some ((ks.zip ds).map fun p => .da (.tup [kD p.1, p.2]))
  | .dt ks ds => some ((ks.zip ds).map fun p => .da (.tup [.tup (p.1.map kD), p.2]))
  | _ => none
theorem rpl_kD {K : PySem.W.Frag} {cl : Str → Option Addr} {F : Hp} : ∀ ks : List Key, RpL K cl F (ks.map kD) (ks.map kV)
  | [] => rfl
  | k :: ks => ⟨_, _, rfl, kD_ok k, rpl_kD ks⟩
section
variable {cl : Str → Option Addr}
theorem zip_get {α β : Type} : ∀ {ks : List α} {vs : List β} {i : Nat} {k : α} {v : β}, (ks.zip vs)[i]? = some (k, v) → ks[i]? = some k ∧ vs[i]? = some v
  | [], _, i, k, v, h => by simp at h
  | _ :: _, [], i, k, v, h => by simp at h
  | a :: ks, b :: vs, 0, k, v, h => by simp at h; exact ⟨by simp [h.1], by simp [h.2]⟩
  | a :: ks, b :: vs, i + 1, k, v, h => by
    rw [List.zip_cons_cons, List.getElem?_cons_succ] at h
    obtain ⟨h1, h2⟩ := zip_get h
    exact ⟨by simpa using h1, by simpa using h2⟩
theorem zip_at {α β : Type} {ks : List α} {vs : List β} {i : Nat} {k : α} {v : β} (h1 : ks[i]? = some k) (h2 : vs[i]? = some v) : (ks.zip vs)[i]? = some (k, v) := by
  rw [List.getElem?_zip_eq_some]
  exact ⟨h1, h2⟩
theorem wk_items {K : PySem.W.Frag} {d : Addr} {o : Obj} {ks : List Key} {ds : List D} {vs : List V} {G : Y → Sto → Prop} (hn : ks.length = vs.length) (h : ∀ y S, Bs K cl y S → G y S → y.H d = some (.frz o (.dK (ks.zip vs))) ∧ RpL K cl y.F ds vs) :
    Wk K cl (Iti d o (ks.zip vs)) ((ks.zip ds).map fun p => .da (.tup [kD p.1, p.2])) G := by
  have len : ∀ y S, Bs K cl y S → G y S → ((ks.zip ds).map fun p => W.da (.tup [kD p.1, p.2])).length = (ks.zip vs).length := fun y S b g => by
    have := (h y S b g).2.length
    simp [this]
  refine ⟨fun i y S hi b g => ⟨(h y S b g).1, by rw [len y S b g] at hi; exact hi⟩, fun y S b g => ⟨(h y S b g).1, by rw [len y S b g]; exact Nat.le_refl _⟩, fun i y S x H' hi b g hy => ?_⟩
  obtain ⟨T, k, v, hk, rfl, hT, rfl⟩ := hy
  obtain ⟨h1, h2⟩ := zip_get hk
  have r := (h y S b g).2
  have hd : i < ds.length := by rw [r.length]; exact (List.getElem?_eq_some_iff.mp h2).1
  obtain ⟨v', e1, e2⟩ := RpL.get r (List.getElem?_eq_getElem hd)
  rw [h2] at e1
  cases e1
  have al := Al.new (o := .tup [kV k, v]) b.fz hT
  refine ⟨_, .da (.tup [kD k, ds[i]]), al, by rw [List.getElem?_map, zip_at h1 (List.getElem?_eq_getElem hd)]; rfl, ⟨T, _, rfl, upd_same, _, _, rfl, kD_ok k, _, _, rfl, Rp.xt al.f _ _ e2, rfl⟩⟩
theorem wk_itemsT {K : PySem.W.Frag} {d : Addr} {o : Obj} {ks : List (List Key)} {ds : List D} {vs : List V} {G : Y → Sto → Prop} (hn : ks.length = vs.length) (h : ∀ y S, Bs K cl y S → G y S → y.H d = some (.frz o (.dT (ks.zip vs))) ∧ RpL K cl y.F ds vs) :
    Wk K cl (Itit d o (ks.zip vs)) ((ks.zip ds).map fun p => .da (.tup [.tup (p.1.map kD), p.2])) G := by
  have len : ∀ y S, Bs K cl y S → G y S → ((ks.zip ds).map fun p => W.da (.tup [.tup (p.1.map kD), p.2])).length = (ks.zip vs).length := fun y S b g => by
    have := (h y S b g).2.length
    simp [this]
  refine ⟨fun i y S hi b g => ⟨(h y S b g).1, by rw [len y S b g] at hi; exact hi⟩, fun y S b g => ⟨(h y S b g).1, by rw [len y S b g]; exact Nat.le_refl _⟩, fun i y S x H' hi b g hy => ?_⟩
  obtain ⟨T, q, k, v, hk, rfl, hq, hT, rfl⟩ := hy
  obtain ⟨h1, h2⟩ := zip_get hk
  have r := (h y S b g).2
  have hd : i < ds.length := by rw [r.length]; exact (List.getElem?_eq_some_iff.mp h2).1
  obtain ⟨v', e1, e2⟩ := RpL.get r (List.getElem?_eq_getElem hd)
  rw [h2] at e1
  cases e1
  have a1 := Al.tup b.fz hq
  have a2 := Al.new (o := .tup [.ref q, v]) a1.x hT
  refine ⟨_, .da (.tup [.tup (k.map kD), ds[i]]), a1.trans a2, by rw [List.getElem?_map, zip_at h1 (List.getElem?_eq_getElem hd)]; rfl, ⟨T, _, rfl, upd_same, _, _, rfl, ⟨q, _, rfl, a2.f q _ upd_same, rpl_kD k⟩, _, _, rfl, Rp.xt (a1.trans a2).f _ _ e2, rfl⟩⟩
end
noncomputable def mForI (e : ME) (g : MG) (body : MS) : MS := fun ρ S => (e ρ S).out ρ fun w S => match w with
  | .da d => match pairsD d with
    | some ws => loopM g body ws ρ S
    | none => .stuck
  | _ => .stuck
noncomputable def mLcI (mk : Option Cell → Sto → Rs W) (e : ME) (vs : List Nat) (g : MG) (mt : MT) (me : ME) : ME := fun ρ S => (e ρ S).bind fun w S => match w with
  | .da d => match pairsD d with
    | some ws => (lcM g mt me (wipeR ρ vs) ws [] S).bind (mkLst mk)
    | none => .stuck
  | _ => .stuck
section
variable {X : Cx} {cl : Str → Option Addr} {xa : Option (Nat × Addr)} {Wx : WX} {pos apos cpos tpos : Pos} {a b c e elt : Expr} {es elts ifs : List Expr} {kk : Nat} {ma mb mc me mi : ME} {mr : MA} {mt : MT} {st : Stmt} {body : List Stmt} {m n : MS} {g : MG} {gt : TG} {scope : Scope} {own : List (Str × Nat)} {mk : Option Cell → Sto → Rs W}
theorem qs_forI (hp : PassesOwn (model X.prog X.w) X.A X.env X.xe) (hc : X.calm = true) (hi : QE X cl xa Wx e me) (hg : QG X cl xa (.Tuple elts kk tpos) g) (hb : QB X cl xa Wx body m)
    (hbase : attributeBase e "items" X.env (eval e X.env) = eval e X.env := by rfl) (hline : (apos.endLine == cpos.line) = true := by rfl)
    (hs : ∀ x, foldedSetIterable (.Call (.Attribute e "items" apos) [] [] cpos) X.env x = pure x := by intro _; rfl) : QS X cl xa Wx (.For (.Tuple elts kk tpos) (.Call (.Attribute e "items" apos) [] [] cpos) body [] pos) (mForI me g m) := by
  obtain ⟨t, p, q⟩ := hi
  obtain ⟨t2, p2, q2⟩ := hg
  obtain ⟨t3, p3, q3⟩ := hb
  refine ⟨_, ps_anyS, fun C y σ ρ S s Z h => ?_⟩
  by_cases bad : ∀ w S', me ρ S ≠ .ok w S'
  · exact ⟨_, ps_for hp hc (pi_items p hbase hline) p2 p3 hs, q.bad s h bad _⟩
  · cases e0 : me ρ S with
    | stuck => exact absurd (by intro w S' z; rw [e0] at z; cases z) bad
    | ex x S' => exact absurd (by intro w S' z; rw [e0] at z; cases z) bad
    | ok w S0 =>
      unfold mForI at h
      rw [e0] at h
      simp only [Rs.out] at h
      cases w with
      | xc => exact h.elim
      | lo k => exact h.elim
      | da d =>
        simp only at h
        split at h
        · rename_i ws hd
          rw [loopM_P] at h
          unfold pairsD at hd
          split at hd
          · cases hd
            refine ⟨_, ps_for hp hc (pi_items p hbase hline) p2 p3 hs, q.now s e0 fun v z s1 g1 r1 => ?_⟩
            obtain ⟨a, vs, rfl, ⟨o, tl⟩, nl, l⟩ := r1
            exact ⟨a, o, _, rfl, s1.bs.fz _ _ tl, run_for q2 q3 (wk_items (G := fun y S => Gr z y) nl fun y S b g => ⟨b.fz _ _ (g.f _ _ tl), RpL.xt g.f _ _ l⟩) (fun y S g p => g) s1 (PostS.mono g1 h)⟩
          · cases hd
            refine ⟨_, ps_for hp hc (pi_itemsT p hbase hline) p2 p3 hs, q.now s e0 fun v z s1 g1 r1 => ?_⟩
            obtain ⟨a, vs, rfl, ⟨o, tl⟩, nl, l⟩ := r1
            exact ⟨a, o, _, rfl, s1.bs.fz _ _ tl, run_for q2 q3 (wk_itemsT (G := fun y S => Gr z y) nl fun y S b g => ⟨b.fz _ _ (g.f _ _ tl), RpL.xt g.f _ _ l⟩) (fun y S g p => g) s1 (PostS.mono g1 h)⟩
          · cases hd
        · exact h.elim
theorem walk_lcI {t : TE} (hmk : MkOk X.K cl xa mk) (p : PE X e t) (q : SE X.K cl xa Wx t mi) {vs0 : List Nat} (hsg : SGw X.K cl vs0 gt g) {C : Cn} {y : Y} {σ : L2.St} {ρ : Rho} {S : Sto} (s : Sim X.K cl xa C y σ ρ S) {Q : VK}
    (h : Post X.K cl xa C Wx y σ ρ (mLcI mk mi vs0 g mt me ρ S) (OkE X.K cl xa C y σ ρ Q)) (hbase : attributeBase e "items" X.env (eval e X.env) = eval e X.env) (hline : (apos.endLine == cpos.line) = true) :
    ∃ wi, PI X (.Tuple elts kk tpos) (.Call (.Attribute e "items" apos) [] [] cpos) wi ∧ tLc wi gt (TTm X.K cl xa W0 mt) (TEm X.K cl xa W0 me) vs0 σ y.H Q := by
  unfold mLcI at h
  by_cases bad : ∀ w S', mi ρ S ≠ .ok w S'
  · exact ⟨_, pi_items p hbase hline, q.badE s h bad _⟩
  · cases e0 : mi ρ S with
    | stuck => exact absurd (by intro w S' z; rw [e0] at z; cases z) bad
    | ex x S' => exact absurd (by intro w S' z; rw [e0] at z; cases z) bad
    | ok w S0 =>
      rw [e0] at h
      simp only [Rs.bind] at h
      have fin : ∀ {ws : List W} {J : It} {G : Y → Sto → Prop} {z : Y} {pp : Addr}, Post X.K cl xa C Wx y σ ρ ((lcM g mt me (wipeR ρ vs0) ws [] S0).bind (mkLst mk)) (OkE X.K cl xa C y σ ρ Q) → Wk X.K cl J ws G → (∀ y S, Gr z y → True → G y S) → Sim X.K cl xa C z σ ρ S0 → Gr y z → z.H pp = none →
          ∃ W : Nat → Nat → Hp → Prop, (∃ m, W 0 m (upd z.H pp (.lst []))) ∧ ∀ i m H, W i m H →
            (J.stop i H ∧ Q (.ref pp) H) ∨ (J.go i H ∧ ∃ Nx : Hp → Prop, (∀ H', Nx H' → ∃ m', m' < m ∧ W (i + 1) m' H') ∧ ∀ x H', J.yld i H x H' → gt x (L2.wipe σ vs0) H' fun σ2 H2 => L2.wipe σ2 vs0 = L2.wipe σ vs0 ∧ TTm X.K cl xa W0 mt σ2 H2 fun b H3 =>
              if b = true then TEm X.K cl xa W0 me σ2 H3 fun u H4 => ∃ acc, H4 pp = some (.lst acc) ∧ acc.length < sizeLine ∧ Nx (upd H4 pp (.lst (acc ++ [u]))) else Nx H3) := fun {ws J G z pp} h wk hG s1 g1 hp => by
        rw [lcM_P] at h
        cases e2 : lcP (fun _ => True) g mt me (wipeR ρ vs0) ws [] S0 with
        | stuck => rw [e2] at h; exact h.elim
        | ex x S' => exact absurd e2 (lcP_noex _ _ _ _ _)
        | ok ys S' =>
          rw [e2] at h
          exact run_lc hsg wk hG s1 hp e2 fun z2 vacc s2 g2 k1 k2 k3 k4 k5 => hmk C Wx y z2 σ ρ S' ys vacc pp Q s2 (g1.trans g2) k1 k2 k3 k4 k5 h
      cases w with
      | xc => exact h.elim
      | lo k => exact h.elim
      | da d =>
        simp only at h
        split at h
        · rename_i ws hd
          unfold pairsD at hd
          split at hd
          · cases hd
            refine ⟨_, pi_items p hbase hline, q.now s e0 fun v z s1 g1 r1 => ?_⟩
            obtain ⟨a, vs, rfl, ⟨o, tl⟩, nl, l⟩ := r1
            exact ⟨a, o, _, rfl, s1.bs.fz _ _ tl, fun pp hp => fin h (wk_items (G := fun y S => Gr z y) nl fun y S b g => ⟨b.fz _ _ (g.f _ _ tl), RpL.xt g.f _ _ l⟩) (fun y S g p => g) s1 g1 hp⟩
          · cases hd
            refine ⟨_, pi_itemsT p hbase hline, q.now s e0 fun v z s1 g1 r1 => ?_⟩
            obtain ⟨a, vs, rfl, ⟨o, tl⟩, nl, l⟩ := r1
            exact ⟨a, o, _, rfl, s1.bs.fz _ _ tl, fun pp hp => fin h (wk_itemsT (G := fun y S => Gr z y) nl fun y S b g => ⟨b.fz _ _ (g.f _ _ tl), RpL.xt g.f _ _ l⟩) (fun y S g p => g) s1 g1 hp⟩
          · cases hd
        · exact h.elim
theorem qe_lcI (hmk : MkOk X.K cl xa mk) (hc : X.calm = true) (hN : X.N.Nodup) (hi : QE X cl xa Wx e mi) (ok : BlkOk X.N X.env.scope scope own) (hsg : SGw X.K cl (own.map (·.2)) gt g)
    (hg : ∀ (s : Shared) (H : Hp) (A : Addr) (c2 : List (Str × Addr)) (fp : List Addr), PG (X.blk s H scope (compEnvC scope c2 A X.env) fp) (.Tuple elts kk tpos) gt)
    (ht : ∀ (s : Shared) (H : Hp) (A : Addr) (c2 : List (Str × Addr)) (fp : List Addr), PTs (X.blk s H scope (compEnvC scope c2 A X.env) fp) ifs (TTm X.K cl xa W0 mt))
    (he : ∀ (s : Shared) (H : Hp) (A : Addr) (c2 : List (Str × Addr)) (fp : List Addr), QE (X.blk s H scope (compEnvC scope c2 A X.env) fp) cl xa W0 elt me)
    (hbase : attributeBase e "items" X.env (eval e X.env) = eval e X.env := by rfl) (hline : (apos.endLine == cpos.line) = true := by rfl)
    (hs : ∀ x, foldedSetIterable (.Call (.Attribute e "items" apos) [] [] cpos) X.env x = pure x := by intro _; rfl) :
    QE X cl xa Wx (.ListComp elt [⟨.Tuple elts kk tpos, .Call (.Attribute e "items" apos) [] [] cpos, ifs, 0⟩] scope pos) (mLcI mk mi (own.map (·.2)) g mt me) := by
  obtain ⟨t, p, q⟩ := hi
  refine ⟨_, pe_anyE, fun C y σ ρ S s Q h => ?_⟩
  obtain ⟨wi, hpi, hr⟩ := walk_lcI (elts := elts) (kk := kk) (tpos := tpos) (apos := apos) (cpos := cpos) hmk p q hsg s h hbase hline
  exact ⟨_, pe_lc (te := TEm X.K cl xa W0 me) hc hN hpi ok hg ht (fun s H A c2 fp => pe_m (he s H A c2 fp)) hs, hr⟩
theorem qs_setLcI {i : Nat} {y' : Str} {py spos : Pos} (hmk : MkOk X.K cl xa mk) (hc : X.calm = true) (hN : X.N.Nodup) (hy : X.N[i]? = some y') (hyl : X.env.scope.names.lookup y' = some .local)
    (hsw : swapsWith (.ListComp elt [⟨.Tuple elts kk tpos, .Call (.Attribute e "items" apos) [] [] cpos, ifs, 0⟩] scope pos) (some (.Name y' py)) spos.line X.env = pure true) (hi : QE X cl xa Wx e mi) (ok : BlkOk X.N X.env.scope scope own) (hsg : SGw X.K cl (own.map (·.2)) gt g)
    (hg : ∀ (s : Shared) (H : Hp) (A : Addr) (c2 : List (Str × Addr)) (fp : List Addr), PG (X.blk s H scope (compEnvC scope c2 A X.env) fp) (.Tuple elts kk tpos) gt)
    (ht : ∀ (s : Shared) (H : Hp) (A : Addr) (c2 : List (Str × Addr)) (fp : List Addr), PTs (X.blk s H scope (compEnvC scope c2 A X.env) fp) ifs (TTm X.K cl xa W0 mt))
    (he : ∀ (s : Shared) (H : Hp) (A : Addr) (c2 : List (Str × Addr)) (fp : List Addr), QE (X.blk s H scope (compEnvC scope c2 A X.env) fp) cl xa W0 elt me)
    (hbase : attributeBase e "items" X.env (eval e X.env) = eval e X.env := by rfl) (hline : (apos.endLine == cpos.line) = true := by rfl)
    (hs : ∀ x, foldedSetIterable (.Call (.Attribute e "items" apos) [] [] cpos) X.env x = pure x := by intro _; rfl) :
    QS X cl xa Wx (.Assign [.Name y' py] (.ListComp elt [⟨.Tuple elts kk tpos, .Call (.Attribute e "items" apos) [] [] cpos, ifs, 0⟩] scope pos) spos) (mSet i (mLcI mk mi (own.map (·.2)) g mt me)) := by
  obtain ⟨t, p, q⟩ := hi
  refine ⟨_, ps_anyS, fun C y σ ρ S s Z h => ?_⟩
  have h2 : Post X.K cl xa C Wx y σ ρ (mLcI mk mi (own.map (·.2)) g mt me ρ S) (OkE X.K cl xa C y σ ρ fun v H => (gName i) v σ H fun σ' H' => Z.nx σ' H') := PostS.go h fun w S1 h1 v z s1 g1 r1 => h1 y (Gr.refl _) _ z (s1.set i r1) g1
  obtain ⟨wi, hpi, hr⟩ := walk_lcI (elts := elts) (kk := kk) (tpos := tpos) (apos := apos) (cpos := cpos) hmk p q hsg s h2 hbase hline
  exact ⟨_, ps_setLc (te := TEm X.K cl xa W0 me) hc hN hy hyl hsw hpi ok hg ht (fun s H A c2 fp => pe_m (he s H A c2 fp)) hs, hr⟩
end
end Ng
namespace Ng
open PySem PySem.Spec PyProof.Rows L2
/-! ### plain functions called by lists that are cells: what comes out holds no list -/
mutual
def noL : D → Bool
  | .non => true
  | .bl _ => true
  | .int _ => true
  | .str _ => true
  | .tup ds => noLs ds
  | .wt ds => noLs ds
  | .lst _ => false
  | .scr _ => false
  | .dk _ ds => noLs ds
  | .dt _ ds => noLs ds
  | .obj _ _ ds => noLs ds
def noLs : List D → Bool
  | [] => true
  | d :: ds => noL d && noLs ds
end
def noLW : W → Bool
  | .da d => noL d
  | _ => false
def isLT : Option HO → Prop
  | some (.lst _) => True
  | some (.tup _) => True
  | _ => False
open Classical in
/-- list and tuple cells as if they were frozen -/
noncomputable def Y.fzLT (y : Y) : Hp := fun b => if b ∈ y.m ∧ y.F b = none ∧ isLT (y.H b) then y.H b else y.F b
open Classical in
/-- .. and the lists taken out again -/
noncomputable def Y.unL (y : Y) (F' : Hp) : Hp := fun b => if b ∈ y.m ∧ y.F b = none ∧ ∃ vs, y.H b = some (.lst vs) then none else F' b
theorem Y.fzLT_ex (y : Y) : Ex y.F y.fzLT := fun b o e => by
  unfold Y.fzLT
  rw [if_neg (by rintro ⟨_, h, _⟩; rw [e] at h; cases h)]
  exact e
theorem Y.fzLT_h {y : Y} (x : Ex y.F y.H) : Ex y.fzLT y.H := fun b o e => by
  unfold Y.fzLT at e
  split at e
  · exact e
  · exact x b o e
section
variable {K : PySem.W.Frag} {cl : Str → Option Addr} {y : Y} {S : Sto}
theorem fzLT_at (b : Bs K cl y S) {n : Nat} {c : Cell} {a : Addr} (hc : S[n]? = some c) (hd : c ≠ .dead) (ea : y.m[n]? = some a) (hl : isLT (y.H a)) : y.fzLT a = y.H a := by
  unfold Y.fzLT
  cases h : y.F a with
  | none => rw [if_pos ⟨List.mem_of_getElem? ea, rfl, hl⟩]
  | some o => rw [if_neg (fun z => nomatch z.2.1), b.fz a o h]
theorem valLT_ok (b : Bs K cl y S) {w : W} {v : V} {d : D} (r : RW K cl y w v) (h : valW S w = some d) : Rp K cl y.fzLT d v := by
  unfold valW at h
  split at h
  · cases h; exact Rp.xt y.fzLT_ex _ _ r
  · obtain ⟨a, e, rfl⟩ := r
    split at h
    · rename_i ws hc
      obtain ⟨_, vs, e2, l⟩ := b.at hc (by intro z; cases z) e
      obtain ⟨ds, q, rfl⟩ := Option.map_eq_some_iff.mp h
      exact ⟨a, vs, rfl, by rw [fzLT_at b hc (by intro z; cases z) e (by rw [e2]; trivial)]; exact e2, RpL.xt y.fzLT_ex _ _ (dats_ok l q)⟩
    · rename_i ws hc
      obtain ⟨_, vs, e2, l⟩ := b.at hc (by intro z; cases z) e
      obtain ⟨ds, q, rfl⟩ := Option.map_eq_some_iff.mp h
      exact ⟨a, vs, rfl, by rw [fzLT_at b hc (by intro z; cases z) e (by rw [e2]; trivial)]; exact e2, RpL.xt y.fzLT_ex _ _ (dats_ok l q)⟩
    · cases h
  · cases h
theorem valsLT_ok (b : Bs K cl y S) : ∀ {ws : List W} {vs : List V} {ds : List D}, RWL K cl y ws vs → valsW S ws = some ds → RpL K cl y.fzLT ds vs
  | _, _, ds, .nil, h => by cases h; exact rfl
  | w :: ws, _, ds, .cons r t, h => by
    simp only [valsW] at h
    split at h
    · rename_i d ds' e1 e2
      cases h
      exact ⟨_, _, rfl, valLT_ok b r e1, valsLT_ok b t e2⟩
    · cases h
variable {F' H' : Hp}
theorem unL_al (x : Ex y.F y.H) (a : Al y.fzLT y.H F' H') : Al y.F y.H (y.unL F') H' :=
  ⟨fun b o e => by
    unfold Y.unL
    rw [if_neg (by rintro ⟨_, h, _⟩; rw [e] at h; cases h)]
    exact a.f b o (y.fzLT_ex b o e), a.h, fun b o e => by
    unfold Y.unL at e
    split at e
    · cases e
    · exact a.x b o e, fun b o e => by
    unfold Y.unL at e
    split at e
    · cases e
    · rename_i hn
      rcases a.n b o e with z | z | z
      · unfold Y.fzLT at z
        split at z
        · rename_i hc
          right; right
          have hl := hc.2.2
          rw [z] at hl
          cases o with
          | tup xs => exact ⟨xs, rfl⟩
          | lst xs => exact absurd ⟨hc.1, hc.2.1, xs, z⟩ hn
          | _ => exact hl.elim
        · exact .inl z
      · exact .inr (.inl z)
      · exact .inr (.inr z)⟩
theorem unL_keep (a : Al y.fzLT y.H F' H') {b : Addr} {o : HO} (e : F' b = some o) (hn : ∀ xs, o ≠ .lst xs) : y.unL F' b = some o := by
  unfold Y.unL
  rw [if_neg]
  · exact e
  · rintro ⟨_, _, vs, h⟩
    have h1 := a.h b _ h
    rw [a.x b o e] at h1
    cases h1
    exact hn vs rfl
mutual
theorem unL_rp (a : Al y.fzLT y.H F' H') : ∀ (d : D) (v : V), noL d = true → Rp K cl F' d v → Rp K cl (y.unL F') d v
  | .non, v, _, h => h
  | .bl b, v, _, h => h
  | .int i, v, _, h => h
  | .str s, v, _, h => h
  | .tup ds, v, n, h => by
    obtain ⟨p, vs, e, q, r⟩ := h
    exact ⟨p, vs, e, unL_keep a q (by intro xs z; cases z), unL_rpl a ds vs (by simpa [noL] using n) r⟩
  | .wt ds, v, n, h => by
    obtain ⟨p, vs, e, q, r⟩ := h
    refine ⟨p, vs, e, ?_, unL_rpl a ds vs (by simpa [noL] using n) r⟩
    refine q.imp (fun q => ?_) id
    rcases q with q | ⟨u, q⟩
    · exact .inl (unL_keep a q (by intro xs z; cases z))
    · exact .inr ⟨u, unL_keep a q (by intro xs z; cases z)⟩
  | .lst ds, v, n, h => by simp [noL] at n
  | .scr ds, v, n, h => by simp [noL] at n
  | .dk ks ds, v, n, h => by
    obtain ⟨p, vs, e, ⟨o, q⟩, l, r⟩ := h
    exact ⟨p, vs, e, ⟨o, unL_keep a q (by intro xs z; cases z)⟩, l, unL_rpl a ds vs (by simpa [noL] using n) r⟩
  | .dt ks ds, v, n, h => by
    obtain ⟨p, vs, e, ⟨o, q⟩, l, r⟩ := h
    exact ⟨p, vs, e, ⟨o, unL_keep a q (by intro xs z; cases z)⟩, l, unL_rpl a ds vs (by simpa [noL] using n) r⟩
  | .obj c fs ds, v, n, h => by
    obtain ⟨p, C, dx, vs, e, q, l, n2, r⟩ := h
    exact ⟨p, C, dx, vs, e, q, unL_keep a l (by intro xs z; cases z), n2, unL_rpl a ds vs (by simpa [noL] using n) r⟩
theorem unL_rpl (a : Al y.fzLT y.H F' H') : ∀ (ds : List D) (vs : List V), noLs ds = true → RpL K cl F' ds vs → RpL K cl (y.unL F') ds vs
  | [], vs, _, h => h
  | d :: ds, vs, n, h => by
    obtain ⟨v, r, e, q, t⟩ := h
    have n' : noL d = true ∧ noLs ds = true := by simpa [noLs] using n
    exact ⟨v, r, e, unL_rp a d v n'.1 q, unL_rpl a ds r n'.2 t⟩
end
theorem unL_rwl {m : List Addr} (a : Al y.fzLT y.H F' H') : ∀ {ws : List W} {vs : List V}, ws.all noLW = true → RWL K cl ⟨F', H', []⟩ ws vs → RWL K cl ⟨y.unL F', H', m⟩ ws vs
  | _, _, _, .nil => .nil
  | w :: ws, _, n, .cons r t => by
    simp only [List.all_cons, Bool.and_eq_true] at n
    refine .cons ?_ (unL_rwl a n.2 t)
    cases w with
    | da d => exact unL_rp a d _ n.1 r
    | lo k => cases n.1
    | xc => cases n.1
end
def reN (r : Re D) (S : Sto) : Rs W := match r with
  | .ok d => if noL d = true then .ok (.da d) S else .stuck
  | .ex x => if x.ws.all noLW = true then .ex x S else .stuck
  | .stuck => .stuck
def callN (p : List D → Re D) (ws : List W) (S : Sto) : Rs W := match dats ws with
  | some ds => reK (p ds) S
  | none => match valsW S ws with
    | some ds => reN (p ds) S
    | none => .stuck
def mCallN (p : List D → Re D) (mr : MA) : ME := mCall (callN p) mr
section
variable {X : Cx} {cl : Str → Option Addr} {xa : Option (Nat × Addr)} {Wx : WX}
theorem useN {K : PySem.W.Frag} {C : Cn} {y : Y} {σ : L2.St} {ρ : Rho} {S : Sto} {ws : List W} {vs : List V} {p : List D → Re D} {Q : VK} (s : Sim K cl xa C y σ ρ S) (r : RWL K cl y ws vs) (h : Post K cl xa C Wx y σ ρ (callN p ws S) (OkE K cl xa C y σ ρ Q)) : SpP K cl p vs y.H Q (WE Wx σ) := by
  unfold callN at h
  split at h
  · rename_i ds hd
    refine ⟨y.F, ds, s.bs.fz, dats_ok r hd, ?_⟩
    cases e : p ds with
    | ok d => rw [e] at h; exact fun v F' H' al rd => h v _ (s.al al) al.gr rd
    | ex x => rw [e] at h; exact fun cls dd F' H' al xr => h cls dd _ (s.al al) al.gr (XR.grow (y := ⟨F', H', []⟩) ⟨Ex.refl _, List.nil_prefix⟩ xr)
    | stuck => rw [e] at h; exact h
  · split at h
    · rename_i ds hd
      refine ⟨y.fzLT, ds, y.fzLT_h s.bs.fz, valsLT_ok s.bs r hd, ?_⟩
      cases e : p ds with
      | ok d =>
        rw [e] at h
        simp only [reN] at h
        split at h
        · rename_i hf
          intro v F' H' al rd
          have al2 := unL_al s.bs.fz al
          exact h v _ (s.al al2) al2.gr (unL_rp al d v hf rd)
        · exact h.elim
      | ex x =>
        rw [e] at h
        simp only [reN] at h
        split at h
        · rename_i hf
          intro cls dd F' H' al xr
          have al2 := unL_al s.bs.fz al
          obtain ⟨C', h1, h2, h3⟩ := xr
          refine h cls dd _ (s.al al2) al2.gr ⟨C', h1, h2, h3.imp id ?_⟩
          rintro ⟨h4, d, vs, h5, h6, h7, h8⟩
          exact ⟨h4, d, vs, h5, unL_keep al h6 (by intro xs z; cases z), h7, unL_rwl al hf h8⟩
        · exact h.elim
      | stuck => rw [e] at h; exact h
    · exact h.elim
variable {CX : CXT} {k : Nat} {f : Addr} {fd : FuncData} {ps : List Str} {x : Str} {pp pos : Pos} {e : Expr} {es : List Expr} {mr : MA} {p : List D → Re D} {pS : List W → Sto → Rs W}
theorem qe_callN (G : FnOk X.prog X.w X.K X.mg X.base CX k f fd ps (SpP X.K cl p)) (hr : Room k X.A) (hg : Gl X x) (hm : X.mg x = some (.ref f)) (hk : PySem.W.keepIn X.K (.ref f) = true) (hb : Binds X.K fd ps []) (px : ∀ σ, PassesAt CX X σ (WE Wx σ))
    (ha : QA X cl xa Wx (e :: es) mr) (hdb : (x == ("__debug__" : Str)) = false := by decide) (he : starEach (e :: es) X.env = (false, eval e X.env) :: starEach es X.env := by rfl) (hpl : (backTo pos (starEach es X.env)).any (·.1) = false := by rfl) :
    QE X cl xa Wx (.Call (.Name x pp) (e :: es) [] pos) (mCallN p mr) := by
  obtain ⟨t, pa, q⟩ := ha
  refine ⟨_, pe_callS G hr hg hm hk hb px pa hdb he hpl, fun C y σ ρ S s Q h => ?_⟩
  refine q C y σ ρ S s _ (Post.go h fun ws S1 h1 vs z s1 g1 r1 => ?_)
  exact useN s1 r1 (Post.re (h1 z g1) g1)
end

/-! ### classes -/
structure ClsAt (K : PySem.W.Frag) (mg : Str → Option Value) (cl : Str → Option Addr) (c : Str) (C : Addr) : Prop where
  at_ : cl c = some C
  mgd : mg c = some (.ref C)
  cls : Cls K C
/-- a method of a class of the text's top -/
structure MethAt (K : PySem.W.Frag) (m qual : Str) (st : Stmt) (ps : List Str) (C : Addr) (f : Addr) (fd : FuncData) : Prop where
  fn : Fun K m qual st f fd
  mt : Meth K C m f
  bd : Binds K fd ps []
/-- the classes of which f is a field -/
def FldOk (K : PySem.W.Frag) (cl : Str → Option Addr) (f : Str) (cs : List Str) : Prop := ∀ c ∈ cs, ∀ C, cl c = some C → Cls K C ∧ NoAttr K C f
theorem fldOk_nil {K : PySem.W.Frag} {cl : Str → Option Addr} {f : Str} : FldOk K cl f [] := fun c h => by cases h
theorem fldOk_cons {K : PySem.W.Frag} {cl : Str → Option Addr} {f c : Str} {cs : List Str} {C : Addr} (h : cl c = some C) (hc : Cls K C) (hn : NoAttr K C f) (r : FldOk K cl f cs) : FldOk K cl f (c :: cs) := fun x hx D hD => by
  rcases List.mem_cons.mp hx with rfl | hx
  · rw [h] at hD; cases hD; exact ⟨hc, hn⟩
  · exact r x hx D hD
theorem lookup_look {K : PySem.W.Frag} {cl : Str → Option Addr} {y : Y} {f : Str} : ∀ {fws : List (Str × W)} {fvs : List (Str × V)}, RWP K cl y fws fvs → (∀ w, look fws f = some w → ∃ v, fvs.lookup f = some v ∧ RW K cl y w v) ∧ (look fws f = none → fvs.lookup f = none)
  | _, _, .nil => ⟨fun w e => (by cases e), fun _ => rfl⟩
  | (j, w) :: fws, (j', v) :: fvs, .cons ⟨e, r⟩ t => by
    cases (show j = j' from e)
    simp only [look, List.lookup_cons]
    by_cases h : j = f
    · subst h
      rw [if_pos rfl, beq_self_eq_true]
      refine ⟨fun u e => ?_, fun e => by cases e⟩
      cases e
      exact ⟨v, rfl, r⟩
    · have : (f == j) = false := by simp; exact fun z => h z.symm
      rw [if_neg h, this]
      exact lookup_look t
/-- an instance: its class and its fields -/
def insW (S : Sto) : W → Option (Str × List (Str × W))
  | .da (.obj c fs ds) => some (c, fs.zip (ds.map .da))
  | .lo n => match S[n]? with
    | some (.ins c fws) => some (c, fws)
    | _ => none
  | _ => none
theorem insW_ok {K : PySem.W.Frag} {cl : Str → Option Addr} {y : Y} {S : Sto} (b : Bs K cl y S) {w : W} {v : V} {c : Str} {fws : List (Str × W)} (r : RW K cl y w v) (h : insW S w = some (c, fws)) : ∃ a C dx fvs, v = .ref a ∧ cl c = some C ∧ y.H a = some (.ins C dx fvs) ∧ RWP K cl y fws fvs := by
  unfold insW at h
  split at h
  · cases h
    obtain ⟨a, C, dx, vs, e, q, l, n, t⟩ := r
    exact ⟨a, C, dx, _, e, q, b.fz _ _ l, rwp_of (rwl_da t) n⟩
  · obtain ⟨a, e, rfl⟩ := r
    split at h
    · rename_i hc
      cases h
      obtain ⟨_, C, dx, fvs, k, e2, l⟩ := b.at hc (by intro z; cases z) e
      exact ⟨a, C, dx, fvs, rfl, k, e2, l⟩
    · cases h
  · cases h
def fldW (cs : List Str) (f : Str) (w : W) (S : Sto) : Option W := match insW S w with
  | some (c, fws) => if c ∈ cs then look fws f else none
  | none => none
def mFld (cs : List Str) (f : Str) (me : ME) : ME := mUn (vl1 (fldW cs f)) me
section
variable {X : Cx} {cl : Str → Option Addr} {xa : Option (Nat × Addr)} {Wx : WX} {pos pos' apos cpos : Pos} {e o value : Expr} {es : List Expr} {me mo mv : ME} {mr : MA} {f : Str} {cs : List Str}
theorem qe_fld (hf : FldOk X.K cl f cs) (he : QE X cl xa Wx e me) (hb : attributeBase e f X.env (eval e X.env) = eval e X.env := by rfl) : QE X cl xa Wx (.Attribute e f pos) (mFld cs f me) := by
  obtain ⟨t, p, q⟩ := he
  refine ⟨_, pe_fld p hb, se_un (X := X) (r := fun x H Q => ∃ a C dx fs v, x = .ref a ∧ H a = some (.ins C dx fs) ∧ Cls X.K C ∧ NoAttr X.K C f ∧ fs.lookup f = some v ∧ Q v H) (V1.h ?_) q⟩
  intro y S b w v r u e Q g
  unfold fldW at e
  split at e
  · rename_i c fws hi
    split at e
    · rename_i hc
      obtain ⟨a, C, dx, fvs, rfl, h1, h2, h3⟩ := insW_ok b r hi
      obtain ⟨z, l1, l2⟩ := (lookup_look h3).1 u e
      obtain ⟨k1, k2⟩ := hf c hc C h1
      exact ⟨a, C, dx, fvs, z, rfl, h2, k1, k2, l1, gv_w b g l2⟩
    · cases e
  · cases e
/-- o.f = value -/
def putFW (f : Str) (w : W) : List (Str × W) → List (Str × W)
  | [] => [(f, w)]
  | (g, u) :: r => if g = f then (g, w) :: r else (g, u) :: putFW f w r
theorem putF_rwp {K : PySem.W.Frag} {y : Y} {w : W} {v : V} (rw' : RW K cl y w v) : ∀ {fws : List (Str × W)} {fvs : List (Str × V)}, RWP K cl y fws fvs → RWP K cl y (putFW f w fws) (putF f v fvs)
  | _, _, .nil => .cons ⟨rfl, rw'⟩ .nil
  | (j, u) :: fws, (j', z) :: fvs, .cons ⟨e, r⟩ t => by
    cases (show j = j' from e)
    unfold putFW putF
    by_cases h : j = f
    · subst h
      rw [if_pos rfl, if_pos rfl]
      exact .cons ⟨rfl, rw'⟩ t
    · rw [if_neg h, if_neg h]
      exact .cons ⟨rfl, r⟩ (putF_rwp rw' t)
noncomputable def setFW (cs : List Str) (f : Str) (o w : W) (S : Sto) : Option Sto := match o with
  | .lo n => match S[n]? with
    | some (.ins c fws) => ifc (c ∈ cs ∧ fws.length < 1000) (some (S.set n (.ins c (putFW f w fws)))) none
    | _ => none
  | _ => none
noncomputable def mSetF (cs : List Str) (f : Str) (mo mv : ME) : MS := fun ρ S => (mv ρ S).out ρ fun w S => (mo ρ S).out ρ fun o S => match setFW cs f o w S with
  | some S' => .nx ρ S'
  | none => .stuck
theorem qs_fld (hf : FldOk X.K cl f cs) (ho : QE X cl xa Wx o mo) (hv : QE X cl xa Wx value mv) (hs : swapsWith value (some (.Attribute o f pos')) pos.line X.env = pure false := by rfl) : QS X cl xa Wx (.Assign [.Attribute o f pos'] value pos) (mSetF cs f mo mv) := by
  obtain ⟨t, p, q⟩ := hv
  obtain ⟨t2, p2, q2⟩ := ho
  refine ⟨_, ps_fld p2 p hs, fun C y σ ρ S s Z h => ?_⟩
  refine q C y σ ρ S s _ (PostS.go h fun w S1 h1 v z s1 g1 r1 => ?_)
  refine q2 C z σ ρ S1 s1 _ (PostS.go (h1 z g1) fun w2 S2 h2 v2 z2 s2 g2 r2 => ?_)
  have h4 := h2 z2 g2
  split at h4
  · rename_i S' hS
    unfold setFW at hS
    split at hS
    · rename_i n
      obtain ⟨a, ea, rfl⟩ := r2
      split at hS
      · rename_i c fws hc
        obtain ⟨hz, e⟩ := ifc_some hS
        cases e
        obtain ⟨_, CC, dx, fvs, k, hH, l⟩ := s2.bs.at hc (by intro z; cases z) ea
        obtain ⟨k1, k2⟩ := hf c hz.1 CC k
        have g : Gr z2 (z2.up a (.ins CC dx (putF f v fvs))) := ⟨Ex.refl _, List.prefix_refl _⟩
        refine ⟨a, CC, dx, fvs, rfl, hH, k1, k2, by rw [← Paired.length l]; exact hz.2, ?_⟩
        exact h4 σ _ (s2.upCell hc (by intro z; cases z) ea ⟨CC, dx, _, k, upd_same, RWP.grow g (putF_rwp (r1.grow g2) l)⟩) g
      · cases hS
    · cases hS
  · exact h4.elim
end
/-! methods and makers, with what an error may do at the slots -/
section
variable {X : Cx} {CX : CXT} {k : Nat} {f C : Addr} {fd : FuncData} {ps : List Str} {sp : Sp} {E : L2.St → XK} {x m : Str} {p pos apos : Pos} {e o : Expr} {es : List Expr} {ta : TE} {t : TA}
def tMethS (C : Addr) (m : Str) (sp : Sp) (E : L2.St → XK) (ta : TE) (t : TA) : TE := fun σ H Q => ta σ H fun x H1 => ∃ a dx fs, x = .ref a ∧ H1 a = some (.ins C dx fs) ∧ fs.lookup m = none ∧ t σ H1 fun vs H2 => sp (x :: vs) H2 Q (E σ)
theorem pe_methX {pl : Sem Bool} (he : PE X o ta) (c : Cls X.K C) (hm : Meth X.K C m f) (F : FnOk X.prog X.w X.K X.mg X.base CX k f fd ps sp) (hr : Room k X.A) (hb : Binds X.K fd ps []) (hx : ∀ σ, PassesAt CX X σ (E σ)) (ha : PA X (e :: es) t)
    (hst : starEach (e :: es) X.env = (false, eval e X.env) :: starEach es X.env := by rfl) (hpl : (backTo pos (starEach es X.env)).any (·.1) = false := by rfl)
    (ht : eval (.Call (.Attribute o m apos) (e :: es) [] pos) X.env = (do
      let ov ← eval o X.env
      standAt apos.atName
      let (f, first) ← holding [ov] (getMethod ov m pl)
      callWith pos f first (backTo pos (starEach (e :: es) X.env)) (backToKw pos (keywordEach [] X.env))) := by rfl) :
    PE X (.Call (.Attribute o m apos) (e :: es) [] pos) (tMethS C m sp E ta t) := by
  refine ⟨fun pins s σ H Q I h => ?_⟩
  refine PySem.W.methodCall_KW (pl := pl) (thn (he.run pins s σ H _ I h) fun u s1 ⟨x, H1, I1, rx, a, dx, fs, ex, ea, l, q⟩ => ?_) ht
  subst ex
  obtain rfl : u = Value.ref a := rx
  refine getmeth_ok I1 ea c hm l ?_
  refine PySem.W.callWith_K (first := [.ref a]) (h₀ := X.base) I.ok.mod.kin hm.kp (thn (ha.run pos pins s1 σ H1 _ I1 q) fun us s2 ⟨vs, H2, I2, r, q2⟩ => ⟨I2.kIn, ?_⟩) hst hpl
  exact run_fnS (us := .ref a :: us) (vs := .ref a :: vs) F hr hb (hx σ) I2 (.cons rfl r) q2
theorem pe_methX0 {pl : Sem Bool} (he : PE X o ta) (c : Cls X.K C) (hm : Meth X.K C m f) (F : FnOk X.prog X.w X.K X.mg X.base CX k f fd ps sp) (hr : Room k X.A) (hb : Binds X.K fd ps []) (hx : ∀ σ, PassesAt CX X σ (E σ))
    (ht : eval (.Call (.Attribute o m apos) [] [] pos) X.env = (do
      let ov ← eval o X.env
      standAt apos.atName
      let (f, first) ← holding [ov] (getMethod ov m pl)
      callWith pos f first (backTo pos (starEach [] X.env)) (backToKw pos (keywordEach [] X.env))) := by rfl) :
    PE X (.Call (.Attribute o m apos) [] [] pos) (tMethS C m sp E ta tNil) := by
  refine ⟨fun pins s σ H Q I h => ?_⟩
  refine PySem.W.methodCall_KW (pl := pl) (thn (he.run pins s σ H _ I h) fun u s1 ⟨x, H1, I1, rx, a, dx, fs, ex, ea, l, q⟩ => ?_) ht
  subst ex
  obtain rfl : u = Value.ref a := rx
  refine getmeth_ok I1 ea c hm l ?_
  exact PySem.W.callWith_K0 (first := [.ref a]) I1.kIn hm.kp (run_fnS (us := [.ref a]) (vs := [.ref a]) F hr hb (hx σ) I1 (.cons rfl .nil) q)
def tMakeS (C : Addr) (sp : Sp) (E : L2.St → XK) (t : TA) : TE := fun σ H Q => t σ H fun vs H1 => ∀ x dx, H1 x = none → H1 dx = none → dx ≠ x →
  sp (.ref x :: vs) (upd (upd H1 dx (.own x)) x (.ins C dx [])) (fun v H2 => v = .non ∧ Q (.ref x) H2) (E σ)
theorem run_makeX {pins : List (Addr × Obj)} {σ : L2.St} {H : Hp} {s : Shared} {Q : VK} {us : List Value} {vs : List V} {E : XK} (M : Mk X.K C f) (F : FnOk X.prog X.w X.K X.mg X.base CX k f fd ps sp) (hr : Room (k + 1) X.A) (hb : Binds X.K fd ps [])
    (hx : PassesAt CX X σ E) (I : Inv X pins σ H s) (r : Vals vs us)
    (h : ∀ x dx, H x = none → H dx = none → dx ≠ x → sp (.ref x :: vs) (upd (upd H dx (.own x)) x (.ins C dx [])) (fun v H2 => v = .non ∧ Q (.ref x) H2) E) :
    wpAny (model X.prog X.w) X.A (call (.ref C) us) (EP X pins σ Q) X.xe s := by
  have hq := h (s.heap.objs.size + 1) s.heap.objs.size (I.hok.fresh (Nat.le_succ _)) (I.hok.fresh (Nat.le_refl _)) (Nat.ne_of_lt (Nat.lt_succ_self _))
  have I2 := Inv.made (C := C) I
  have r2 : Vals (V.ref (s.heap.objs.size + 1) :: vs) (Value.ref (s.heap.objs.size + 1) :: us) := .cons rfl r
  have hl : (Value.ref (s.heap.objs.size + 1) :: us).length = ps.length := by
    have e := r2.length
    rw [F.len _ _ _ _ hq] at e
    exact e.symm
  have b := hb { s with heap := (s.heap.push PySem.W.emptyDict).push (PySem.W.instObj C s.heap.objs.size) } (Value.ref (s.heap.objs.size + 1) :: us) I2.kIn (by rw [List.append_nil]; exact hl)
  rw [List.append_nil] at b
  refine wpAny_call (make_map (f := f) I.kIn M.makes M.init (beq_iff_eq.mp M.fn) (codeAny_mono (F.run _ X.stack _ _ ⟨Value.ref (s.heap.objs.size + 1) :: us, []⟩ (Value.ref (s.heap.objs.size + 1) :: us) _ _ E (hr.make C us [])
    (I2.env0.make C us []) b r2 hq) fun r s' hq' => ?_))
  cases r with
  | error e => exact hx pins _ _ e s' I2 hq'
  | ok fl =>
    cases fl with
    | ret u =>
      obtain ⟨v, H', I3, rv, ev, q3⟩ := I2.after hq'
      subst ev
      exact ⟨rv, ⟨V.ref (s.heap.objs.size + 1), H', I3, rfl, q3⟩⟩
    | next => exact False.elim hq'
    | brk => exact False.elim hq'
    | cont => exact False.elim hq'
theorem pe_makeX (M : Mk X.K C f) (F : FnOk X.prog X.w X.K X.mg X.base CX k f fd ps sp) (hr : Room (k + 1) X.A) (hg : Gl X x) (hm : X.mg x = some (.ref C)) (hb : Binds X.K fd ps []) (hx : ∀ σ, PassesAt CX X σ (E σ))
    (ha : PA X (e :: es) t) (hdb : (x == ("__debug__" : Str)) = false := by decide) (he : starEach (e :: es) X.env = (false, eval e X.env) :: starEach es X.env := by rfl) (hpl : (backTo pos (starEach es X.env)).any (·.1) = false := by rfl) :
    PE X (.Call (.Name x p) (e :: es) [] pos) (tMakeS C sp E t) := by
  refine ⟨fun pins s σ H Q I h => ?_⟩
  refine wpAny_Call_Name_kw (ld_glob I hg hm ?_ hdb)
  refine PySem.W.callWith_K (h₀ := X.base) I.ok.mod.kin M.kp (thn (ha.run pos pins s σ H _ I h) fun us s1 ⟨vs, H1, I1, r, q⟩ => ⟨I1.kIn, ?_⟩) he hpl
  exact run_makeX M F hr hb (hx σ) I1 r q
theorem pe_makeX0 (M : Mk X.K C f) (F : FnOk X.prog X.w X.K X.mg X.base CX k f fd ps sp) (hr : Room (k + 1) X.A) (hg : Gl X x) (hm : X.mg x = some (.ref C)) (hb : Binds X.K fd ps []) (hx : ∀ σ, PassesAt CX X σ (E σ))
    (hdb : (x == ("__debug__" : Str)) = false := by decide) : PE X (.Call (.Name x p) [] [] pos) (tMakeS C sp E tNil) := by
  refine ⟨fun pins s σ H Q I h => ?_⟩
  refine wpAny_Call_Name_kw (ld_glob I hg hm ?_ hdb)
  exact PySem.W.callWith_K0 I.kIn M.kp (run_makeX (us := []) M F hr hb (hx σ) I .nil h)
end
/-! a thing made and frozen: a plain function -/
noncomputable def makeP (c : Str) (q : List W → Sto → Rs W) (ds : List D) : Re D := match q (.lo 0 :: ds.map .da) [.ins c []] with
  | .ok (.da .non) S => match datW 5 S (.lo 0) with
    | some (d, _) => .ok d
    | none => .stuck
  | .ex x _ => ifc (x.ws.all isDa = true) (.ex x) .stuck
  | _ => .stuck
theorem upd2_ex {H : Hp} {x dx : Addr} {o o' : HO} (h1 : H x = none) (h2 : H dx = none) : Ex H (upd (upd H dx o) x o') := fun b u e => by
  rw [upd_ne (ne_of_none e h1), upd_ne (ne_of_none e h2)]
  exact e
theorem makeP_ok {K : PySem.W.Frag} {cl : Str → Option Addr} {c : Str} {C : Addr} (hc : cl c = some C) {q : List W → Sto → Rs W} {vs : List V} {H : Hp} {Q : VK} {E : XK} (h : SpP K cl (makeP c q) vs H Q E) {x dx : Addr} (h1 : H x = none) (h2 : H dx = none) (hne : dx ≠ x) :
    SpS K cl q (.ref x :: vs) (upd (upd H dx (.own x)) x (.ins C dx [])) (fun v H2 => v = .non ∧ Lks (Q (.ref x)) H2) E := by
  obtain ⟨F, ds, hx, hr, hp⟩ := h
  have ex := upd2_ex (o := .own x) (o' := .ins C dx []) h1 h2
  have fx : F x = none := hx.no h1
  have b : Bs K cl ⟨F, upd (upd H dx (.own x)) x (.ins C dx []), [x]⟩ [.ins c []] := by
    refine ⟨hx.trans ex, rfl, by simp, fun a ha => ?_, fun n cc e hd => ?_⟩
    · simp at ha; subst ha; show upd _ _ _ _ ≠ none; rw [upd_same]; simp
    · cases n with
      | zero => simp at e; subst e; exact ⟨x, rfl, .inl fx, C, dx, [], hc, upd_same, .nil⟩
      | succ n => simp at e
  refine ⟨_, _, .lo 0 :: ds.map .da, rfl, b, .cons ⟨x, rfl, rfl⟩ (rwl_da hr), ?_⟩
  have al : ∀ z : Y, Ex z.F z.H → Fm (Y.cn ⟨F, upd (upd H dx (.own x)) x (.ins C dx []), [x]⟩) z → Al F H z.F z.H := fun z fz f => by
    refine ⟨f.hf, fun b o e => f.keep b o (ex b o e) (by simp [Y.cn]; exact fun z => by rw [z, h1] at e; cases e), fz, fun b o e => ?_⟩
    rcases f.newF b o e with t | t | t | t
    · exact .inl t
    · right; left
      cases q : H b with
      | none => rfl
      | some u => rw [show (Y.cn ⟨F, upd (upd H dx (.own x)) x (.ins C dx []), [x]⟩).H0 b = some u from ex b u q] at t; cases t
    · simp [Y.cn] at t; subst t; exact .inr (.inl h1)
    · exact .inr (.inr t)
  unfold makeP at hp
  cases e : q (.lo 0 :: ds.map .da) [.ins c []] with
  | stuck => rw [e] at hp; exact hp.elim
  | ex xx S =>
    rw [e] at hp
    simp only at hp
    intro cls dd z bz fz xr
    by_cases ha : xx.ws.all isDa = true
    · rw [ifc_pos ha] at hp
      exact hp cls dd z.F z.H (al z bz.fz fz) (xr_cut ha xr)
    · rw [ifc_neg ha] at hp
      exact hp.elim
  | ok w S =>
    rw [e] at hp
    intro v z bz fz rz
    cases w with
    | xc => exact rz.elim
    | lo k => exact hp.elim
    | da d =>
      cases d with
      | non =>
        refine ⟨rz, ?_⟩
        simp only at hp
        cases e2 : datW 5 S (.lo 0) with
        | none => rw [e2] at hp; exact hp.elim
        | some dS =>
          obtain ⟨d, S2⟩ := dS
          rw [e2] at hp
          have sim : Sim K cl none z.cn z ([] : L2.St) ([] : Rho) S := bz.rebase rfl (fun i w e => by simp at e)
          have r0 : RW K cl z (.lo 0) (.ref x) := ⟨x, pre_get fz.pre rfl, rfl⟩
          refine datW_ok 5 z S (.lo 0) (.ref x) d S2 sim r0 e2 _ fun z2 s2 g2 r2 => .now ?_
          exact hp (.ref x) z2.F z2.H (al z2 s2.bs.fz (fz.trans s2.fm)) r2
      | _ => exact hp.elim
section
variable {X : Cx} {cl : Str → Option Addr} {xa : Option (Nat × Addr)} {Wx : WX} {CX : CXT} {k : Nat} {f C : Addr} {fd : FuncData} {ps : List Str} {c x m : Str} {pp pos apos : Pos} {e o : Expr} {es : List Expr} {mr : MA} {mo : ME} {p : List D → Re D} {pS : List W → Sto → Rs W}
/-- C(..): made, frozen -/
theorem qe_makeP (A : ClsAt X.K X.mg cl c C) (M : Mk X.K C f) (G : FnOk X.prog X.w X.K X.mg X.base CX k f fd ps (SpS X.K cl pS)) (hr : Room (k + 1) X.A) (hg : Gl X c) (hb : Binds X.K fd ps []) (px : ∀ σ, PassesAt CX X σ (WE Wx σ))
    (ha : QA X cl xa Wx (e :: es) mr) (hdb : (c == ("__debug__" : Str)) = false := by decide) (he : starEach (e :: es) X.env = (false, eval e X.env) :: starEach es X.env := by rfl) (hpl : (backTo pos (starEach es X.env)).any (·.1) = false := by rfl) :
    QE X cl xa Wx (.Call (.Name c pp) (e :: es) [] pos) (mCallN (makeP c pS) mr) := by
  obtain ⟨t, pa, q⟩ := ha
  refine ⟨_, pe_lk (pe_makeX M G hr hg A.mgd hb px pa hdb he hpl), fun C y σ ρ S s Q h => ?_⟩
  refine q C y σ ρ S s _ (Post.go h fun ws S1 h1 vs z s1 g1 r1 => ?_)
  exact fun x dx k1 k2 k3 => makeP_ok A.at_ (useN s1 r1 (Post.re (h1 z g1) g1)) k1 k2 k3
/-- .. a cell -/
noncomputable def makeS (c : Str) (q : List W → Sto → Rs W) (ws : List W) (S : Sto) : Rs W := match q (.lo S.length :: ws) (S ++ [.ins c []]) with
  | .ok (.da .non) S' => .ok (.lo S.length) S'
  | .ex x S' => .ex x S'
  | _ => .stuck
theorem useMk {K : PySem.W.Frag} {C : Cn} {y : Y} {σ : L2.St} {ρ : Rho} {S : Sto} {ws : List W} {vs : List V} {q : List W → Sto → Rs W} {Q : VK} {CC : Addr} (hc : cl c = some CC) (s : Sim K cl xa C y σ ρ S) (r : RWL K cl y ws vs) (h : Post K cl xa C Wx y σ ρ (makeS c q ws S) (OkE K cl xa C y σ ρ Q))
    {x dx : Addr} (h1 : y.H x = none) (h2 : y.H dx = none) (hne : dx ≠ x) : SpS K cl q (.ref x :: vs) (upd (upd y.H dx (.own x)) x (.ins CC dx [])) (fun v H2 => v = .non ∧ Q (.ref x) H2) (WE Wx σ) := by
  have sd := s.other (o := .own x) (s.bs.fz.no h2) (fun z => s.bs.has dx z h2) (s.fm.dom dx h2)
  have gd : Gr y (y.up dx (.own x)) := ⟨Ex.refl _, List.prefix_refl _⟩
  have hx' : (y.up dx (.own x)).H x = none := by show upd y.H dx (.own x) x = none; rw [upd_ne hne.symm]; exact h1
  have sn := sd.newCell (o := .ins CC dx []) (c := .ins c []) hx' ⟨CC, dx, [], hc, upd_same, .nil⟩
  have gn := gd.trans ((y.up dx (.own x)).gr_new x (.ins CC dx []))
  have hlen : ((y.up dx (.own x)).new x (.ins CC dx [])).m[S.length]? = some x := by
    show (y.m ++ [x])[S.length]? = some x
    rw [← s.bs.len]; simp
  refine ⟨(y.up dx (.own x)).new x (.ins CC dx []), S ++ [.ins c []], .lo S.length :: ws, rfl, sn.bs, .cons ⟨x, hlen, rfl⟩ (RWL.grow gn r), ?_⟩
  unfold makeS at h
  cases e : q (.lo S.length :: ws) (S ++ [.ins c []]) with
  | stuck => rw [e] at h; exact h.elim
  | ex xx S' =>
    rw [e] at h
    exact fun cls dd z bz fz xr => h cls dd z (sn.after bz fz) (gn.trans fz.gr) xr
  | ok w S' =>
    rw [e] at h
    intro v z bz fz rz
    cases w with
    | xc => exact rz.elim
    | lo k => exact h.elim
    | da d =>
      cases d with
      | non => exact ⟨rz, h (.ref x) z (sn.after bz fz) (gn.trans fz.gr) ⟨x, pre_get fz.pre hlen, rfl⟩⟩
      | _ => exact h.elim
theorem qe_makeS (A : ClsAt X.K X.mg cl c C) (M : Mk X.K C f) (G : FnOk X.prog X.w X.K X.mg X.base CX k f fd ps (SpS X.K cl pS)) (hr : Room (k + 1) X.A) (hg : Gl X c) (hb : Binds X.K fd ps []) (px : ∀ σ, PassesAt CX X σ (WE Wx σ))
    (ha : QA X cl xa Wx (e :: es) mr) (hdb : (c == ("__debug__" : Str)) = false := by decide) (he : starEach (e :: es) X.env = (false, eval e X.env) :: starEach es X.env := by rfl) (hpl : (backTo pos (starEach es X.env)).any (·.1) = false := by rfl) :
    QE X cl xa Wx (.Call (.Name c pp) (e :: es) [] pos) (mCall (makeS c pS) mr) := by
  obtain ⟨t, pa, q⟩ := ha
  refine ⟨_, pe_makeX M G hr hg A.mgd hb px pa hdb he hpl, fun C y σ ρ S s Q h => ?_⟩
  refine q C y σ ρ S s _ (Post.go h fun ws S1 h1 vs z s1 g1 r1 => ?_)
  exact fun x dx k1 k2 k3 => useMk A.at_ s1 r1 (Post.re (h1 z g1) g1) k1 k2 k3
theorem qe_makeS0 (A : ClsAt X.K X.mg cl c C) (M : Mk X.K C f) (G : FnOk X.prog X.w X.K X.mg X.base CX k f fd ps (SpS X.K cl pS)) (hr : Room (k + 1) X.A) (hg : Gl X c) (hb : Binds X.K fd ps []) (px : ∀ σ, PassesAt CX X σ (WE Wx σ))
    (hdb : (c == ("__debug__" : Str)) = false := by decide) : QE X cl xa Wx (.Call (.Name c pp) [] [] pos) (mCall (makeS c pS) mNil) :=
  ⟨_, pe_makeX0 M G hr hg A.mgd hb px hdb, fun C y σ ρ S s Q h => fun x dx k1 k2 k3 => useMk A.at_ s .nil h k1 k2 k3⟩
/-- o.m(..) of an instance of the class c -/
def mMeth (c m : Str) (F : List W → Sto → Rs W) (mo : ME) (mr : MA) : ME := fun ρ S => (mo ρ S).bind fun w S => match insW S w with
  | some (c', fws) => if c' = c ∧ look fws m = none then (mr ρ S).bind fun ws S => F (w :: ws) S else .stuck
  | none => .stuck
theorem se_meth {K : PySem.W.Frag} {ta : TE} {t : TA} {sp : Sp} {F : List W → Sto → Rs W} (hc : cl c = some C) (q : SE K cl xa Wx ta mo) (q2 : SA K cl xa Wx t mr)
    (hu : ∀ (C : Cn) (y : Y) (σ : L2.St) (ρ : Rho) (S : Sto) (ws : List W) (vs : List V) (Q : VK), Sim K cl xa C y σ ρ S → RWL K cl y ws vs → Post K cl xa C Wx y σ ρ (F ws S) (OkE K cl xa C y σ ρ Q) → sp vs y.H Q (WE Wx σ)) :
    SE K cl xa Wx (tMethS C m sp (WE Wx) ta t) (mMeth c m F mo mr) := by
  intro Cn' y σ ρ S s Q h
  refine q Cn' y σ ρ S s _ (Post.go h fun w S1 h1 v z s1 g1 r1 => ?_)
  have h2 := h1 z g1
  split at h2
  · rename_i c' fws hi
    split at h2
    · rename_i hcc
      obtain ⟨rfl, hl⟩ := hcc
      obtain ⟨a, CC, dx, fvs, rfl, k1, k2, k3⟩ := insW_ok s1.bs r1 hi
      rw [hc] at k1
      cases k1
      refine ⟨a, dx, fvs, rfl, k2, (lookup_look k3).2 hl, ?_⟩
      refine q2 Cn' z σ ρ S1 s1 _ (Post.go h2 fun ws S2 h3 vs z2 s2 g2 r2 => ?_)
      exact hu Cn' z2 σ ρ S2 (w :: ws) (.ref a :: vs) Q s2 (.cons (r1.grow g2) r2) (Post.re (h3 z2 g2) (g1.trans g2))
    · exact h2.elim
  · exact h2.elim
theorem qe_methP {pl : Sem Bool} (A : ClsAt X.K X.mg cl c C) (hm : Meth X.K C m f) (G : FnOk X.prog X.w X.K X.mg X.base CX k f fd ps (SpP X.K cl p)) (hr : Room k X.A) (hb : Binds X.K fd ps []) (px : ∀ σ, PassesAt CX X σ (WE Wx σ)) (ho : QE X cl xa Wx o mo) (ha : QA X cl xa Wx (e :: es) mr)
    (hst : starEach (e :: es) X.env = (false, eval e X.env) :: starEach es X.env := by rfl) (hpl : (backTo pos (starEach es X.env)).any (·.1) = false := by rfl)
    (ht : eval (.Call (.Attribute o m apos) (e :: es) [] pos) X.env = (do
      let ov ← eval o X.env
      standAt apos.atName
      let (f, first) ← holding [ov] (getMethod ov m pl)
      callWith pos f first (backTo pos (starEach (e :: es) X.env)) (backToKw pos (keywordEach [] X.env))) := by rfl) :
    QE X cl xa Wx (.Call (.Attribute o m apos) (e :: es) [] pos) (mMeth c m (callN p) mo mr) := by
  obtain ⟨t, pe, q⟩ := ho
  obtain ⟨t2, pa, q2⟩ := ha
  exact ⟨_, pe_methX (pl := pl) pe A.cls hm G hr hb px pa hst hpl ht, se_meth A.at_ q q2 fun C y σ ρ S ws vs Q s r h => useN s r h⟩
theorem qe_methP0 {pl : Sem Bool} (A : ClsAt X.K X.mg cl c C) (hm : Meth X.K C m f) (G : FnOk X.prog X.w X.K X.mg X.base CX k f fd ps (SpP X.K cl p)) (hr : Room k X.A) (hb : Binds X.K fd ps []) (px : ∀ σ, PassesAt CX X σ (WE Wx σ)) (ho : QE X cl xa Wx o mo)
    (ht : eval (.Call (.Attribute o m apos) [] [] pos) X.env = (do
      let ov ← eval o X.env
      standAt apos.atName
      let (f, first) ← holding [ov] (getMethod ov m pl)
      callWith pos f first (backTo pos (starEach [] X.env)) (backToKw pos (keywordEach [] X.env))) := by rfl) :
    QE X cl xa Wx (.Call (.Attribute o m apos) [] [] pos) (mMeth c m (callN p) mo mNil) := by
  obtain ⟨t, pe, q⟩ := ho
  exact ⟨_, pe_methX0 (pl := pl) pe A.cls hm G hr hb px ht, se_meth A.at_ q sa_nil fun C y σ ρ S ws vs Q s r h => useN s r h⟩
theorem qe_methS {pl : Sem Bool} (A : ClsAt X.K X.mg cl c C) (hm : Meth X.K C m f) (G : FnOk X.prog X.w X.K X.mg X.base CX k f fd ps (SpS X.K cl pS)) (hr : Room k X.A) (hb : Binds X.K fd ps []) (px : ∀ σ, PassesAt CX X σ (WE Wx σ)) (ho : QE X cl xa Wx o mo) (ha : QA X cl xa Wx (e :: es) mr)
    (hst : starEach (e :: es) X.env = (false, eval e X.env) :: starEach es X.env := by rfl) (hpl : (backTo pos (starEach es X.env)).any (·.1) = false := by rfl)
    (ht : eval (.Call (.Attribute o m apos) (e :: es) [] pos) X.env = (do
      let ov ← eval o X.env
      standAt apos.atName
      let (f, first) ← holding [ov] (getMethod ov m pl)
      callWith pos f first (backTo pos (starEach (e :: es) X.env)) (backToKw pos (keywordEach [] X.env))) := by rfl) :
    QE X cl xa Wx (.Call (.Attribute o m apos) (e :: es) [] pos) (mMeth c m pS mo mr) := by
  obtain ⟨t, pe, q⟩ := ho
  obtain ⟨t2, pa, q2⟩ := ha
  exact ⟨_, pe_methX (pl := pl) pe A.cls hm G hr hb px pa hst hpl ht, se_meth A.at_ q q2 fun C y σ ρ S ws vs Q s r h => useS s r h⟩
theorem qe_methS0 {pl : Sem Bool} (A : ClsAt X.K X.mg cl c C) (hm : Meth X.K C m f) (G : FnOk X.prog X.w X.K X.mg X.base CX k f fd ps (SpS X.K cl pS)) (hr : Room k X.A) (hb : Binds X.K fd ps []) (px : ∀ σ, PassesAt CX X σ (WE Wx σ)) (ho : QE X cl xa Wx o mo)
    (ht : eval (.Call (.Attribute o m apos) [] [] pos) X.env = (do
      let ov ← eval o X.env
      standAt apos.atName
      let (f, first) ← holding [ov] (getMethod ov m pl)
      callWith pos f first (backTo pos (starEach [] X.env)) (backToKw pos (keywordEach [] X.env))) := by rfl) :
    QE X cl xa Wx (.Call (.Attribute o m apos) [] [] pos) (mMeth c m pS mo mNil) := by
  obtain ⟨t, pe, q⟩ := ho
  exact ⟨_, pe_methX0 (pl := pl) pe A.cls hm G hr hb px ht, se_meth A.at_ q sa_nil fun C y σ ρ S ws vs Q s r h => useS s r h⟩
end
end Ng
namespace Ng
open PySem PySem.Spec PyProof.Rows L2
/-! ### defs that give a new list or dict of data -/
def daC : Cell → Bool
  | .lst ws => ws.all isDa
  | .dk kws => (kws.map (·.2)).all isDa
  | .dt kws => (kws.map (·.2)).all isDa
  | _ => false
noncomputable def newOf (q : List W → Sto → Rs W) (ds : List D) : Re Cell := match q (ds.map .da) [] with
  | .ok (.lo n) S => match S[n]? with
    | some c => if daC c = true then .ok c else .stuck
    | none => .stuck
  | .ex x _ => ifc (x.ws.all isDa = true) (.ex x) .stuck
  | _ => .stuck
def SpL (K : PySem.W.Frag) (cl : Str → Option Addr) (p : List D → Re Cell) : Sp := fun vs H Q E => ∃ F ds, Ex F H ∧ RpL K cl F ds vs ∧ match p ds with
  | .ok c => ∀ a F' H', Al F H F' H' → H a = none → F' a = none → daC c = true → CellR K cl ⟨F', H', []⟩ a c → Q (.ref a) H'
  | .ex x => ∀ cls dd F' H', Al F H F' H' → XR K cl ⟨F', H', []⟩ x cls dd → E cls dd H'
  | .stuck => False
section
variable {K : PySem.W.Frag} {cl : Str → Option Addr}
theorem rwp_da_cut {κ : Type} {z : Y} {m : List Addr} : ∀ {ws : List (κ × W)} {vs : List (κ × V)}, (ws.map (·.2)).all isDa = true → RWP K cl z ws vs → RWP K cl ⟨z.F, z.H, m⟩ ws vs
  | _, _, _, .nil => .nil
  | (k, w) :: ws, _, h, .cons r t => by
    simp only [List.map_cons, List.all_cons, Bool.and_eq_true] at h
    refine .cons ⟨r.1, ?_⟩ (rwp_da_cut h.2 t)
    cases w with
    | da d => exact r.2
    | lo n => cases h.1
    | xc => cases h.1
theorem cell_da_cut {z : Y} {m : List Addr} {a : Addr} : ∀ {c : Cell}, daC c = true → CellR K cl z a c → CellR K cl ⟨z.F, z.H, m⟩ a c
  | .lst ws, h, ⟨vs, e, r⟩ => ⟨vs, e, rwl_da_cut h r⟩
  | .dk ws, h, ⟨vs, e, r⟩ => ⟨vs, e, rwp_da_cut h r⟩
  | .dt ws, h, ⟨vs, e, r⟩ => ⟨vs, e, rwp_da_cut h r⟩
  | .tup _, h, _ => by cases h
  | .ins _ _, h, _ => by cases h
  | .dead, h, _ => by cases h
theorem daC_live {c : Cell} (h : daC c = true) : c ≠ .dead ∧ ∀ ws, c ≠ .tup ws := ⟨(by intro z; subst z; cases h), (by intro ws z; subst z; cases h)⟩
end
section
variable {P : Program} {w : World} {K : PySem.W.Frag} {mg : Str → Option Value} {base : Heap} {cl : Str → Option Addr}
theorem fnL {f : Addr} {fd : FuncData} {ps : List Str} {k : Nat} {p : List W → Sto → Rs W} (F : FnOk P w K mg base (L2.CX P w) k f fd ps (SpS K cl p)) : FnOk P w K mg base (L2.CX P w) k f fd ps (SpL K cl (newOf p)) := by
  refine FnOk.weak F fun vs H Q E h => ?_
  obtain ⟨G, ds, x, r, q⟩ := h
  refine ⟨⟨G, H, []⟩, [], ds.map .da, rfl, ⟨x, rfl, List.nodup_nil, (by intro a ha; cases ha), (by intro n c e; cases e)⟩, rwl_da r, ?_⟩
  unfold newOf at q
  cases e : p (ds.map .da) [] with
  | stuck => rw [e] at q; exact q.elim
  | ex y S =>
    rw [e] at q
    simp only at q
    intro cls dd z bz fz xr
    by_cases ha : y.ws.all isDa = true
    · rw [ifc_pos ha] at q
      exact q cls dd z.F z.H (fz.al0 bz.fz) (xr_cut ha xr)
    · rw [ifc_neg ha] at q
      exact q.elim
  | ok w S =>
    rw [e] at q
    cases w with
    | da d => exact q.elim
    | xc => exact fun v z bz fz rz => rz.elim
    | lo n =>
      simp only at q
      intro v z bz fz rz
      obtain ⟨a, ea, rfl⟩ := rz
      cases hc : S[n]? with
      | none => rw [hc] at q; exact q.elim
      | some c =>
        rw [hc] at q
        simp only at q
        split at q
        · rename_i c' hd
          split at hd
          · rename_i hda
            cases hd
            obtain ⟨l1, l2⟩ := daC_live hda
            obtain ⟨b1, b2⟩ := bz.at hc l1 ea
            have hf : z.F a = none := b1.elim id fun ⟨ws, z⟩ => absurd z (l2 ws)
            have hn : H a = none := by
              rcases fz.newC a (List.mem_of_getElem? ea) with t | t
              · cases t
              · exact t
            exact q a z.F z.H (fz.al0 bz.fz) hn hf hda (cell_da_cut hda b2)
          · cases hd
        · rename_i hd
          split at hd <;> cases hd
        · exact q.elim
end
/-- the cell's items hold no list -/
def noLC : Cell → Bool
  | .lst ws => ws.all noLW
  | .dk kws => (kws.map (·.2)).all noLW
  | .dt kws => (kws.map (·.2)).all noLW
  | _ => false
/-- what is made of a new cell -/
noncomputable def callL (mk : Option Cell → Sto → Rs W) (p : List D → Re Cell) (ws : List W) (S : Sto) : Rs W := match dats ws with
  | some ds => match p ds with
    | .ok c => mk (some c) S
    | .ex x => .ex x S
    | .stuck => .stuck
  | none => match valsW S ws with
    | some ds => match p ds with
      | .ok c => if noLC c = true then mk (some c) S else .stuck
      | .ex x => if x.ws.all noLW = true then .ex x S else .stuck
      | .stuck => .stuck
    | none => .stuck
noncomputable def mCallL (mk : Option Cell → Sto → Rs W) (p : List D → Re Cell) (mr : MA) : ME := mCall (callL mk p) mr
section
variable {K : PySem.W.Frag} {cl : Str → Option Addr} {xa : Option (Nat × Addr)} {Wx : WX} {y : Y}
theorem unL_rwp {κ : Type} {F' H' : Hp} {m : List Addr} (a : Al y.fzLT y.H F' H') : ∀ {ws : List (κ × W)} {vs : List (κ × V)}, (ws.map (·.2)).all noLW = true → RWP K cl ⟨F', H', []⟩ ws vs → RWP K cl ⟨y.unL F', H', m⟩ ws vs
  | _, _, _, .nil => .nil
  | (k, w) :: ws, _, n, .cons r t => by
    simp only [List.map_cons, List.all_cons, Bool.and_eq_true] at n
    refine .cons ⟨r.1, ?_⟩ (unL_rwp a n.2 t)
    cases w with
    | da d => exact unL_rp a d _ n.1 r.2
    | lo k => cases n.1
    | xc => cases n.1
theorem unL_cell {F' H' : Hp} {m : List Addr} {p : Addr} (a : Al y.fzLT y.H F' H') : ∀ {c : Cell}, noLC c = true → CellR K cl ⟨F', H', []⟩ p c → CellR K cl ⟨y.unL F', H', m⟩ p c
  | .lst ws, h, ⟨vs, e, r⟩ => ⟨vs, e, unL_rwl a h r⟩
  | .dk ws, h, ⟨vs, e, r⟩ => ⟨vs, e, unL_rwp a h r⟩
  | .dt ws, h, ⟨vs, e, r⟩ => ⟨vs, e, unL_rwp a h r⟩
  | .tup _, h, _ => by cases h
  | .ins _ _, h, _ => by cases h
  | .dead, h, _ => by cases h
theorem cell_more {F H : Hp} {p : Addr} {m : List Addr} : ∀ {c : Cell}, CellR K cl ⟨F, H, []⟩ p c → CellR K cl ⟨F, H, m⟩ p c := fun h => CellR.grow (y := ⟨F, H, []⟩) (z := ⟨F, H, m⟩) ⟨Ex.refl _, List.nil_prefix⟩ (fun _ e => e) h
/-- what comes of a new cell: a cell, data, locked data -/
def MkN (K : PySem.W.Frag) (cl : Str → Option Addr) (xa : Option (Nat × Addr)) (mk : Option Cell → Sto → Rs W) (Lk : VK → VK) : Prop := ∀ (C : Cn) (Wx : WX) (y : Y) (σ : L2.St) (ρ : Rho) (S : Sto) (c : Cell) (Q : VK) (p : Addr), Sim K cl xa C y σ ρ S → y.F p = none → p ∉ y.m → C.H0 p = none → daC c = true → CellR K cl y p c →
  Post K cl xa C Wx y σ ρ (mk (some c) S) (OkE K cl xa C y σ ρ Q) → Lk Q (.ref p) y.H
theorem mkC_n : MkN K cl xa mkC (fun Q => Q) := fun C Wx y σ ρ S c Q p s h1 h2 h3 h4 hc h => by
  obtain ⟨o, ho⟩ := CellR.there (daC_live h4).1 hc
  obtain ⟨s2, g2⟩ := s.adoptC h1 h2 h3 (by rw [ho]; simp) hc
  exact h (.ref p) ⟨y.F, y.H, y.m ++ [p]⟩ s2 g2 ⟨p, by rw [← s.bs.len]; simp, rfl⟩
theorem mkD_n : MkN K cl xa mkD (fun Q => Q) := fun C Wx y σ ρ S c Q p s h1 h2 h3 h4 hc h => by
  unfold mkD at h
  simp only at h
  split at h
  · rename_i d hd
    obtain ⟨o, ho, _, hr⟩ := datC_ok hc hd
    obtain ⟨s2, g2⟩ := s.adoptF h1 h2 h3 ho
    exact h (.ref p) (y.fz p o) s2 g2 (hr _ g2.f upd_same)
  · exact h.elim
theorem rwp_zipE {κ : Type} {kws : List (κ × W)} {kvs : List (κ × V)} {ds : List D} (r : RWP K cl y kws kvs) (h : dats (kws.map (·.2)) = some ds) : ∃ vs, kvs = (kws.map (·.1)).zip vs ∧ (kws.map (·.1)).length = vs.length ∧ RpL K cl y.F ds vs := by
  obtain ⟨z1, z2⟩ := rwp_zip r
  exact ⟨kvs.map (·.2), z2, by rw [List.length_map, List.length_map]; exact Paired.length r, dats_ok z1 h⟩
theorem mkL_n : MkN K cl xa mkL (fun Q v H => Lks (Q v) H) := fun C Wx y σ ρ S c Q p s h1 h2 h3 h4 hc h => by
  unfold mkL at h
  simp only at h
  split at h
  · rename_i d hd
    obtain ⟨o, ho⟩ := CellR.there (daC_live h4).1 hc
    obtain ⟨s2, g2⟩ := s.adoptC h1 h2 h3 (by rw [ho]; simp) hc
    have hS : (S ++ [c])[S.length]? = some c := by simp
    have hm : (y.m ++ [p])[S.length]? = some p := by rw [← s.bs.len]; simp
    have fin : ∀ od u, CellR K cl y p c → y.H p = some u → Mut (some u) → (∀ F', Ex y.F F' → F' p = some (.frz od u) → Rp K cl F' d (.ref p)) → Q (.ref p) (upd y.H p (.frz od u)) := fun od u _ hu mu hr => by
      have a1 := s.other (o := .frz od u) h1 h2 h3
      obtain ⟨s3, g3⟩ := a1.adoptF (o := .frz od u) h1 h2 h3 (show upd y.H p (.frz od u) p = _ from upd_same)
      exact h (.ref p) ((y.up p (.frz od u)).fz p (.frz od u)) s3 ⟨g3.f, g3.m⟩ (hr _ g3.f upd_same)
    cases c with
    | dk kws =>
      obtain ⟨kvs, e1, e2⟩ := hc
      obtain ⟨ds, q, rfl⟩ := Option.map_eq_some_iff.mp hd
      obtain ⟨vs, z1, z2, z3⟩ := rwp_zipE e2 q
      refine .lock p _ e1 trivial fun od => .now (fin od _ ⟨kvs, e1, e2⟩ e1 trivial fun F' x e => ⟨p, vs, rfl, ⟨od, by rw [← z1]; exact e⟩, z2, RpL.xt x _ _ z3⟩)
    | dt kws =>
      obtain ⟨kvs, e1, e2⟩ := hc
      obtain ⟨ds, q, rfl⟩ := Option.map_eq_some_iff.mp hd
      obtain ⟨vs, z1, z2, z3⟩ := rwp_zipE e2 q
      refine .lock p _ e1 trivial fun od => .now (fin od _ ⟨kvs, e1, e2⟩ e1 trivial fun F' x e => ⟨p, vs, rfl, ⟨od, by rw [← z1]; exact e⟩, z2, RpL.xt x _ _ z3⟩)
    | lst _ => cases hd
    | tup _ => cases hd
    | ins _ _ => cases hd
    | dead => cases hd
  · exact h.elim
theorem useL {mk : Option Cell → Sto → Rs W} {Lk : VK → VK} (hmk : MkN K cl xa mk Lk) {C : Cn} {y : Y} {σ : L2.St} {ρ : Rho} {S : Sto} {ws : List W} {vs : List V} {p : List D → Re Cell} {Q : VK} (s : Sim K cl xa C y σ ρ S) (r : RWL K cl y ws vs) (h : Post K cl xa C Wx y σ ρ (callL mk p ws S) (OkE K cl xa C y σ ρ Q)) : SpL K cl p vs y.H (Lk Q) (WE Wx σ) := by
  unfold callL at h
  split at h
  · rename_i ds hd
    refine ⟨y.F, ds, s.bs.fz, dats_ok r hd, ?_⟩
    cases e : p ds with
    | ok c =>
      rw [e] at h
      intro a F' H' al hn hf hda hc
      exact hmk C Wx ⟨F', H', y.m⟩ σ ρ S c Q a (s.al al) hf (fun z => s.bs.has a z hn) (s.fm.dom a hn) hda (cell_more hc) (Post.re (Post.mono al.gr h) al.gr)
    | ex x => rw [e] at h; exact fun cls dd F' H' al xr => h cls dd _ (s.al al) al.gr (XR.grow (y := ⟨F', H', []⟩) ⟨Ex.refl _, List.nil_prefix⟩ xr)
    | stuck => rw [e] at h; exact h
  · split at h
    · rename_i ds hd
      refine ⟨y.fzLT, ds, y.fzLT_h s.bs.fz, valsLT_ok s.bs r hd, ?_⟩
      cases e : p ds with
      | ok c =>
        rw [e] at h
        simp only at h
        split at h
        · rename_i hf
          intro a F' H' al hn hfa hda hc
          have al2 := unL_al s.bs.fz al
          have hu : y.unL F' a = none := by
            unfold Y.unL
            split
            · rfl
            · exact hfa
          exact hmk C Wx ⟨y.unL F', H', y.m⟩ σ ρ S c Q a (s.al al2) hu (fun z => s.bs.has a z hn) (s.fm.dom a hn) hda (unL_cell al hf hc) (Post.re (Post.mono al2.gr h) al2.gr)
        · exact h.elim
      | ex x =>
        rw [e] at h
        simp only at h
        split at h
        · rename_i hf
          intro cls dd F' H' al xr
          have al2 := unL_al s.bs.fz al
          obtain ⟨C', h1, h2, h3⟩ := xr
          refine h cls dd _ (s.al al2) al2.gr ⟨C', h1, h2, h3.imp id ?_⟩
          rintro ⟨h4, d, vs, h5, h6, h7, h8⟩
          exact ⟨h4, d, vs, h5, unL_keep al h6 (by intro xs z; cases z), h7, unL_rwl al hf h8⟩
        · exact h.elim
      | stuck => rw [e] at h; exact h
    · exact h.elim
end
section
variable {X : Cx} {cl : Str → Option Addr} {xa : Option (Nat × Addr)} {Wx : WX} {CX : CXT} {k : Nat} {f C : Addr} {fd : FuncData} {ps : List Str} {c x m : Str} {pp pos apos : Pos} {e o : Expr} {es : List Expr} {mr : MA} {mo : ME} {p : List D → Re Cell} {mk : Option Cell → Sto → Rs W}
theorem qe_callL (hmk : MkN X.K cl xa mk (fun Q => Q)) (G : FnOk X.prog X.w X.K X.mg X.base CX k f fd ps (SpL X.K cl p)) (hr : Room k X.A) (hg : Gl X x) (hm : X.mg x = some (.ref f)) (hk : PySem.W.keepIn X.K (.ref f) = true) (hb : Binds X.K fd ps []) (px : ∀ σ, PassesAt CX X σ (WE Wx σ))
    (ha : QA X cl xa Wx (e :: es) mr) (hdb : (x == ("__debug__" : Str)) = false := by decide) (he : starEach (e :: es) X.env = (false, eval e X.env) :: starEach es X.env := by rfl) (hpl : (backTo pos (starEach es X.env)).any (·.1) = false := by rfl) :
    QE X cl xa Wx (.Call (.Name x pp) (e :: es) [] pos) (mCallL mk p mr) := by
  obtain ⟨t, pa, q⟩ := ha
  refine ⟨_, pe_callS G hr hg hm hk hb px pa hdb he hpl, fun C y σ ρ S s Q h => ?_⟩
  refine q C y σ ρ S s _ (Post.go h fun ws S1 h1 vs z s1 g1 r1 => ?_)
  exact useL hmk s1 r1 (Post.re (h1 z g1) g1)
theorem qe_callLk (G : FnOk X.prog X.w X.K X.mg X.base CX k f fd ps (SpL X.K cl p)) (hr : Room k X.A) (hg : Gl X x) (hm : X.mg x = some (.ref f)) (hk : PySem.W.keepIn X.K (.ref f) = true) (hb : Binds X.K fd ps []) (px : ∀ σ, PassesAt CX X σ (WE Wx σ))
    (ha : QA X cl xa Wx (e :: es) mr) (hdb : (x == ("__debug__" : Str)) = false := by decide) (he : starEach (e :: es) X.env = (false, eval e X.env) :: starEach es X.env := by rfl) (hpl : (backTo pos (starEach es X.env)).any (·.1) = false := by rfl) :
    QE X cl xa Wx (.Call (.Name x pp) (e :: es) [] pos) (mCallL mkL p mr) := by
  obtain ⟨t, pa, q⟩ := ha
  refine ⟨_, pe_lk (pe_callS G hr hg hm hk hb px pa hdb he hpl), fun C y σ ρ S s Q h => ?_⟩
  refine q C y σ ρ S s _ (Post.go h fun ws S1 h1 vs z s1 g1 r1 => ?_)
  exact useL mkL_n s1 r1 (Post.re (h1 z g1) g1)
theorem qe_methL {pl : Sem Bool} (hmk : MkN X.K cl xa mk (fun Q => Q)) (A : ClsAt X.K X.mg cl c C) (hm : Meth X.K C m f) (G : FnOk X.prog X.w X.K X.mg X.base CX k f fd ps (SpL X.K cl p)) (hr : Room k X.A) (hb : Binds X.K fd ps []) (px : ∀ σ, PassesAt CX X σ (WE Wx σ)) (ho : QE X cl xa Wx o mo) (ha : QA X cl xa Wx (e :: es) mr)
    (hst : starEach (e :: es) X.env = (false, eval e X.env) :: starEach es X.env := by rfl) (hpl : (backTo pos (starEach es X.env)).any (·.1) = false := by rfl)
    (ht : eval (.Call (.Attribute o m apos) (e :: es) [] pos) X.env = (do
      let ov ← eval o X.env
      standAt apos.atName
      let (f, first) ← holding [ov] (getMethod ov m pl)
      callWith pos f first (backTo pos (starEach (e :: es) X.env)) (backToKw pos (keywordEach [] X.env))) := by rfl) :
    QE X cl xa Wx (.Call (.Attribute o m apos) (e :: es) [] pos) (mMeth c m (callL mk p) mo mr) := by
  obtain ⟨t, pe, q⟩ := ho
  obtain ⟨t2, pa, q2⟩ := ha
  exact ⟨_, pe_methX (pl := pl) pe A.cls hm G hr hb px pa hst hpl ht, se_meth A.at_ q q2 fun C y σ ρ S ws vs Q s r h => useL hmk s r h⟩
theorem qe_methL0 {pl : Sem Bool} (hmk : MkN X.K cl xa mk (fun Q => Q)) (A : ClsAt X.K X.mg cl c C) (hm : Meth X.K C m f) (G : FnOk X.prog X.w X.K X.mg X.base CX k f fd ps (SpL X.K cl p)) (hr : Room k X.A) (hb : Binds X.K fd ps []) (px : ∀ σ, PassesAt CX X σ (WE Wx σ)) (ho : QE X cl xa Wx o mo)
    (ht : eval (.Call (.Attribute o m apos) [] [] pos) X.env = (do
      let ov ← eval o X.env
      standAt apos.atName
      let (f, first) ← holding [ov] (getMethod ov m pl)
      callWith pos f first (backTo pos (starEach [] X.env)) (backToKw pos (keywordEach [] X.env))) := by rfl) :
    QE X cl xa Wx (.Call (.Attribute o m apos) [] [] pos) (mMeth c m (callL mk p) mo mNil) := by
  obtain ⟨t, pe, q⟩ := ho
  exact ⟨_, pe_methX0 (pl := pl) pe A.cls hm G hr hb px ht, se_meth A.at_ q sa_nil fun C y σ ρ S ws vs Q s r h => useL hmk s r h⟩
end
/-! ### min of a list, by its place -/
noncomputable def bestI (ds : List D) : Nat := argBest (fun i j => PySem.W.dataLt ((ds.map toPy).getD i .none) ((ds.map toPy).getD j .none)) (ds.length - 1)
noncomputable def minIW : List W → Sto → Option W
  | [w], S => match lstW S w with
    | some ws => match valsW S ws with
      | some ds => ifc (ds ≠ [] ∧ PySem.W.AlikeAll (ds.map toPy) ∧ (∀ x ∈ ds, (toPy x).canLay0 = true) ∧ PyData.depthAll (ds.map toPy) ≤ 64) (ws[bestI ds]?) none
      | none => none
    | none => none
  | _, _ => none
section
variable {X : Cx} {cl : Str → Option Addr} {xa : Option (Nat × Addr)} {Wx : WX}
def rMinI (K : PySem.W.Frag) : List V → Hp → VK → Prop := fun vs H Q => ∃ (a : Addr) (xs : List V) (ps : List PyData), vs = [.ref a] ∧ SqL K H a xs ∧ DpAll K H xs ps ∧ ps ≠ [] ∧ PySem.W.AlikeAll ps ∧ PyData.depthAll ps ≤ 64 ∧
  ∀ v, xs[argBest (fun i j => PySem.W.dataLt (ps.getD i .none) (ps.getD j .none)) (ps.length - 1)]? = some v → Q v H
theorem cr_minI (hc : X.calm = true) (hu : Hu X) : CallR X (.builtin "min") (rMinI X.K) := by
  intro pins s σ H vs us Q I r h
  obtain ⟨a, xs, ps, rfl, hs, hd, hne, hal, hdep, q⟩ := h
  obtain ⟨its, rv, hl, hz⟩ := I.list hs
  rw [Vals.ref1 r]
  obtain ⟨as, hr⟩ := Dp.readsAll I ps xs its hd rv
  have hu' : X.A.units + 200 < cLine := hu
  have hn : its.toArray.size = ps.length := PySem.W.readsAll_len hr
  have hpos : 0 < ps.length := List.length_pos_iff.mpr hne
  refine call_min_walkH (PySem.W.iter_listW (A := X.A.in1) (I.ok.hd hc) hl.isList fun s₂ e W st hfp hw hk => ?_)
  refine ⟨_, _, _, _, _, _, _, s.heap, _, rfl, W, st, hfp, by omega, hw, hk, PySem.W.cmpIn_lt (A := X.A.in1) hr hal (by show X.A.units + 1 + _ < _; omega), fun v s' hP m => ?_⟩
  obtain ⟨h', tk, rfl, hk'⟩ := PySem.W.moved_old e rfl m
  rw [hn] at hP
  obtain ⟨v', e1, e2⟩ := vals_get rv (show its[_]? = some v by simpa using hP)
  exact ⟨v', H, I.kept (t' := tk) hk', e2, q v' e1⟩
theorem valsW_len {S : Sto} : ∀ {ws : List W} {ds : List D}, valsW S ws = some ds → ws.length = ds.length
  | [], ds, h => by cases h; rfl
  | w :: ws, ds, h => by
    simp only [valsW] at h
    split at h
    · rename_i d ds' e1 e2
      cases h
      simp [valsW_len e2]
    · cases h
theorem valsH_ok {K : PySem.W.Frag} {y : Y} {S : Sto} (b : Bs K cl y S) : ∀ {ws : List W} {vs : List V} {ds : List D}, RWL K cl y ws vs → valsW S ws = some ds → RpL K cl y.H ds vs
  | _, _, ds, .nil, h => by cases h; exact rfl
  | w :: ws, _, ds, .cons r t, h => by
    simp only [valsW] at h
    split at h
    · rename_i d ds' e1 e2
      cases h
      exact ⟨_, _, rfl, valW_ok b r e1, valsH_ok b t e2⟩
    · cases h
theorem cw_minI (hc : X.calm = true) (hu : Hu X) : HCall X cl (.builtin "min") (vlN minIW) := VN.h fun y S b ws vs rs u e Q g => by
  unfold minIW at e
  split at e
  · rename_i w
    obtain ⟨v, rfl, r⟩ := rwl1 rs
    split at e
    · rename_i us q
      split at e
      · rename_i ds hd
        rcases ifc_cases (P := fun r => r = some u) e with ⟨⟨h1, h2, h3, h4⟩, e⟩ | ⟨_, e⟩
        · obtain ⟨p, vs, rfl, t, l⟩ := lstW_ok b r q
          have rp := valsH_ok b l hd
          refine ⟨_, cr_minI hc hu, p, vs, ds.map toPy, rfl, .inl (.inl t), toPyL_all ds vs h3 rp, by simpa using h1, h2, h4, fun v hv => ?_⟩
          obtain ⟨v', e1, e2⟩ := RWL.get l e
          unfold bestI at e1
          rw [List.length_map] at hv
          rw [hv] at e1
          cases e1
          exact gv_w b g e2
        · cases e
      · cases e
    · cases e
  · cases e
theorem bestI_lt {d : D} {ds : List D} : bestI (d :: ds) < (d :: ds).length := by
  have := (PySem.W.argBest_fold PySem.W.dataLt PyData.none (toPy d) (ds.map toPy) (ds.map toPy).length (Nat.le_refl _)).1
  unfold bestI
  simp only [List.map_cons, List.length_cons, Nat.add_sub_cancel, List.length_map] at this ⊢
  omega
/-- .. it is the least -/
theorem bestI_py {d : D} {ds : List D} : ((d :: ds).map toPy).getD (bestI (d :: ds)) .none = PySem.W.minD (toPy d) (ds.map toPy) := by
  have := (PySem.W.argBest_fold PySem.W.dataLt PyData.none (toPy d) (ds.map toPy) (ds.map toPy).length (Nat.le_refl _)).2
  unfold bestI
  simp only [List.map_cons, List.length_cons, Nat.add_sub_cancel, List.length_map, List.take_length] at this ⊢
  rw [List.take_of_length_le (by simp)] at this
  exact this
end
end Ng
namespace Ng
open PySem PySem.Spec PyProof.Rows L2
/-! ### kinds of data: compared, sorted, the least, sought (plain) -/
abbrev tk (d : D) : List (Int ⊕ List Nat) := PySem.W.keyToks (toPy d)
abbrev tks (ds : List D) : List (Int ⊕ List Nat) := PySem.W.keyToksAll (toPyL ds)
structure Enc {α : Type} (e : α → D) (n : Nat) : Prop where
  pre : ∀ a b r r', tk (e a) ++ r = tk (e b) ++ r' → a = b ∧ r = r'
  al : ∀ a b, PySem.W.alike (toPy (e a)) (toPy (e b)) = true
  dep : ∀ a, (toPy (e a)).depth ≤ n
  pl : ∀ a, plainD (e a) = true
  ne : ∀ a, toPy (e a) ≠ .none
structure EncL {α : Type} (f : α → List D) (n : Nat) : Prop where
  pre : ∀ a b r r', tks (f a) ++ r = tks (f b) ++ r' → a = b ∧ r = r'
  al : ∀ a b, PySem.W.alikeAll (toPyL (f a)) (toPyL (f b)) = true
  dep : ∀ a, PyData.depthAll (toPyL (f a)) ≤ n
  pl : ∀ a, plainL (f a) = true
theorem enc_int : Enc D.int 0 := ⟨fun a b r r' h => (by
  simp only [tk, toPy, PySem.W.keyToks, List.cons_append, List.nil_append, List.cons.injEq, Sum.inl.injEq] at h
  exact h), fun a b => (by simp [toPy, PySem.W.alike]), fun a => (by simp [toPy, PyData.depth]), fun a => rfl, fun a => (by simp [toPy])⟩
theorem enc_str : Enc D.str 0 := ⟨fun a b r r' h => (by
  simp only [tk, toPy, PySem.W.keyToks, List.cons_append, List.nil_append, List.cons.injEq, Sum.inr.injEq] at h
  exact ⟨PySem.W.str_of_cps h.1, h.2⟩), fun a b => (by simp [toPy, PySem.W.alike]), fun a => (by simp [toPy, PyData.depth]), fun a => rfl, fun a => (by simp [toPy])⟩
theorem Enc.comp {α β : Type} {e : α → D} {n : Nat} (E : Enc e n) {g : β → α} (hg : ∀ a b, g a = g b → a = b) : Enc (fun b => e (g b)) n :=
  ⟨fun a b r r' h => (let q := E.pre _ _ _ _ h; ⟨hg _ _ q.1, q.2⟩), fun a b => E.al _ _, fun a => E.dep _, fun a => E.pl _, fun a => E.ne _⟩
theorem EncL.comp {α β : Type} {f : α → List D} {n : Nat} (E : EncL f n) {g : β → α} (hg : ∀ a b, g a = g b → a = b) : EncL (fun b => f (g b)) n :=
  ⟨fun a b r r' h => (let q := E.pre _ _ _ _ h; ⟨hg _ _ q.1, q.2⟩), fun a b => E.al _ _, fun a => E.dep _, fun a => E.pl _⟩
theorem Enc.up {α : Type} {e : α → D} {n m : Nat} (E : Enc e n) (h : n ≤ m) : Enc e m := ⟨E.pre, E.al, fun a => Nat.le_trans (E.dep a) h, E.pl, E.ne⟩
theorem EncL.up {α : Type} {f : α → List D} {n m : Nat} (E : EncL f n) (h : n ≤ m) : EncL f m := ⟨E.pre, E.al, fun a => Nat.le_trans (E.dep a) h, E.pl⟩
theorem EncL.one {α : Type} {e : α → D} {n : Nat} (E : Enc e n) : EncL (fun a => [e a]) n :=
  ⟨fun a b r r' h => (by
    simp only [tks, toPyL, PySem.W.keyToksAll, List.cons_append, List.append_assoc, List.cons.injEq, true_and] at h
    obtain ⟨h1, h2⟩ := E.pre _ _ _ _ h
    simp at h2
    exact ⟨h1, h2⟩), fun a b => (by simp [toPyL, PySem.W.alikeAll, E.al]), fun a => (by simp [toPyL, PyData.depthAll]; exact E.dep a), fun a => (by simp [plainL, E.pl])⟩
theorem EncL.cons {α β : Type} {e : α → D} {f : β → List D} {n : Nat} (E : Enc e n) (F : EncL f n) : EncL (fun p : α × β => e p.1 :: f p.2) n :=
  ⟨fun a b r r' h => (by
    simp only [tks, toPyL, PySem.W.keyToksAll, List.cons_append, List.append_assoc, List.cons.injEq, true_and] at h
    obtain ⟨h1, h2⟩ := E.pre _ _ _ _ h
    obtain ⟨h3, h4⟩ := F.pre _ _ _ _ h2
    exact ⟨Prod.ext h1 h3, h4⟩), fun a b => (by simp [toPyL, PySem.W.alikeAll, E.al, F.al]), fun a => (by simp only [toPyL, PyData.depthAll]; exact Nat.max_le.mpr ⟨E.dep _, F.dep _⟩), fun a => (by simp [plainL, E.pl, F.pl])⟩
theorem EncL.tup {α : Type} {f : α → List D} {n : Nat} (F : EncL f n) : Enc (fun a => .tup (f a)) (n + 1) :=
  ⟨fun a b r r' h => F.pre a b r r' (by simpa [tk, toPy, PySem.W.keyToks] using h), fun a b => (by simp [toPy, PySem.W.alike, F.al]), fun a => (by simp only [toPy, PyData.depth]; exact Nat.succ_le_succ (F.dep a)), fun a => (by simp [plainD, F.pl]), fun a => (by simp [toPy])⟩
theorem EncL.lst {α : Type} {f : α → List D} {n : Nat} (F : EncL f n) : Enc (fun a => .lst (f a)) (n + 1) :=
  ⟨fun a b r r' h => F.pre a b r r' (by simpa [tk, toPy, PySem.W.keyToks] using h), fun a b => (by simp [toPy, PySem.W.alike, F.al]), fun a => (by simp only [toPy, PyData.depth]; exact Nat.succ_le_succ (F.dep a)), fun a => (by simp [plainD, F.pl]), fun a => (by simp [toPy])⟩
theorem EncL.many {α : Type} {e : α → D} {n : Nat} (E : Enc e n) : EncL (fun l : List α => l.map e) n :=
  ⟨fun a => (by
    induction a with
    | nil =>
      intro b r r' h
      cases b with
      | nil => simp only [tks, toPyL, List.map_nil, PySem.W.keyToksAll, List.cons_append, List.nil_append, List.cons.injEq, true_and] at h; exact ⟨rfl, h⟩
      | cons y b => simp [tks, toPyL, PySem.W.keyToksAll] at h
    | cons x a ih =>
      intro b r r' h
      cases b with
      | nil => simp [tks, toPyL, PySem.W.keyToksAll] at h
      | cons y b =>
        simp only [tks, toPyL, List.map_cons, PySem.W.keyToksAll, List.cons_append, List.append_assoc, List.cons.injEq, true_and] at h
        obtain ⟨h1, h2⟩ := E.pre _ _ _ _ h
        obtain ⟨h3, h4⟩ := ih b r r' h2
        exact ⟨by rw [h1, h3], h4⟩), fun a => (by
    induction a with
    | nil => intro b; cases b <;> simp [toPyL, PySem.W.alikeAll]
    | cons x a ih =>
      intro b
      cases b with
      | nil => simp [toPyL, PySem.W.alikeAll]
      | cons y b => simp [toPyL, PySem.W.alikeAll, E.al, ih b]), fun a => (by
    induction a with
    | nil => simp [toPyL, PyData.depthAll]
    | cons x a ih => simp only [List.map_cons, toPyL, PyData.depthAll]; exact Nat.max_le.mpr ⟨E.dep _, ih⟩), fun a => (by
    induction a with
    | nil => rfl
    | cons x a ih => simp [plainL, E.pl, ih])⟩
section
variable {α : Type} {e : α → D} {n : Nat}
theorem Enc.inj (E : Enc e n) {a b : α} (h : tk (e a) = tk (e b)) : a = b := (E.pre a b [] [] (by rw [h])).1
theorem Enc.injD (E : Enc e n) {a b : α} (h : e a = e b) : a = b := E.inj (by rw [h])
theorem Enc.eqv (E : Enc e n) (a b : α) : PyData.eqv (toPy (e a)) (toPy (e b)) = dec (a = b) := by
  have q := (PySem.W.toks_eqv _ _ (E.al a b)).1
  by_cases h : a = b
  · subst h
    rw [dec_pos rfl]
    exact PySem.W.eqv_refl_alike _ (E.al a a)
  · rw [dec_neg h]
    cases z : PyData.eqv (toPy (e a)) (toPy (e b)) with
    | false => rfl
    | true => exact absurd (E.inj (q z)) h
/-! sorting -/
noncomputable def leE (e : α → D) (a b : α) : Bool := PySem.W.dataLe false toPy (e a) (e b)
noncomputable def sortE (e : α → D) (l : List α) : List α := l.mergeSort (leE e)
theorem leE_total (e : α → D) : PySem.W.TotalLe (leE e) := PySem.W.sortLe_total (PyProof.Rows.listOrd PyProof.Rows.itemOrd) false (fun a => tk (e a))
theorem leE_lt (e : α → D) (a b : α) : leE e a b = !PySem.W.dataLt (toPy (e b)) (toPy (e a)) := rfl
theorem leE_anti (E : Enc e n) {a b : α} (h1 : leE e a b = true) (h2 : leE e b a = true) : a = b := by
  rw [leE_lt, Bool.not_eq_true'] at h1 h2
  exact E.inj ((PyProof.Rows.listOrd PyProof.Rows.itemOrd).total _ _ h2 h1)
theorem sortE_perm (E : Enc e n) {l m : List α} (h : l.Perm m) : sortE e l = sortE e m := by
  refine List.Perm.eq_of_pairwise (le := fun a b => leE e a b = true) (fun a b _ _ h1 h2 => leE_anti E h1 h2) (PySem.W.sort_pairwise (leE_total e) l) (PySem.W.sort_pairwise (leE_total e) m) ?_
  exact (List.mergeSort_perm _ _).trans (h.trans (List.mergeSort_perm _ _).symm)
theorem sortE_is (l : List α) : (sortE e l).Perm l := List.mergeSort_perm _ _
theorem sortE_mem {l : List α} {a : α} : a ∈ sortE e l ↔ a ∈ l := (sortE_is l).mem_iff
theorem sortE_len (l : List α) : (sortE e l).length = l.length := (sortE_is l).length_eq
theorem sortE_sorted (l : List α) : (sortE e l).Pairwise (fun a b => leE e a b = true) := PySem.W.sort_pairwise (leE_total e) l
theorem sortE_self {l : List α} (h : l.Pairwise (fun a b => leE e a b = true)) : sortE e l = l := List.mergeSort_of_pairwise h
theorem sortE_idem (l : List α) : sortE e (sortE e l) = sortE e l := sortE_self (sortE_sorted l)
theorem sortD_map (e : α → D) (l : List α) : sortD (l.map e) = (sortE e l).map e := by
  unfold sortD sortE
  exact (List.map_mergeSort (r := leE e) (s := PySem.W.dataLe false toPy) (f := e) fun a _ b _ => rfl).symm
/-- tuples with items; no tuples -/
def Sk (e : α → D) : Prop := (∀ a, ∃ x r, toPy (e a) = .tuple (x :: r)) ∨ ∀ a xs, toPy (e a) ≠ .tuple xs
def Lay (e : α → D) (l : List α) : Prop := ∀ a ∈ l, (toPy (e a)).canLay0 = true
theorem sortC_ok (E : Enc e n) (hn : n ≤ 60) (k : Sk e) {l : List α} (hl : Lay e l) {w : W} {S : Sto} (hw : lstW S w = some (l.map fun a => .da (e a))) : sortC [w] S = some (.lst ((sortE e l).map fun a => .da (e a))) := by
  have hd : dats (l.map fun a => .da (e a)) = some (l.map e) := by
    rw [show (l.map fun a => W.da (e a)) = (l.map e).map .da by simp]
    exact dats_da _
  unfold sortC
  simp only [hw, hd]
  rw [ifc_pos]
  · rw [sortD_map]; simp
  · refine ⟨?_, ?_, ?_⟩
    · intro d hd d' hd'
      simp only [List.map_map, List.mem_map, Function.comp] at hd hd'
      obtain ⟨a, _, rfl⟩ := hd
      obtain ⟨b, _, rfl⟩ := hd'
      exact E.al a b
    · rcases k with k | k
      · left
        intro d hd
        simp only [List.map_map, List.mem_map, Function.comp] at hd
        obtain ⟨a, _, rfl⟩ := hd
        exact k a
      · right
        intro d hd
        simp only [List.map_map, List.mem_map, Function.comp] at hd
        obtain ⟨a, _, rfl⟩ := hd
        exact ⟨E.ne a, k a⟩
    · intro d hd
      simp only [List.mem_map] at hd
      obtain ⟨a, ha, rfl⟩ := hd
      exact ⟨hl a ha, Nat.le_trans (E.dep a) (by omega)⟩
theorem lstW_da (S : Sto) (l : List α) : lstW S (.da (.lst (l.map e))) = some (l.map fun a => .da (e a)) := by simp [lstW]
theorem sort_d (E : Enc e n) (hn : n ≤ 60) (k : Sk e) {l : List α} (hl : Lay e l) {w : W} {S : Sto} (hw : lstW S w = some (l.map fun a => .da (e a))) : ndN sortC [w] S = .ok (.da (.lst ((sortE e l).map e))) S := by
  unfold ndN mkD
  rw [sortC_ok E hn k hl hw]
  simp only [datC]
  rw [show ((sortE e l).map fun a => W.da (e a)) = ((sortE e l).map e).map .da by simp, dats_da]
  rfl
theorem sort_c (E : Enc e n) (hn : n ≤ 60) (k : Sk e) {l : List α} (hl : Lay e l) {w : W} {S : Sto} (hw : lstW S w = some (l.map fun a => .da (e a))) : ncN sortC [w] S = .ok (.lo S.length) (S ++ [.lst ((sortE e l).map fun a => .da (e a))]) := by
  unfold ncN mkC
  rw [sortC_ok E hn k hl hw]
/-! the least -/
def minE (e : α → D) (a : α) (l : List α) : α := l.foldl (fun a y => if PySem.W.dataLt (toPy (e y)) (toPy (e a)) then y else a) a
theorem minDD_map (e : α → D) : ∀ (l : List α) (a : α), minDD (e a) (l.map e) = e (minE e a l)
  | [], a => rfl
  | y :: l, a => by
    have := minDD_map e l (if PySem.W.dataLt (toPy (e y)) (toPy (e a)) then y else a)
    unfold minDD minE at *
    simp only [List.map_cons, List.foldl_cons]
    rw [← this]
    congr 1
    split <;> rfl
theorem minE_mem (e : α → D) : ∀ (l : List α) (a : α), minE e a l ∈ a :: l
  | [], _ => by simp [minE]
  | y :: l, a => by
    have := minE_mem e l (if PySem.W.dataLt (toPy (e y)) (toPy (e a)) then y else a)
    unfold minE at *
    simp only [List.foldl_cons]
    rcases List.mem_cons.mp this with h | h
    · rw [h]; split <;> simp
    · simp [h]
theorem minE_le (e : α → D) : ∀ (l : List α) (a : α), ∀ y ∈ a :: l, leE e (minE e a l) y = true
  | [], a, y, h => by
    simp at h; subst h
    exact (leE_total e).refl _
  | z :: l, a, y, h => by
    have ih := minE_le e l (if PySem.W.dataLt (toPy (e z)) (toPy (e a)) then z else a)
    show leE e (minE e (if PySem.W.dataLt (toPy (e z)) (toPy (e a)) then z else a) l) y = true
    have h0 := ih _ (List.mem_cons_self)
    have step : leE e (if PySem.W.dataLt (toPy (e z)) (toPy (e a)) then z else a) a = true ∧ leE e (if PySem.W.dataLt (toPy (e z)) (toPy (e a)) then z else a) z = true := by
      cases q : PySem.W.dataLt (toPy (e z)) (toPy (e a)) with
      | true =>
        refine ⟨?_, (leE_total e).refl _⟩
        rcases (leE_total e).total z a with t | t
        · exact t
        · rw [leE_lt, q] at t; cases t
      | false =>
        refine ⟨(leE_total e).refl _, ?_⟩
        show leE e a z = true
        rw [leE_lt, q]; rfl
    rcases List.mem_cons.mp h with rfl | h
    · exact (leE_total e).trans _ _ _ h0 step.1
    · rcases List.mem_cons.mp h with rfl | h
      · exact (leE_total e).trans _ _ _ h0 step.2
      · exact ih y (List.mem_cons_of_mem _ h)
/-- the same things, in any order -/
theorem minE_same (E : Enc e n) {a b : α} {l m : List α} (h1 : ∀ x ∈ a :: l, x ∈ b :: m) (h2 : ∀ x ∈ b :: m, x ∈ a :: l) : minE e a l = minE e b m :=
  leE_anti E (minE_le e l a _ (h2 _ (minE_mem e m b))) (minE_le e m b _ (h1 _ (minE_mem e l a)))
theorem alikeAll_of (E : Enc e n) (l : List α) : PySem.W.AlikeAll ((l.map e).map toPy) := by
  refine ⟨?_, ?_⟩
  · intro d hd d' hd'
    simp only [List.map_map, List.mem_map, Function.comp] at hd hd'
    obtain ⟨a, _, rfl⟩ := hd
    obtain ⟨b, _, rfl⟩ := hd'
    exact E.al a b
  · intro d hd
    simp only [List.map_map, List.mem_map, Function.comp] at hd
    obtain ⟨a, _, rfl⟩ := hd
    exact E.ne a
theorem depthAll_of (E : Enc e n) : ∀ l : List α, PyData.depthAll ((l.map e).map toPy) ≤ n
  | [] => by simp [PyData.depthAll]
  | a :: l => by simp only [List.map_cons, PyData.depthAll]; exact Nat.max_le.mpr ⟨E.dep a, depthAll_of E l⟩
theorem plainL_of (E : Enc e n) : ∀ l : List α, plainL (l.map e) = true
  | [] => rfl
  | a :: l => by simp [plainL, E.pl, plainL_of E l]
theorem min_d (E : Enc e n) (hn : n ≤ 60) {a : α} {l : List α} (hl : Lay e (a :: l)) {w : W} {S : Sto} (hw : lstW S w = some ((a :: l).map fun a => .da (e a))) : vlN minLW [w] S = .ok (.da (e (minE e a l))) S := by
  have hd : dats ((a :: l).map fun a => .da (e a)) = some (e a :: l.map e) := by
    rw [show ((a :: l).map fun a => W.da (e a)) = ((a :: l).map e).map .da by simp]
    exact dats_da _
  unfold vlN minLW
  simp only [hw, hd]
  rw [ifc_pos, minDD_map]
  · rfl
  · refine ⟨alikeAll_of E (a :: l), plainL_of E (a :: l), ?_, Nat.le_trans (depthAll_of E (a :: l)) (by omega)⟩
    intro x hx
    rw [← List.map_cons] at hx
    obtain ⟨b, hb, rfl⟩ := List.mem_map.mp hx
    exact hl b hb
/-! == and in -/
theorem shaped_of (E : Enc e n) (hn : n ≤ 60) {a : α} (hl : (toPy (e a)).canLay0 = true) : SeqAt.shaped (toPy (e a)) = true := by
  unfold SeqAt.shaped
  rw [hl, decide_eq_true (Nat.le_trans (E.dep a) (by omega))]
  rfl
theorem eqB_of (E : Enc e n) (hn : n ≤ 60) {a b : α} (ha : (toPy (e a)).canLay0 = true) (hb : (toPy (e b)).canLay0 = true) {x y : W} {S : Sto} (hx : valW S x = some (e a)) (hy : valW S y = some (e b)) : eqB x y S = some (dec (a = b)) := by
  unfold eqB
  simp only [hx, hy]
  unfold eqD
  split
  · rename_i i j h1 h2
    have := E.eqv a b
    rw [h1, h2] at this
    simp only [toPy, PyData.eqv] at this
    rw [← this]
    by_cases q : i = j
    · subst q; simp [dec_pos]
    · rw [dec_neg q]; simp [q]
  · rename_i i j h1 h2
    have := E.eqv a b
    rw [h1, h2] at this
    simp only [toPy, PyData.eqv] at this
    rw [← this]
    by_cases q : i = j
    · subst q; simp [dec_pos]
    · rw [dec_neg q]; simp [q]
  · rename_i i j h1 h2
    have := E.eqv a b
    rw [h1, h2] at this
    simp only [toPy, PyData.eqv] at this
    rw [← this]
    by_cases q : i = j
    · subst q; simp [dec_pos]
    · rw [dec_neg q]; simp [q]
  · rw [ifc_pos ⟨shaped_of E hn ha, shaped_of E hn hb⟩, E.eqv]
theorem eq_e (E : Enc e n) (hn : n ≤ 60) {a b : α} (ha : (toPy (e a)).canLay0 = true) (hb : (toPy (e b)).canLay0 = true) (S : Sto) : vl2 eqW (.da (e a)) (.da (e b)) S = .ok (.da (.bl (dec (a = b)))) S := by
  unfold vl2 eqW
  rw [eqB_of E hn ha hb rfl rfl]
  rfl
theorem ne_e (E : Enc e n) (hn : n ≤ 60) {a b : α} (ha : (toPy (e a)).canLay0 = true) (hb : (toPy (e b)).canLay0 = true) (S : Sto) : vl2 neW (.da (e a)) (.da (e b)) S = .ok (.da (.bl (!dec (a = b)))) S := by
  unfold vl2 neW
  rw [eqB_of E hn ha hb rfl rfl]
  rfl
theorem layAll_of : ∀ {l : List α}, Lay e l → PyData.canLayAll0 (toPyL (l.map e)) = true
  | [], _ => rfl
  | a :: l, h => by simp [toPyL, PyData.canLayAll0, h a (by simp), layAll_of (l := l) fun b hb => h b (by simp [hb])]
theorem shapedL_of (E : Enc e n) (hn : n ≤ 60) {l : List α} (hl : Lay e l) : SeqAt.shaped (.list (toPyL (l.map e))) = true := by
  unfold SeqAt.shaped
  have h1 : (PyData.list (toPyL (l.map e))).canLay0 = true := by simp only [PyData.canLay0, layAll_of hl]
  have h2 : (PyData.list (toPyL (l.map e))).depth ≤ 64 := by
    simp only [PyData.depth, toPyL_map]
    have := depthAll_of E l
    omega
  rw [h1, decide_eq_true h2]
  rfl
theorem any_of (E : Enc e n) (a : α) : ∀ l : List α, ((l.map e).any fun z => PyData.eqv (toPy z) (toPy (e a))) = dec (a ∈ l)
  | [] => by rw [dec_neg (by simp)]; rfl
  | b :: l => by
    simp only [List.map_cons, List.any_cons, any_of E a l, E.eqv]
    by_cases h : b = a
    · subst h; rw [dec_pos rfl, dec_pos (List.mem_cons_self)]; rfl
    · rw [dec_neg h]
      by_cases q : a ∈ l
      · rw [dec_pos q, dec_pos (List.mem_cons_of_mem _ q)]; rfl
      · rw [dec_neg q, dec_neg (fun z => (List.mem_cons.mp z).elim (fun z => h z.symm) q)]; rfl
theorem inB_lst (d : D) (ds : List D) (S : Sto) : inB (.da d) (.da (.lst ds)) S = ifc (SeqAt.shaped (toPy d) = true ∧ SeqAt.shaped (.list (toPyL ds)) = true) (some (ds.any fun z => PyData.eqv (toPy z) (toPy d))) none := by cases d <;> rfl
theorem inB_of (E : Enc e n) (hn : n ≤ 60) {a : α} {l : List α} (ha : (toPy (e a)).canLay0 = true) (hl : Lay e l) {S : Sto} : inB (.da (e a)) (.da (.lst (l.map e))) S = some (dec (a ∈ l)) := by
  rw [inB_lst, ifc_pos ⟨shaped_of E hn ha, shapedL_of E hn hl⟩, any_of E]
theorem in_e (E : Enc e n) (hn : n ≤ 60) {a : α} {l : List α} (ha : (toPy (e a)).canLay0 = true) (hl : Lay e l) (S : Sto) : vl2 inW (.da (e a)) (.da (.lst (l.map e))) S = .ok (.da (.bl (dec (a ∈ l)))) S := by
  unfold vl2 inW
  rw [inB_of E hn ha hl]
  rfl
theorem notin_e (E : Enc e n) (hn : n ≤ 60) {a : α} {l : List α} (ha : (toPy (e a)).canLay0 = true) (hl : Lay e l) (S : Sto) : vl2 notinW (.da (e a)) (.da (.lst (l.map e))) S = .ok (.da (.bl (!dec (a ∈ l)))) S := by
  unfold vl2 notinW
  rw [inB_of E hn ha hl]
  rfl
end
end Ng
namespace Ng
open PySem PySem.Spec PyProof.Rows L2
/-! ### sorted(xs, key=f), f a def that gives ints or texts -/
def keyV (v : V) (k : PyData) : Prop := (∃ n, v = .int n ∧ k = .int n) ∨ (∃ x, v = .str x ∧ k = .str x)
def keyU (u : Value) (k : PyData) : Prop := (∃ n t, u = .int n t ∧ k = .int n) ∨ (∃ x t, u = .str x t ∧ k = .str x)
theorem keyV_u {v : V} {u : Value} {k : PyData} (h : keyV v k) (r : RelV v u) : keyU u k := by
  rcases h with ⟨n, rfl, rfl⟩ | ⟨x, rfl, rfl⟩
  · obtain ⟨t, rfl⟩ := r
    exact .inl ⟨n, t, rfl, rfl⟩
  · obtain ⟨t, rfl⟩ := r
    exact .inr ⟨x, t, rfl, rfl⟩
theorem keyU_reads {u : Value} {k : PyData} (h : keyU u k) (hp : Heap) : ∃ as, Reads hp u k as := by
  rcases h with ⟨n, t, rfl, rfl⟩ | ⟨x, t, rfl, rfl⟩
  · exact ⟨[], .int n t⟩
  · exact ⟨[], .str x t⟩
/-- the keys, one call behind the other -/
def keysR (sp : Sp) (Q : List PyData → Hp → Prop) : List V → List PyData → Hp → Prop
  | [], acc, H => Q acc H
  | x :: xs, acc, H => sp [x] H (fun v H' => ∃ k, keyV v k ∧ keysR sp Q xs (acc ++ [k]) H') (fun _ _ _ => False)
def rSortK (K : PySem.W.Frag) (sp : Sp) (f : Addr) : List V → List V → Hp → VK → Prop := fun vs zs H Q => ∃ (a : Addr) (xs : List V), vs = [.ref a] ∧ zs = [.ref f] ∧ SqL K H a xs ∧
  keysR sp (fun ks H' => PySem.W.AllAlike ks ∧ PySem.W.Sortable ks ∧ (∀ k ∈ ks, k.depth ≤ 64) ∧ ∀ p, H' p = none → Q (.ref p) (upd H' p (.lst (((xs.zip ks).mergeSort (PySem.W.dataLe false (·.2))).map (·.1))))) xs [] H
theorem each_pair {α β : Type} {R : α → β → Prop} {as : List α} {bs : List β} (h : Paired R as bs) : PySem.W.EachIs (fun b a => R a b) bs as := by
  induction h with
  | nil => exact .nil
  | cons r t ih => exact .cons r ih
theorem each_zipK : ∀ {vs : List V} {us : List Value} {ks : List PyData}, Vals vs us → vs.length = ks.length → PySem.W.EachIs (fun u (b : V × PyData) => RelV b.1 u) us (vs.zip ks)
  | _, _, [], .nil, _ => .nil
  | _, _, k :: ks, .nil, h => by simp at h
  | _, _, [], .cons r t, h => by simp at h
  | _, _, k :: ks, .cons r t, h => .cons r (each_zipK t (by simpa using h))
section
variable {X : Cx} {CXp : CXT} {k : Nat} {f : Addr} {fd : FuncData} {ps : List Str} {sp : Sp}
theorem run_key (G : FnOk X.prog X.w X.K X.mg X.base (L2.CX X.prog X.w) k f fd ps sp) {A : Around} (hr : Room k A) (hb : Binds X.K fd ps []) {pins : List (Addr × Obj)} {σ : L2.St} {H : Hp} {s : Shared} (I : Inv X pins σ H s) (he : Env0 X.prog X.w X.K X.mg X.base A X.stack s H) {x : V} {u : Value} (r : RelV x u) {Q : VK}
    (h : sp [x] H Q (fun _ _ _ => False)) : wpAny (model X.prog X.w) A (call (.ref f) [u]) (EP X pins σ Q) (fun _ _ => False) s := by
  have hl : ([u] ++ []).length = ps.length := by rw [← G.len _ _ _ _ h]; rfl
  refine wpAny_call (codeAny_mono (G.run A X.stack s H ⟨[u], []⟩ [u] [x] Q _ hr he (hb s [u] I.kIn hl) (.cons r .nil) h) fun r s' hq => ?_)
  cases r with
  | error e =>
    obtain ⟨_, _, _, _, _, _, _, _, _, _, _, _, z⟩ := hq
    exact z
  | ok fl =>
    cases fl with
    | ret u => exact I.after hq
    | next => exact False.elim hq
    | brk => exact False.elim hq
    | cont => exact False.elim hq
theorem cr_sortK (hu : Hu X) (G : FnOk X.prog X.w X.K X.mg X.base (L2.CX X.prog X.w) k f fd ps sp) (hr : Room (k + 2) X.A) (hb : Binds X.K fd ps []) : CallRK X (.builtin "sorted") [Str.ofString "key"] (rSortK X.K sp f) := by
  intro pins s σ H vs zs us ws Q I r rz h
  obtain ⟨a, xs, rfl, rfl, hs, hq⟩ := h
  obtain ⟨its, rv, hl, hz⟩ := I.list hs
  rw [Vals.ref1 r, Vals.ref1 rz]
  have hlen : its.length ≤ sizeLine := by rw [← rv.length]; exact hz
  show wpAny _ _ (call (.builtin "sorted") [.ref a] [(Str.ofString "key", .ref f)]) _ _ _
  refine PySem.W.sorted_of_sort hl.isList hlen (ksk_s1 _ _) (fun _ => ksk_l1 _ _) fun E' => ?_
  rw [ksk_t1]
  obtain ⟨D, hD⟩ : ∃ D, D = s.heap.objs.size + 1 := ⟨_, rfl⟩
  rw [← hD]
  have ho : (PySem.W.copyHeap s.heap its).get? D = some (seqObj "list" its.toArray 0) := by rw [hD]; exact PySem.W.copyHeap_at s.heap its
  have hDs : D < (PySem.W.copyHeap s.heap its).objs.size := Heap.lt_size ho
  obtain ⟨e1, ho1⟩ : ∃ e1, ((PySem.W.copyHeap s.heap its).update D (Obj.mapSeq fun _ => (#[] : Array Value))).get? D = some (seqObj "list" #[] e1) := ⟨_, get?_update_seq ho fun _ => #[]⟩
  have hkS : (((PySem.W.copyHeap s.heap its).update D (Obj.mapSeq fun _ => (#[] : Array Value))).push (seqObj "tuple" its.toArray 0)).objs.size = (PySem.W.copyHeap s.heap its).objs.size + 1 := by rw [size_push', Heap.size_update]
  unfold ksk_tree
  refine wpAny_bind (listItems_at ho rfl ?_)
  refine wpAny_bind (listUpdate_at ho rfl ?_ (by rw [List.size_toArray]; exact hlen) (Nat.zero_le _))
  refine wpAny_bind (seqEpoch_at ho1 rfl ?_)
  refine wpAny_bind (wpAny_newTuple ?_ (by show its.length ≤ _; exact hlen))
  refine wpAny_bind (wpAny_newList ?_ (Nat.zero_le _))
  refine wpAny_holding ?_
  obtain ⟨K0, hK0⟩ : ∃ K0, K0 = (((PySem.W.copyHeap s.heap its).update D (Obj.mapSeq fun _ => (#[] : Array Value))).push (seqObj "tuple" its.toArray 0)).objs.size := ⟨_, rfl⟩
  have hDK : D < K0 := by rw [hK0, hkS]; omega
  have hsD : s.heap.objs.size ≤ D := by omega
  have keep : ∀ b o, s.heap.get? b = some o → ((((PySem.W.copyHeap s.heap its).update D (Obj.mapSeq fun _ => (#[] : Array Value))).push (seqObj "tuple" its.toArray 0)).push (seqObj "list" #[] 0)).get? b = some o := fun b o q =>
    PySem.W.sortingHeap_old (h := PySem.W.copyHeap s.heap its) (a := D) (vs := its) (Nat.ne_of_lt (Nat.lt_of_lt_of_le (Heap.lt_size q) hsD)) (PySem.W.copyHeap_old q)
  obtain ⟨hp1, hhp1⟩ : ∃ hp1, hp1 = ((((PySem.W.copyHeap s.heap its).update D (Obj.mapSeq fun _ => (#[] : Array Value))).push (seqObj "tuple" its.toArray 0)).push (seqObj "list" #[] 0)) := ⟨_, rfl⟩
  have nk : hp1.get? K0 = some (seqObj "list" #[] 0) := by rw [hhp1, hK0]; exact Heap.get?_push_size _ rfl
  have na : hp1.get? D = some (seqObj "list" #[] e1) := by rw [hhp1]; exact Heap.get?_push_of_some _ (Heap.get?_push_of_some _ ho1)
  rw [← hK0]
  show wpAny _ _ _ _ _ { s with heap := ((((PySem.W.copyHeap s.heap its).update D (Obj.mapSeq fun _ => (#[] : Array Value))).push (seqObj "tuple" its.toArray 0)).push (seqObj "list" #[] 0)) }
  rw [← hhp1] at keep ⊢
  have I1 : Inv X pins σ H { s with heap := hp1 } := I.kept (t' := s.toks) keep
  have ltL := I.lt
  have neDL : D ≠ X.env.locals := Nat.ne_of_gt (Nat.lt_of_lt_of_le ltL hsD)
  have neKL : K0 ≠ X.env.locals := Nat.ne_of_gt (Nat.lt_of_lt_of_le ltL (Nat.le_trans hsD (Nat.le_of_lt hDK)))
  have neDK : D ≠ K0 := Nat.ne_of_lt hDK
  have np : ∀ p ∈ X.pn ++ pins, p.1 < s.heap.objs.size := fun p hp => Heap.lt_size (I.pin p hp).1
  have npD : ∀ p ∈ X.pn ++ pins, p.1 ≠ D := fun p hp => Nat.ne_of_lt (Nat.lt_of_lt_of_le (np p hp) hsD)
  have npK : ∀ p ∈ X.pn ++ pins, p.1 ≠ K0 := fun p hp => Nat.ne_of_lt (Nat.lt_trans (Nat.lt_of_lt_of_le (np p hp) hsD) hDK)
  have nDf : D ∉ X.fs := I.nofs hsD
  have nKf : K0 ∉ X.fs := I.nofs (by omega)
  have seqN : ∀ (ar : Array Value) (e : Nat) (v : Option Value), (seqObj "list" ar e).data ≠ .cell v := fun ar e v z => by cases z
  have pin2 : ∀ {H' : Hp} {s' : Shared} {kA : Array Value} {e : Nat}, Inv X pins σ H' s' → H' D = none → H' K0 = none → s'.heap.get? D = some (seqObj "list" #[] e1) → s'.heap.get? K0 = some (seqObj "list" kA e) →
      Inv X (pins ++ [(D, seqObj "list" #[] e1), (K0, seqObj "list" kA e)]) σ H' s' := fun {H' s' kA e} I' d1 d2 d3 d4 => I'.pins_of fun p hp => by
    rcases List.mem_append.mp hp with hp | hp
    · exact I'.pin p (List.mem_append_right _ hp)
    · simp only [List.mem_cons, List.not_mem_nil, or_false] at hp
      rcases hp with rfl | rfl
      · exact ⟨d3, d1, neDL, nDf, seqN _ _⟩
      · exact ⟨d4, d2, neKL, nKf, seqN _ _⟩
  unfold ksk_rest
  refine wpAny_bind (wpAny_rule ?_)
  first
    | rw [List.forIn_toArray]
    | (rw [← Array.forIn_toList]; simp only [List.toList_toArray])
    | rw [← Array.forIn_toList]
  refine wpAny_bind (ksk_fold (fun i s' => ∃ Hi kA e ks, Inv X (pins ++ [(D, seqObj "list" #[] e1), (K0, seqObj "list" kA e)]) σ Hi s' ∧ PySem.W.EachIs keyU kA.toList ks ∧ ks.length = i ∧
      keysR sp (fun ks H' => PySem.W.AllAlike ks ∧ PySem.W.Sortable ks ∧ (∀ k ∈ ks, k.depth ≤ 64) ∧ ∀ p, H' p = none → Q (.ref p) (upd H' p (.lst (((xs.zip ks).mergeSort (PySem.W.dataLe false (·.2))).map (·.1))))) (xs.drop i) ks Hi) its 0 _
    ⟨H, #[], 0, [], pin2 I1 (I.hok.fresh hsD) (I.hok.fresh (by omega)) na nk, .nil, rfl, hq⟩ ?step ?done)
  case step =>
    rintro j u s' hx ⟨Hi, kA, e, ks, Ii, hk, hkl, hr'⟩
    simp only [Nat.zero_add] at hkl hr' ⊢
    have hj : j < its.length := (List.getElem?_eq_some_iff.mp hx).1
    have hj' : j < xs.length := by rw [rv.length]; exact hj
    have hxj : xs[j]? = some xs[j] := List.getElem?_eq_getElem hj'
    obtain ⟨u', hu', rx⟩ := Vals.get rv hxj
    rw [hx] at hu'
    cases hu'
    rw [List.drop_eq_getElem_cons hj'] at hr'
    refine wpAny_bind (wpAny_attempt (wpAny_mono (run_key G (A := X.A.in1.in1) hr.in1.in1 hb Ii Ii.env0.in1.in1 rx hr') (fun v s'' he => ?_) fun _ _ hF => hF.elim))
    obtain ⟨v', H', I', r', kd, hkd, hrest⟩ := he
    try dsimp only
    have pK := I'.pin (K0, seqObj "list" kA e) (by simp)
    have pD := I'.pin (D, seqObj "list" #[] e1) (by simp)
    have hz' : kA.size ≤ its.length := by
      have := hk.length
      rw [Array.length_toList] at this
      omega
    have s1 := Heap.SameBut.update s''.heap K0 (Obj.mapSeq (·.push v))
    obtain ⟨c2, hc2⟩ : ∃ c2, (s''.heap.update K0 (Obj.mapSeq (·.push v))).get? K0 = some (seqObj "list" (kA.push v) c2) := ⟨_, get?_update_seq pK.1 (·.push v)⟩
    refine wpAny_bind (listUpdate_at pK.1 rfl ?_ (Nat.le_trans hz' hlen) (Nat.le_trans (Nat.le_of_eq (Array.size_push ..)) (Nat.succ_le_succ (Nat.le_trans hz' hlen))))
    have I'' : Inv X pins σ H' { s'' with heap := s''.heap.update K0 (Obj.mapSeq (·.push v)) } := Inv.turned (t' := s''.toks) (it := K0) I'.unpinned (fun b o hb e => (s1.2 b hb).trans e) pK.2.1 neKL (.inr (by have := I.sz; omega))
      (fun x c hc z => by
        obtain ⟨v, o, h1, h2⟩ := I'.cell x c hc
        rw [z, pK.1] at h1
        cases h1
        exact seqN _ _ _ h2)
      npK
    refine wpAny_pure ⟨rfl, H', kA.push v, c2, ks ++ [kd], pin2 I'' pD.2.1 pK.2.1 ((s1.2 D neDK).trans pD.1) hc2, ?_, by simp [hkl], hrest⟩
    have ea : (kA.push v).toList = kA.toList ++ [v] := by simp
    rw [ea]
    exact PySem.W.each_snoc (keyV_u hkd r') hk
  case done =>
    rintro s' ⟨Hi, kA, e, ks, Ii, hk, hkl, hr'⟩
    simp only [Nat.zero_add] at hkl hr'
    rw [List.drop_of_length_le (by rw [rv.length]; exact Nat.le_refl _)] at hr'
    obtain ⟨hal, hso, hdp, q⟩ := hr'
    have pK := Ii.pin (K0, seqObj "list" kA e) (by simp)
    have pD := Ii.pin (D, seqObj "list" #[] e1) (by simp)
    have hk' : PySem.W.EachIs (fun v k => ∃ as, Reads s'.heap v k as) kA.toList ks := hk.mono fun v k q => keyU_reads q _
    have hsz : kA.size = its.length := by
      have := hk.length
      rw [Array.length_toList] at this
      omega
    try dsimp only
    refine wpAny_bind (listItems_at pK.1 rfl ?_)
    obtain ⟨G1, g1, g2⟩ := restrict s'.heap (fun b => b != K0)
    have kp : PySem.W.KeepsBut D G1 s'.heap := fun b o hb e => by
      by_cases hbk : b = K0
      · rw [g2 b (by simp [hbk])] at e; cases e
      · rw [← g1 b (by simp [hbk])]; exact e
    have hu' : X.A.units + 200 < cLine := hu
    refine PySem.W.keyH_end (κ := PySem.W.dataKind s'.heap ks) (h₁ := G1) kp (g2 K0 (by simp)) pK.1 pD.1 neDK.symm (PySem.W.SortsAt.data (s := s') hk' hal hso fun d hd => ?_) hsz hlen fun h3 tk3 c k3 n3 => ?_
    · have := hdp d hd
      show X.A.units + 1 + 1 + d.depth < cLine
      omega
    · have eo := PySem.W.keyedOut_each (rev := false) (k := fun b : V × PyData => b.2) (bs := xs.zip ks) (vs := its) (R := fun u (b : V × PyData) => RelV b.1 u) (out := PySem.W.sortVals (PySem.W.dataKind s'.heap ks) false kA.toList its)
        ⟨s'.heap, kA.toList, by rw [List.map_snd_zip (by rw [rv.length]; omega)]; exact hal, by rw [List.map_snd_zip (by rw [rv.length]; omega)], by rw [List.map_snd_zip (by rw [rv.length]; omega)]; exact hk'⟩ (each_zipK rv (by rw [rv.length]; omega))
      have hnew : ObjOk X.prog X.w (upd Hi D (.lst (((xs.zip ks).mergeSort (PySem.W.dataLe false (·.2))).map (·.1)))) h3 D (.lst (((xs.zip ks).mergeSort (PySem.W.dataLe false (·.2))).map (·.1))) := by
        refine ⟨?_, _, c, vals_each eo, n3⟩
        rw [List.length_map, List.length_mergeSort, List.length_zip]
        omega
      refine ⟨rfl, .ref D, _, ?_, rfl, q D pD.2.1⟩
      have k4 : ∀ b o, b ≠ D → b ≠ K0 → s'.heap.get? b = some o → h3.get? b = some o := fun b o h1 h2 e => k3 b o h1 (by rw [g1 b (by simp [h2])]; exact e)
      have nt : ∀ b o, Hi b = some o → b ≠ D ∧ b ≠ K0 := fun b o e => ⟨(fun z => by rw [z, pD.2.1] at e; cases e), (fun z => by rw [z, pK.2.1] at e; cases e)⟩
      refine Inv.step (g' := s'.gens) (d' := s'.drawn) (t' := tk3) (ch := [D, K0]) Ii.unpinned (fun b hb => ?_) (fun b o _ _ hc e _ => k4 b o (fun z => hc (by simp [z])) (fun z => hc (by simp [z])) e) (fun b o _ _ hc e _ => ⟨o.slots, k4 b o (fun z => hc (by simp [z])) (fun z => hc (by simp [z])) e⟩)
        (fun b o hc _ n => by rw [upd_ne (fun z => hc (by simp [z]))]; exact n) (fun b o hc e => ⟨o, k4 b o (fun z => hc (by simp [z])) (fun z => hc (by simp [z])) e⟩)
        (fun b xs e => by rw [upd_ne (nt _ _ e).1]; exact e) (fun b o u e => by rw [upd_ne (nt _ _ e).1]; exact e) (fun b ps e => ⟨#[], by rw [upd_ne (nt _ _ e).1, e]; simp⟩) (fun m hm => ?_) (fun b u e => ?_) Ii.bare
      · have e : b = D ∨ b = K0 := by simpa using hb
        have cellN : ∀ x c, X.env.cells.lookup x = some c → c ≠ b := fun x c hc z => by
          obtain ⟨v, o, h1, h2⟩ := Ii.cell x c hc
          rw [z] at h1
          rcases e with rfl | rfl
          · rw [pD.1] at h1; cases h1; exact seqN _ _ _ h2
          · rw [pK.1] at h1; cases h1; exact seqN _ _ _ h2
        have := I.sz
        exact ⟨.inr (by rcases e with rfl | rfl <;> omega), (by rcases e with rfl | rfl; exact neDL; exact neKL), cellN, (by rcases e with rfl | rfl; exact npD; exact npK)⟩
      · obtain ⟨o, es, ep, ho, r⟩ := hm
        exact ⟨o, es, ep, k4 _ o neDL.symm neKL.symm ho, r⟩
      · by_cases hb : b = D
        · subst hb
          rw [upd_same] at e
          cases e
          exact hnew
        · rw [upd_ne hb] at e
          refine (Ii.hok b u e).stay (fun c v hc q => ?_) (fun c q => by rw [upd_ne (nt _ _ q).1]; exact q) (fun c xs q => by rw [upd_ne (nt _ _ q).1]; exact q)
          rcases hc with rfl | hc
          · exact k4 c v (nt _ _ e).1 (nt _ _ e).2 q
          · exact k4 c v (nt _ _ hc).1 (nt _ _ hc).2 q
end
/-! .. over data -/
def kyD : D → Bool
  | .int _ => true
  | .str _ => true
  | _ => false
def kysD (p : List D → Re D) : List D → Option (List D)
  | [] => some []
  | d :: ds => match p [d] with
    | .ok k => if kyD k = true then (kysD p ds).map (k :: ·) else none
    | _ => none
noncomputable def sortZ (ds ks : List D) : List D := ((ds.zip ks).mergeSort (PySem.W.dataLe false (fun q => toPy q.2))).map (·.1)
noncomputable def sortK (p : List D → Re D) : List D → Re Cell
  | [.lst ds] => match kysD p ds with
    | some ks => ifc (PySem.W.AllAlike (ks.map toPy) ∧ PySem.W.Sortable (ks.map toPy)) (.ok (.lst ((sortZ ds ks).map .da))) .stuck
    | none => .stuck
  | _ => .stuck
section
variable {K : PySem.W.Frag} {cl : Str → Option Addr}
theorem kysD_len {p : List D → Re D} : ∀ {ds ks : List D}, kysD p ds = some ks → ks.length = ds.length ∧ ∀ k ∈ ks, kyD k = true
  | [], ks, h => by cases h; exact ⟨rfl, by simp⟩
  | d :: ds, ks, h => by
    unfold kysD at h
    split at h
    · rename_i k e
      split at h
      · rename_i hk
        obtain ⟨t, ht, rfl⟩ := Option.map_eq_some_iff.mp h
        obtain ⟨a, b⟩ := kysD_len ht
        exact ⟨by simp [a], fun x hx => by rcases List.mem_cons.mp hx with rfl | hx; exact hk; exact b x hx⟩
      · cases h
    · cases h
theorem kyD_v {F : Hp} {k : D} {v : V} (h : kyD k = true) (r : Rp K cl F k v) : keyV v (toPy k) := by
  cases k <;> first | cases h | skip
  · cases (show v = .int _ from r); exact .inl ⟨_, rfl, rfl⟩
  · cases (show v = .str _ from r); exact .inr ⟨_, rfl, rfl⟩
theorem kyD_depth {k : D} (h : kyD k = true) : (toPy k).depth ≤ 64 := by
  cases k <;> first | cases h | skip
  all_goals simp [toPy, PyData.depth]
theorem keys_run {p : List D → Re D} {Qk : List PyData → Hp → Prop} : ∀ {ds ks : List D} {xs : List V} {F H : Hp} {acc : List PyData}, Ex F H → RpL K cl F ds xs → kysD p ds = some ks → (∀ F' H', Al F H F' H' → Qk (acc ++ ks.map toPy) H') → keysR (SpP K cl p) Qk xs acc H
  | [], ks, xs, F, H, acc, x, r, e, h => by
    cases (show xs = [] from r)
    cases e
    have := h F H (Al.refl x)
    simpa [keysR] using this
  | d :: ds, ks, xs, F, H, acc, x, r, e, h => by
    obtain ⟨v, t, rfl, r1, r2⟩ := r
    unfold kysD at e
    split at e
    · rename_i k ek
      split at e
      · rename_i hk
        obtain ⟨kt, ht, rfl⟩ := Option.map_eq_some_iff.mp e
        refine ⟨F, [d], x, ⟨v, [], rfl, r1, rfl⟩, ?_⟩
        rw [ek]
        intro u F' H' al rp
        refine ⟨toPy k, kyD_v hk rp, keys_run al.x (RpL.xt al.f _ _ r2) ht fun F2 H2 al2 => ?_⟩
        have := h F2 H2 (al.trans al2)
        simpa using this
      · cases e
    · cases e
theorem sortZ_rp {F : Hp} {ds ks : List D} {vs : List V} (r : RpL K cl F ds vs) (hk : ks.length = ds.length) : RpL K cl F (sortZ ds ks) (((vs.zip (ks.map toPy)).mergeSort (PySem.W.dataLe false (·.2))).map (·.1)) := by
  obtain ⟨hl, hz⟩ := rpl_zip ds vs r
  have l1 : (ds.zip ks).length = vs.length := by rw [List.length_zip]; omega
  have e1 : ((vs.zip (ds.zip ks)).mergeSort (PySem.W.dataLe false (fun t => toPy t.2.2))).map (fun t => t.2.1) = sortZ ds ks := by
    unfold sortZ
    have : (vs.zip (ds.zip ks)).map (fun t => t.2) = ds.zip ks := List.map_snd_zip (Nat.le_of_eq l1)
    rw [← this, ← List.map_mergeSort (r := PySem.W.dataLe false (fun t : V × D × D => toPy t.2.2)) (s := PySem.W.dataLe false (fun q : D × D => toPy q.2)) (f := fun t : V × D × D => t.2) (fun a _ b _ => rfl), List.map_map, this]
    rfl
  have e2 : ((vs.zip (ds.zip ks)).mergeSort (PySem.W.dataLe false (fun t => toPy t.2.2))).map (fun t => t.1) = ((vs.zip (ks.map toPy)).mergeSort (PySem.W.dataLe false (·.2))).map (·.1) := by
    have h0 : (ds.zip ks).map (fun q => toPy q.2) = ks.map toPy := by
      rw [show (fun q : D × D => toPy q.2) = toPy ∘ (fun q : D × D => q.2) from rfl, ← List.map_map, List.map_snd_zip (Nat.le_of_eq hk)]
    have : vs.zip (ks.map toPy) = (vs.zip (ds.zip ks)).map (fun t => (t.1, toPy t.2.2)) := by
      rw [← h0, List.zip_map_right]
      rfl
    rw [this, ← List.map_mergeSort (r := PySem.W.dataLe false (fun t : V × D × D => toPy t.2.2)) (f := fun t : V × D × D => (t.1, toPy t.2.2)) (fun a _ b _ => rfl), List.map_map]
    rfl
  rw [← e1, ← e2]
  have := zip_rpl (K := K) (cl := cl) (F := F) (((vs.zip (ds.zip ks)).mergeSort (PySem.W.dataLe false (fun t => toPy t.2.2))).map (fun t => (t.1, t.2.1))) fun p hp => by
    obtain ⟨t, ht, rfl⟩ := List.mem_map.mp hp
    have h1 := (List.mergeSort_perm _ _).mem_iff.mp ht
    refine hz (t.1, t.2.1) ?_
    have h2 : vs.zip ds = (vs.zip (ds.zip ks)).map (fun t => (t.1, t.2.1)) := by
      have : (ds.zip ks).map (fun q => q.1) = ds := List.map_fst_zip (by omega)
      conv => lhs; rw [← this, List.zip_map_right]
      rfl
    rw [h2]
    exact List.mem_map.mpr ⟨t, h1, rfl⟩
  simpa [List.map_map, Function.comp_def] using this
theorem spl_sortK {p : List D → Re D} {f : Addr} {vs : List V} {H : Hp} {Q : VK} {E : XK} (h : SpL K cl (sortK p) vs H Q E) : rSortK K (SpP K cl p) f vs [.ref f] H Q := by
  obtain ⟨F, ds0, x, r, q⟩ := h
  cases e : sortK p ds0 with
  | stuck => rw [e] at q; exact q.elim
  | ex _ =>
    unfold sortK at e
    split at e
    · split at e
      · unfold ifc at e
        split at e <;> cases e
      · cases e
    · cases e
  | ok c =>
    rw [e] at q
    unfold sortK at e
    split at e
    · rename_i ds
      split at e
      · rename_i ks hks
        unfold ifc at e
        split at e
        · rename_i hc
          cases e
          obtain ⟨v, t, rfl, ⟨a, xs, rfl, hF, rl⟩, rt⟩ := r
          cases (show t = [] from rt)
          obtain ⟨kl, kk⟩ := kysD_len hks
          refine ⟨a, xs, rfl, rfl, .inl (.inl (x a _ hF)), keys_run x rl hks fun F' H' al => ?_⟩
          simp only [List.nil_append]
          refine ⟨hc.1, hc.2, fun k hk => ?_, fun p hp => ?_⟩
          · obtain ⟨d, hd, rfl⟩ := List.mem_map.mp hk
            exact kyD_depth (kk d hd)
          · have x' : Ex H' (upd H' p (.lst (((xs.zip (ks.map toPy)).mergeSort (PySem.W.dataLe false (·.2))).map (·.1)))) := Ex.new hp
            refine q p F' _ ⟨al.f, al.h.trans x', al.x.trans x', al.n⟩ (al.h.no hp) (al.x.no hp) ?_ ⟨_, upd_same, rwl_da (sortZ_rp (RpL.xt al.f _ _ rl) kl)⟩
            simp [daC, isDa]
        · cases e
      · cases e
    · cases e
end
section
variable {X : Cx} {cl : Str → Option Addr} {xa : Option (Nat × Addr)} {Wx : WX} {k : Nat} {f : Addr} {fd : FuncData} {ps : List Str} {x : Str} {pp pos kp fp : Pos} {e : Expr} {mr : MA} {p : List D → Re D} {mk : Option Cell → Sto → Rs W}
theorem qe_sortK (hu : Hu X) (hmk : MkN X.K cl xa mk (fun Q => Q)) (G : FnOk X.prog X.w X.K X.mg X.base (L2.CX X.prog X.w) k f fd ps (SpP X.K cl p)) (hr : Room (k + 2) X.A) (hg : Gl X x) (hm : X.mg x = some (.ref f)) (hb : Binds X.K fd ps []) (hgs : Gl X "sorted") (hms : X.mg "sorted" = none)
    (ha : QA X cl xa Wx [e] mr) (hdb : (x == ("__debug__" : Str)) = false := by decide)
    (h1 : backTo pos (starEach [e] X.env) = (false, eval e X.env) :: backTo pos (starEach [] X.env) := by rfl) (h2 : (backTo pos (starEach [e] X.env)).any (·.1) = false := by rfl)
    (hall : (backToKw pos (keywordEach [⟨some "key", .Name x fp, kp⟩] X.env)).all (·.1.isSome) = true := by rfl) (hnone : (backToKw pos (keywordEach [⟨some "key", .Name x fp, kp⟩] X.env)).any (·.1.isNone) = false := by rfl) (hks : (backToKw pos (keywordEach [⟨some "key", .Name x fp, kp⟩] X.env)).filterMap (·.1) = [Str.ofString "key"] := by rfl) :
    QE X cl xa Wx (.Call (.Name "sorted" pp) [e] [⟨some "key", .Name x fp, kp⟩] pos) (mCallL mk (sortK p) mr) := by
  obtain ⟨t, pa, q⟩ := ha
  refine ⟨_, pe_callBK (cr_sortK hu G hr hb) hgs hms (by rfl) pa (pk_cons (pe_glob (v := .ref f) hg hm rfl hdb) pk_nil) (by decide) (by decide) h1 h2 hall hnone hks, fun C y σ ρ S s Q h => ?_⟩
  refine q C y σ ρ S s _ (Post.go h fun ws S1 h1 vs z s1 g1 r1 => ?_)
  exact spl_sortK (useL hmk s1 r1 (Post.re (h1 z g1) g1))
end
end Ng
namespace Ng
open PySem PySem.Spec PyProof.Rows L2
/-! ### xs[::-1] -/
def revF (mk : Option Cell → Sto → Rs W) (w : W) (S : Sto) : Rs W := match lstW S w with
  | some ws => mk (some (.lst ws.reverse)) S
  | none => .stuck
def mRev (mk : Option Cell → Sto → Rs W) (me : ME) : ME := fun ρ S => (me ρ S).bind fun w S => revF mk w S
section
variable {X : Cx} {cl : Str → Option Addr} {xa : Option (Nat × Addr)} {Wx : WX} {e : Expr} {me : ME} {k : Nat} {p1 p2 p3 pos : Pos}
theorem qe_rev {mk : Option Cell → Sto → Rs W} (hmk : ∀ (C : Cn) (y : Y) (σ : L2.St) (ρ : Rho) (S : Sto) (o : Option Cell) (Q : VK), Sim X.K cl xa C y σ ρ S → Post X.K cl xa C Wx y σ ρ (mk o S) (OkE X.K cl xa C y σ ρ Q) → ∃ c, o = some c ∧ Gn X.K cl y c Q)
    (he : QE X cl xa Wx e me) : QE X cl xa Wx (.Subscript e (.Slice none none (some (.UnaryOp .USub (.Constant (.int 1) k p1) p2)) p3) pos) (mRev mk me) := by
  obtain ⟨t, p, q⟩ := he
  refine ⟨_, pe_revL p, fun C y σ ρ S s Q h => ?_⟩
  refine q C y σ ρ S s _ (Post.go h fun w S1 h1 v z s1 g1 r1 => ?_)
  have h4 := Post.re (h1 z g1) g1
  unfold revF at h4
  split at h4
  · rename_i ws hw
    obtain ⟨c', e, g⟩ := hmk C z σ ρ S1 _ Q s1 h4
    cases e
    obtain ⟨a, vs, rfl, t, l⟩ := lstW_ok s1.bs r1 hw
    exact ⟨a, vs, rfl, .inl (.inl t), fun p hp => g p _ hp ⟨_, upd_same, upd_rw (paired_rev l)⟩⟩
  · exact h4.elim
theorem qe_revD (he : QE X cl xa Wx e me) : QE X cl xa Wx (.Subscript e (.Slice none none (some (.UnaryOp .USub (.Constant (.int 1) k p1) p2)) p3) pos) (mRev mkD me) := qe_rev (fun C y σ ρ S o Q s h => post_newD s h) he
theorem qe_revC (he : QE X cl xa Wx e me) : QE X cl xa Wx (.Subscript e (.Slice none none (some (.UnaryOp .USub (.Constant (.int 1) k p1) p2)) p3) pos) (mRev mkC me) := qe_rev (fun C y σ ρ S o Q s h => post_newC s h) he
end
/-! ### d.get(k, x) -/
def dctW (S : Sto) (w : W) : Bool := (dkW S w).isSome || (dtW S w).isSome
def getF (w k x : W) (S : Sto) : Rs W := match dget w k S with
  | some (some u) => .ok u S
  | some none => .ok x S
  | none => .stuck
def mGet2 (md mk mx : ME) : ME := fun ρ S => (md ρ S).bind fun w S => if dctW S w = true then (mk ρ S).bind fun k S => (mx ρ S).bind fun x S => getF w k x S else .stuck
def mGet1 (md mk : ME) : ME := fun ρ S => (md ρ S).bind fun w S => if dctW S w = true then (mk ρ S).bind fun k S => getF w k (.da .non) S else .stuck
section
variable {X : Cx} {cl : Str → Option Addr} {xa : Option (Nat × Addr)} {Wx : WX} {o e f : Expr} {md mk mx : ME} {apos cpos : Pos}
theorem dct_ok {K : PySem.W.Frag} {y : Y} {S : Sto} (b : Bs K cl y S) {w : W} {v : V} (r : RW K cl y w v) (h : dctW S w = true) : ∃ a, v = .ref a ∧ IsD y.H a := by
  unfold dctW at h
  cases e : dkW S w with
  | some kws =>
    obtain ⟨a, kvs, e, t, l⟩ := dkW_ok b r e
    exact ⟨a, e, .inl ⟨_, t⟩⟩
  | none =>
    rw [e] at h
    cases e2 : dtW S w with
    | some kws =>
      obtain ⟨a, kvs, e, t, l⟩ := dtW_ok b r e2
      exact ⟨a, e, .inr ⟨_, t⟩⟩
    | none => rw [e2] at h; cases h
theorem qe_get2 (hu : Hu X) (ho : QE X cl xa Wx o md) (he : QE X cl xa Wx e mk) (hf : QE X cl xa Wx f mx) (m : M2 X o "get" apos e f cpos) : QE X cl xa Wx (.Call (.Attribute o "get" apos) [e, f] [] cpos) (mGet2 md mk mx) := by
  obtain ⟨t, p, q⟩ := ho
  obtain ⟨t1, p1, q1⟩ := he
  obtain ⟨t2, p2, q2⟩ := hf
  have hu' : X.A.units + 200 < cLine := hu
  refine ⟨_, pe_dget2 (by omega) p p1 p2 m, fun C y σ ρ S s Q h => ?_⟩
  refine q C y σ ρ S s _ (Post.go h fun w S1 h1 v z s1 g1 r1 => ?_)
  have h1' := h1 z g1
  split at h1'
  · rename_i hd
    obtain ⟨a, rfl, hD⟩ := dct_ok s1.bs r1 hd
    refine ⟨a, rfl, hD, ?_⟩
    refine q1 C z σ ρ S1 s1 _ (Post.go h1' fun k S2 h2 vk z2 s2 g2 r2 => ?_)
    refine q2 C z2 σ ρ S2 s2 _ (Post.go (h2 z2 g2) fun x S3 h3 vx z3 s3 g3 r3 => ?_)
    have h4 := Post.re (h3 z3 g3) (g1.trans (g2.trans g3))
    unfold getF at h4
    split at h4
    · rename_i u hu
      obtain ⟨a', ov, e, g, q1, _⟩ := dget_ok s3.bs (r1.grow (g2.trans g3)) (r2.grow g3) hu
      cases e
      obtain ⟨v, rfl, rv⟩ := q1 u rfl
      exact ⟨_, g, h4 v z3 s3 (Gr.refl z3) rv⟩
    · rename_i hu
      obtain ⟨a', ov, e, g, _, q2⟩ := dget_ok s3.bs (r1.grow (g2.trans g3)) (r2.grow g3) hu
      cases e
      refine ⟨ov, g, ?_⟩
      rw [q2 rfl]
      exact h4 vx z3 s3 (Gr.refl z3) r3
    · exact h4.elim
  · exact h1'.elim
theorem qe_get1 (hu : Hu X) (ho : QE X cl xa Wx o md) (he : QE X cl xa Wx e mk) (m : M1 X o "get" apos e cpos) : QE X cl xa Wx (.Call (.Attribute o "get" apos) [e] [] cpos) (mGet1 md mk) := by
  obtain ⟨t, p, q⟩ := ho
  obtain ⟨t1, p1, q1⟩ := he
  have hu' : X.A.units + 200 < cLine := hu
  refine ⟨_, pe_dget1 (by omega) p p1 m, fun C y σ ρ S s Q h => ?_⟩
  refine q C y σ ρ S s _ (Post.go h fun w S1 h1 v z s1 g1 r1 => ?_)
  have h1' := h1 z g1
  split at h1'
  · rename_i hd
    obtain ⟨a, rfl, hD⟩ := dct_ok s1.bs r1 hd
    refine ⟨a, rfl, hD, ?_⟩
    refine q1 C z σ ρ S1 s1 _ (Post.go h1' fun k S2 h2 vk z2 s2 g2 r2 => ?_)
    have h4 := Post.re (h2 z2 g2) (g1.trans g2)
    unfold getF at h4
    split at h4
    · rename_i u hu
      obtain ⟨a', ov, e, g, q1, _⟩ := dget_ok s2.bs (r1.grow g2) r2 hu
      cases e
      obtain ⟨v, rfl, rv⟩ := q1 u rfl
      exact ⟨_, g, h4 v z2 s2 (Gr.refl z2) rv⟩
    · rename_i hu
      obtain ⟨a', ov, e, g, _, q2⟩ := dget_ok s2.bs (r1.grow g2) r2 hu
      cases e
      refine ⟨ov, g, ?_⟩
      rw [q2 rfl]
      exact h4 .non z2 s2 (Gr.refl z2) rfl
    · exact h4.elim
  · exact h1'.elim
end
end Ng
namespace Ng
open PySem PySem.Spec PyProof.Rows L2
/-! ### sorted(d) of a dict whose keys are texts or ints -/
abbrev kPy (k : Key) : PyData := toPy (kD k)
noncomputable def sortDC : List W → Sto → Option Cell
  | [w], S => match dkW S w with
    | some kws => ifc (PySem.W.AllAlike ((kws.map (·.1)).map kPy) ∧ PySem.W.Sortable ((kws.map (·.1)).map kPy)) (some (.lst (((kws.map (·.1)).mergeSort (PySem.W.dataLe false kPy)).map fun k => .da (kD k)))) none
    | none => none
  | _, _ => none
section
variable {X : Cx} {cl : Str → Option Addr}
theorem kPy_depth (k : Key) : (kPy k).depth ≤ 64 := by cases k <;> simp [kPy, kD, toPy, PyData.depth]
theorem kPy_reads {k : Key} {u : Value} (r : RelV (kV k) u) (h : Heap) : Reads h u (kPy k) [] := by
  cases k with
  | inl i => obtain ⟨t, rfl⟩ := (show ∃ t, u = Value.int i t from r); exact .int i t
  | inr x => obtain ⟨t, rfl⟩ := (show ∃ t, u = Value.str x t from r); exact .str x t
theorem each_of_at {α : Type} {R : Value → α → Prop} : ∀ {us : List Value} {bs : List α}, us.length = bs.length → (∀ (j : Nat) (u : Value) (b : α), us[j]? = some u → bs[j]? = some b → R u b) → PySem.W.EachIs R us bs
  | [], [], _, _ => .nil
  | u :: us, b :: bs, h, q => .cons (q 0 u b rfl rfl) (each_of_at (by simpa using h) fun j u b h1 h2 => q (j + 1) u b (by simpa using h1) (by simpa using h2))
  | [], _ :: _, h, _ => by simp at h
  | _ :: _, [], h, _ => by simp at h
theorem vals_keys : ∀ {us : List Value} {bs : List Key}, PySem.W.EachIs (fun u k => RelV (kV k) u) us bs → Vals (bs.map kV) us
  | _, _, .nil => .nil
  | _, _, .cons r t => .cons r (vals_keys t)
theorem cr_sortDk (hu : Hu X) (hc : X.calm = true) : CallR X (.builtin "sorted") (fun xs H Q => ∃ p kvs, xs = [V.ref p] ∧ Rd H p (.dK kvs) ∧ PySem.W.AllAlike ((kvs.map (·.1)).map kPy) ∧ PySem.W.Sortable ((kvs.map (·.1)).map kPy) ∧
    ∀ q, H q = none → Q (.ref q) (upd H q (.lst (((kvs.map (·.1)).mergeSort (PySem.W.dataLe false kPy)).map kV)))) := by
  intro pins s σ H xs us Q I r ⟨p, kvs, e, hk, ha, hso, q⟩
  subst e
  obtain ⟨u, rfl, rx⟩ := vals1 r
  cases (show u = Value.ref p from rx)
  obtain ⟨z, lo, vs, rk, hd⟩ := dk_rd I.hok hk
  obtain ⟨ep, hat⟩ := hd.dictAt
  have hl : kvs.length = vs.length := Paired.length rk
  have hu' : X.A.units + 200 < cLine := hu
  refine PySem.Calls.call_function_entry kind_sorted plain_sorted entry_sorted (args_sorted1 _) ?_
  unfold Builtin.«sorted»
  refine wpAny_bind (m := checkCount "sorted" 1 1 _) (wpAny_pure ?_)
  refine wpAny_bind (PySem.W.kdu_collect (A := X.A.in1) (PySem.W.kdl_dict (knd := mixKind X.prog X.w) (kvs := vs) (ep := ep) lo) (I.ok.hd hc) hat (by omega) fun h' tk acc hkeep hacc => ?_)
  have hal : acc.toList.length = (kvs.map (·.1)).length := by rw [Array.length_toList, hacc.1, List.length_map, hl]
  have hz : acc.toList.length ≤ sizeLine := by rw [hal, List.length_map]; exact z
  refine wpAny_bind (wpAny_newList ?_ hz)
  refine wpAny_bind (wpAny_holding ?_)
  have each : PySem.W.EachIs (fun u k => RelV (kV k) u) acc.toList (kvs.map (·.1)) := each_of_at hal fun j u b h1 h2 => by
    obtain ⟨k, y, hky, hi⟩ := hacc.2 j u (by rw [← Array.getElem?_toList]; exact h1)
    have e1 : (kvs.map (·.1))[j]? = some k := by
      rw [KV.keys rk, List.getElem?_map, hky]; rfl
    rw [e1] at h2
    cases h2
    exact keyIs_rel hi
  have ho : (h'.push { cls := .type "list", data := .seq acc.toList.toArray }).get? h'.objs.size = some (seqObj "list" acc.toList.toArray 0) := Heap.get?_push_size _ rfl
  refine PySem.W.list_sort_data (A := X.A.in1) (R := fun u k => RelV (kV k) u) (bs := kvs.map (·.1)) (enc := kPy) (vs := acc.toList) ho each (each.mono fun u k r => ⟨[], kPy_reads r _, by simp⟩) ha hso (by rw [List.length_map]; exact z) (fun b _ => ?_) fun out ho' eo => ?_
  · have := kPy_depth b
    show X.A.units + 1 + 1 + (kPy b).depth < cLine
    omega
  · obtain ⟨ep', he'⟩ := PyProof.Rows.sortedHeap_at (h := h'.push { cls := .type "list", data := .seq acc.toList.toArray }) (out := out.toArray) ho
    have I1 : Inv X pins σ H { s with heap := h', toks := tk } := I.kept hkeep
    refine wpAny_pure ⟨_, rfl, .ref h'.objs.size, _, I1.laid (t' := tk) (a := h'.objs.size) (o := .lst (((kvs.map (·.1)).mergeSort (PySem.W.dataLe false kPy)).map kV)) (fun b o e => (PyProof.Rows.sortedHeap_old (Nat.ne_of_lt (Heap.lt_size e)) (Heap.lt_size (Heap.get?_push_of_some _ e))).trans (Heap.get?_push_of_some _ e)) (Nat.le_refl _) ⟨?_, out, ep', vals_keys eo, he'⟩, rfl, q _ (I1.hok.fresh (Nat.le_refl _))⟩
    rw [List.length_map, List.length_mergeSort, List.length_map]
    exact z
theorem cn_sortedD (hu : Hu X) (hc : X.calm = true) : CN X cl (cAny X (.builtin "sorted")) sortDC := fun y S b ws vs rs c e Q g => by
  unfold sortDC at e
  split at e
  · rename_i w
    obtain ⟨v, rfl, r⟩ := rwl1 rs
    split at e
    · rename_i kws q
      obtain ⟨⟨h1, h2⟩, rfl⟩ := ifc_some e
      obtain ⟨a, kvs, rfl, t, l⟩ := dkW_ok b r q
      have ek : kws.map (·.1) = kvs.map (·.1) := by
        clear e q t g h1 h2 r rs
        induction l with
        | nil => rfl
        | cons h _ ih => simp [ih, h.1]
      rw [ek] at h1 h2
      refine ⟨_, cr_sortDk hu hc, a, kvs, rfl, t, h1, h2, fun p hp => g p _ hp ⟨_, upd_same, upd_rw ?_⟩⟩
      rw [ek]
      generalize (kvs.map (·.1)).mergeSort (PySem.W.dataLe false kPy) = ks
      induction ks with
      | nil => exact .nil
      | cons k ks ih => exact .cons (kD_ok k) ih
    · cases e
  · cases e
end
end Ng
namespace Ng
open PySem PySem.Spec PyProof.Rows L2
/-! ### d == e, two dicts of the same keys in the same order, their values the same data -/
def selfD (d : D) : Bool := PySem.W.alike (toPy d) (toPy d) && PyData.eqv (toPy d) (toPy d) && (toPy d).canLay0 && decide ((toPy d).depth ≤ 64)
noncomputable def eqDkW (x y : W) (S : Sto) : Option W := match x, y with
  | .da (.dk ks ds), .da (.dk ks' ds') => ifc (ks = ks' ∧ ds = ds' ∧ ks.Nodup ∧ ∀ d ∈ ds, selfD d = true) (some (.da (.bl true))) none
  | _, _ => none
section
variable {X : Cx} {cl : Str → Option Addr}
theorem hits_same {pins : List (Addr × Obj)} {σ : L2.St} {H : Hp} {s : Shared} (I : Inv X pins σ H s) {A : Around} (hu : A.units + 64 < cLine) {VB : List (Key × Value)} : ∀ {ds : List D} {ka kb : List (Key × V)} {va vb : List (Key × Value)}, KV ka va → KV kb vb → ka.map (·.1) = kb.map (·.1) →
    DpAll X.K H (ka.map (·.2)) (ds.map toPy) → DpAll X.K H (kb.map (·.2)) (ds.map toPy) → (∀ d ∈ ds, selfD d = true) → (∀ q ∈ vb, valueAt VB q.1 = some q.2) → PySem.W.KeqHitsP X.prog X.w A s VB va true
  | ds, [], kb, _, vb, .nil, rb, ek, da, db, hd, hv => .nil
  | [], (k, x) :: ka, kb, _, vb, .cons r t, rb, ek, da, db, hd, hv => by cases da
  | d :: ds, (k, x) :: ka, [], _, vb, .cons r t, rb, ek, da, db, hd, hv => by cases ek
  | d :: ds, (k, x) :: ka, (k', z) :: kb, (k1, u) :: va, (k2, y) :: vb, .cons r t, .cons r' t', ek, da, db, hd, hv => by
    simp only [List.map_cons, List.cons.injEq] at ek
    cases da with
    | cons a1 a2 =>
      cases db with
      | cons b1 b2 =>
        obtain ⟨as, ra⟩ := Dp.reads I _ _ _ a1 r.2
        obtain ⟨bs, rb⟩ := Dp.reads I _ _ _ b1 r'.2
        have hs := hd d (by simp)
        unfold selfD at hs
        simp only [Bool.and_eq_true, decide_eq_true_eq] at hs
        have e := PySem.W.eqAt_alike _ _ A s u y as bs ra rb hs.1.1.1 (by rw [Nat.min_self]; omega)
        rw [hs.1.1.2] at e
        have hk : k1 = k2 := by rw [← show k = k1 from r.1, ← show k' = k2 from r'.1]; exact ek.1
        have := hits_same I hu (VB := VB) t t' ek.2 a2 b2 (fun d hd' => hd d (by simp [hd'])) (fun q hq => hv q (by simp [hq]))
        have hit := PySem.W.KeqHitsP.hit (prog := X.prog) (w := X.w) (A := A) (s := s) (k := k1) (v := u) (y := y) (by rw [hk]; exact hv (k2, y) (by simp)) e.eqP this
        exact hit
theorem op_eqDk (hu : Hu X) : OpR X (compareOp .Eq) (fun x y H Q => ∃ (a b : Addr) (ka kb : List (Key × V)) (ds : List D), x = .ref a ∧ y = .ref b ∧ Rd H a (.dK ka) ∧ Rd H b (.dK kb) ∧ ka.map (·.1) = kb.map (·.1) ∧ (kb.map (·.1)).Nodup ∧
    DpAll X.K H (ka.map (·.2)) (ds.map toPy) ∧ DpAll X.K H (kb.map (·.2)) (ds.map toPy) ∧ (∀ d ∈ ds, selfD d = true) ∧ Q (.bl true) H) := by
  intro pins s σ H x y v u Q I rx ry h
  obtain ⟨a, b, ka, kb, ds, rfl, rfl, ha, hb, ek, nd, da, db, hd, q⟩ := h
  cases (show v = Value.ref a from rx)
  cases (show u = Value.ref b from ry)
  obtain ⟨_, ya, va, ra, dda⟩ := dk_rd I.hok ha
  obtain ⟨_, yb, vb, rb, ddb⟩ := dk_rd I.hok hb
  have hu' : X.A.units + 200 < cLine := hu
  have nd' : (vb.map (·.1)).Nodup := by rw [← KV.keys rb]; exact nd
  refine PySem.W.rcP_dicts (knd := mixKind X.prog X.w) (r := true) ya yb dda ddb (by omega) (fun _ => hits_same I (A := X.A.in1) (by show X.A.units + 1 + 64 < cLine; omega) ra rb ek da db hd fun q hq => valueAt_of_mem nd' hq) _ _ ?_
  have e : va.length = vb.length := by
    rw [← ra.length, ← rb.length]
    have := congrArg List.length ek
    simpa using this
  rw [show (va.length == vb.length && true) = true from by rw [e]; simp]
  exact ⟨.bl true, H, I, rfl, q⟩
theorem ow_eqDk (hu : Hu X) : HOp X cl (compareOp .Eq) (vl2 eqDkW) := V2.h fun y S b w w' v v' r r' u e Q g => by
  unfold eqDkW at e
  split at e
  · rename_i ks ds ks' ds'
    obtain ⟨⟨rfl, rfl, nd, hd⟩, rfl⟩ := ifc_some e
    obtain ⟨a, vs, rfl, ⟨o, ha⟩, la, ra⟩ := r
    obtain ⟨a', vs', rfl, ⟨o', ha'⟩, la', ra'⟩ := r'
    have lay : ∀ d ∈ ds, (toPy d).canLay0 = true := fun d hd' => by
      have := hd d hd'
      unfold selfD at this
      simp only [Bool.and_eq_true] at this
      exact this.1.2
    refine ⟨_, op_eqDk hu, a, a', ks.zip vs, ks.zip vs', ds, rfl, rfl, .inr ⟨o, b.fz _ _ ha⟩, .inr ⟨o', b.fz _ _ ha'⟩, ?_, ?_, ?_, ?_, hd, gv_da b g rfl⟩
    · rw [List.map_fst_zip (Nat.le_of_eq la), List.map_fst_zip (Nat.le_of_eq la')]
    · rw [List.map_fst_zip (Nat.le_of_eq la')]; exact nd
    · rw [List.map_snd_zip (Nat.le_of_eq la.symm)]; exact toPyL_all ds vs lay (RpL.xt b.fz _ _ ra)
    · rw [List.map_snd_zip (Nat.le_of_eq la'.symm)]; exact toPyL_all ds vs' lay (RpL.xt b.fz _ _ ra')
  · cases e
end
end Ng
namespace Ng
open PySem PySem.Spec PyProof.Rows L2
/-! ### sorted(d) of a locked dict whose keys are tuples -/
abbrev kDT (k : List Key) : D := .tup (k.map kD)
abbrev kPyT (k : List Key) : PyData := toPy (kDT k)
noncomputable def sortDT : List D → Re Cell
  | [.dt ks ds] => ifc (PySem.W.AllAlike (ks.map kPyT) ∧ PySem.W.Sortable (ks.map kPyT) ∧ ks.length = ds.length) (.ok (.lst ((ks.mergeSort (PySem.W.dataLe false kPyT)).map fun k => .da (kDT k)))) .stuck
  | _ => .stuck
theorem toPyL_kD : ∀ ks : List Key, toPyL (ks.map kD) = ks.map kPy
  | [] => rfl
  | k :: ks => by simp only [List.map_cons, toPyL, toPyL_kD ks]
theorem kPyT_depth (k : List Key) : (kPyT k).depth ≤ 64 := by
  have h : ∀ ks : List Key, PyData.depthAll (ks.map kPy) ≤ 1 := fun ks => by
    induction ks with
    | nil => simp [PyData.depthAll]
    | cons k ks ih => cases k <;> simp [PyData.depthAll, kPy, kD, toPy, PyData.depth, ih]
  simp only [kPyT, kDT, toPy, toPyL_kD, PyData.depth]
  have := h k
  omega
/-- a dict's keys gathered, whatever they are -/
theorem kdl_raw {prog : Program} {w : World} {d : Addr} {o : Obj} {es : Array DictEntry} {ep : Nat} (lo : (d == sysModules) = false) (hx : o.ExactDict) (hdt : o.data = .dict es ep) : PySem.W.KdlSrc prog w "dict" d d es.size (fun i v => ∃ en, es[i]? = some en ∧ en.key = v) (fun h => h.get? d = some o) where
  type := fun _ hm => ⟨o, hm, hx.1⟩
  there := fun _ hm => ⟨Heap.lt_size hm, Heap.lt_size hm⟩
  keep := fun _ _ hm hk => hk d (.inl rfl) o hm
  notList := by decide
  notTuple := by decide
  hint := fun _ _ _ _ hm hq => PySem.W.kdl_hint_dict ⟨o, hm, hx.1⟩ hq
  iter := fun A s hh hm => by
    have hne : d ≠ s.heap.objs.size := Nat.ne_of_lt (Heap.lt_size hm)
    refine ⟨_, fun i h => h.IsKeyIter s.heap.objs.size d i es.size ep ∧ h.get? d = some o, (fun _ _ hq => iter_keys lo hm hx hdt hq), ⟨by simp, fun i h h' st k => ⟨st.1.at fun oi e => k _ (by simp) oi e, k d (by simp) o st.2⟩, fun i s' Q E hi st hQ => ?_, fun s' Q E st hQ => ?_, fun i s' Q E st h => ?_⟩, ⟨_, Heap.get?_push_size _ rfl, rfl, rfl⟩, Heap.get?_push_of_some _ hm⟩
    · have hen : es[i]? = some es[i] := by simp [hi]
      refine next_key_item st.1 st.2 hdt rfl hen fun h' st' sb => ?_
      exact hQ _ h' s'.toks ⟨_, hen, rfl⟩ ⟨st', (sb.2 d hne).trans st.2⟩ fun b ob hb e => (sb.2 b (by simpa using hb)).trans e
    · refine next_key_end hh st.1 st.2 hdt rfl (Nat.le_refl _) fun h' eb => ?_
      exact hQ h' s'.toks fun b ob hb e => eb b ob (by simpa using hb) e
    · refine wpAny_pyIter_slot st.1.typeIs F.slot_dict_keyiterator_iter (wpAny_call_entry F.slot_dict_keyiterator_iter st.1.typeIs F.entry_dict_keyiterator_iter ?_ (F.args_dict_keyiterator_iter_1 _))
      show wpAny _ _ (ret (.ref _)) _ _ s'
      exact wpAny_pure ⟨_, rfl, "dict_keyiterator", _, st.1.typeIs, F.slot_dict_keyiterator_next.lookup, h⟩
section
variable {X : Cx} {cl : Str → Option Addr}
def rSortDT : List V → Hp → VK → Prop := fun xs H Q => ∃ (d : Addr) (o : Obj) (kvs : List (List Key × V)), xs = [V.ref d] ∧ H d = some (.frz o (.dT kvs)) ∧ PySem.W.AllAlike ((kvs.map (·.1)).map kPyT) ∧ PySem.W.Sortable ((kvs.map (·.1)).map kPyT) ∧
  ∀ p qs, H p = none → Paired (fun (k : List Key) (q : Addr) => H q = some (.tup (k.map kV))) ((kvs.map (·.1)).mergeSort (PySem.W.dataLe false kPyT)) qs → Q (.ref p) (upd H p (.lst (qs.map V.ref)))
theorem reads_keys {h : Heap} : ∀ {k : List Key} {us : List Value}, Vals (k.map kV) us → ReadsAll h us (k.map kPy) []
  | [], _, .nil => .nil
  | k :: ks, _, .cons r t => ReadsAll.cons (as := []) (bs := []) (kPy_reads r h) (reads_keys t)
theorem tup_reads {pins : List (Addr × Obj)} {σ : L2.St} {H : Hp} {s : Shared} (I : Inv X pins σ H s) {q : Addr} {k : List Key} (h : H q = some (.tup (k.map kV))) : Reads s.heap (.ref q) (kPyT k) [] := by
  obtain ⟨its, r, ht, _⟩ := I.tuple (.inl (.inl h))
  obtain ⟨o, h1, h2, n, h3⟩ := ht
  have e : kPyT k = .tuple (k.map kPy) := by simp only [kPyT, kDT, toPy, toPyL_kD]
  rw [e]
  exact Reads.tuple h1 h2 h3 (by simpa using reads_keys r)
theorem refs_of {H : Hp} : ∀ {us : List Value} {ks : List (List Key)}, PySem.W.EachIs (fun u k => ∃ q, u = Value.ref q ∧ H q = some (.tup (k.map kV))) us ks → ∃ qs, Vals (qs.map V.ref) us ∧ Paired (fun (k : List Key) (q : Addr) => H q = some (.tup (k.map kV))) ks qs
  | _, _, .nil => ⟨[], .nil, .nil⟩
  | _, _, .cons ⟨q, e, h⟩ t => by
    obtain ⟨qs, a, b⟩ := refs_of t
    exact ⟨q :: qs, .cons (show RelV (.ref q) _ from e) a, .cons h b⟩
theorem cr_sortDT (hu : Hu X) (hc : X.calm = true) : CallR X (.builtin "sorted") rSortDT := by
  intro pins s σ H xs us Q I r ⟨d, o, kvs, e, hk, ha, hso, q⟩
  subst e
  obtain ⟨u, rfl, rx⟩ := vals1 r
  cases (show u = Value.ref d from rx)
  obtain ⟨lo, hgd, hx, es, ep, hdt, hsz, ent⟩ := I.frzT hk
  have z : kvs.length ≤ sizeLine := by
    obtain ⟨_, z, _⟩ := I.hok d _ hk
    exact z
  have hu' : X.A.units + 200 < cLine := hu
  refine PySem.Calls.call_function_entry kind_sorted plain_sorted entry_sorted (args_sorted1 _) ?_
  unfold Builtin.«sorted»
  refine wpAny_bind (m := checkCount "sorted" 1 1 _) (wpAny_pure ?_)
  refine wpAny_bind (PySem.W.kdu_collect (A := X.A.in1) (kdl_raw lo hx hdt) (I.ok.hd hc) hgd (by omega) fun h' tk acc hkeep hacc => ?_)
  have hal : acc.toList.length = (kvs.map (·.1)).length := by rw [Array.length_toList, hacc.1, List.length_map, hsz]
  have hz : acc.toList.length ≤ sizeLine := by rw [hal, List.length_map]; exact z
  refine wpAny_bind (wpAny_newList ?_ hz)
  refine wpAny_bind (wpAny_holding ?_)
  have each : PySem.W.EachIs (fun u k => ∃ q, u = Value.ref q ∧ H q = some (.tup (k.map kV))) acc.toList (kvs.map (·.1)) := each_of_at hal fun j u b h1 h2 => by
    obtain ⟨en, h3, h4⟩ := hacc.2 j u (by rw [← Array.getElem?_toList]; exact h1)
    rw [List.getElem?_map] at h2
    obtain ⟨kv, h5, rfl⟩ := Option.map_eq_some_iff.mp h2
    obtain ⟨en', q', h6, h7, h8⟩ := ent j kv.1 kv.2 h5
    rw [h3] at h6
    cases h6
    exact ⟨q', by rw [← h4]; exact h7, h8⟩
  have I1 : Inv X pins σ H { s with heap := h', toks := tk } := I.kept hkeep
  have I2 : Inv X pins σ H { s with heap := h'.push { cls := .type "list", data := .seq acc.toList.toArray }, toks := tk } := I1.kept (t' := tk) fun b o e => Heap.get?_push_of_some _ e
  have ho : (h'.push { cls := .type "list", data := .seq acc.toList.toArray }).get? h'.objs.size = some (seqObj "list" acc.toList.toArray 0) := Heap.get?_push_size _ rfl
  refine PySem.W.list_sort_data (A := X.A.in1) (R := fun u k => ∃ q, u = Value.ref q ∧ H q = some (.tup (k.map kV))) (bs := kvs.map (·.1)) (enc := kPyT) (vs := acc.toList) ho each (each.mono fun u k ⟨q, e, h⟩ => ⟨[], by rw [e]; exact tup_reads I2 h, by simp⟩) ha hso (by rw [List.length_map]; exact z) (fun b _ => ?_) fun out ho' eo => ?_
  · have := kPyT_depth b
    show X.A.units + 1 + 1 + (kPyT b).depth < cLine
    omega
  · obtain ⟨ep', he'⟩ := PyProof.Rows.sortedHeap_at (h := h'.push { cls := .type "list", data := .seq acc.toList.toArray }) (out := out.toArray) ho
    obtain ⟨qs, v1, v2⟩ := refs_of eo
    refine wpAny_pure ⟨_, rfl, .ref h'.objs.size, _, I1.laid (t' := tk) (a := h'.objs.size) (o := .lst (qs.map V.ref)) (fun b o e => (PyProof.Rows.sortedHeap_old (Nat.ne_of_lt (Heap.lt_size e)) (Heap.lt_size (Heap.get?_push_of_some _ e))).trans (Heap.get?_push_of_some _ e)) (Nat.le_refl _) ⟨?_, out, ep', v1, he'⟩, rfl, q _ qs (I1.hok.fresh (Nat.le_refl _)) v2⟩
    rw [v1.length, ho', List.length_map]
    exact z
open Classical in
theorem spl_sortDT {K : PySem.W.Frag} {vs : List V} {H : Hp} {Q : VK} {E : XK} (h : SpL K cl sortDT vs H Q E) : rSortDT vs H Q := by
  obtain ⟨F, ds0, x, r, q⟩ := h
  unfold sortDT at q
  split at q
  · rename_i hk
    split at hk
    · rename_i ks ds
      unfold ifc at hk
      split at hk
      · rename_i hc
        cases hk
        obtain ⟨v, t, rfl, ⟨a, us, rfl, ⟨o, hF⟩, hl, rl⟩, rt⟩ := r
        cases (show t = [] from rt)
        have ek : (ks.zip us).map (·.1) = ks := List.map_fst_zip (Nat.le_of_eq hl)
        refine ⟨a, o, ks.zip us, rfl, x a _ hF, by rw [ek]; exact hc.1, by rw [ek]; exact hc.2.1, fun p qs hp hq => ?_⟩
        rw [ek] at hq
        have tq : ∀ b ∈ qs, ∃ xs, H b = some (.tup xs) := by
          clear q
          generalize ks.mergeSort (PySem.W.dataLe false kPyT) = sk at hq
          induction hq with
          | nil => simp
          | cons r t ih =>
            intro b hb
            rcases List.mem_cons.mp hb with rfl | hb
            · exact ⟨_, r⟩
            · exact ih b hb
        have x' : Ex H (upd H p (.lst (qs.map V.ref))) := Ex.new hp
        refine q p (fun b => if b ∈ qs then H b else F b) _ ⟨fun b o e => ?_, x', fun b o e => ?_, fun b o e => ?_⟩ hp ?_ (by simp [daC, isDa]) ⟨_, upd_same, ?_⟩
        · show (if b ∈ qs then H b else F b) = some o
          split
          · exact x b o e
          · exact e
        · have e : (if b ∈ qs then H b else F b) = some o := e
          split at e
          · exact x' b o e
          · exact x' b o (x b o e)
        · have e : (if b ∈ qs then H b else F b) = some o := e
          split at e
          · rename_i hb
            obtain ⟨xs, hxs⟩ := tq b hb
            rw [hxs] at e
            cases e
            exact .inr (.inr ⟨xs, rfl⟩)
          · exact .inl e
        · show (if p ∈ qs then H p else F p) = none
          split
          · exact hp
          · exact x.no hp
        · have all : ∀ (l : List Addr), (∀ b ∈ l, b ∈ qs) → ∀ {sk : List (List Key)}, Paired (fun (k : List Key) (q : Addr) => H q = some (.tup (k.map kV))) sk l → RWL K cl ⟨fun b => if b ∈ qs then H b else F b, upd H p (.lst (qs.map V.ref)), []⟩ (sk.map fun k => .da (kDT k)) (l.map V.ref) := fun l hl sk hq => by
            induction hq with
            | nil => exact .nil
            | cons r t ih =>
              rename_i k b ks' bs'
              refine .cons ⟨b, k.map kV, rfl, ?_, rpl_kD k⟩ (ih fun c hc => hl c (by simp [hc]))
              show (if b ∈ qs then H b else F b) = _
              rw [if_pos (hl b (by simp))]
              exact r
          exact all qs (fun _ h => h) hq
      · cases hk
    · cases hk
  · rename_i hk
    split at hk
    · unfold ifc at hk
      split at hk <;> cases hk
    · cases hk
  · exact q.elim
end
section
variable {X : Cx} {cl : Str → Option Addr} {xa : Option (Nat × Addr)} {Wx : WX} {pp pos : Pos} {e : Expr} {mr : MA} {mk : Option Cell → Sto → Rs W}
theorem qe_sortDT (hu : Hu X) (hc : X.calm = true) (hmk : MkN X.K cl xa mk (fun Q => Q)) (hgs : Gl X "sorted") (hms : X.mg "sorted" = none) (ha : QA X cl xa Wx [e] mr)
    (he : starEach [e] X.env = (false, eval e X.env) :: starEach [] X.env := by rfl) (hpl : (backTo pos (starEach ([] : List Expr) X.env)).any (·.1) = false := by rfl) :
    QE X cl xa Wx (.Call (.Name "sorted" pp) [e] [] pos) (mCallL mk sortDT mr) := by
  obtain ⟨t, pa, q⟩ := ha
  refine ⟨_, pe_callB (cr_sortDT hu hc) hgs hms (by rfl) pa (by decide) (by decide) he hpl, fun C y σ ρ S s Q h => ?_⟩
  refine q C y σ ρ S s _ (Post.go h fun ws S1 h1 vs z s1 g1 r1 => ?_)
  exact spl_sortDT (useL hmk s1 r1 (Post.re (h1 z g1) g1))
end
end Ng
namespace Ng
open PySem PySem.Spec PyProof.Rows L2
def topS (i : Nat) : Stmt := PySem.Challenge.pw_nightglass_k21_whole_layings.main.body.getD i (.Pass ⟨0, 0, 0, 0⟩)
abbrev hl_GlassError : List (Str × Bool) := [("GlassError", true), ("BadName", true), ("BadPlate", true), ("BadCount", true), ("Denied", true)]
abbrev il_BadCount : List (Str × Bool) := [("GlassError", false), ("BadName", false), ("BadPlate", false), ("BadCount", true), ("Denied", false)]
abbrev il_ValueError : List (Str × Bool) := [("GlassError", true), ("BadName", true), ("BadPlate", true), ("BadCount", true), ("Denied", true)]
/-! ### turned -/
abbrev s_turned : Stmt := topS 7
theorem sc_turned : FnScope ["turn", "place", "k", "x", "y"] ["turn", "place"] (defScope s_turned) := ⟨rfl, rfl, rfl, by decide +kernel, rfl, by decide +kernel, by decide +kernel⟩
noncomputable def b_turned_0 : MS := (mPar 3 4 (mCons (mUn (vl1 negW) (mVar 4)) (mCons (mVar 3) mNil)))
noncomputable def m_turned : MS := (mSeq (mAsg (gtTup 2 (gtCons (gtName 3) (gtCons (gtName 4) gtNil))) (mVar 1)) (mSeq (mIf (mTst (mOp (vl2 geW) (mVar 0) (mC (.int 4)))) (mSet 3 (mUn (vl1 negW) (mVar 3))) mSkip) (mSeq (mForR rng1 (mCons (mOp (vl2 modW) (mVar 0) (mC (.int 4))) mNil) (gtName 2) b_turned_0) (mRet (mCall (ndN tupC) (mCons (mVar 3) (mCons (mVar 4) mNil)))))))
noncomputable def q_turned : List W → Sto → Rs W := runS 5 2 m_turned
noncomputable def p_turned : List D → Re D := runP 5 2 m_turned
/-! ### moved -/
abbrev s_moved : Stmt := topS 8
theorem sc_moved : FnScope ["motion", "place", "turn", "right", "up", "x", "y"] ["motion", "place"] (defScope s_moved) := ⟨rfl, rfl, rfl, by decide +kernel, rfl, by decide +kernel, by decide +kernel⟩
noncomputable def m_moved : MS := (mSeq (mAsg (gtTup 3 (gtCons (gtName 2) (gtCons (gtName 3) (gtCons (gtName 4) gtNil)))) (mVar 0)) (mSeq (mAsg (gtTup 2 (gtCons (gtName 5) (gtCons (gtName 6) gtNil))) (mCallN p_turned (mCons (mVar 2) (mCons (mVar 1) mNil)))) (mRet (mCall (ndN tupC) (mCons (mOp addD (mVar 5) (mVar 3)) (mCons (mOp addD (mVar 6) (mVar 4)) mNil))))))
noncomputable def q_moved : List W → Sto → Rs W := runS 7 2 m_moved
noncomputable def p_moved : List D → Re D := runP 7 2 m_moved
/-! ### turn_behind -/
abbrev s_turn_behind : Stmt := topS 9
theorem sc_turn_behind : FnScope ["first", "second", "quarters", "mirrored"] ["first", "second"] (defScope s_turn_behind) := ⟨rfl, rfl, rfl, by decide +kernel, rfl, by decide +kernel, by decide +kernel⟩
noncomputable def m_turn_behind : MS := (mSeq (mSet 2 (mOp (vl2 modW) (mVar 0) (mC (.int 4)))) (mSeq (mIf (mTst (mOp (vl2 geW) (mVar 1) (mC (.int 4)))) (mSet 2 (mUn (vl1 negW) (mVar 2))) mSkip) (mSeq (mSet 3 (mOp (vl2 modW) (mOp addD (mOp (vl2 divW) (mVar 0) (mC (.int 4))) (mOp (vl2 divW) (mVar 1) (mC (.int 4)))) (mC (.int 2)))) (mRet (mOp addD (mOp (vl2 modW) (mOp addD (mVar 2) (mVar 1)) (mC (.int 4))) (mOp (vl2 mulW) (mC (.int 4)) (mVar 3)))))))
noncomputable def q_turn_behind : List W → Sto → Rs W := runS 4 2 m_turn_behind
noncomputable def p_turn_behind : List D → Re D := runP 4 2 m_turn_behind
/-! ### behind -/
abbrev s_behind : Stmt := topS 10
theorem sc_behind : FnScope ["first", "second", "x", "y"] ["first", "second"] (defScope s_behind) := ⟨rfl, rfl, rfl, by decide +kernel, rfl, by decide +kernel, by decide +kernel⟩
noncomputable def m_behind : MS := (mSeq (mAsg (gtTup 2 (gtCons (gtName 2) (gtCons (gtName 3) gtNil))) (mCallN p_turned (mCons (mOp (vl2 ixW) (mVar 1) (mC (.int 0))) (mCons (mCall (ndN tupC) (mCons (mOp (vl2 ixW) (mVar 0) (mC (.int 1))) (mCons (mOp (vl2 ixW) (mVar 0) (mC (.int 2))) mNil))) mNil)))) (mRet (mCall (ndN tupC) (mCons (mCallN p_turn_behind (mCons (mOp (vl2 ixW) (mVar 0) (mC (.int 0))) (mCons (mOp (vl2 ixW) (mVar 1) (mC (.int 0))) mNil))) (mCons (mOp addD (mVar 2) (mOp (vl2 ixW) (mVar 1) (mC (.int 1)))) (mCons (mOp addD (mVar 3) (mOp (vl2 ixW) (mVar 1) (mC (.int 2)))) mNil))))))
noncomputable def q_behind : List W → Sto → Rs W := runS 4 2 m_behind
noncomputable def p_behind : List D → Re D := runP 4 2 m_behind
/-! ### turn_back -/
abbrev s_turn_back : Stmt := topS 11
theorem sc_turn_back : FnScope ["turn"] ["turn"] (defScope s_turn_back) := ⟨rfl, rfl, rfl, by decide +kernel, rfl, by decide +kernel, by decide +kernel⟩
noncomputable def m_turn_back : MS := (mSeq (mIf (mTst (mOp (vl2 geW) (mVar 0) (mC (.int 4)))) (mRet (mVar 0)) mSkip) (mRet (mOp (vl2 modW) (mOp (vl2 subW) (mC (.int 4)) (mVar 0)) (mC (.int 4)))))
noncomputable def q_turn_back : List W → Sto → Rs W := runS 1 1 m_turn_back
noncomputable def p_turn_back : List D → Re D := runP 1 1 m_turn_back
/-! ### back -/
abbrev s_back : Stmt := topS 12
theorem sc_back : FnScope ["motion", "turn", "x", "y"] ["motion"] (defScope s_back) := ⟨rfl, rfl, rfl, by decide +kernel, rfl, by decide +kernel, by decide +kernel⟩
noncomputable def m_back : MS := (mSeq (mSet 1 (mCallN p_turn_back (mCons (mOp (vl2 ixW) (mVar 0) (mC (.int 0))) mNil))) (mSeq (mAsg (gtTup 2 (gtCons (gtName 2) (gtCons (gtName 3) gtNil))) (mCallN p_turned (mCons (mVar 1) (mCons (mCall (ndN tupC) (mCons (mOp (vl2 ixW) (mVar 0) (mC (.int 1))) (mCons (mOp (vl2 ixW) (mVar 0) (mC (.int 2))) mNil))) mNil)))) (mRet (mCall (ndN tupC) (mCons (mVar 1) (mCons (mUn (vl1 negW) (mVar 2)) (mCons (mUn (vl1 negW) (mVar 3)) mNil)))))))
noncomputable def q_back : List W → Sto → Rs W := runS 4 1 m_back
noncomputable def p_back : List D → Re D := runP 4 1 m_back
/-! ### leading -/
abbrev s_leading : Stmt := topS 13
theorem sc_leading : FnScope ["turn", "place", "goal", "x", "y"] ["turn", "place", "goal"] (defScope s_leading) := ⟨rfl, rfl, rfl, by decide +kernel, rfl, by decide +kernel, by decide +kernel⟩
noncomputable def m_leading : MS := (mSeq (mAsg (gtTup 2 (gtCons (gtName 3) (gtCons (gtName 4) gtNil))) (mCallN p_turned (mCons (mVar 0) (mCons (mVar 1) mNil)))) (mRet (mCall (ndN tupC) (mCons (mVar 0) (mCons (mOp (vl2 subW) (mOp (vl2 ixW) (mVar 2) (mC (.int 0))) (mVar 3)) (mCons (mOp (vl2 subW) (mOp (vl2 ixW) (mVar 2) (mC (.int 1))) (mVar 4)) mNil))))))
noncomputable def q_leading : List W → Sto → Rs W := runS 5 3 m_leading
noncomputable def p_leading : List D → Re D := runP 5 3 m_leading
/-! ### leaves -/
abbrev s_leaves : Stmt := topS 17
theorem sc_leaves : FnScope ["saying", "word", "number"] ["saying"] (defScope s_leaves) := ⟨rfl, rfl, rfl, by decide +kernel, rfl, by decide +kernel, by decide +kernel⟩
noncomputable def m_leaves : MS := (mSeq (mAsg (gtTup 2 (gtCons (gtName 1) (gtCons (gtName 2) gtNil))) (mVar 0)) (mSeq (mIf (mTst (mOp (vl2 eqW) (mVar 1) (mC (.str "star")))) (mRet (mCall (ndN tupC) (mCons (mVar 2) (mCons (mVar 2) mNil)))) mSkip) (mSeq (mIf (mTst (mOp (vl2 eqW) (mVar 1) (mC (.str "under")))) (mRet (mCall (ndN tupC) (mCons (mC (.int 0)) (mCons (mOp (vl2 subW) (mVar 2) (mC (.int 1))) mNil)))) mSkip) (mRet (mCall (ndN tupC) (mCons (mC (.int 0)) (mCons (mC (.int 9)) mNil)))))))
noncomputable def q_leaves : List W → Sto → Rs W := runS 3 1 m_leaves
noncomputable def p_leaves : List D → Re D := runP 3 1 m_leaves
/-! ### up_to -/
abbrev s_up_to : Stmt := topS 18
theorem sc_up_to : FnScope ["greatest"] ["greatest"] (defScope s_up_to) := ⟨rfl, rfl, rfl, by decide +kernel, rfl, by decide +kernel, by decide +kernel⟩
noncomputable def m_up_to : MS := (mSeq (mIf (mTst (mOp (vl2 ltW) (mVar 0) (mC (.int 9)))) (mRet (mCall (ndN tupC) (mCons (mC (.str "under")) (mCons (mOp addD (mVar 0) (mC (.int 1))) mNil)))) mSkip) (mRet (mC (.wt [(.str "unseen"), (.int 0)]))))
noncomputable def q_up_to : List W → Sto → Rs W := runS 1 1 m_up_to
noncomputable def p_up_to : List D → Re D := runP 1 1 m_up_to
/-! ### agree -/
abbrev s_agree : Stmt := topS 19
theorem sc_agree : FnScope ["one", "other", "low", "high", "least", "greatest"] ["one", "other"] (defScope s_agree) := ⟨rfl, rfl, rfl, by decide +kernel, rfl, by decide +kernel, by decide +kernel⟩
noncomputable def m_agree : MS := (mSeq (mAsg (gtTup 2 (gtCons (gtName 2) (gtCons (gtName 3) gtNil))) (mCallN p_leaves (mCons (mVar 0) mNil))) (mSeq (mAsg (gtTup 2 (gtCons (gtName 4) (gtCons (gtName 5) gtNil))) (mCallN p_leaves (mCons (mVar 1) mNil))) (mRet (mOp (vl2 leW) (mCall (vlN max2W) (mCons (mVar 2) (mCons (mVar 4) mNil))) (mCall (vlN min2W) (mCons (mVar 3) (mCons (mVar 5) mNil)))))))
noncomputable def q_agree : List W → Sto → Rs W := runS 6 2 m_agree
noncomputable def p_agree : List D → Re D := runP 6 2 m_agree
/-! ### joined -/
abbrev s_joined : Stmt := topS 20
theorem sc_joined : FnScope ["one", "other", "saying"] ["one", "other"] (defScope s_joined) := ⟨rfl, rfl, rfl, by decide +kernel, rfl, by decide +kernel, by decide +kernel⟩
noncomputable def b_joined_0 : MS := (mIf (mTst (mOp (vl2 eqW) (mOp (vl2 ixW) (mVar 2) (mC (.int 0))) (mC (.str "star")))) (mRet (mVar 2)) mSkip)
noncomputable def m_joined : MS := (mSeq (mIf (mNot (mTru (mCallN p_agree (mCons (mVar 0) (mCons (mVar 1) mNil))))) (mRaise "Denied") mSkip) (mSeq (mFor (mCall (ndN tupC) (mCons (mVar 0) (mCons (mVar 1) mNil))) (gtName 2) b_joined_0) (mRet (mCallN p_up_to (mCons (mCall (vlN min2W) (mCons (mOp (vl2 ixW) (mCallN p_leaves (mCons (mVar 0) mNil)) (mC (.int 1))) (mCons (mOp (vl2 ixW) (mCallN p_leaves (mCons (mVar 1) mNil)) (mC (.int 1))) mNil))) mNil)))))
noncomputable def q_joined : List W → Sto → Rs W := runS 3 2 m_joined
noncomputable def p_joined : List D → Re D := runP 3 2 m_joined
/-! ### pool -/
abbrev s_pool : Stmt := topS 21
theorem sc_pool : FnScope ["sayings", "found", "saying"] ["sayings"] (defScope s_pool) := ⟨rfl, rfl, rfl, by decide +kernel, rfl, by decide +kernel, by decide +kernel⟩
noncomputable def b_pool_0 : MS := (mSet 1 (mCallN p_joined (mCons (mVar 1) (mCons (mVar 2) mNil))))
noncomputable def m_pool : MS := (mSeq (mSet 1 (mC (.wt [(.str "unseen"), (.int 0)]))) (mSeq (mFor (mVar 0) (gtName 2) b_pool_0) (mRet (mVar 1))))
noncomputable def q_pool : List W → Sto → Rs W := runS 3 1 m_pool
noncomputable def p_pool : List D → Re D := runP 3 1 m_pool
/-! ### name_of -/
abbrev s_name_of : Stmt := topS 23
theorem sc_name_of : FnScope ["entry"] ["entry"] (defScope s_name_of) := ⟨rfl, rfl, rfl, by decide +kernel, rfl, by decide +kernel, by decide +kernel⟩
noncomputable def m_name_of : MS := (mRet (mFld ["Plate"] "name" (mOp (vl2 ixW) (mVar 0) (mC (.int 0)))))
noncomputable def q_name_of : List W → Sto → Rs W := runS 1 1 m_name_of
noncomputable def p_name_of : List D → Re D := runP 1 1 m_name_of
/-! ### Plate.places -/
abbrev s_Plate_places : Stmt := inClass (topS 41) 4
theorem sc_Plate_places : FnScope ["self", "found", "x", "y"] ["self"] (defScope s_Plate_places) := ⟨rfl, rfl, rfl, by decide +kernel, rfl, by decide +kernel, by decide +kernel⟩
noncomputable def b_Plate_places_0 : MS := (mDrop (mMt "list" (chL appL) (mVar 1) (mCons (mCall (ndN tupC) (mCons (mVar 2) (mCons (mVar 3) mNil))) mNil)))
noncomputable def b_Plate_places_1 : MS := (mForR rng1 (mCons (mFld ["Plate"] "height" (mVar 0)) mNil) (gtName 3) b_Plate_places_0)
noncomputable def m_Plate_places : MS := (mSeq (mSet 1 (mCall (ncN lstC) mNil)) (mSeq (mForR rng1 (mCons (mFld ["Plate"] "width" (mVar 0)) mNil) (gtName 2) b_Plate_places_1) (mRet (mFz (mVar 1)))))
noncomputable def q_Plate_places : List W → Sto → Rs W := runS 4 1 m_Plate_places
noncomputable def p_Plate_places : List D → Re D := runP 4 1 m_Plate_places
/-! ### Plate.holds -/
abbrev s_Plate_holds : Stmt := inClass (topS 41) 2
theorem sc_Plate_holds : FnScope ["self", "place"] ["self", "place"] (defScope s_Plate_holds) := ⟨rfl, rfl, rfl, by decide +kernel, rfl, by decide +kernel, by decide +kernel⟩
noncomputable def m_Plate_holds : MS := (mRet (mAndV (mChain (vl2 leW) (vl2 ltW) (mC (.int 0)) (mOp (vl2 ixW) (mVar 1) (mC (.int 0))) (mFld ["Plate"] "width" (mVar 0))) (mChain (vl2 leW) (vl2 ltW) (mC (.int 0)) (mOp (vl2 ixW) (mVar 1) (mC (.int 1))) (mFld ["Plate"] "height" (mVar 0)))))
noncomputable def q_Plate_holds : List W → Sto → Rs W := runS 2 2 m_Plate_holds
noncomputable def p_Plate_holds : List D → Re D := runP 2 2 m_Plate_holds
/-! ### Plate.says -/
abbrev s_Plate_says : Stmt := inClass (topS 41) 3
theorem sc_Plate_says : FnScope ["self", "place"] ["self", "place"] (defScope s_Plate_says) := ⟨rfl, rfl, rfl, by decide +kernel, rfl, by decide +kernel, by decide +kernel⟩
noncomputable def m_Plate_says : MS := (mSeq (mIf (mNot (mTru (mMeth "Plate" "holds" (callN p_Plate_holds) (mVar 0) (mCons (mVar 1) mNil)))) (mRet (mC (.wt [(.str "unseen"), (.int 0)]))) mSkip) (mSeq (mIf (mTst (mOp (vl2 inW) (mVar 1) (mFld ["Plate"] "lights" (mVar 0)))) (mRet (mCall (ndN tupC) (mCons (mC (.str "star")) (mCons (mOp (vl2 ixW) (mFld ["Plate"] "lights" (mVar 0)) (mVar 1)) mNil)))) mSkip) (mRet (mCall (ndN tupC) (mCons (mC (.str "under")) (mCons (mFld ["Plate"] "limit" (mVar 0)) mNil))))))
noncomputable def q_Plate_says : List W → Sto → Rs W := runS 2 2 m_Plate_says
noncomputable def p_Plate_says : List D → Re D := runP 2 2 m_Plate_says
/-! ### unlike_two -/
abbrev s_unlike_two : Stmt := topS 24
theorem sc_unlike_two : FnScope ["here", "there", "motion", "away", "place"] ["here", "there", "motion"] (defScope s_unlike_two) := ⟨rfl, rfl, rfl, by decide +kernel, rfl, by decide +kernel, by decide +kernel⟩
noncomputable def b_unlike_two_0 : MS := (mIf (mNot (mTru (mCallN p_agree (mCons (mMeth "Plate" "says" (callN p_Plate_says) (mVar 0) (mCons (mVar 4) mNil)) (mCons (mMeth "Plate" "says" (callN p_Plate_says) (mVar 1) (mCons (mCallN p_moved (mCons (mVar 3) (mCons (mVar 4) mNil))) mNil)) mNil))))) (mRet (mVar 4)) mSkip)
noncomputable def m_unlike_two : MS := (mSeq (mSet 3 (mCallN p_back (mCons (mVar 2) mNil))) (mSeq (mFor (mMeth "Plate" "places" (callN p_Plate_places) (mVar 0) mNil) (gtName 4) b_unlike_two_0) (mRet (mC .non))))
noncomputable def q_unlike_two : List W → Sto → Rs W := runS 5 3 m_unlike_two
noncomputable def p_unlike_two : List D → Re D := runP 5 3 m_unlike_two
/-! ### unlike -/
abbrev s_unlike : Stmt := topS 25
theorem sc_unlike : FnScope ["laid", "others", "here", "motion", "home", "there", "other", "place"] ["laid", "others"] (defScope s_unlike) := ⟨rfl, rfl, rfl, by decide +kernel, rfl, by decide +kernel, by decide +kernel⟩
noncomputable def b_unlike_0 : MS := (mSeq (mSet 7 (mCallN p_unlike_two (mCons (mVar 2) (mCons (mVar 5) (mCons (mCallN p_behind (mCons (mVar 6) (mCons (mVar 4) mNil))) mNil))))) (mIf (mTst (mOp (vl2 notNW) (mVar 7) (mC .non))) (mRet (mCall (ndN tupC) (mCons (mFld ["Plate"] "name" (mVar 2)) (mCons (mFld ["Plate"] "name" (mVar 5)) (mCons (mVar 7) mNil))))) mSkip))
noncomputable def b_unlike_1 : MS := (mSeq (mSet 4 (mCallN p_back (mCons (mVar 3) mNil))) (mFor (mCallL mkD (sortK p_name_of) (mCons (mVar 1) mNil)) (gtTup 2 (gtCons (gtName 5) (gtCons (gtName 6) gtNil))) b_unlike_0))
noncomputable def m_unlike : MS := (mSeq (mFor (mCallL mkD (sortK p_name_of) (mCons (mVar 0) mNil)) (gtTup 2 (gtCons (gtName 2) (gtCons (gtName 3) gtNil))) b_unlike_1) (mRet (mC .non)))
noncomputable def q_unlike : List W → Sto → Rs W := runS 8 2 m_unlike
noncomputable def p_unlike : List D → Re D := runP 8 2 m_unlike
/-! ### chart -/
abbrev s_chart : Stmt := topS 26
theorem sc_chart : FnScope ["laid", "seen", "rows", "plate", "motion", "place", "sayings", "goal", "word", "number"] ["laid"] (defScope s_chart) := ⟨rfl, rfl, rfl, by decide +kernel, rfl, by decide +kernel, by decide +kernel⟩
noncomputable def b_chart_0 : MS := (mSeq (mSet 7 (mCallN p_moved (mCons (mVar 4) (mCons (mVar 5) mNil)))) (mSetIx (mVar 1) (mVar 7) (mOp addD (mGet2 (mVar 1) (mVar 7) (mCall (ndN lstC) mNil)) (mCall (ndN lstC) (mCons (mMeth "Plate" "says" (callN p_Plate_says) (mVar 3) (mCons (mVar 5) mNil)) mNil)))))
noncomputable def b_chart_1 : MS := (mFor (mMeth "Plate" "places" (callN p_Plate_places) (mVar 3) mNil) (gtName 5) b_chart_0)
noncomputable def b_chart_2 : MS := (mSeq (mAsg (gtTup 2 (gtCons (gtName 8) (gtCons (gtName 9) gtNil))) (mCallN p_pool (mCons (mVar 6) mNil))) (mDrop (mMt "list" (chL appL) (mVar 2) (mCons (mCall (ndN tupC) (mCons (mOp (vl2 ixW) (mVar 5) (mC (.int 0))) (mCons (mOp (vl2 ixW) (mVar 5) (mC (.int 1))) (mCons (mVar 8) (mCons (mVar 9) mNil))))) mNil))))
noncomputable def m_chart : MS := (mSeq (mSet 1 (mCall (ncN newDT) mNil)) (mSeq (mFor (mVar 0) (gtTup 2 (gtCons (gtName 3) (gtCons (gtName 4) gtNil))) b_chart_1) (mFrz 1 (mSeq (mSet 2 (mCall (ncN lstC) mNil)) (mSeq (mForI (mVar 1) (gtTup 2 (gtCons (gtName 5) (gtCons (gtName 6) gtNil))) b_chart_2) (mFrz 2 (mRet (mCall (ndN sortC) (mCons (mVar 2) mNil)))))))))
noncomputable def q_chart : List W → Sto → Rs W := runS 10 1 m_chart
noncomputable def p_chart : List D → Re D := runP 10 1 m_chart
/-! ### face -/
abbrev s_face : Stmt := topS 27
theorem sc_face : FnScope ["laid", "x", "y", "word", "number"] ["laid"] (defScope s_face) := ⟨rfl, rfl, rfl, by decide +kernel, rfl, by decide +kernel, by decide +kernel⟩
noncomputable def t_face_0 : MT := (mTst (mOp (vl2 eqW) (mVar 3) (mC (.str "star"))))
noncomputable def e_face_1 : ME := (mCall (ndN tupC) (mCons (mVar 1) (mCons (mVar 2) (mCons (mVar 4) mNil))))
noncomputable def m_face : MS := (mRet (mLc mkD (mCallN p_chart (mCons (mVar 0) mNil)) [1, 2, 3, 4] (gtTupT 4 (gtCons (gtName 1) (gtCons (gtName 2) (gtCons (gtName 3) (gtCons (gtName 4) gtNil))))) t_face_0 e_face_1))
noncomputable def q_face : List W → Sto → Rs W := runS 5 1 m_face
noncomputable def p_face : List D → Re D := runP 5 1 m_face
/-! ### led -/
abbrev s_led : Stmt := topS 29
theorem sc_led : FnScope ["laid", "motion", "plate", "own"] ["laid", "motion"] (defScope s_led) := ⟨rfl, rfl, rfl, by decide +kernel, rfl, by decide +kernel, by decide +kernel⟩
noncomputable def e_led_0 : ME := (mCall (ndN tupC) (mCons (mVar 2) (mCons (mCallN p_behind (mCons (mVar 3) (mCons (mVar 1) mNil))) mNil)))
noncomputable def m_led : MS := (mRet (mLc mkD (mVar 0) [2, 3] (gtTupT 2 (gtCons (gtName 2) (gtCons (gtName 3) gtNil))) mYes e_led_0))
noncomputable def q_led : List W → Sto → Rs W := runS 4 2 m_led
noncomputable def p_led : List D → Re D := runP 4 2 m_led
/-! ### stars_met -/
abbrev s_stars_met : Stmt := topS 30
theorem sc_stars_met : FnScope ["ones", "others", "motion", "lights", "met", "x", "y", "bright"] ["ones", "others", "motion"] (defScope s_stars_met) := ⟨rfl, rfl, rfl, by decide +kernel, rfl, by decide +kernel, by decide +kernel⟩
noncomputable def b_stars_met_0 : MS := (mSetIx (mVar 3) (mCall (ndN tupC) (mCons (mVar 5) (mCons (mVar 6) mNil))) (mVar 7))
noncomputable def b_stars_met_1 : MS := (mIf (mTst (mOp (vl2 eqW) (mGet2 (mVar 3) (mCallN p_moved (mCons (mVar 2) (mCons (mCall (ndN tupC) (mCons (mVar 5) (mCons (mVar 6) mNil))) mNil))) (mC (.int 0))) (mVar 7))) (mInc 4 (mC (.int 1))) mSkip)
noncomputable def m_stars_met : MS := (mSeq (mSet 3 (mCall (ncN newDT) mNil)) (mSeq (mFor (mVar 0) (gtTup 3 (gtCons (gtName 5) (gtCons (gtName 6) (gtCons (gtName 7) gtNil)))) b_stars_met_0) (mFrz 3 (mSeq (mSet 4 (mC (.int 0))) (mSeq (mFor (mVar 1) (gtTup 3 (gtCons (gtName 5) (gtCons (gtName 6) (gtCons (gtName 7) gtNil)))) b_stars_met_1) (mRet (mVar 4)))))))
noncomputable def q_stars_met : List W → Sto → Rs W := runS 8 3 m_stars_met
noncomputable def p_stars_met : List D → Re D := runP 8 3 m_stars_met
/-! ### tried -/
abbrev s_tried : Stmt := topS 31
theorem sc_tried : FnScope ["ones", "others", "found", "x", "y", "bright", "right", "up", "other", "turn"] ["ones", "others"] (defScope s_tried) := ⟨rfl, rfl, rfl, by decide +kernel, rfl, by decide +kernel, by decide +kernel⟩
noncomputable def b_tried_0 : MS := (mSetIx (mVar 2) (mCallN p_leading (mCons (mVar 9) (mCons (mCall (ndN tupC) (mCons (mVar 6) (mCons (mVar 7) mNil))) (mCons (mCall (ndN tupC) (mCons (mVar 3) (mCons (mVar 4) mNil))) mNil)))) (mC (.bl true)))
noncomputable def b_tried_1 : MS := (mIf (mTst (mOp (vl2 eqW) (mVar 8) (mVar 5))) (mForR rng1 (mCons (mC (.int 8)) mNil) (gtName 9) b_tried_0) mSkip)
noncomputable def b_tried_2 : MS := (mFor (mVar 1) (gtTup 3 (gtCons (gtName 6) (gtCons (gtName 7) (gtCons (gtName 8) gtNil)))) b_tried_1)
noncomputable def m_tried : MS := (mSeq (mSet 2 (mCall (ncN newDT) mNil)) (mSeq (mFor (mVar 0) (gtTup 3 (gtCons (gtName 3) (gtCons (gtName 4) (gtCons (gtName 5) gtNil)))) b_tried_2) (mFrz 2 (mRet (mCallL mkD sortDT (mCons (mVar 2) mNil))))))
noncomputable def q_tried : List W → Sto → Rs W := runS 10 2 m_tried
noncomputable def p_tried : List D → Re D := runP 10 2 m_tried
/-! ### layings -/
abbrev s_layings : Stmt := topS 32
theorem sc_layings : FnScope ["ones", "others", "least", "mine", "theirs", "found", "motion"] ["ones", "others", "least"] (defScope s_layings) := ⟨rfl, rfl, rfl, by decide +kernel, rfl, by decide +kernel, by decide +kernel⟩
noncomputable def b_layings_0 : MS := (mIf (mTst (mOp (vl2 geW) (mCallN p_stars_met (mCons (mVar 3) (mCons (mVar 4) (mCons (mVar 6) mNil)))) (mVar 2))) (mIf (mTst (mOp (vl2 isNW) (mCallN p_unlike (mCons (mVar 0) (mCons (mCallN p_led (mCons (mVar 1) (mCons (mVar 6) mNil))) mNil))) (mC .non))) (mDrop (mMt "list" (chL appL) (mVar 5) (mCons (mVar 6) mNil))) mSkip) mSkip)
noncomputable def m_layings : MS := (mSeq (mIf (mTst (mOp (vl2 ltW) (mVar 2) (mC (.int 1)))) (mRaise "BadCount") mSkip) (mSeq (mSet 3 (mCallN p_face (mCons (mVar 0) mNil))) (mSeq (mSet 4 (mCallN p_face (mCons (mVar 1) mNil))) (mSeq (mSet 5 (mCall (ncN lstC) mNil)) (mSeq (mFor (mCallN p_tried (mCons (mVar 3) (mCons (mVar 4) mNil))) (gtName 6) b_layings_0) (mRet (mFz (mVar 5))))))))
noncomputable def q_layings : List W → Sto → Rs W := runS 7 3 m_layings
noncomputable def p_layings : List D → Re D := runP 7 3 m_layings
/-! ### is_name -/
abbrev s_is_name : Stmt := topS 39
theorem sc_is_name : FnScope ["name", "sign"] ["name"] (defScope s_is_name) := ⟨rfl, rfl, rfl, by decide +kernel, rfl, by decide +kernel, by decide +kernel⟩
noncomputable def b_is_name_0 : MS := (mIf (mTst (mOp (vl2 notinW) (mVar 1) (mC (.str "abcdefghijklmnopqrstuvwxyz")))) (mRet (mC (.bl false))) mSkip)
noncomputable def m_is_name : MS := (mSeq (mIf (mOr (mTst (mOp (vl2 ltW) (mCall (vlN lenW) (mCons (mVar 0) mNil)) (mC (.int 1)))) (mTst (mOp (vl2 gtW) (mCall (vlN lenW) (mCons (mVar 0) mNil)) (mC (.int 8))))) (mRet (mC (.bl false))) mSkip) (mSeq (mFor (mVar 0) (gtName 1) b_is_name_0) (mRet (mC (.bl true)))))
noncomputable def q_is_name : List W → Sto → Rs W := runS 2 1 m_is_name
noncomputable def p_is_name : List D → Re D := runP 2 1 m_is_name
/-! ### is_glass -/
abbrev s_is_glass : Stmt := topS 40
theorem sc_is_glass : FnScope ["width", "height", "limit", "stars", "places", "x", "y", "bright"] ["width", "height", "limit", "stars"] (defScope s_is_glass) := ⟨rfl, rfl, rfl, by decide +kernel, rfl, by decide +kernel, by decide +kernel⟩
noncomputable def b_is_glass_0 : MS := (mSeq (mIf (mNot (mAnd (mTst (mChain (vl2 leW) (vl2 ltW) (mC (.int 0)) (mVar 5) (mVar 0))) (mTst (mChain (vl2 leW) (vl2 ltW) (mC (.int 0)) (mVar 6) (mVar 1))))) (mRet (mC (.bl false))) mSkip) (mSeq (mIf (mNot (mTst (mChain (vl2 leW) (vl2 leW) (mVar 2) (mVar 7) (mC (.int 9))))) (mRet (mC (.bl false))) mSkip) (mSeq (mIf (mTst (mOp (vl2 inW) (mCall (ndN tupC) (mCons (mVar 5) (mCons (mVar 6) mNil))) (mVar 4))) (mRet (mC (.bl false))) mSkip) (mSetIx (mVar 4) (mCall (ndN tupC) (mCons (mVar 5) (mCons (mVar 6) mNil))) (mC (.bl true))))))
noncomputable def m_is_glass : MS := (mSeq (mIf (mNot (mAnd (mTst (mChain (vl2 leW) (vl2 leW) (mC (.int 1)) (mVar 0) (mC (.int 8)))) (mTst (mChain (vl2 leW) (vl2 leW) (mC (.int 1)) (mVar 1) (mC (.int 8)))))) (mRet (mC (.bl false))) mSkip) (mSeq (mIf (mOr (mNot (mTst (mChain (vl2 leW) (vl2 leW) (mC (.int 1)) (mVar 2) (mC (.int 9))))) (mTst (mOp (vl2 gtW) (mCall (vlN lenW) (mCons (mVar 3) mNil)) (mC (.int 8))))) (mRet (mC (.bl false))) mSkip) (mSeq (mSet 4 (mCall (ncN newDT) mNil)) (mSeq (mFor (mVar 3) (gtTup 3 (gtCons (gtName 5) (gtCons (gtName 6) (gtCons (gtName 7) gtNil)))) b_is_glass_0) (mFrz 4 (mRet (mC (.bl true))))))))
noncomputable def q_is_glass : List W → Sto → Rs W := runS 8 4 m_is_glass
noncomputable def p_is_glass : List D → Re D := runP 8 4 m_is_glass
/-! ### Plate.__init__ -/
abbrev s_Plate___init__ : Stmt := inClass (topS 41) 0
theorem sc_Plate___init__ : FnScope ["self", "name", "width", "height", "limit", "stars", "x", "y", "bright"] ["self", "name", "width", "height", "limit", "stars"] (defScope s_Plate___init__) := ⟨rfl, rfl, rfl, by decide +kernel, rfl, by decide +kernel, by decide +kernel⟩
noncomputable def b_Plate___init___0 : MS := (mSetIx (mFld ["Plate"] "lights" (mVar 0)) (mCall (ndN tupC) (mCons (mVar 6) (mCons (mVar 7) mNil))) (mVar 8))
noncomputable def m_Plate___init__ : MS := (mSeq (mIf (mNot (mTru (mCallN p_is_name (mCons (mVar 1) mNil)))) (mRaise "BadName") mSkip) (mSeq (mIf (mNot (mTru (mCallN p_is_glass (mCons (mVar 2) (mCons (mVar 3) (mCons (mVar 4) (mCons (mVar 5) mNil))))))) (mRaise "BadPlate") mSkip) (mSeq (mSetF ["Plate"] "name" (mVar 0) (mVar 1)) (mSeq (mSetF ["Plate"] "width" (mVar 0) (mVar 2)) (mSeq (mSetF ["Plate"] "height" (mVar 0) (mVar 3)) (mSeq (mSetF ["Plate"] "limit" (mVar 0) (mVar 4)) (mSeq (mSetF ["Plate"] "lights" (mVar 0) (mCall (ncN newDT) mNil)) (mFor (mCall (ndN sortC) (mCons (mVar 5) mNil)) (gtTup 3 (gtCons (gtName 6) (gtCons (gtName 7) (gtCons (gtName 8) gtNil)))) b_Plate___init___0))))))))
noncomputable def q_Plate___init__ : List W → Sto → Rs W := runS 9 6 m_Plate___init__
/-! ### Plate.stars -/
abbrev s_Plate_stars : Stmt := inClass (topS 41) 1
theorem sc_Plate_stars : FnScope ["self", "place", "bright"] ["self"] (defScope s_Plate_stars) := ⟨rfl, rfl, rfl, by decide +kernel, rfl, by decide +kernel, by decide +kernel⟩
noncomputable def e_Plate_stars_0 : ME := (mCall (ndN tupC) (mCons (mOp (vl2 ixW) (mVar 1) (mC (.int 0))) (mCons (mOp (vl2 ixW) (mVar 1) (mC (.int 1))) (mCons (mVar 2) mNil))))
noncomputable def m_Plate_stars : MS := (mRet (mLcI mkD (mFld ["Plate"] "lights" (mVar 0)) [1, 2] (gtTupT 2 (gtCons (gtName 1) (gtCons (gtName 2) gtNil))) mYes e_Plate_stars_0))
noncomputable def q_Plate_stars : List W → Sto → Rs W := runS 3 1 m_Plate_stars
noncomputable def p_Plate_stars : List D → Re D := runP 3 1 m_Plate_stars
/-! ### _law_draws -/
abbrev s_l_draws : Stmt := topS 43
theorem sc_l_draws : FnScope ["_law_script", "_law_at", "_law_many", "_law_cell", "_law_seed", "_law_row", "_law_mark"] ["_law_script", "_law_at", "_law_many"] (defScope s_l_draws) := ⟨rfl, rfl, rfl, by decide +kernel, rfl, by decide +kernel, by decide +kernel⟩
noncomputable def c_l_draws_0 : MT := (mAnd (mTst (mOp (vl2 gtW) (mVar 3) (mC (.int 0)))) (mTst (mOp (vl2 ltW) (mCall (vlN lenW) (mCons (mVar 5) mNil)) (mVar 2))))
noncomputable def b_l_draws_1 : MS := (mSeq (mDrop (mMt "list" (chL appL) (mVar 5) (mCons (mOp (vl2 modW) (mVar 3) (mC (.int 1013))) mNil))) (mSet 3 (mOp (vl2 divW) (mVar 3) (mC (.int 1013)))))
noncomputable def c_l_draws_2 : MT := (mTst (mOp (vl2 ltW) (mCall (vlN lenW) (mCons (mVar 5) mNil)) (mVar 2)))
noncomputable def b_l_draws_3 : MS := (mSeq (mSet 6 (mOp addD (mCall (vlN lenW) (mCons (mVar 5) mNil)) (mC (.int 1)))) (mSeq (mSet 4 (mOp (vl2 modW) (mOp addD (mOp addD (mOp (vl2 mulW) (mVar 4) (mC (.int 48271))) (mOp (vl2 mulW) (mOp (vl2 mulW) (mVar 6) (mVar 6)) (mC (.int 6133)))) (mC (.int 17))) (mC (.int 2147483647)))) (mDrop (mMt "list" (chL appL) (mVar 5) (mCons (mOp (vl2 modW) (mOp (vl2 modW) (mOp (vl2 mulW) (mOp (vl2 modW) (mVar 4) (mC (.int 65521))) (mOp addD (mOp (vl2 modW) (mOp (vl2 divW) (mVar 4) (mC (.int 65521))) (mC (.int 32749))) (mC (.int 1)))) (mC (.int 1000003))) (mC (.int 1013))) mNil)))))
noncomputable def m_l_draws : MS := (mSeq (mSet 3 (mOp addD (mOp (vl2 mulW) (mC (.int 7)) (mVar 1)) (mC (.int 1)))) (mSeq (mIf (mTst (mOp (vl2 ltW) (mVar 1) (mCall (vlN lenW) (mCons (mVar 0) mNil)))) (mSet 3 (mOp (vl2 ixW) (mVar 0) (mVar 1))) (mIf (mTst (mOp (vl2 gtW) (mCall (vlN lenW) (mCons (mVar 0) mNil)) (mC (.int 0)))) (mSet 3 (mOp addD (mOp addD (mOp (vl2 modW) (mOp (vl2 ixW) (mVar 0) (mOp (vl2 modW) (mVar 1) (mCall (vlN lenW) (mCons (mVar 0) mNil)))) (mC (.int 999983))) (mOp (vl2 mulW) (mOp (vl2 mulW) (mVar 1) (mVar 1)) (mC (.int 97)))) (mC (.int 1)))) mSkip)) (mSeq (mSet 4 (mOp addD (mOp addD (mOp (vl2 modW) (mVar 3) (mC (.int 999983))) (mOp (vl2 mulW) (mC (.int 31)) (mVar 1))) (mC (.int 5)))) (mSeq (mSet 5 (mCall (ncN lstC) mNil)) (mSeq (mIf (mTst (mOp (vl2 geW) (mVar 3) (mOp (vl2 powW) (mC (.int 10)) (mC (.int 18))))) (mWhile c_l_draws_0 b_l_draws_1) mSkip) (mSeq (mWhile c_l_draws_2 b_l_draws_3) (mRet (mFz (mVar 5)))))))))
noncomputable def q_l_draws : List W → Sto → Rs W := runS 7 3 m_l_draws
noncomputable def p_l_draws : List D → Re D := runP 7 3 m_l_draws
/-! ### _law_far -/
abbrev s_l_far : Stmt := topS 44
theorem sc_l_far : FnScope ["_law_one", "_law_two_here"] ["_law_one", "_law_two_here"] (defScope s_l_far) := ⟨rfl, rfl, rfl, by decide +kernel, rfl, by decide +kernel, by decide +kernel⟩
noncomputable def m_l_far : MS := (mSeq (mIf (mTst (mOp (vl2 ltW) (mOp (vl2 modW) (mVar 0) (mC (.int 5))) (mC (.int 3)))) (mRet (mOp (vl2 subW) (mOp (vl2 modW) (mOp (vl2 divW) (mVar 0) (mC (.int 5))) (mC (.int 13))) (mC (.int 6)))) mSkip) (mSeq (mIf (mTst (mOp (vl2 eqW) (mOp (vl2 modW) (mVar 0) (mC (.int 5))) (mC (.int 3)))) (mRet (mOp (vl2 subW) (mOp addD (mOp (vl2 mulW) (mVar 0) (mC (.int 1013))) (mVar 1)) (mC (.int 513000)))) mSkip) (mRet (mOp addD (mOp (vl2 mulW) (mOp (vl2 subW) (mVar 1) (mC (.int 506))) (mOp (vl2 powW) (mC (.int 10)) (mC (.int 27)))) (mVar 0)))))
noncomputable def q_l_far : List W → Sto → Rs W := runS 2 2 m_l_far
noncomputable def p_l_far : List D → Re D := runP 2 2 m_l_far
/-! ### _law_turned -/
abbrev s_l_turned : Stmt := topS 45
theorem sc_l_turned : FnScope ["_law_turn", "_law_x", "_law_y"] ["_law_turn", "_law_x", "_law_y"] (defScope s_l_turned) := ⟨rfl, rfl, rfl, by decide +kernel, rfl, by decide +kernel, by decide +kernel⟩
noncomputable def m_l_turned : MS := (mRet (mOp (vl2 ixW) (mCall (ndN lstC) (mCons (mCall (ndN tupC) (mCons (mVar 1) (mCons (mVar 2) mNil))) (mCons (mCall (ndN tupC) (mCons (mUn (vl1 negW) (mVar 2)) (mCons (mVar 1) mNil))) (mCons (mCall (ndN tupC) (mCons (mUn (vl1 negW) (mVar 1)) (mCons (mUn (vl1 negW) (mVar 2)) mNil))) (mCons (mCall (ndN tupC) (mCons (mVar 2) (mCons (mUn (vl1 negW) (mVar 1)) mNil))) (mCons (mCall (ndN tupC) (mCons (mUn (vl1 negW) (mVar 1)) (mCons (mVar 2) mNil))) (mCons (mCall (ndN tupC) (mCons (mUn (vl1 negW) (mVar 2)) (mCons (mUn (vl1 negW) (mVar 1)) mNil))) (mCons (mCall (ndN tupC) (mCons (mVar 1) (mCons (mUn (vl1 negW) (mVar 2)) mNil))) (mCons (mCall (ndN tupC) (mCons (mVar 2) (mCons (mVar 1) mNil))) mNil))))))))) (mVar 0)))
noncomputable def q_l_turned : List W → Sto → Rs W := runS 3 3 m_l_turned
noncomputable def p_l_turned : List D → Re D := runP 3 3 m_l_turned
/-! ### _law_moved -/
abbrev s_l_moved : Stmt := topS 46
theorem sc_l_moved : FnScope ["_law_motion_here", "_law_place", "_law_x", "_law_y"] ["_law_motion_here", "_law_place"] (defScope s_l_moved) := ⟨rfl, rfl, rfl, by decide +kernel, rfl, by decide +kernel, by decide +kernel⟩
noncomputable def m_l_moved : MS := (mSeq (mAsg (gtTup 2 (gtCons (gtName 2) (gtCons (gtName 3) gtNil))) (mCallN p_l_turned (mCons (mOp (vl2 ixW) (mVar 0) (mC (.int 0))) (mCons (mOp (vl2 ixW) (mVar 1) (mC (.int 0))) (mCons (mOp (vl2 ixW) (mVar 1) (mC (.int 1))) mNil))))) (mRet (mCall (ndN tupC) (mCons (mOp addD (mVar 2) (mOp (vl2 ixW) (mVar 0) (mC (.int 1)))) (mCons (mOp addD (mVar 3) (mOp (vl2 ixW) (mVar 0) (mC (.int 2)))) mNil)))))
noncomputable def q_l_moved : List W → Sto → Rs W := runS 4 2 m_l_moved
noncomputable def p_l_moved : List D → Re D := runP 4 2 m_l_moved
/-! ### _law_behind -/
abbrev s_l_behind : Stmt := topS 47
theorem sc_l_behind : FnScope ["_law_first", "_law_second", "_law_quarters", "_law_turn", "_law_x", "_law_y"] ["_law_first", "_law_second"] (defScope s_l_behind) := ⟨rfl, rfl, rfl, by decide +kernel, rfl, by decide +kernel, by decide +kernel⟩
noncomputable def m_l_behind : MS := (mSeq (mSet 2 (mOp (vl2 modW) (mOp (vl2 ixW) (mVar 0) (mC (.int 0))) (mC (.int 4)))) (mSeq (mIf (mTst (mOp (vl2 gtW) (mOp (vl2 ixW) (mVar 1) (mC (.int 0))) (mC (.int 3)))) (mSet 2 (mUn (vl1 negW) (mVar 2))) mSkip) (mSeq (mSet 3 (mOp addD (mOp (vl2 modW) (mOp addD (mVar 2) (mOp (vl2 ixW) (mVar 1) (mC (.int 0)))) (mC (.int 4))) (mOp (vl2 mulW) (mC (.int 4)) (mOp (vl2 modW) (mOp addD (mOp (vl2 divW) (mOp (vl2 ixW) (mVar 0) (mC (.int 0))) (mC (.int 4))) (mOp (vl2 divW) (mOp (vl2 ixW) (mVar 1) (mC (.int 0))) (mC (.int 4)))) (mC (.int 2)))))) (mSeq (mAsg (gtTup 2 (gtCons (gtName 4) (gtCons (gtName 5) gtNil))) (mCallN p_l_turned (mCons (mOp (vl2 ixW) (mVar 1) (mC (.int 0))) (mCons (mOp (vl2 ixW) (mVar 0) (mC (.int 1))) (mCons (mOp (vl2 ixW) (mVar 0) (mC (.int 2))) mNil))))) (mRet (mCall (ndN tupC) (mCons (mVar 3) (mCons (mOp addD (mVar 4) (mOp (vl2 ixW) (mVar 1) (mC (.int 1)))) (mCons (mOp addD (mVar 5) (mOp (vl2 ixW) (mVar 1) (mC (.int 2)))) mNil)))))))))
noncomputable def q_l_behind : List W → Sto → Rs W := runS 6 2 m_l_behind
noncomputable def p_l_behind : List D → Re D := runP 6 2 m_l_behind
/-! ### _law_back -/
abbrev s_l_back : Stmt := topS 48
theorem sc_l_back : FnScope ["_law_motion_here", "_law_turn", "_law_x", "_law_y"] ["_law_motion_here"] (defScope s_l_back) := ⟨rfl, rfl, rfl, by decide +kernel, rfl, by decide +kernel, by decide +kernel⟩
noncomputable def m_l_back : MS := (mSeq (mSet 1 (mOp (vl2 ixW) (mCall (ndN lstC) (mCons (mC (.int 0)) (mCons (mC (.int 3)) (mCons (mC (.int 2)) (mCons (mC (.int 1)) (mCons (mC (.int 4)) (mCons (mC (.int 5)) (mCons (mC (.int 6)) (mCons (mC (.int 7)) mNil))))))))) (mOp (vl2 ixW) (mVar 0) (mC (.int 0))))) (mSeq (mAsg (gtTup 2 (gtCons (gtName 2) (gtCons (gtName 3) gtNil))) (mCallN p_l_turned (mCons (mVar 1) (mCons (mOp (vl2 ixW) (mVar 0) (mC (.int 1))) (mCons (mOp (vl2 ixW) (mVar 0) (mC (.int 2))) mNil))))) (mRet (mCall (ndN tupC) (mCons (mVar 1) (mCons (mUn (vl1 negW) (mVar 2)) (mCons (mUn (vl1 negW) (mVar 3)) mNil)))))))
noncomputable def q_l_back : List W → Sto → Rs W := runS 4 1 m_l_back
noncomputable def p_l_back : List D → Re D := runP 4 1 m_l_back
/-! ### _law_motion -/
abbrev s_l_motion : Stmt := topS 49
theorem sc_l_motion : FnScope ["_law_d", "_law_at"] ["_law_d", "_law_at"] (defScope s_l_motion) := ⟨rfl, rfl, rfl, by decide +kernel, rfl, by decide +kernel, by decide +kernel⟩
noncomputable def m_l_motion : MS := (mRet (mCall (ndN tupC) (mCons (mOp (vl2 modW) (mOp (vl2 ixW) (mVar 0) (mVar 1)) (mC (.int 8))) (mCons (mCallN p_l_far (mCons (mOp (vl2 ixW) (mVar 0) (mOp addD (mVar 1) (mC (.int 1)))) (mCons (mOp (vl2 ixW) (mVar 0) (mOp addD (mVar 1) (mC (.int 2)))) mNil))) (mCons (mCallN p_l_far (mCons (mOp (vl2 ixW) (mVar 0) (mOp addD (mVar 1) (mC (.int 3)))) (mCons (mOp (vl2 ixW) (mVar 0) (mOp addD (mVar 1) (mC (.int 4)))) mNil))) mNil)))))
noncomputable def q_l_motion : List W → Sto → Rs W := runS 2 2 m_l_motion
noncomputable def p_l_motion : List D → Re D := runP 2 2 m_l_motion
/-! ### _law_same -/
abbrev s_l_same : Stmt := topS 50
theorem sc_l_same : FnScope ["_law_found", "_law_due", "_law_k"] ["_law_found", "_law_due"] (defScope s_l_same) := ⟨rfl, rfl, rfl, by decide +kernel, rfl, by decide +kernel, by decide +kernel⟩
noncomputable def b_l_same_0 (p : List D → Re D) : MS := (mIf (mNot (mTru (mCallN p (mCons (mOp (vl2 ixW) (mVar 0) (mVar 2)) (mCons (mOp (vl2 ixW) (mVar 1) (mVar 2)) mNil))))) (mRet (mC (.bl false))) mSkip)
noncomputable def m_l_same (p : List D → Re D) : MS := (mSeq (mIf (mTru (mUn (isiW ["tuple", "list"]) (mVar 1))) (mSeq (mIf (mOr (mTst (mOp (vl2 neW) (mUn (isiW ["tuple"]) (mVar 1)) (mUn (isiW ["tuple"]) (mVar 0)))) (mTst (mOp (vl2 neW) (mUn (isiW ["list"]) (mVar 1)) (mUn (isiW ["list"]) (mVar 0))))) (mRet (mC (.bl false))) mSkip) (mSeq (mIf (mTst (mOp (vl2 neW) (mCall (vlN lenW) (mCons (mVar 0) mNil)) (mCall (vlN lenW) (mCons (mVar 1) mNil)))) (mRet (mC (.bl false))) mSkip) (mSeq (mForR rng1 (mCons (mCall (vlN lenW) (mCons (mVar 1) mNil)) mNil) (gtName 2) (b_l_same_0 p)) (mRet (mC (.bl true)))))) mSkip) (mSeq (mIf (mTst (mOp (vl2 isNW) (mVar 1) (mC .non))) (mRet (mOp (vl2 isNW) (mVar 0) (mC .non))) mSkip) (mSeq (mIf (mOr (mTru (mUn (isiW ["bool"]) (mVar 1))) (mTru (mUn (isiW ["bool"]) (mVar 0)))) (mRet (mAndV (mUn (isiW ["bool"]) (mVar 1)) (mAndV (mUn (isiW ["bool"]) (mVar 0)) (mOp (vl2 eqW) (mVar 0) (mVar 1))))) mSkip) (mSeq (mIf (mTru (mUn (isiW ["int"]) (mVar 1))) (mRet (mAndV (mUn (isiW ["int"]) (mVar 0)) (mOp (vl2 eqW) (mVar 0) (mVar 1)))) mSkip) (mRet (mAndV (mUn (isiW ["str"]) (mVar 0)) (mOp (vl2 eqW) (mVar 0) (mVar 1))))))))
noncomputable def p_l_same : Nat → List D → Re D
  | 0 => fun _ => .stuck
  | n + 1 => runP 3 2 (m_l_same (p_l_same n))
/-! ### _law_agreeing -/
abbrev s_l_agreeing : Stmt := topS 51
theorem sc_l_agreeing : FnScope ["_law_one", "_law_other"] ["_law_one", "_law_other"] (defScope s_l_agreeing) := ⟨rfl, rfl, rfl, by decide +kernel, rfl, by decide +kernel, by decide +kernel⟩
noncomputable def m_l_agreeing : MS := (mSeq (mIf (mAnd (mTst (mOp (vl2 eqW) (mOp (vl2 ixW) (mVar 0) (mC (.int 0))) (mC (.str "star")))) (mTst (mOp (vl2 eqW) (mOp (vl2 ixW) (mVar 1) (mC (.int 0))) (mC (.str "star"))))) (mRet (mOp (vl2 eqW) (mOp (vl2 ixW) (mVar 0) (mC (.int 1))) (mOp (vl2 ixW) (mVar 1) (mC (.int 1))))) mSkip) (mSeq (mIf (mAnd (mTst (mOp (vl2 eqW) (mOp (vl2 ixW) (mVar 0) (mC (.int 0))) (mC (.str "star")))) (mTst (mOp (vl2 eqW) (mOp (vl2 ixW) (mVar 1) (mC (.int 0))) (mC (.str "under"))))) (mRet (mOp (vl2 ltW) (mOp (vl2 ixW) (mVar 0) (mC (.int 1))) (mOp (vl2 ixW) (mVar 1) (mC (.int 1))))) mSkip) (mSeq (mIf (mAnd (mTst (mOp (vl2 eqW) (mOp (vl2 ixW) (mVar 0) (mC (.int 0))) (mC (.str "under")))) (mTst (mOp (vl2 eqW) (mOp (vl2 ixW) (mVar 1) (mC (.int 0))) (mC (.str "star"))))) (mRet (mOp (vl2 ltW) (mOp (vl2 ixW) (mVar 1) (mC (.int 1))) (mOp (vl2 ixW) (mVar 0) (mC (.int 1))))) mSkip) (mRet (mC (.bl true))))))
noncomputable def q_l_agreeing : List W → Sto → Rs W := runS 2 2 m_l_agreeing
noncomputable def p_l_agreeing : List D → Re D := runP 2 2 m_l_agreeing
/-! ### _law_says -/
abbrev s_l_says : Stmt := topS 52
theorem sc_l_says : FnScope ["_law_pane_here", "_law_place", "_law_x", "_law_y", "_law_bright"] ["_law_pane_here", "_law_place"] (defScope s_l_says) := ⟨rfl, rfl, rfl, by decide +kernel, rfl, by decide +kernel, by decide +kernel⟩
noncomputable def b_l_says_0 : MS := (mIf (mAnd (mTst (mOp (vl2 eqW) (mVar 2) (mOp (vl2 ixW) (mVar 1) (mC (.int 0))))) (mTst (mOp (vl2 eqW) (mVar 3) (mOp (vl2 ixW) (mVar 1) (mC (.int 1)))))) (mRet (mCall (ndN tupC) (mCons (mC (.str "star")) (mCons (mVar 4) mNil)))) mSkip)
noncomputable def m_l_says : MS := (mSeq (mIf (mNot (mAnd (mTst (mOp (vl2 leW) (mC (.int 0)) (mOp (vl2 ixW) (mVar 1) (mC (.int 0))))) (mAnd (mTst (mOp (vl2 ltW) (mOp (vl2 ixW) (mVar 1) (mC (.int 0))) (mOp (vl2 ixW) (mVar 0) (mC (.int 1))))) (mAnd (mTst (mOp (vl2 leW) (mC (.int 0)) (mOp (vl2 ixW) (mVar 1) (mC (.int 1))))) (mTst (mOp (vl2 ltW) (mOp (vl2 ixW) (mVar 1) (mC (.int 1))) (mOp (vl2 ixW) (mVar 0) (mC (.int 2))))))))) (mRet (mCall (ndN tupC) (mCons (mC (.str "unseen")) (mCons (mC (.int 0)) mNil)))) mSkip) (mSeq (mFor (mOp (vl2 ixW) (mVar 0) (mC (.int 4))) (gtTup 3 (gtCons (gtName 2) (gtCons (gtName 3) (gtCons (gtName 4) gtNil)))) b_l_says_0) (mRet (mCall (ndN tupC) (mCons (mC (.str "under")) (mCons (mOp (vl2 ixW) (mVar 0) (mC (.int 3))) mNil))))))
noncomputable def q_l_says : List W → Sto → Rs W := runS 5 2 m_l_says
noncomputable def p_l_says : List D → Re D := runP 5 2 m_l_says
/-! ### _law_heaven -/
abbrev s_l_heaven : Stmt := topS 53
theorem sc_l_heaven : FnScope ["_law_script", "_law_d", "_law_found", "_law_k", "_law_x", "_law_y", "_law_bright", "_law_star"] ["_law_script"] (defScope s_l_heaven) := ⟨rfl, rfl, rfl, by decide +kernel, rfl, by decide +kernel, by decide +kernel⟩
noncomputable def e_l_heaven_0 : ME := (mCall (ndN tupC) (mCons (mOp (vl2 ixW) (mVar 7) (mC (.int 0))) (mCons (mOp (vl2 ixW) (mVar 7) (mC (.int 1))) mNil)))
noncomputable def b_l_heaven_1 : MS := (mSeq (mSet 4 (mOp (vl2 subW) (mOp (vl2 modW) (mOp (vl2 ixW) (mVar 1) (mOp addD (mOp (vl2 mulW) (mC (.int 3)) (mVar 3)) (mC (.int 1)))) (mC (.int 9))) (mC (.int 4)))) (mSeq (mSet 5 (mOp (vl2 subW) (mOp (vl2 modW) (mOp (vl2 ixW) (mVar 1) (mOp addD (mOp (vl2 mulW) (mC (.int 3)) (mVar 3)) (mC (.int 2)))) (mC (.int 9))) (mC (.int 4)))) (mSeq (mSet 6 (mOp (vl2 ixW) (mCall (ndN lstC) (mCons (mOp addD (mC (.int 1)) (mOp (vl2 modW) (mOp (vl2 ixW) (mVar 1) (mOp addD (mOp (vl2 mulW) (mC (.int 3)) (mVar 3)) (mC (.int 3)))) (mC (.int 9)))) (mCons (mOp addD (mC (.int 8)) (mOp (vl2 modW) (mOp (vl2 ixW) (mVar 1) (mOp addD (mOp (vl2 mulW) (mC (.int 3)) (mVar 3)) (mC (.int 3)))) (mC (.int 2)))) mNil))) (mCall (vlN intW) (mCons (mOp (vl2 eqW) (mOp (vl2 modW) (mOp (vl2 divW) (mOp (vl2 ixW) (mVar 1) (mC (.int 0))) (mC (.int 9))) (mC (.int 3))) (mC (.int 1))) mNil)))) (mIf (mTst (mOp (vl2 notinW) (mCall (ndN tupC) (mCons (mVar 4) (mCons (mVar 5) mNil))) (mLc mkD (mVar 2) [7] (gtName 7) mYes e_l_heaven_0))) (mDrop (mMt "list" (chL appL) (mVar 2) (mCons (mCall (ndN tupC) (mCons (mVar 4) (mCons (mVar 5) (mCons (mVar 6) mNil)))) mNil))) mSkip))))
noncomputable def m_l_heaven : MS := (mSeq (mSet 1 (mCallN p_l_draws (mCons (mVar 0) (mCons (mC (.int 1)) (mCons (mC (.int 25)) mNil))))) (mSeq (mSet 2 (mCall (ncN lstC) mNil)) (mSeq (mForR rng1 (mCons (mOp (vl2 modW) (mOp (vl2 ixW) (mVar 1) (mC (.int 0))) (mC (.int 9))) mNil) (gtName 3) b_l_heaven_1) (mRet (mFz (mVar 2))))))
noncomputable def q_l_heaven : List W → Sto → Rs W := runS 8 1 m_l_heaven
noncomputable def p_l_heaven : List D → Re D := runP 8 1 m_l_heaven
/-! ### _law_names -/
abbrev s_l_names : Stmt := topS 54
theorem sc_l_names : FnScope ["_law_d", "_law_letters", "_law_names_here", "_law_k", "_law_own", "_law_size", "_law_rest", "_law_at"] ["_law_d"] (defScope s_l_names) := ⟨rfl, rfl, rfl, by decide +kernel, rfl, by decide +kernel, by decide +kernel⟩
noncomputable def e_l_names_0 : ME := (mOp (vl2 ixW) (mVar 1) (mOp (vl2 modW) (mOp addD (mOp (vl2 ixW) (mVar 0) (mC (.int 3))) (mOp (vl2 mulW) (mVar 7) (mOp (vl2 ixW) (mVar 0) (mC (.int 4))))) (mC (.int 26))))
noncomputable def b_l_names_1 : MS := (mSeq (mSet 4 (mOp (vl2 ixW) (mVar 1) (mOp (vl2 modW) (mOp addD (mOp (vl2 mulW) (mVar 3) (mOp (vl2 ixW) (mCall (ndN lstC) (mCons (mC (.int 1)) (mCons (mC (.int 3)) (mCons (mC (.int 5)) (mCons (mC (.int 7)) (mCons (mC (.int 9)) (mCons (mC (.int 11)) mNil))))))) (mOp (vl2 modW) (mOp (vl2 ixW) (mVar 0) (mC (.int 2))) (mC (.int 6))))) (mOp (vl2 ixW) (mVar 0) (mC (.int 3)))) (mC (.int 26))))) (mSeq (mSet 5 (mOp (vl2 modW) (mOp (vl2 divW) (mOp (vl2 ixW) (mVar 0) (mC (.int 4))) (mC (.int 4))) (mC (.int 8)))) (mSeq (mIf (mTst (mOp (vl2 eqW) (mOp (vl2 modW) (mOp (vl2 ixW) (mVar 0) (mC (.int 4))) (mC (.int 2))) (mC (.int 1)))) (mSet 5 (mOp (vl2 modW) (mOp (vl2 ixW) (mVar 0) (mOp addD (mC (.int 5)) (mVar 3))) (mC (.int 8)))) mSkip) (mSeq (mSet 6 (mMt "str" (vmt joinW) (mC (.str "")) (mCons (mLcR mkD rng1 (mCons (mVar 5) mNil) [7] (gtName 7) mYes e_l_names_0) mNil))) (mIf (mTst (mOp (vl2 eqW) (mOp (vl2 modW) (mOp (vl2 divW) (mOp (vl2 ixW) (mVar 0) (mC (.int 4))) (mC (.int 2))) (mC (.int 2))) (mC (.int 1)))) (mDrop (mMt "list" (chL appL) (mVar 2) (mCons (mOp addD (mVar 4) (mVar 6)) mNil))) (mDrop (mMt "list" (chL appL) (mVar 2) (mCons (mOp addD (mVar 6) (mVar 4)) mNil))))))))
noncomputable def m_l_names : MS := (mSeq (mSet 1 (mC (.str "abcdefghijklmnopqrstuvwxyz"))) (mSeq (mSet 2 (mCall (ncN lstC) mNil)) (mSeq (mForR rng1 (mCons (mOp (vl2 ixW) (mCall (ndN lstC) (mCons (mC (.int 2)) (mCons (mC (.int 3)) (mCons (mC (.int 3)) (mCons (mC (.int 4)) (mCons (mC (.int 4)) (mCons (mC (.int 5)) (mCons (mC (.int 6)) (mCons (mC (.int 7)) (mCons (mC (.int 12)) (mCons (mC (.int 1)) mNil))))))))))) (mOp (vl2 modW) (mOp (vl2 ixW) (mVar 0) (mC (.int 1))) (mC (.int 10)))) mNil) (gtName 3) b_l_names_1) (mRet (mFz (mVar 2))))))
noncomputable def q_l_names : List W → Sto → Rs W := runS 8 1 m_l_names
noncomputable def p_l_names : List D → Re D := runP 8 1 m_l_names
/-! ### _law_pane -/
abbrev s_l_pane : Stmt := topS 55
theorem sc_l_pane : FnScope ["_law_name", "_law_home_here", "_law_heaven_here", "_law_d", "_law_width", "_law_height", "_law_limit", "_law_stars_here", "_law_x", "_law_y", "_law_bright", "_law_odd", "_law_right", "_law_up", "_law_star"] ["_law_name", "_law_home_here", "_law_heaven_here", "_law_d"] (defScope s_l_pane) := ⟨rfl, rfl, rfl, by decide +kernel, rfl, by decide +kernel, by decide +kernel⟩
noncomputable def b_l_pane_0 : MS := (mSeq (mAsg (gtTup 2 (gtCons (gtName 12) (gtCons (gtName 13) gtNil))) (mCallN p_l_moved (mCons (mCallN p_l_back (mCons (mVar 1) mNil)) (mCons (mCall (ndN tupC) (mCons (mVar 8) (mCons (mVar 9) mNil))) mNil)))) (mIf (mAnd (mTst (mOp (vl2 leW) (mC (.int 0)) (mVar 12))) (mAnd (mTst (mOp (vl2 ltW) (mVar 12) (mVar 4))) (mAnd (mTst (mOp (vl2 leW) (mC (.int 0)) (mVar 13))) (mAnd (mTst (mOp (vl2 ltW) (mVar 13) (mVar 5))) (mTst (mOp (vl2 geW) (mVar 10) (mVar 6))))))) (mDrop (mMt "list" (chL appL) (mVar 7) (mCons (mCall (ndN tupC) (mCons (mVar 12) (mCons (mVar 13) (mCons (mVar 10) mNil)))) mNil))) mSkip))
noncomputable def t_l_pane_1 : MT := (mTst (mOp (vl2 neW) (mSl mkD (mVar 14) moN (moS (mC (.int 2)))) (mSl mkD (mVar 11) moN (moS (mC (.int 2))))))
noncomputable def e_l_pane_2 : ME := (mVar 14)
noncomputable def m_l_pane : MS := (mSeq (mSet 4 (mOp (vl2 ixW) (mCall (ndN lstC) (mCons (mOp addD (mC (.int 1)) (mOp (vl2 modW) (mOp (vl2 ixW) (mVar 3) (mC (.int 4))) (mC (.int 4)))) (mCons (mOp addD (mC (.int 1)) (mOp (vl2 modW) (mOp (vl2 divW) (mOp (vl2 ixW) (mVar 3) (mC (.int 4))) (mC (.int 24))) (mC (.int 8)))) mNil))) (mCall (vlN intW) (mCons (mOp (vl2 eqW) (mOp (vl2 modW) (mOp (vl2 divW) (mOp (vl2 ixW) (mVar 3) (mC (.int 4))) (mC (.int 4))) (mC (.int 6))) (mC (.int 0))) mNil)))) (mSeq (mSet 5 (mOp (vl2 ixW) (mCall (ndN lstC) (mCons (mOp addD (mC (.int 1)) (mOp (vl2 modW) (mOp (vl2 ixW) (mVar 3) (mC (.int 5))) (mC (.int 4)))) (mCons (mOp addD (mC (.int 1)) (mOp (vl2 modW) (mOp (vl2 divW) (mOp (vl2 ixW) (mVar 3) (mC (.int 5))) (mC (.int 24))) (mC (.int 8)))) mNil))) (mCall (vlN intW) (mCons (mOp (vl2 eqW) (mOp (vl2 modW) (mOp (vl2 divW) (mOp (vl2 ixW) (mVar 3) (mC (.int 5))) (mC (.int 4))) (mC (.int 6))) (mC (.int 0))) mNil)))) (mSeq (mSet 6 (mOp (vl2 ixW) (mCall (ndN lstC) (mCons (mOp addD (mC (.int 1)) (mOp (vl2 modW) (mOp (vl2 ixW) (mVar 3) (mC (.int 6))) (mC (.int 3)))) (mCons (mOp addD (mC (.int 1)) (mOp (vl2 modW) (mOp (vl2 divW) (mOp (vl2 ixW) (mVar 3) (mC (.int 6))) (mC (.int 12))) (mC (.int 9)))) mNil))) (mCall (vlN intW) (mCons (mOp (vl2 eqW) (mOp (vl2 modW) (mOp (vl2 divW) (mOp (vl2 ixW) (mVar 3) (mC (.int 6))) (mC (.int 3))) (mC (.int 4))) (mC (.int 0))) mNil)))) (mSeq (mSet 7 (mCall (ncN lstC) mNil)) (mSeq (mFor (mVar 2) (gtTup 3 (gtCons (gtName 8) (gtCons (gtName 9) (gtCons (gtName 10) gtNil)))) b_l_pane_0) (mSeq (mIf (mTst (mOp (vl2 eqW) (mOp (vl2 modW) (mOp (vl2 ixW) (mVar 3) (mC (.int 3))) (mC (.int 6))) (mC (.int 1)))) (mSeq (mSet 11 (mCall (ndN tupC) (mCons (mOp (vl2 modW) (mOp (vl2 ixW) (mVar 3) (mC (.int 10))) (mVar 4)) (mCons (mOp (vl2 modW) (mOp (vl2 ixW) (mVar 3) (mC (.int 11))) (mVar 5)) (mCons (mOp addD (mVar 6) (mOp (vl2 modW) (mOp (vl2 divW) (mOp (vl2 ixW) (mVar 3) (mC (.int 10))) (mC (.int 8))) (mOp (vl2 subW) (mC (.int 10)) (mVar 6)))) mNil))))) (mSet 7 (mOp addC (mLc mkD (mVar 7) [14] (gtName 14) t_l_pane_1 e_l_pane_2) (mCall (ndN lstC) (mCons (mVar 11) mNil))))) mSkip) (mFrz 7 (mRet (mCall (ndN tupC) (mCons (mVar 0) (mCons (mVar 4) (mCons (mVar 5) (mCons (mVar 6) (mCons (mCall (tupleF mkD) (mCons (mCall (ndN sortC) (mCons (mSl mkD (mVar 7) (moS (mUn (vl1 negW) (mC (.int 8)))) moN) mNil)) mNil)) mNil))))))))))))))
noncomputable def q_l_pane : List W → Sto → Rs W := runS 15 4 m_l_pane
noncomputable def p_l_pane : List D → Re D := runP 15 4 m_l_pane
/-! ### _law_home -/
abbrev s_l_home : Stmt := topS 56
theorem sc_l_home : FnScope ["_law_d"] ["_law_d"] (defScope s_l_home) := ⟨rfl, rfl, rfl, by decide +kernel, rfl, by decide +kernel, by decide +kernel⟩
noncomputable def m_l_home : MS := (mRet (mCall (ndN tupC) (mCons (mOp (vl2 modW) (mOp (vl2 ixW) (mVar 0) (mC (.int 7))) (mC (.int 8))) (mCons (mOp (vl2 subW) (mOp (vl2 modW) (mOp (vl2 ixW) (mVar 0) (mC (.int 8))) (mC (.int 7))) (mC (.int 3))) (mCons (mOp (vl2 subW) (mOp (vl2 modW) (mOp (vl2 ixW) (mVar 0) (mC (.int 9))) (mC (.int 7))) (mC (.int 3))) mNil)))))
noncomputable def q_l_home : List W → Sto → Rs W := runS 1 1 m_l_home
noncomputable def p_l_home : List D → Re D := runP 1 1 m_l_home
/-! ### _law_clash_of_two -/
abbrev s_l_clash_of_two : Stmt := topS 57
theorem sc_l_clash_of_two : FnScope ["_law_here", "_law_there", "_law_away", "_law_x", "_law_y"] ["_law_here", "_law_there", "_law_away"] (defScope s_l_clash_of_two) := ⟨rfl, rfl, rfl, by decide +kernel, rfl, by decide +kernel, by decide +kernel⟩
noncomputable def b_l_clash_of_two_0 : MS := (mIf (mNot (mTru (mCallN p_l_agreeing (mCons (mCallN p_l_says (mCons (mVar 0) (mCons (mCall (ndN tupC) (mCons (mVar 3) (mCons (mVar 4) mNil))) mNil))) (mCons (mCallN p_l_says (mCons (mVar 1) (mCons (mCallN p_l_moved (mCons (mVar 2) (mCons (mCall (ndN tupC) (mCons (mVar 3) (mCons (mVar 4) mNil))) mNil))) mNil))) mNil))))) (mRet (mCall (ndN tupC) (mCons (mVar 3) (mCons (mVar 4) mNil)))) mSkip)
noncomputable def b_l_clash_of_two_1 : MS := (mForR rng1 (mCons (mOp (vl2 ixW) (mVar 0) (mC (.int 2))) mNil) (gtName 4) b_l_clash_of_two_0)
noncomputable def m_l_clash_of_two : MS := (mSeq (mForR rng1 (mCons (mOp (vl2 ixW) (mVar 0) (mC (.int 1))) mNil) (gtName 3) b_l_clash_of_two_1) (mRet (mC .non)))
noncomputable def q_l_clash_of_two : List W → Sto → Rs W := runS 5 3 m_l_clash_of_two
noncomputable def p_l_clash_of_two : List D → Re D := runP 5 3 m_l_clash_of_two
/-! ### _law_panes -/
abbrev s_l_panes : Stmt := topS 58
theorem sc_l_panes : FnScope ["_law_script", "_law_at", "_law_names_here", "_law_heaven_here", "_law_whole", "_law_rows", "_law_k", "_law_d", "_law_home_here"] ["_law_script", "_law_at", "_law_names_here", "_law_heaven_here", "_law_whole"] (defScope s_l_panes) := ⟨rfl, rfl, rfl, by decide +kernel, rfl, by decide +kernel, by decide +kernel⟩
noncomputable def b_l_panes_0 : MS := (mSeq (mSet 7 (mCallN p_l_draws (mCons (mVar 0) (mCons (mOp addD (mVar 1) (mVar 6)) (mCons (mC (.int 12)) mNil))))) (mSeq (mSet 8 (mCallN p_l_home (mCons (mVar 7) mNil))) (mSeq (mIf (mTst (mOp (vl2 eqW) (mOp (vl2 modW) (mOp (vl2 ixW) (mVar 7) (mC (.int 0))) (mC (.int 12))) (mC (.int 5)))) (mSet 8 (mCall (ndN tupC) (mCons (mOp (vl2 ixW) (mVar 8) (mC (.int 0))) (mCons (mOp addD (mOp (vl2 ixW) (mVar 8) (mC (.int 1))) (mOp (vl2 mulW) (mC (.int 400)) (mOp (vl2 subW) (mOp (vl2 ixW) (mVar 7) (mC (.int 1))) (mC (.int 506))))) (mCons (mOp addD (mOp (vl2 ixW) (mVar 8) (mC (.int 2))) (mOp (vl2 mulW) (mOp (vl2 powW) (mC (.int 10)) (mC (.int 27))) (mOp (vl2 modW) (mOp (vl2 ixW) (mVar 7) (mC (.int 2))) (mC (.int 3))))) mNil))))) mSkip) (mDrop (mMt "list" (chL appL) (mVar 5) (mCons (mCall (ndN tupC) (mCons (mCallN p_l_pane (mCons (mOp (vl2 ixW) (mVar 2) (mVar 6)) (mCons (mVar 8) (mCons (mVar 3) (mCons (mVar 7) mNil))))) (mCons (mCallN p_l_behind (mCons (mVar 8) (mCons (mVar 4) mNil))) mNil))) mNil))))))
noncomputable def m_l_panes : MS := (mSeq (mSet 5 (mCall (ncN lstC) mNil)) (mSeq (mForR rng1 (mCons (mCall (vlN lenW) (mCons (mVar 2) mNil)) mNil) (gtName 6) b_l_panes_0) (mRet (mFz (mVar 5)))))
noncomputable def q_l_panes : List W → Sto → Rs W := runS 9 5 m_l_panes
noncomputable def p_l_panes : List D → Re D := runP 9 5 m_l_panes
/-! ### _law_plates -/
abbrev s_l_plates : Stmt := topS 59
theorem sc_l_plates : FnScope ["_law_rows", "_law_pane_here", "_law_motion_here"] ["_law_rows"] (defScope s_l_plates) := ⟨rfl, rfl, rfl, by decide +kernel, rfl, by decide +kernel, by decide +kernel⟩
noncomputable def e_l_plates_0 : ME := (mCall (ndN tupC) (mCons (mCallN (makeP "Plate" q_Plate___init__) (mCons (mOp (vl2 ixW) (mVar 1) (mC (.int 0))) (mCons (mOp (vl2 ixW) (mVar 1) (mC (.int 1))) (mCons (mOp (vl2 ixW) (mVar 1) (mC (.int 2))) (mCons (mOp (vl2 ixW) (mVar 1) (mC (.int 3))) (mCons (mCall (ndN listC) (mCons (mOp (vl2 ixW) (mVar 1) (mC (.int 4))) mNil)) mNil)))))) (mCons (mVar 2) mNil)))
noncomputable def m_l_plates : MS := (mRet (mLc mkD (mVar 0) [1, 2] (gtTupT 2 (gtCons (gtName 1) (gtCons (gtName 2) gtNil))) mYes e_l_plates_0))
noncomputable def q_l_plates : List W → Sto → Rs W := runS 3 1 m_l_plates
noncomputable def p_l_plates : List D → Re D := runP 3 1 m_l_plates
/-! ### _law_fitting -/
abbrev s_l_fitting : Stmt := topS 60
theorem sc_l_fitting : FnScope ["_law_rows", "_law_kept_here", "_law_pane_here", "_law_motion_here", "_law_good", "_law_here", "_law_own"] ["_law_rows"] (defScope s_l_fitting) := ⟨rfl, rfl, rfl, by decide +kernel, rfl, by decide +kernel, by decide +kernel⟩
noncomputable def b_l_fitting_0 : MS := (mIf (mTst (mOp (vl2 notNW) (mCallN p_l_clash_of_two (mCons (mVar 5) (mCons (mVar 2) (mCons (mCallN p_l_behind (mCons (mVar 6) (mCons (mCallN p_l_back (mCons (mVar 3) mNil)) mNil))) mNil)))) (mC .non))) (mSet 4 (mC (.bl false))) mSkip)
noncomputable def b_l_fitting_1 : MS := (mSeq (mSet 4 (mC (.bl true))) (mSeq (mFor (mVar 1) (gtTup 2 (gtCons (gtName 5) (gtCons (gtName 6) gtNil))) b_l_fitting_0) (mIf (mTru (mVar 4)) (mDrop (mMt "list" (chL appL) (mVar 1) (mCons (mCall (ndN tupC) (mCons (mVar 2) (mCons (mVar 3) mNil))) mNil))) mSkip)))
noncomputable def m_l_fitting : MS := (mSeq (mSet 1 (mCall (ncN lstC) mNil)) (mSeq (mFor (mVar 0) (gtTup 2 (gtCons (gtName 2) (gtCons (gtName 3) gtNil))) b_l_fitting_1) (mRet (mFz (mVar 1)))))
noncomputable def q_l_fitting : List W → Sto → Rs W := runS 7 1 m_l_fitting
noncomputable def p_l_fitting : List D → Re D := runP 7 1 m_l_fitting
/-! ### _law_stars -/
abbrev s_l_stars : Stmt := topS 61
theorem sc_l_stars : FnScope ["_law_rows", "_law_found", "_law_pane_here", "_law_motion_here", "_law_x", "_law_y", "_law_bright", "_law_goal"] ["_law_rows"] (defScope s_l_stars) := ⟨rfl, rfl, rfl, by decide +kernel, rfl, by decide +kernel, by decide +kernel⟩
noncomputable def b_l_stars_0 : MS := (mSeq (mSet 7 (mCallN p_l_moved (mCons (mVar 3) (mCons (mCall (ndN tupC) (mCons (mVar 4) (mCons (mVar 5) mNil))) mNil)))) (mIf (mTst (mOp (vl2 notinW) (mOp addD (mVar 7) (mCall (ndN tupC) (mCons (mVar 6) mNil))) (mVar 1))) (mDrop (mMt "list" (chL appL) (mVar 1) (mCons (mOp addD (mVar 7) (mCall (ndN tupC) (mCons (mVar 6) mNil))) mNil))) mSkip))
noncomputable def b_l_stars_1 : MS := (mFor (mOp (vl2 ixW) (mVar 2) (mC (.int 4))) (gtTup 3 (gtCons (gtName 4) (gtCons (gtName 5) (gtCons (gtName 6) gtNil)))) b_l_stars_0)
noncomputable def m_l_stars : MS := (mSeq (mSet 1 (mCall (ncN lstC) mNil)) (mSeq (mFor (mVar 0) (gtTup 2 (gtCons (gtName 2) (gtCons (gtName 3) gtNil))) b_l_stars_1) (mFrz 1 (mRet (mCall (ndN sortC) (mCons (mVar 1) mNil))))))
noncomputable def q_l_stars : List W → Sto → Rs W := runS 8 1 m_l_stars
noncomputable def p_l_stars : List D → Re D := runP 8 1 m_l_stars
/-! ### _law_met -/
abbrev s_l_met : Stmt := topS 62
theorem sc_l_met : FnScope ["_law_ones", "_law_others", "_law_motion_here", "_law_met_here", "_law_x", "_law_y", "_law_bright"] ["_law_ones", "_law_others", "_law_motion_here"] (defScope s_l_met) := ⟨rfl, rfl, rfl, by decide +kernel, rfl, by decide +kernel, by decide +kernel⟩
noncomputable def b_l_met_0 : MS := (mIf (mTst (mOp (vl2 inW) (mOp addD (mCallN p_l_moved (mCons (mVar 2) (mCons (mCall (ndN tupC) (mCons (mVar 4) (mCons (mVar 5) mNil))) mNil))) (mCall (ndN tupC) (mCons (mVar 6) mNil))) (mVar 0))) (mSet 3 (mOp addD (mVar 3) (mC (.int 1)))) mSkip)
noncomputable def m_l_met : MS := (mSeq (mSet 3 (mC (.int 0))) (mSeq (mFor (mVar 1) (gtTup 3 (gtCons (gtName 4) (gtCons (gtName 5) (gtCons (gtName 6) gtNil)))) b_l_met_0) (mRet (mVar 3))))
noncomputable def q_l_met : List W → Sto → Rs W := runS 7 3 m_l_met
noncomputable def p_l_met : List D → Re D := runP 7 3 m_l_met
/-! ### _law_unlike_rows -/
abbrev s_l_unlike_rows : Stmt := topS 63
theorem sc_l_unlike_rows : FnScope ["_law_ones", "_law_others", "_law_motion_here", "_law_here", "_law_own", "_law_there", "_law_frame", "_law_away"] ["_law_ones", "_law_others", "_law_motion_here"] (defScope s_l_unlike_rows) := ⟨rfl, rfl, rfl, by decide +kernel, rfl, by decide +kernel, by decide +kernel⟩
noncomputable def b_l_unlike_rows_0 : MS := (mSeq (mSet 7 (mCallN p_l_behind (mCons (mVar 4) (mCons (mCallN p_l_back (mCons (mCallN p_l_behind (mCons (mVar 6) (mCons (mVar 2) mNil))) mNil)) mNil)))) (mIf (mTst (mOp (vl2 notNW) (mCallN p_l_clash_of_two (mCons (mVar 3) (mCons (mVar 5) (mCons (mVar 7) mNil)))) (mC .non))) (mRet (mC (.bl true))) mSkip))
noncomputable def b_l_unlike_rows_1 : MS := (mFor (mVar 1) (gtTup 2 (gtCons (gtName 5) (gtCons (gtName 6) gtNil))) b_l_unlike_rows_0)
noncomputable def m_l_unlike_rows : MS := (mSeq (mFor (mVar 0) (gtTup 2 (gtCons (gtName 3) (gtCons (gtName 4) gtNil))) b_l_unlike_rows_1) (mRet (mC (.bl false))))
noncomputable def q_l_unlike_rows : List W → Sto → Rs W := runS 8 3 m_l_unlike_rows
noncomputable def p_l_unlike_rows : List D → Re D := runP 8 3 m_l_unlike_rows
/-! ### _law_all_layings -/
abbrev s_l_all_layings : Stmt := topS 64
theorem sc_l_all_layings : FnScope ["_law_ones", "_law_others", "_law_least", "_law_mine", "_law_theirs", "_law_found", "_law_star", "_law_other", "_law_turn", "_law_motion_here", "_law_x", "_law_y"] ["_law_ones", "_law_others", "_law_least"] (defScope s_l_all_layings) := ⟨rfl, rfl, rfl, by decide +kernel, rfl, by decide +kernel, by decide +kernel⟩
noncomputable def b_l_all_layings_0 : MS := (mSeq (mAsg (gtTup 2 (gtCons (gtName 10) (gtCons (gtName 11) gtNil))) (mCallN p_l_turned (mCons (mVar 8) (mCons (mOp (vl2 ixW) (mVar 7) (mC (.int 0))) (mCons (mOp (vl2 ixW) (mVar 7) (mC (.int 1))) mNil))))) (mSeq (mSet 9 (mCall (ndN tupC) (mCons (mVar 8) (mCons (mOp (vl2 subW) (mOp (vl2 ixW) (mVar 6) (mC (.int 0))) (mVar 10)) (mCons (mOp (vl2 subW) (mOp (vl2 ixW) (mVar 6) (mC (.int 1))) (mVar 11)) mNil))))) (mIf (mAnd (mTst (mOp (vl2 eqW) (mOp (vl2 ixW) (mVar 6) (mC (.int 2))) (mOp (vl2 ixW) (mVar 7) (mC (.int 2))))) (mAnd (mTst (mOp (vl2 notinW) (mVar 9) (mVar 5))) (mTst (mOp (vl2 geW) (mCallN p_l_met (mCons (mVar 3) (mCons (mVar 4) (mCons (mVar 9) mNil)))) (mVar 2))))) (mIf (mNot (mTru (mCallN p_l_unlike_rows (mCons (mVar 0) (mCons (mVar 1) (mCons (mVar 9) mNil)))))) (mDrop (mMt "list" (chL appL) (mVar 5) (mCons (mVar 9) mNil))) mSkip) mSkip)))
noncomputable def b_l_all_layings_1 : MS := (mForR rng1 (mCons (mC (.int 8)) mNil) (gtName 8) b_l_all_layings_0)
noncomputable def b_l_all_layings_2 : MS := (mFor (mVar 4) (gtName 7) b_l_all_layings_1)
noncomputable def m_l_all_layings : MS := (mSeq (mSet 3 (mCallN p_l_stars (mCons (mVar 0) mNil))) (mSeq (mSet 4 (mCallN p_l_stars (mCons (mVar 1) mNil))) (mSeq (mSet 5 (mCall (ncN lstC) mNil)) (mSeq (mFor (mVar 3) (gtName 6) b_l_all_layings_2) (mFrz 5 (mRet (mCall (ndN sortC) (mCons (mVar 5) mNil))))))))
noncomputable def q_l_all_layings : List W → Sto → Rs W := runS 12 3 m_l_all_layings
noncomputable def p_l_all_layings : List D → Re D := runP 12 3 m_l_all_layings
/-! ### _law_two -/
abbrev s_l_two : Stmt := topS 65
theorem sc_l_two : FnScope ["_law_script", "_law_d", "_law_e", "_law_names_here", "_law_heaven_here", "_law_left", "_law_right", "_law_ones", "_law_others", "_law_odd", "_law_star"] ["_law_script"] (defScope s_l_two) := ⟨rfl, rfl, rfl, by decide +kernel, rfl, by decide +kernel, by decide +kernel⟩
noncomputable def t_l_two_0 : MT := (mTst (mOp (vl2 neW) (mSl mkD (mVar 10) moN (moS (mC (.int 2)))) (mSl mkD (mVar 9) moN (moS (mC (.int 2))))))
noncomputable def e_l_two_1 : ME := (mVar 10)
noncomputable def m_l_two : MS := (mSeq (mSet 1 (mCallN p_l_draws (mCons (mVar 0) (mCons (mC (.int 0)) (mCons (mC (.int 18)) mNil))))) (mSeq (mSet 2 (mCallN p_l_draws (mCons (mVar 0) (mCons (mC (.int 12)) (mCons (mC (.int 14)) mNil))))) (mSeq (mSet 3 (mCallN p_l_names (mCons (mVar 1) mNil))) (mSeq (mSet 4 (mCallN p_l_heaven (mCons (mVar 0) mNil))) (mSeq (mSet 5 (mCallN p_l_motion (mCons (mVar 2) (mCons (mC (.int 0)) mNil)))) (mSeq (mSet 6 (mCallN p_l_motion (mCons (mVar 2) (mCons (mC (.int 5)) mNil)))) (mSeq (mSet 7 (mCallN p_l_fitting (mCons (mCallN p_l_panes (mCons (mVar 0) (mCons (mC (.int 2)) (mCons (mSl mkD (mVar 3) moN (moS (mOp (vl2 modW) (mOp (vl2 ixW) (mVar 2) (mC (.int 10))) (mC (.int 4))))) (mCons (mVar 4) (mCons (mVar 5) mNil)))))) mNil))) (mSeq (mIf (mTst (mOp (vl2 eqW) (mOp (vl2 modW) (mOp (vl2 ixW) (mVar 2) (mC (.int 11))) (mC (.int 4))) (mC (.int 1)))) (mSeq (mSet 9 (mCall (ndN tupC) (mCons (mOp (vl2 subW) (mOp (vl2 modW) (mOp (vl2 ixW) (mVar 2) (mC (.int 13))) (mC (.int 5))) (mC (.int 2))) (mCons (mC (.int 1)) (mCons (mC (.int 9)) mNil))))) (mSet 4 (mOp addD (mLc mkD (mSl mkD (mVar 4) (moS (mC (.int 1))) moN) [10] (gtName 10) t_l_two_0 e_l_two_1) (mCall (ndN lstC) (mCons (mVar 9) mNil))))) mSkip) (mSeq (mSet 8 (mCallN p_l_fitting (mCons (mCallN p_l_panes (mCons (mVar 0) (mCons (mC (.int 6)) (mCons (mSl mkD (mRev mkD (mVar 3)) moN (moS (mOp (vl2 modW) (mOp (vl2 ixW) (mVar 2) (mC (.int 12))) (mC (.int 4))))) (mCons (mVar 4) (mCons (mVar 6) mNil)))))) mNil))) (mRet (mCall (ndN tupC) (mCons (mVar 7) (mCons (mVar 8) (mCons (mCallN p_l_behind (mCons (mCallN p_l_back (mCons (mVar 6) mNil)) (mCons (mVar 5) mNil))) mNil))))))))))))))
noncomputable def q_l_two : List W → Sto → Rs W := runS 11 1 m_l_two
noncomputable def p_l_two : List D → Re D := runP 11 1 m_l_two
/-! ### _law_kept -/
abbrev s_l_kept : Stmt := topS 66
theorem sc_l_kept : FnScope ["_law_handed", "_law_rows", "_law_plate", "_law_motion_here", "_law_pane_here"] ["_law_handed", "_law_rows"] (defScope s_l_kept) := ⟨rfl, rfl, rfl, by decide +kernel, rfl, by decide +kernel, by decide +kernel⟩
noncomputable def e_l_kept_0 : ME := (mCall (ndN tupC) (mCons (mFld ["Plate"] "name" (mVar 2)) (mCons (mVar 3) mNil)))
noncomputable def e_l_kept_1 : ME := (mCall (ndN tupC) (mCons (mOp (vl2 ixW) (mVar 4) (mC (.int 0))) (mCons (mVar 3) mNil)))
noncomputable def m_l_kept : MS := (mRet (mOp (vl2 eqW) (mLc mkD (mVar 0) [2, 3] (gtTupT 2 (gtCons (gtName 2) (gtCons (gtName 3) gtNil))) mYes e_l_kept_0) (mLc mkD (mVar 1) [4, 3] (gtTupT 2 (gtCons (gtName 4) (gtCons (gtName 3) gtNil))) mYes e_l_kept_1)))
noncomputable def q_l_kept : List W → Sto → Rs W := runS 5 2 m_l_kept
noncomputable def p_l_kept : List D → Re D := runP 5 2 m_l_kept
/-! ### _law_star_changed -/
abbrev s_l_star_changed : Stmt := topS 67
theorem sc_l_star_changed : FnScope ["_law_rows", "_law_k", "_law_at", "_law_pane_here", "_law_motion_here", "_law_star", "_law_bright", "_law_stars_here", "_law_made", "_law_other"] ["_law_rows", "_law_k"] (defScope s_l_star_changed) := ⟨rfl, rfl, rfl, by decide +kernel, rfl, by decide +kernel, by decide +kernel⟩
noncomputable def t_l_star_changed_0 : MT := (mTst (mOp (vl2 neW) (mVar 9) (mVar 5)))
noncomputable def e_l_star_changed_1 : ME := (mVar 9)
noncomputable def b_l_star_changed_2 : MS := (mSeq (mAsg (gtTup 2 (gtCons (gtName 3) (gtCons (gtName 4) gtNil))) (mOp (vl2 ixW) (mVar 0) (mVar 2))) (mIf (mTru (mOp (vl2 ixW) (mVar 3) (mC (.int 4)))) (mSeq (mSet 5 (mOp (vl2 ixW) (mOp (vl2 ixW) (mVar 3) (mC (.int 4))) (mOp (vl2 modW) (mVar 1) (mCall (vlN lenW) (mCons (mOp (vl2 ixW) (mVar 3) (mC (.int 4))) mNil))))) (mSeq (mSet 6 (mOp addD (mOp (vl2 ixW) (mVar 3) (mC (.int 3))) (mOp (vl2 modW) (mOp addD (mOp (vl2 subW) (mOp (vl2 ixW) (mVar 5) (mC (.int 2))) (mOp (vl2 ixW) (mVar 3) (mC (.int 3)))) (mC (.int 1))) (mOp (vl2 subW) (mC (.int 10)) (mOp (vl2 ixW) (mVar 3) (mC (.int 3))))))) (mSeq (mSet 7 (mCall (ndN sortC) (mCons (mOp addD (mLc mkD (mOp (vl2 ixW) (mVar 3) (mC (.int 4))) [9] (gtName 9) t_l_star_changed_0 e_l_star_changed_1) (mCall (ndN lstC) (mCons (mOp addD (mSl mkD (mVar 5) moN (moS (mC (.int 2)))) (mCall (ndN tupC) (mCons (mVar 6) mNil))) mNil))) mNil))) (mSeq (mSet 8 (mOp addD (mOp addD (mSl mkD (mVar 0) moN (moS (mVar 2))) (mCall (ndN lstC) (mCons (mCall (ndN tupC) (mCons (mOp addD (mSl mkD (mVar 3) moN (moS (mC (.int 4)))) (mCall (ndN tupC) (mCons (mCall (tupleF mkD) (mCons (mVar 7) mNil)) mNil))) (mCons (mVar 4) mNil))) mNil))) (mSl mkD (mVar 0) (moS (mOp addD (mVar 2) (mC (.int 1)))) moN))) (mIf (mTst (mOp (vl2 eqW) (mCall (vlN lenW) (mCons (mCallN p_l_fitting (mCons (mVar 8) mNil)) mNil)) (mCall (vlN lenW) (mCons (mVar 0) mNil)))) (mRet (mVar 8)) mSkip))))) mSkip))
noncomputable def m_l_star_changed : MS := (mSeq (mForR rng1 (mCons (mCall (vlN lenW) (mCons (mVar 0) mNil)) mNil) (gtName 2) b_l_star_changed_2) (mRet (mVar 0)))
noncomputable def q_l_star_changed : List W → Sto → Rs W := runS 10 2 m_l_star_changed
noncomputable def p_l_star_changed : List D → Re D := runP 10 2 m_l_star_changed
/-! ### law -/
abbrev s_law : Stmt := topS 68
theorem sc_law : FnScope ["_law_script", "_law_d", "_law_least", "_law_handed", "_law_refused", "_law_found", "_law_e", "_law_due", "_law_changed", "_law_ones", "_law_others", "_law_truth"] ["_law_script"] (defScope s_law) := ⟨rfl, rfl, rfl, by decide +kernel, rfl, by decide +kernel, by decide +kernel⟩
noncomputable def y_law_0 : MS := (mSet 5 (mCallN p_layings (mCons (mOp (vl2 ixW) (mVar 3) (mC (.int 0))) (mCons (mOp (vl2 ixW) (mVar 3) (mC (.int 1))) (mCons (mVar 2) mNil)))))
noncomputable def x_law_1 (exn : Exn) : MS := (mSet 4 (mAndV (mIsE 6 il_BadCount exn) (mIsE 6 il_ValueError exn)))
noncomputable def m_law : MS := (mSeq (mAsg (gtTup 3 (gtCons (gtName 9) (gtCons (gtName 10) (gtCons (gtName 11) gtNil)))) (mCallN p_l_two (mCons (mVar 0) mNil))) (mSeq (mSet 1 (mCallN p_l_draws (mCons (mVar 0) (mCons (mC (.int 11)) (mCons (mC (.int 2)) mNil))))) (mSeq (mSet 2 (mOp (vl2 ixW) (mCall (ndN lstC) (mCons (mC (.int 1)) (mCons (mC (.int 2)) (mCons (mC (.int 3)) (mCons (mC (.int 1)) (mCons (mC (.int 2)) (mCons (mC (.int 1)) (mCons (mC (.int 4)) (mCons (mC (.int 0)) (mCons (mUn (vl1 negW) (mC (.int 1))) (mCons (mUn (vl1 negW) (mC (.int 2))) (mCons (mOp (vl2 powW) (mC (.int 10)) (mC (.int 30))) (mCons (mUn (vl1 negW) (mOp (vl2 powW) (mC (.int 10)) (mC (.int 30)))) mNil))))))))))))) (mOp (vl2 modW) (mOp (vl2 ixW) (mVar 1) (mC (.int 0))) (mC (.int 12))))) (mSeq (mSet 3 (mCall (ndN lstC) (mCons (mCallN p_l_plates (mCons (mVar 9) mNil)) (mCons (mCallN p_l_plates (mCons (mVar 10) mNil)) mNil)))) (mSeq (mSet 4 (mC (.bl false))) (mSeq (mSet 5 (mC .non)) (mSeq (mTryAs (hitL hl_GlassError) 6 y_law_0 x_law_1) (mSeq (mIf (mOr (mNot (mTru (mCallN p_l_kept (mCons (mOp (vl2 ixW) (mVar 3) (mC (.int 0))) (mCons (mVar 9) mNil))))) (mNot (mTru (mCallN p_l_kept (mCons (mOp (vl2 ixW) (mVar 3) (mC (.int 1))) (mCons (mVar 10) mNil)))))) (mRet (mC (.bl false))) mSkip) (mSeq (mIf (mTst (mOp (vl2 ltW) (mVar 2) (mC (.int 1)))) (mRet (mVar 4)) mSkip) (mSeq (mSet 7 (mCallN p_l_all_layings (mCons (mVar 9) (mCons (mVar 10) (mCons (mVar 2) mNil))))) (mSeq (mIf (mOr (mTru (mVar 4)) (mNot (mTru (mCallN (p_l_same 6) (mCons (mVar 5) (mCons (mVar 7) mNil)))))) (mRet (mC (.bl false))) mSkip) (mSeq (mSet 8 (mCall (ndN lstC) (mCons (mCallN p_l_star_changed (mCons (mVar 9) (mCons (mOp (vl2 ixW) (mVar 1) (mC (.int 1))) mNil))) (mCons (mCallN p_l_star_changed (mCons (mVar 10) (mCons (mOp (vl2 divW) (mOp (vl2 ixW) (mVar 1) (mC (.int 1))) (mC (.int 8))) mNil))) mNil)))) (mSeq (mSet 5 (mCallN p_layings (mCons (mCallN p_l_plates (mCons (mOp (vl2 ixW) (mVar 8) (mC (.int 0))) mNil)) (mCons (mCallN p_l_plates (mCons (mOp (vl2 ixW) (mVar 8) (mC (.int 1))) mNil)) (mCons (mVar 2) mNil))))) (mSeq (mIf (mNot (mTru (mCallN (p_l_same 6) (mCons (mVar 5) (mCons (mCallN p_l_all_layings (mCons (mOp (vl2 ixW) (mVar 8) (mC (.int 0))) (mCons (mOp (vl2 ixW) (mVar 8) (mC (.int 1))) (mCons (mVar 2) mNil)))) mNil))))) (mRet (mC (.bl false))) mSkip) (mRet (mCallN (p_l_same 6) (mCons (mCallN p_layings (mCons (mCallN p_l_plates (mCons (mVar 9) mNil)) (mCons (mCallN p_l_plates (mCons (mVar 10) mNil)) (mCons (mVar 2) mNil)))) (mCons (mVar 7) mNil))))))))))))))))))
noncomputable def q_law : List W → Sto → Rs W := runS 12 1 m_law
noncomputable def p_law : List D → Re D := runP 12 1 m_law
/-- what the top leaves -/
structure Tx (K : PySem.W.Frag) (mg : Str → Option Value) (cl : Str → Option Addr) (fa : Nat → Addr) (fd : Nat → FuncData) (ca : Nat → Addr) : Prop where
  c_Plate : ClsAt K mg cl "Plate" (ca 41)
  k_Plate : Mk K (ca 41) (fa 14100)
  f_name : FldOk K cl "name" ["Plate"]
  f_width : FldOk K cl "width" ["Plate"]
  f_height : FldOk K cl "height" ["Plate"]
  f_limit : FldOk K cl "limit" ["Plate"]
  f_lights : FldOk K cl "lights" ["Plate"]
  d7 : DefAt K mg "turned" s_turned ["turn", "place"] (fa 7) (fd 7)
  d8 : DefAt K mg "moved" s_moved ["motion", "place"] (fa 8) (fd 8)
  d9 : DefAt K mg "turn_behind" s_turn_behind ["first", "second"] (fa 9) (fd 9)
  d10 : DefAt K mg "behind" s_behind ["first", "second"] (fa 10) (fd 10)
  d11 : DefAt K mg "turn_back" s_turn_back ["turn"] (fa 11) (fd 11)
  d12 : DefAt K mg "back" s_back ["motion"] (fa 12) (fd 12)
  d13 : DefAt K mg "leading" s_leading ["turn", "place", "goal"] (fa 13) (fd 13)
  d17 : DefAt K mg "leaves" s_leaves ["saying"] (fa 17) (fd 17)
  d18 : DefAt K mg "up_to" s_up_to ["greatest"] (fa 18) (fd 18)
  d19 : DefAt K mg "agree" s_agree ["one", "other"] (fa 19) (fd 19)
  d20 : DefAt K mg "joined" s_joined ["one", "other"] (fa 20) (fd 20)
  d21 : DefAt K mg "pool" s_pool ["sayings"] (fa 21) (fd 21)
  d23 : DefAt K mg "name_of" s_name_of ["entry"] (fa 23) (fd 23)
  d14104 : MethAt K "places" "Plate.places" s_Plate_places ["self"] (ca 41) (fa 14104) (fd 14104)
  d14102 : MethAt K "holds" "Plate.holds" s_Plate_holds ["self", "place"] (ca 41) (fa 14102) (fd 14102)
  d14103 : MethAt K "says" "Plate.says" s_Plate_says ["self", "place"] (ca 41) (fa 14103) (fd 14103)
  d24 : DefAt K mg "unlike_two" s_unlike_two ["here", "there", "motion"] (fa 24) (fd 24)
  d25 : DefAt K mg "unlike" s_unlike ["laid", "others"] (fa 25) (fd 25)
  d26 : DefAt K mg "chart" s_chart ["laid"] (fa 26) (fd 26)
  d27 : DefAt K mg "face" s_face ["laid"] (fa 27) (fd 27)
  d29 : DefAt K mg "led" s_led ["laid", "motion"] (fa 29) (fd 29)
  d30 : DefAt K mg "stars_met" s_stars_met ["ones", "others", "motion"] (fa 30) (fd 30)
  d31 : DefAt K mg "tried" s_tried ["ones", "others"] (fa 31) (fd 31)
  d32 : DefAt K mg "layings" s_layings ["ones", "others", "least"] (fa 32) (fd 32)
  d39 : DefAt K mg "is_name" s_is_name ["name"] (fa 39) (fd 39)
  d40 : DefAt K mg "is_glass" s_is_glass ["width", "height", "limit", "stars"] (fa 40) (fd 40)
  d14100 : MethAt K "__init__" "Plate.__init__" s_Plate___init__ ["self", "name", "width", "height", "limit", "stars"] (ca 41) (fa 14100) (fd 14100)
  d14101 : MethAt K "stars" "Plate.stars" s_Plate_stars ["self"] (ca 41) (fa 14101) (fd 14101)
  d43 : DefAt K mg "_law_draws" s_l_draws ["_law_script", "_law_at", "_law_many"] (fa 43) (fd 43)
  d44 : DefAt K mg "_law_far" s_l_far ["_law_one", "_law_two_here"] (fa 44) (fd 44)
  d45 : DefAt K mg "_law_turned" s_l_turned ["_law_turn", "_law_x", "_law_y"] (fa 45) (fd 45)
  d46 : DefAt K mg "_law_moved" s_l_moved ["_law_motion_here", "_law_place"] (fa 46) (fd 46)
  d47 : DefAt K mg "_law_behind" s_l_behind ["_law_first", "_law_second"] (fa 47) (fd 47)
  d48 : DefAt K mg "_law_back" s_l_back ["_law_motion_here"] (fa 48) (fd 48)
  d49 : DefAt K mg "_law_motion" s_l_motion ["_law_d", "_law_at"] (fa 49) (fd 49)
  d50 : DefAt K mg "_law_same" s_l_same ["_law_found", "_law_due"] (fa 50) (fd 50)
  d51 : DefAt K mg "_law_agreeing" s_l_agreeing ["_law_one", "_law_other"] (fa 51) (fd 51)
  d52 : DefAt K mg "_law_says" s_l_says ["_law_pane_here", "_law_place"] (fa 52) (fd 52)
  d53 : DefAt K mg "_law_heaven" s_l_heaven ["_law_script"] (fa 53) (fd 53)
  d54 : DefAt K mg "_law_names" s_l_names ["_law_d"] (fa 54) (fd 54)
  d55 : DefAt K mg "_law_pane" s_l_pane ["_law_name", "_law_home_here", "_law_heaven_here", "_law_d"] (fa 55) (fd 55)
  d56 : DefAt K mg "_law_home" s_l_home ["_law_d"] (fa 56) (fd 56)
  d57 : DefAt K mg "_law_clash_of_two" s_l_clash_of_two ["_law_here", "_law_there", "_law_away"] (fa 57) (fd 57)
  d58 : DefAt K mg "_law_panes" s_l_panes ["_law_script", "_law_at", "_law_names_here", "_law_heaven_here", "_law_whole"] (fa 58) (fd 58)
  d59 : DefAt K mg "_law_plates" s_l_plates ["_law_rows"] (fa 59) (fd 59)
  d60 : DefAt K mg "_law_fitting" s_l_fitting ["_law_rows"] (fa 60) (fd 60)
  d61 : DefAt K mg "_law_stars" s_l_stars ["_law_rows"] (fa 61) (fd 61)
  d62 : DefAt K mg "_law_met" s_l_met ["_law_ones", "_law_others", "_law_motion_here"] (fa 62) (fd 62)
  d63 : DefAt K mg "_law_unlike_rows" s_l_unlike_rows ["_law_ones", "_law_others", "_law_motion_here"] (fa 63) (fd 63)
  d64 : DefAt K mg "_law_all_layings" s_l_all_layings ["_law_ones", "_law_others", "_law_least"] (fa 64) (fd 64)
  d65 : DefAt K mg "_law_two" s_l_two ["_law_script"] (fa 65) (fd 65)
  d66 : DefAt K mg "_law_kept" s_l_kept ["_law_handed", "_law_rows"] (fa 66) (fd 66)
  d67 : DefAt K mg "_law_star_changed" s_l_star_changed ["_law_rows", "_law_k"] (fa 67) (fd 67)
  d68 : DefAt K mg "law" s_law ["_law_script"] (fa 68) (fd 68)
  c_GlassError : ExcAt K mg cl "GlassError" (ca 1)
  c_BadName : ExcAt K mg cl "BadName" (ca 2)
  c_BadPlate : ExcAt K mg cl "BadPlate" (ca 3)
  c_BadCount : ExcAt K mg cl "BadCount" (ca 4)
  c_Denied : ExcAt K mg cl "Denied" (ca 5)
  h_GlassError : Hits K cl (.ref (ca 1)) hl_GlassError
  i_BadCount : Isis K cl (.ref (ca 4)) il_BadCount
  i_ValueError : Isis K cl (.type "ValueError") il_ValueError
  b_ValueError : mg "ValueError" = none
  b_bool : mg "bool" = none
  b_int : mg "int" = none
  b_isinstance : mg "isinstance" = none
  b_len : mg "len" = none
  b_list : mg "list" = none
  b_max : mg "max" = none
  b_min : mg "min" = none
  b_range : mg "range" = none
  b_sorted : mg "sorted" = none
  b_str : mg "str" = none
  b_tuple : mg "tuple" = none
  g_BRIGHT_MOST : GlobAt K mg cl "BRIGHT_MOST" (.int 9)
  g_LETTERS : GlobAt K mg cl "LETTERS" (.str "abcdefghijklmnopqrstuvwxyz")
  g_MOST : GlobAt K mg cl "MOST" (.int 9)
  g_NAME_MOST : GlobAt K mg cl "NAME_MOST" (.int 8)
  g_SIDE_MOST : GlobAt K mg cl "SIDE_MOST" (.int 8)
  g_STARS_MOST : GlobAt K mg cl "STARS_MOST" (.int 8)
  g_UNSEEN : GlobAt K mg cl "UNSEEN" (.wt [(.str "unseen"), (.int 0)])
section
variable {P : Program} {w : World} {K : PySem.W.Frag} {mg : Str → Option Value} {base : Heap} {cl : Str → Option Addr} {fa : Nat → Addr} {fd : Nat → FuncData} {ca : Nat → Addr}
theorem okS_turned (T : Tx K mg cl fa fd ca) : FnOk P w K mg base (L2.CX P w) 1 (fa 7) (fd 7) ["turn", "place"] (SpS K cl q_turned) := by
  have sc := sc_turned
  exact fnS T.d7.fn sc_turned fun cdv A outer s H E hr =>
  (qb_cons (qs_asg (qe_var 1) (qg_tup rfl (qgs_cons (qg_name (i := 3) sc.nd rfl (by first | exact .inl rfl | exact .inr rfl)) (qgs_cons (qg_name (i := 4) sc.nd rfl (by first | exact .inl rfl | exact .inr rfl)) qgs_nil)))) (qb_cons (qs_if (qt_cmp ow_ge (qe_var 0) qe_int (nomark _)) (qb_one (qs_set (i := 3) sc.nd rfl (by first | exact .inl rfl | exact .inr rfl) (qe_un uw_neg (qe_var 3)))) qb_nil) (qb_cons (qs_range1 (passes_of rfl) rfl (by rfl) T.b_range (qa_cons (qe_bin ow_mod (qe_var 0) qe_int) qa_nil) (qg_name (i := 2) sc.nd rfl (by first | exact .inl rfl | exact .inr rfl)) (qb_one (qs_par (i := 3) (j := 4) rfl sc.nd rfl rfl (by decide) rfl rfl (qa_cons (qe_un uw_neg (qe_var 4)) (qa_cons (qe_var 3) qa_nil)) (by rfl)))) (qb_one (qs_ret (qe_tup (qa_cons (qe_var 3) (qa_cons (qe_var 4) qa_nil))))))))
theorem ok_turned (T : Tx K mg cl fa fd ca) : FnOk P w K mg base (L2.CX P w) 1 (fa 7) (fd 7) ["turn", "place"] (SpP K cl p_turned) := fnP (okS_turned T)
theorem okS_moved (T : Tx K mg cl fa fd ca) : FnOk P w K mg base (L2.CX P w) 2 (fa 8) (fd 8) ["motion", "place"] (SpS K cl q_moved) := by
  have sc := sc_moved
  exact fnS T.d8.fn sc_moved fun cdv A outer s H E hr =>
  (qb_cons (qs_asg (qe_var 0) (qg_tup rfl (qgs_cons (qg_name (i := 2) sc.nd rfl (by first | exact .inl rfl | exact .inr rfl)) (qgs_cons (qg_name (i := 3) sc.nd rfl (by first | exact .inl rfl | exact .inr rfl)) (qgs_cons (qg_name (i := 4) sc.nd rfl (by first | exact .inl rfl | exact .inr rfl)) qgs_nil))))) (qb_cons (qs_asg (qe_callN (ok_turned T) (hr.mono (by decide)) (by rfl) T.d7.mgd T.d7.fn.kp T.d7.bd (fun σ => passAt (takes_of rfl rfl rfl rfl) σ) (qa_cons (qe_var 2) (qa_cons (qe_var 1) qa_nil))) (qg_tup rfl (qgs_cons (qg_name (i := 5) sc.nd rfl (by first | exact .inl rfl | exact .inr rfl)) (qgs_cons (qg_name (i := 6) sc.nd rfl (by first | exact .inl rfl | exact .inr rfl)) qgs_nil)))) (qb_one (qs_ret (qe_tup (qa_cons (qe_bin ow_addD (qe_var 5) (qe_var 3)) (qa_cons (qe_bin ow_addD (qe_var 6) (qe_var 4)) qa_nil)))))))
theorem ok_moved (T : Tx K mg cl fa fd ca) : FnOk P w K mg base (L2.CX P w) 2 (fa 8) (fd 8) ["motion", "place"] (SpP K cl p_moved) := fnP (okS_moved T)
theorem okS_turn_behind (T : Tx K mg cl fa fd ca) : FnOk P w K mg base (L2.CX P w) 1 (fa 9) (fd 9) ["first", "second"] (SpS K cl q_turn_behind) := by
  have sc := sc_turn_behind
  exact fnS T.d9.fn sc_turn_behind fun cdv A outer s H E hr =>
  (qb_cons (qs_set (i := 2) sc.nd rfl (by first | exact .inl rfl | exact .inr rfl) (qe_bin ow_mod (qe_var 0) qe_int)) (qb_cons (qs_if (qt_cmp ow_ge (qe_var 1) qe_int (nomark _)) (qb_one (qs_set (i := 2) sc.nd rfl (by first | exact .inl rfl | exact .inr rfl) (qe_un uw_neg (qe_var 2)))) qb_nil) (qb_cons (qs_set (i := 3) sc.nd rfl (by first | exact .inl rfl | exact .inr rfl) (qe_bin ow_mod (qe_bin ow_addD (qe_bin ow_div (qe_var 0) qe_int) (qe_bin ow_div (qe_var 1) qe_int)) qe_int)) (qb_one (qs_ret (qe_bin ow_addD (qe_bin ow_mod (qe_bin ow_addD (qe_var 2) (qe_var 1)) qe_int) (qe_bin ow_mul qe_int (qe_var 3))))))))
theorem ok_turn_behind (T : Tx K mg cl fa fd ca) : FnOk P w K mg base (L2.CX P w) 1 (fa 9) (fd 9) ["first", "second"] (SpP K cl p_turn_behind) := fnP (okS_turn_behind T)
theorem okS_behind (T : Tx K mg cl fa fd ca) : FnOk P w K mg base (L2.CX P w) 2 (fa 10) (fd 10) ["first", "second"] (SpS K cl q_behind) := by
  have sc := sc_behind
  exact fnS T.d10.fn sc_behind fun cdv A outer s H E hr =>
  (qb_cons (qs_asg (qe_callN (ok_turned T) (hr.mono (by decide)) (by rfl) T.d7.mgd T.d7.fn.kp T.d7.bd (fun σ => passAt (takes_of rfl rfl rfl rfl) σ) (qa_cons (qe_ix (xw_ix (hu_ng hr)) (qe_var 1) qe_int (fun _ _ => rfl)) (qa_cons (qe_tup (qa_cons (qe_ix (xw_ix (hu_ng hr)) (qe_var 0) qe_int (fun _ _ => rfl)) (qa_cons (qe_ix (xw_ix (hu_ng hr)) (qe_var 0) qe_int (fun _ _ => rfl)) qa_nil))) qa_nil))) (qg_tup rfl (qgs_cons (qg_name (i := 2) sc.nd rfl (by first | exact .inl rfl | exact .inr rfl)) (qgs_cons (qg_name (i := 3) sc.nd rfl (by first | exact .inl rfl | exact .inr rfl)) qgs_nil)))) (qb_one (qs_ret (qe_tup (qa_cons (qe_callN (ok_turn_behind T) (hr.mono (by decide)) (by rfl) T.d9.mgd T.d9.fn.kp T.d9.bd (fun σ => passAt (takes_of rfl rfl rfl rfl) σ) (qa_cons (qe_ix (xw_ix (hu_ng hr)) (qe_var 0) qe_int (fun _ _ => rfl)) (qa_cons (qe_ix (xw_ix (hu_ng hr)) (qe_var 1) qe_int (fun _ _ => rfl)) qa_nil))) (qa_cons (qe_bin ow_addD (qe_var 2) (qe_ix (xw_ix (hu_ng hr)) (qe_var 1) qe_int (fun _ _ => rfl))) (qa_cons (qe_bin ow_addD (qe_var 3) (qe_ix (xw_ix (hu_ng hr)) (qe_var 1) qe_int (fun _ _ => rfl))) qa_nil)))))))
theorem ok_behind (T : Tx K mg cl fa fd ca) : FnOk P w K mg base (L2.CX P w) 2 (fa 10) (fd 10) ["first", "second"] (SpP K cl p_behind) := fnP (okS_behind T)
theorem okS_turn_back (T : Tx K mg cl fa fd ca) : FnOk P w K mg base (L2.CX P w) 1 (fa 11) (fd 11) ["turn"] (SpS K cl q_turn_back) := by
  have sc := sc_turn_back
  exact fnS T.d11.fn sc_turn_back fun cdv A outer s H E hr =>
  (qb_cons (qs_if (qt_cmp ow_ge (qe_var 0) qe_int (nomark _)) (qb_one (qs_ret (qe_var 0))) qb_nil) (qb_one (qs_ret (qe_bin ow_mod (qe_bin ow_sub qe_int (qe_var 0)) qe_int))))
theorem ok_turn_back (T : Tx K mg cl fa fd ca) : FnOk P w K mg base (L2.CX P w) 1 (fa 11) (fd 11) ["turn"] (SpP K cl p_turn_back) := fnP (okS_turn_back T)
theorem okS_back (T : Tx K mg cl fa fd ca) : FnOk P w K mg base (L2.CX P w) 2 (fa 12) (fd 12) ["motion"] (SpS K cl q_back) := by
  have sc := sc_back
  exact fnS T.d12.fn sc_back fun cdv A outer s H E hr =>
  (qb_cons (qs_set (i := 1) sc.nd rfl (by first | exact .inl rfl | exact .inr rfl) (qe_callN (ok_turn_back T) (hr.mono (by decide)) (by rfl) T.d11.mgd T.d11.fn.kp T.d11.bd (fun σ => passAt (takes_of rfl rfl rfl rfl) σ) (qa_cons (qe_ix (xw_ix (hu_ng hr)) (qe_var 0) qe_int (fun _ _ => rfl)) qa_nil))) (qb_cons (qs_asg (qe_callN (ok_turned T) (hr.mono (by decide)) (by rfl) T.d7.mgd T.d7.fn.kp T.d7.bd (fun σ => passAt (takes_of rfl rfl rfl rfl) σ) (qa_cons (qe_var 1) (qa_cons (qe_tup (qa_cons (qe_ix (xw_ix (hu_ng hr)) (qe_var 0) qe_int (fun _ _ => rfl)) (qa_cons (qe_ix (xw_ix (hu_ng hr)) (qe_var 0) qe_int (fun _ _ => rfl)) qa_nil))) qa_nil))) (qg_tup rfl (qgs_cons (qg_name (i := 2) sc.nd rfl (by first | exact .inl rfl | exact .inr rfl)) (qgs_cons (qg_name (i := 3) sc.nd rfl (by first | exact .inl rfl | exact .inr rfl)) qgs_nil)))) (qb_one (qs_ret (qe_tup (qa_cons (qe_var 1) (qa_cons (qe_un uw_neg (qe_var 2)) (qa_cons (qe_un uw_neg (qe_var 3)) qa_nil))))))))
theorem ok_back (T : Tx K mg cl fa fd ca) : FnOk P w K mg base (L2.CX P w) 2 (fa 12) (fd 12) ["motion"] (SpP K cl p_back) := fnP (okS_back T)
theorem okS_leading (T : Tx K mg cl fa fd ca) : FnOk P w K mg base (L2.CX P w) 2 (fa 13) (fd 13) ["turn", "place", "goal"] (SpS K cl q_leading) := by
  have sc := sc_leading
  exact fnS T.d13.fn sc_leading fun cdv A outer s H E hr =>
  (qb_cons (qs_asg (qe_callN (ok_turned T) (hr.mono (by decide)) (by rfl) T.d7.mgd T.d7.fn.kp T.d7.bd (fun σ => passAt (takes_of rfl rfl rfl rfl) σ) (qa_cons (qe_var 0) (qa_cons (qe_var 1) qa_nil))) (qg_tup rfl (qgs_cons (qg_name (i := 3) sc.nd rfl (by first | exact .inl rfl | exact .inr rfl)) (qgs_cons (qg_name (i := 4) sc.nd rfl (by first | exact .inl rfl | exact .inr rfl)) qgs_nil)))) (qb_one (qs_ret (qe_tup (qa_cons (qe_var 0) (qa_cons (qe_bin ow_sub (qe_ix (xw_ix (hu_ng hr)) (qe_var 2) qe_int (fun _ _ => rfl)) (qe_var 3)) (qa_cons (qe_bin ow_sub (qe_ix (xw_ix (hu_ng hr)) (qe_var 2) qe_int (fun _ _ => rfl)) (qe_var 4)) qa_nil)))))))
theorem ok_leading (T : Tx K mg cl fa fd ca) : FnOk P w K mg base (L2.CX P w) 2 (fa 13) (fd 13) ["turn", "place", "goal"] (SpP K cl p_leading) := fnP (okS_leading T)
theorem okS_leaves (T : Tx K mg cl fa fd ca) : FnOk P w K mg base (L2.CX P w) 1 (fa 17) (fd 17) ["saying"] (SpS K cl q_leaves) := by
  have sc := sc_leaves
  exact fnS T.d17.fn sc_leaves fun cdv A outer s H E hr =>
  (qb_cons (qs_asg (qe_var 0) (qg_tup rfl (qgs_cons (qg_name (i := 1) sc.nd rfl (by first | exact .inl rfl | exact .inr rfl)) (qgs_cons (qg_name (i := 2) sc.nd rfl (by first | exact .inl rfl | exact .inr rfl)) qgs_nil)))) (qb_cons (qs_if (qt_cmp (ow_eq (hu_ng hr)) (qe_var 1) qe_str (nomark _)) (qb_one (qs_ret (qe_tup (qa_cons (qe_var 2) (qa_cons (qe_var 2) qa_nil))))) qb_nil) (qb_cons (qs_if (qt_cmp (ow_eq (hu_ng hr)) (qe_var 1) qe_str (nomark _)) (qb_one (qs_ret (qe_tup (qa_cons qe_int (qa_cons (qe_bin ow_sub (qe_var 2) qe_int) qa_nil))))) qb_nil) (qb_one (qs_ret (qe_tup (qa_cons qe_int (qa_cons (qe_globAt T.g_MOST) qa_nil))))))))
theorem ok_leaves (T : Tx K mg cl fa fd ca) : FnOk P w K mg base (L2.CX P w) 1 (fa 17) (fd 17) ["saying"] (SpP K cl p_leaves) := fnP (okS_leaves T)
theorem okS_up_to (T : Tx K mg cl fa fd ca) : FnOk P w K mg base (L2.CX P w) 1 (fa 18) (fd 18) ["greatest"] (SpS K cl q_up_to) := by
  have sc := sc_up_to
  exact fnS T.d18.fn sc_up_to fun cdv A outer s H E hr =>
  (qb_cons (qs_if (qt_cmp ow_lt (qe_var 0) (qe_globAt T.g_MOST) (nomark _)) (qb_one (qs_ret (qe_tup (qa_cons qe_str (qa_cons (qe_bin ow_addD (qe_var 0) qe_int) qa_nil))))) qb_nil) (qb_one (qs_ret (qe_globAt T.g_UNSEEN))))
theorem ok_up_to (T : Tx K mg cl fa fd ca) : FnOk P w K mg base (L2.CX P w) 1 (fa 18) (fd 18) ["greatest"] (SpP K cl p_up_to) := fnP (okS_up_to T)
theorem okS_agree (T : Tx K mg cl fa fd ca) : FnOk P w K mg base (L2.CX P w) 2 (fa 19) (fd 19) ["one", "other"] (SpS K cl q_agree) := by
  have sc := sc_agree
  exact fnS T.d19.fn sc_agree fun cdv A outer s H E hr =>
  (qb_cons (qs_asg (qe_callN (ok_leaves T) (hr.mono (by decide)) (by rfl) T.d17.mgd T.d17.fn.kp T.d17.bd (fun σ => passAt (takes_of rfl rfl rfl rfl) σ) (qa_cons (qe_var 0) qa_nil)) (qg_tup rfl (qgs_cons (qg_name (i := 2) sc.nd rfl (by first | exact .inl rfl | exact .inr rfl)) (qgs_cons (qg_name (i := 3) sc.nd rfl (by first | exact .inl rfl | exact .inr rfl)) qgs_nil)))) (qb_cons (qs_asg (qe_callN (ok_leaves T) (hr.mono (by decide)) (by rfl) T.d17.mgd T.d17.fn.kp T.d17.bd (fun σ => passAt (takes_of rfl rfl rfl rfl) σ) (qa_cons (qe_var 1) qa_nil)) (qg_tup rfl (qgs_cons (qg_name (i := 4) sc.nd rfl (by first | exact .inl rfl | exact .inr rfl)) (qgs_cons (qg_name (i := 5) sc.nd rfl (by first | exact .inl rfl | exact .inr rfl)) qgs_nil)))) (qb_one (qs_ret (qe_cmp ow_le (qe_callB (cw_max2 rfl) (by rfl) T.b_max (by decide +kernel) (qa_cons (qe_var 2) (qa_cons (qe_var 4) qa_nil))) (qe_callB (cw_min2 rfl) (by rfl) T.b_min (by decide +kernel) (qa_cons (qe_var 3) (qa_cons (qe_var 5) qa_nil))) (nomark _))))))
theorem ok_agree (T : Tx K mg cl fa fd ca) : FnOk P w K mg base (L2.CX P w) 2 (fa 19) (fd 19) ["one", "other"] (SpP K cl p_agree) := fnP (okS_agree T)
theorem okS_joined (T : Tx K mg cl fa fd ca) : FnOk P w K mg base (L2.CX P w) 3 (fa 20) (fd 20) ["one", "other"] (SpS K cl q_joined) := by
  have sc := sc_joined
  exact fnS T.d20.fn sc_joined fun cdv A outer s H E hr =>
  (qb_cons (qs_if (qt_not (qt_truth (qe_callN (ok_agree T) (hr.mono (by decide)) (by rfl) T.d19.mgd T.d19.fn.kp T.d19.bd (fun σ => passAt (takes_of rfl rfl rfl rfl) σ) (qa_cons (qe_var 0) (qa_cons (qe_var 1) qa_nil))))) (qb_one (qs_raise rfl (takes_of rfl rfl rfl rfl) T.c_Denied (by rfl))) qb_nil) (qb_cons (qs_for (passes_of rfl) rfl (qe_tup (qa_cons (qe_var 0) (qa_cons (qe_var 1) qa_nil))) (qg_name (i := 2) sc.nd rfl (by first | exact .inl rfl | exact .inr rfl)) (qb_one (qs_if (qt_cmp (ow_eq (hu_ng hr)) (qe_ix (xw_ix (hu_ng hr)) (qe_var 2) qe_int (fun _ _ => rfl)) qe_str (nomark _)) (qb_one (qs_ret (qe_var 2))) qb_nil))) (qb_one (qs_ret (qe_callN (ok_up_to T) (hr.mono (by decide)) (by rfl) T.d18.mgd T.d18.fn.kp T.d18.bd (fun σ => passAt (takes_of rfl rfl rfl rfl) σ) (qa_cons (qe_callB (cw_min2 rfl) (by rfl) T.b_min (by decide +kernel) (qa_cons (qe_ix (xw_ix (hu_ng hr)) (qe_callN (ok_leaves T) (hr.mono (by decide)) (by rfl) T.d17.mgd T.d17.fn.kp T.d17.bd (fun σ => passAt (takes_of rfl rfl rfl rfl) σ) (qa_cons (qe_var 0) qa_nil)) qe_int (fun _ _ => rfl)) (qa_cons (qe_ix (xw_ix (hu_ng hr)) (qe_callN (ok_leaves T) (hr.mono (by decide)) (by rfl) T.d17.mgd T.d17.fn.kp T.d17.bd (fun σ => passAt (takes_of rfl rfl rfl rfl) σ) (qa_cons (qe_var 1) qa_nil)) qe_int (fun _ _ => rfl)) qa_nil))) qa_nil))))))
theorem ok_joined (T : Tx K mg cl fa fd ca) : FnOk P w K mg base (L2.CX P w) 3 (fa 20) (fd 20) ["one", "other"] (SpP K cl p_joined) := fnP (okS_joined T)
theorem okS_pool (T : Tx K mg cl fa fd ca) : FnOk P w K mg base (L2.CX P w) 4 (fa 21) (fd 21) ["sayings"] (SpS K cl q_pool) := by
  have sc := sc_pool
  exact fnS T.d21.fn sc_pool fun cdv A outer s H E hr =>
  (qb_cons (qs_set (i := 1) sc.nd rfl (by first | exact .inl rfl | exact .inr rfl) (qe_globAt T.g_UNSEEN)) (qb_cons (qs_for (passes_of rfl) rfl (qe_var 0) (qg_name (i := 2) sc.nd rfl (by first | exact .inl rfl | exact .inr rfl)) (qb_one (qs_set (i := 1) sc.nd rfl (by first | exact .inl rfl | exact .inr rfl) (qe_callN (ok_joined T) (hr.mono (by decide)) (by rfl) T.d20.mgd T.d20.fn.kp T.d20.bd (fun σ => passAt (takes_of rfl rfl rfl rfl) σ) (qa_cons (qe_var 1) (qa_cons (qe_var 2) qa_nil)))))) (qb_one (qs_ret (qe_var 1)))))
theorem ok_pool (T : Tx K mg cl fa fd ca) : FnOk P w K mg base (L2.CX P w) 4 (fa 21) (fd 21) ["sayings"] (SpP K cl p_pool) := fnP (okS_pool T)
theorem okS_name_of (T : Tx K mg cl fa fd ca) : FnOk P w K mg base (L2.CX P w) 1 (fa 23) (fd 23) ["entry"] (SpS K cl q_name_of) := by
  have sc := sc_name_of
  exact fnS T.d23.fn sc_name_of fun cdv A outer s H E hr =>
  (qb_one (qs_ret (qe_fld T.f_name (qe_ix (xw_ix (hu_ng hr)) (qe_var 0) qe_int (fun _ _ => rfl)))))
theorem ok_name_of (T : Tx K mg cl fa fd ca) : FnOk P w K mg base (L2.CX P w) 1 (fa 23) (fd 23) ["entry"] (SpP K cl p_name_of) := fnP (okS_name_of T)
theorem okS_Plate_places (T : Tx K mg cl fa fd ca) : FnOk P w K mg base (L2.CX P w) 1 (fa 14104) (fd 14104) ["self"] (SpS K cl q_Plate_places) := by
  have sc := sc_Plate_places
  exact fnS T.d14104.fn sc_Plate_places fun cdv A outer s H E hr =>
  (qb_cons (qs_set (i := 1) sc.nd rfl (by first | exact .inl rfl | exact .inr rfl) (qe_lstC qa_nil)) (qb_cons (qs_range1 (passes_of rfl) rfl (by rfl) T.b_range (qa_cons (qe_fld T.f_width (qe_var 0)) qa_nil) (qg_name (i := 2) sc.nd rfl (by first | exact .inl rfl | exact .inr rfl)) (qb_one (qs_range1 (passes_of rfl) rfl (by rfl) T.b_range (qa_cons (qe_fld T.f_height (qe_var 0)) qa_nil) (qg_name (i := 3) sc.nd rfl (by first | exact .inl rfl | exact .inr rfl)) (qb_one (qs_expr (qe_bm PySem.F.plainAttrs_list PySem.F.slot_list_append PySem.F.type_list_append hm_append (qe_var 1) (qa_cons (qe_tup (qa_cons (qe_var 2) (qa_cons (qe_var 3) qa_nil))) qa_nil))))))) (qb_one (qs_ret (qe_fz (qe_var 1))))))
theorem ok_Plate_places (T : Tx K mg cl fa fd ca) : FnOk P w K mg base (L2.CX P w) 1 (fa 14104) (fd 14104) ["self"] (SpP K cl p_Plate_places) := fnP (okS_Plate_places T)
theorem okS_Plate_holds (T : Tx K mg cl fa fd ca) : FnOk P w K mg base (L2.CX P w) 1 (fa 14102) (fd 14102) ["self", "place"] (SpS K cl q_Plate_holds) := by
  have sc := sc_Plate_holds
  exact fnS T.d14102.fn sc_Plate_holds fun cdv A outer s H E hr =>
  (qb_one (qs_ret (qe_and (qe_chain ow_le ow_lt qe_int (qe_ix (xw_ix (hu_ng hr)) (qe_var 1) qe_int (fun _ _ => rfl)) (qe_fld T.f_width (qe_var 0))) (qe_one (qe_chain ow_le ow_lt qe_int (qe_ix (xw_ix (hu_ng hr)) (qe_var 1) qe_int (fun _ _ => rfl)) (qe_fld T.f_height (qe_var 0)))))))
theorem ok_Plate_holds (T : Tx K mg cl fa fd ca) : FnOk P w K mg base (L2.CX P w) 1 (fa 14102) (fd 14102) ["self", "place"] (SpP K cl p_Plate_holds) := fnP (okS_Plate_holds T)
theorem okS_Plate_says (T : Tx K mg cl fa fd ca) : FnOk P w K mg base (L2.CX P w) 2 (fa 14103) (fd 14103) ["self", "place"] (SpS K cl q_Plate_says) := by
  have sc := sc_Plate_says
  exact fnS T.d14103.fn sc_Plate_says fun cdv A outer s H E hr =>
  (qb_cons (qs_if (qt_not (qt_truth (qe_methP T.c_Plate T.d14102.mt (ok_Plate_holds T) (hr.mono (by decide)) T.d14102.bd (fun σ => passAt (takes_of rfl rfl rfl rfl) σ) (qe_var 0) (qa_cons (qe_var 1) qa_nil)))) (qb_one (qs_ret (qe_globAt T.g_UNSEEN))) qb_nil) (qb_cons (qs_if (qt_cmp (ow_in (hu_ng hr)) (qe_var 1) (qe_fld T.f_lights (qe_var 0)) (by rfl)) (qb_one (qs_ret (qe_tup (qa_cons qe_str (qa_cons (qe_ix (xw_ix (hu_ng hr)) (qe_fld T.f_lights (qe_var 0)) (qe_var 1) (fun _ _ => rfl)) qa_nil))))) qb_nil) (qb_one (qs_ret (qe_tup (qa_cons qe_str (qa_cons (qe_fld T.f_limit (qe_var 0)) qa_nil)))))))
theorem ok_Plate_says (T : Tx K mg cl fa fd ca) : FnOk P w K mg base (L2.CX P w) 2 (fa 14103) (fd 14103) ["self", "place"] (SpP K cl p_Plate_says) := fnP (okS_Plate_says T)
theorem okS_unlike_two (T : Tx K mg cl fa fd ca) : FnOk P w K mg base (L2.CX P w) 3 (fa 24) (fd 24) ["here", "there", "motion"] (SpS K cl q_unlike_two) := by
  have sc := sc_unlike_two
  exact fnS T.d24.fn sc_unlike_two fun cdv A outer s H E hr =>
  (qb_cons (qs_set (i := 3) sc.nd rfl (by first | exact .inl rfl | exact .inr rfl) (qe_callN (ok_back T) (hr.mono (by decide)) (by rfl) T.d12.mgd T.d12.fn.kp T.d12.bd (fun σ => passAt (takes_of rfl rfl rfl rfl) σ) (qa_cons (qe_var 2) qa_nil))) (qb_cons (qs_for (passes_of rfl) rfl (qe_methP0 T.c_Plate T.d14104.mt (ok_Plate_places T) (hr.mono (by decide)) T.d14104.bd (fun σ => passAt (takes_of rfl rfl rfl rfl) σ) (qe_var 0) ) (qg_name (i := 4) sc.nd rfl (by first | exact .inl rfl | exact .inr rfl)) (qb_one (qs_if (qt_not (qt_truth (qe_callN (ok_agree T) (hr.mono (by decide)) (by rfl) T.d19.mgd T.d19.fn.kp T.d19.bd (fun σ => passAt (takes_of rfl rfl rfl rfl) σ) (qa_cons (qe_methP T.c_Plate T.d14103.mt (ok_Plate_says T) (hr.mono (by decide)) T.d14103.bd (fun σ => passAt (takes_of rfl rfl rfl rfl) σ) (qe_var 0) (qa_cons (qe_var 4) qa_nil)) (qa_cons (qe_methP T.c_Plate T.d14103.mt (ok_Plate_says T) (hr.mono (by decide)) T.d14103.bd (fun σ => passAt (takes_of rfl rfl rfl rfl) σ) (qe_var 1) (qa_cons (qe_callN (ok_moved T) (hr.mono (by decide)) (by rfl) T.d8.mgd T.d8.fn.kp T.d8.bd (fun σ => passAt (takes_of rfl rfl rfl rfl) σ) (qa_cons (qe_var 3) (qa_cons (qe_var 4) qa_nil))) qa_nil)) qa_nil))))) (qb_one (qs_ret (qe_var 4))) qb_nil))) (qb_one (qs_ret qe_non))))
theorem ok_unlike_two (T : Tx K mg cl fa fd ca) : FnOk P w K mg base (L2.CX P w) 3 (fa 24) (fd 24) ["here", "there", "motion"] (SpP K cl p_unlike_two) := fnP (okS_unlike_two T)
theorem okS_unlike (T : Tx K mg cl fa fd ca) : FnOk P w K mg base (L2.CX P w) 4 (fa 25) (fd 25) ["laid", "others"] (SpS K cl q_unlike) := by
  have sc := sc_unlike
  exact fnS T.d25.fn sc_unlike fun cdv A outer s H E hr =>
  (qb_cons (qs_for (passes_of rfl) rfl (qe_sortK (hu_ng hr) mkD_n (ok_name_of T) (hr.mono (by decide)) (by rfl) T.d23.mgd T.d23.bd (by rfl) T.b_sorted (qa_cons (qe_var 0) qa_nil)) (qg_tup rfl (qgs_cons (qg_name (i := 2) sc.nd rfl (by first | exact .inl rfl | exact .inr rfl)) (qgs_cons (qg_name (i := 3) sc.nd rfl (by first | exact .inl rfl | exact .inr rfl)) qgs_nil))) (qb_cons (qs_set (i := 4) sc.nd rfl (by first | exact .inl rfl | exact .inr rfl) (qe_callN (ok_back T) (hr.mono (by decide)) (by rfl) T.d12.mgd T.d12.fn.kp T.d12.bd (fun σ => passAt (takes_of rfl rfl rfl rfl) σ) (qa_cons (qe_var 3) qa_nil))) (qb_one (qs_for (passes_of rfl) rfl (qe_sortK (hu_ng hr) mkD_n (ok_name_of T) (hr.mono (by decide)) (by rfl) T.d23.mgd T.d23.bd (by rfl) T.b_sorted (qa_cons (qe_var 1) qa_nil)) (qg_tup rfl (qgs_cons (qg_name (i := 5) sc.nd rfl (by first | exact .inl rfl | exact .inr rfl)) (qgs_cons (qg_name (i := 6) sc.nd rfl (by first | exact .inl rfl | exact .inr rfl)) qgs_nil))) (qb_cons (qs_set (i := 7) sc.nd rfl (by first | exact .inl rfl | exact .inr rfl) (qe_callN (ok_unlike_two T) (hr.mono (by decide)) (by rfl) T.d24.mgd T.d24.fn.kp T.d24.bd (fun σ => passAt (takes_of rfl rfl rfl rfl) σ) (qa_cons (qe_var 2) (qa_cons (qe_var 5) (qa_cons (qe_callN (ok_behind T) (hr.mono (by decide)) (by rfl) T.d10.mgd T.d10.fn.kp T.d10.bd (fun σ => passAt (takes_of rfl rfl rfl rfl) σ) (qa_cons (qe_var 6) (qa_cons (qe_var 4) qa_nil))) qa_nil))))) (qb_one (qs_if (qt_cmp ow_isnot (qe_var 7) qe_non (nomark _)) (qb_one (qs_ret (qe_tup (qa_cons (qe_fld T.f_name (qe_var 2)) (qa_cons (qe_fld T.f_name (qe_var 5)) (qa_cons (qe_var 7) qa_nil)))))) qb_nil))))))) (qb_one (qs_ret qe_non)))
theorem ok_unlike (T : Tx K mg cl fa fd ca) : FnOk P w K mg base (L2.CX P w) 4 (fa 25) (fd 25) ["laid", "others"] (SpP K cl p_unlike) := fnP (okS_unlike T)
theorem okS_chart (T : Tx K mg cl fa fd ca) : FnOk P w K mg base (L2.CX P w) 5 (fa 26) (fd 26) ["laid"] (SpS K cl q_chart) := by
  have sc := sc_chart
  exact fnS T.d26.fn sc_chart fun cdv A outer s H E hr =>
  (qb_cons (qs_set (i := 1) sc.nd rfl (by first | exact .inl rfl | exact .inr rfl) qe_newDT) (qb_cons (qs_for (passes_of rfl) rfl (qe_var 0) (qg_tup rfl (qgs_cons (qg_name (i := 3) sc.nd rfl (by first | exact .inl rfl | exact .inr rfl)) (qgs_cons (qg_name (i := 4) sc.nd rfl (by first | exact .inl rfl | exact .inr rfl)) qgs_nil))) (qb_one (qs_for (passes_of rfl) rfl (qe_methP0 T.c_Plate T.d14104.mt (ok_Plate_places T) (hr.mono (by decide)) T.d14104.bd (fun σ => passAt (takes_of rfl rfl rfl rfl) σ) (qe_var 3) ) (qg_name (i := 5) sc.nd rfl (by first | exact .inl rfl | exact .inr rfl)) (qb_cons (qs_set (i := 7) sc.nd rfl (by first | exact .inl rfl | exact .inr rfl) (qe_callN (ok_moved T) (hr.mono (by decide)) (by rfl) T.d8.mgd T.d8.fn.kp T.d8.bd (fun σ => passAt (takes_of rfl rfl rfl rfl) σ) (qa_cons (qe_var 4) (qa_cons (qe_var 5) qa_nil)))) (qb_one (qs_setIx (hu_ng hr) (qe_var 1) (qe_var 7) (qe_bin ow_addD (qe_get2 (hu_ng hr) (qe_var 1) (qe_var 7) (qe_lst qa_nil) ⟨by rfl, by rfl, by rfl, by rfl⟩) (qe_lst (qa_cons (qe_methP T.c_Plate T.d14103.mt (ok_Plate_says T) (hr.mono (by decide)) T.d14103.bd (fun σ => passAt (takes_of rfl rfl rfl rfl) σ) (qe_var 3) (qa_cons (qe_var 5) qa_nil)) qa_nil))))))))) (qb_frz 1 (qb_cons (qs_set (i := 2) sc.nd rfl (by first | exact .inl rfl | exact .inr rfl) (qe_lstC qa_nil)) (qb_cons (qs_forI (passes_of rfl) rfl (qe_var 1) (qg_tup rfl (qgs_cons (qg_name (i := 5) sc.nd rfl (by first | exact .inl rfl | exact .inr rfl)) (qgs_cons (qg_name (i := 6) sc.nd rfl (by first | exact .inl rfl | exact .inr rfl)) qgs_nil))) (qb_cons (qs_asg (qe_callN (ok_pool T) (hr.mono (by decide)) (by rfl) T.d21.mgd T.d21.fn.kp T.d21.bd (fun σ => passAt (takes_of rfl rfl rfl rfl) σ) (qa_cons (qe_var 6) qa_nil)) (qg_tup rfl (qgs_cons (qg_name (i := 8) sc.nd rfl (by first | exact .inl rfl | exact .inr rfl)) (qgs_cons (qg_name (i := 9) sc.nd rfl (by first | exact .inl rfl | exact .inr rfl)) qgs_nil)))) (qb_one (qs_expr (qe_bm PySem.F.plainAttrs_list PySem.F.slot_list_append PySem.F.type_list_append hm_append (qe_var 2) (qa_cons (qe_tup (qa_cons (qe_ix (xw_ix (hu_ng hr)) (qe_var 5) qe_int (fun _ _ => rfl)) (qa_cons (qe_ix (xw_ix (hu_ng hr)) (qe_var 5) qe_int (fun _ _ => rfl)) (qa_cons (qe_var 8) (qa_cons (qe_var 9) qa_nil))))) qa_nil)))))) (qb_frz 2 (qb_one (qs_ret (qe_callB (cn_sorted (hu_ng hr)).d (by rfl) T.b_sorted (by decide +kernel) (qa_cons (qe_var 2) qa_nil))))))))))
theorem ok_chart (T : Tx K mg cl fa fd ca) : FnOk P w K mg base (L2.CX P w) 5 (fa 26) (fd 26) ["laid"] (SpP K cl p_chart) := fnP (okS_chart T)
theorem okS_face (T : Tx K mg cl fa fd ca) : FnOk P w K mg base (L2.CX P w) 6 (fa 27) (fd 27) ["laid"] (SpS K cl q_face) := by
  have sc := sc_face
  exact fnS T.d27.fn sc_face fun cdv A outer s H E hr =>
  (qb_one (qs_ret (qe_lc mkD_ok (own := [("x", 1), ("y", 2), ("word", 3), ("number", 4)]) rfl sc.nd (qe_callN (ok_chart T) (hr.mono (by decide)) (by rfl) T.d26.mgd T.d26.fn.kp T.d26.bd (fun σ => passAt (takes_of rfl rfl rfl rfl) σ) (qa_cons (qe_var 0) qa_nil)) (blkOk_by (own := [("x", 1), ("y", 2), ("word", 3), ("number", 4)]) (N := ["laid", "x", "y", "word", "number"]) (sc := defScope s_face) (by decide +kernel)) (sgw_tup (sgws_cons (sgw_name (i := 1) (by decide)) (sgws_cons (sgw_name (i := 2) (by decide)) (sgws_cons (sgw_name (i := 3) (by decide)) (sgws_cons (sgw_name (i := 4) (by decide)) sgws_nil))))) (fun _ _ _ _ _ => (pg_tup rfl (pgs_cons (pg_name (i := 1) sc.nd rfl (by first | exact .inl rfl | exact .inr rfl)) (pgs_cons (pg_name (i := 2) sc.nd rfl (by first | exact .inl rfl | exact .inr rfl)) (pgs_cons (pg_name (i := 3) sc.nd rfl (by first | exact .inl rfl | exact .inr rfl)) (pgs_cons (pg_name (i := 4) sc.nd rfl (by first | exact .inl rfl | exact .inr rfl)) pgs_nil)))))) (fun _ _ _ _ _ => pts_one (pt_m (qt_cmp (ow_eq (hu_ng hr)) (qe_var 3) qe_str (nomark _)))) (fun _ _ _ _ _ => (qe_tup (qa_cons (qe_var 1) (qa_cons (qe_var 2) (qa_cons (qe_var 4) qa_nil))))))))
theorem ok_face (T : Tx K mg cl fa fd ca) : FnOk P w K mg base (L2.CX P w) 6 (fa 27) (fd 27) ["laid"] (SpP K cl p_face) := fnP (okS_face T)
theorem okS_led (T : Tx K mg cl fa fd ca) : FnOk P w K mg base (L2.CX P w) 3 (fa 29) (fd 29) ["laid", "motion"] (SpS K cl q_led) := by
  have sc := sc_led
  exact fnS T.d29.fn sc_led fun cdv A outer s H E hr =>
  (qb_one (qs_ret (qe_lc mkD_ok (own := [("plate", 2), ("own", 3)]) rfl sc.nd (qe_var 0) (blkOk_by (own := [("plate", 2), ("own", 3)]) (N := ["laid", "motion", "plate", "own"]) (sc := defScope s_led) (by decide +kernel)) (sgw_tup (sgws_cons (sgw_name (i := 2) (by decide)) (sgws_cons (sgw_name (i := 3) (by decide)) sgws_nil))) (fun _ _ _ _ _ => (pg_tup rfl (pgs_cons (pg_name (i := 2) sc.nd rfl (by first | exact .inl rfl | exact .inr rfl)) (pgs_cons (pg_name (i := 3) sc.nd rfl (by first | exact .inl rfl | exact .inr rfl)) pgs_nil)))) (fun _ _ _ _ _ => pts_yes) (fun _ _ _ _ _ => (qe_tup (qa_cons (qe_var 2) (qa_cons (qe_callN (ok_behind T) (hr.mono (by decide)) (by rfl) T.d10.mgd T.d10.fn.kp T.d10.bd (fun σ => passW0) (qa_cons (qe_var 3) (qa_cons (qe_var 1) qa_nil))) qa_nil)))))))
theorem ok_led (T : Tx K mg cl fa fd ca) : FnOk P w K mg base (L2.CX P w) 3 (fa 29) (fd 29) ["laid", "motion"] (SpP K cl p_led) := fnP (okS_led T)
theorem okS_stars_met (T : Tx K mg cl fa fd ca) : FnOk P w K mg base (L2.CX P w) 3 (fa 30) (fd 30) ["ones", "others", "motion"] (SpS K cl q_stars_met) := by
  have sc := sc_stars_met
  exact fnS T.d30.fn sc_stars_met fun cdv A outer s H E hr =>
  (qb_cons (qs_set (i := 3) sc.nd rfl (by first | exact .inl rfl | exact .inr rfl) qe_newDT) (qb_cons (qs_for (passes_of rfl) rfl (qe_var 0) (qg_tup rfl (qgs_cons (qg_name (i := 5) sc.nd rfl (by first | exact .inl rfl | exact .inr rfl)) (qgs_cons (qg_name (i := 6) sc.nd rfl (by first | exact .inl rfl | exact .inr rfl)) (qgs_cons (qg_name (i := 7) sc.nd rfl (by first | exact .inl rfl | exact .inr rfl)) qgs_nil)))) (qb_one (qs_setIx (hu_ng hr) (qe_var 3) (qe_tup (qa_cons (qe_var 5) (qa_cons (qe_var 6) qa_nil))) (qe_var 7)))) (qb_frz 3 (qb_cons (qs_set (i := 4) sc.nd rfl (by first | exact .inl rfl | exact .inr rfl) qe_int) (qb_cons (qs_for (passes_of rfl) rfl (qe_var 1) (qg_tup rfl (qgs_cons (qg_name (i := 5) sc.nd rfl (by first | exact .inl rfl | exact .inr rfl)) (qgs_cons (qg_name (i := 6) sc.nd rfl (by first | exact .inl rfl | exact .inr rfl)) (qgs_cons (qg_name (i := 7) sc.nd rfl (by first | exact .inl rfl | exact .inr rfl)) qgs_nil)))) (qb_one (qs_if (qt_cmp (ow_eq (hu_ng hr)) (qe_get2 (hu_ng hr) (qe_var 3) (qe_callN (ok_moved T) (hr.mono (by decide)) (by rfl) T.d8.mgd T.d8.fn.kp T.d8.bd (fun σ => passAt (takes_of rfl rfl rfl rfl) σ) (qa_cons (qe_var 2) (qa_cons (qe_tup (qa_cons (qe_var 5) (qa_cons (qe_var 6) qa_nil))) qa_nil))) qe_int ⟨by rfl, by rfl, by rfl, by rfl⟩) (qe_var 7) (nomark _)) (qb_one (qs_inc (i := 4) sc.nd rfl (by first | exact .inl rfl | exact .inr rfl) qe_int)) qb_nil))) (qb_one (qs_ret (qe_var 4))))))))
theorem ok_stars_met (T : Tx K mg cl fa fd ca) : FnOk P w K mg base (L2.CX P w) 3 (fa 30) (fd 30) ["ones", "others", "motion"] (SpP K cl p_stars_met) := fnP (okS_stars_met T)
theorem okS_tried (T : Tx K mg cl fa fd ca) : FnOk P w K mg base (L2.CX P w) 3 (fa 31) (fd 31) ["ones", "others"] (SpS K cl q_tried) := by
  have sc := sc_tried
  exact fnS T.d31.fn sc_tried fun cdv A outer s H E hr =>
  (qb_cons (qs_set (i := 2) sc.nd rfl (by first | exact .inl rfl | exact .inr rfl) qe_newDT) (qb_cons (qs_for (passes_of rfl) rfl (qe_var 0) (qg_tup rfl (qgs_cons (qg_name (i := 3) sc.nd rfl (by first | exact .inl rfl | exact .inr rfl)) (qgs_cons (qg_name (i := 4) sc.nd rfl (by first | exact .inl rfl | exact .inr rfl)) (qgs_cons (qg_name (i := 5) sc.nd rfl (by first | exact .inl rfl | exact .inr rfl)) qgs_nil)))) (qb_one (qs_for (passes_of rfl) rfl (qe_var 1) (qg_tup rfl (qgs_cons (qg_name (i := 6) sc.nd rfl (by first | exact .inl rfl | exact .inr rfl)) (qgs_cons (qg_name (i := 7) sc.nd rfl (by first | exact .inl rfl | exact .inr rfl)) (qgs_cons (qg_name (i := 8) sc.nd rfl (by first | exact .inl rfl | exact .inr rfl)) qgs_nil)))) (qb_one (qs_if (qt_cmp (ow_eq (hu_ng hr)) (qe_var 8) (qe_var 5) (nomark _)) (qb_one (qs_range1 (passes_of rfl) rfl (by rfl) T.b_range (qa_cons qe_int qa_nil) (qg_name (i := 9) sc.nd rfl (by first | exact .inl rfl | exact .inr rfl)) (qb_one (qs_setIx (hu_ng hr) (qe_var 2) (qe_callN (ok_leading T) (hr.mono (by decide)) (by rfl) T.d13.mgd T.d13.fn.kp T.d13.bd (fun σ => passAt (takes_of rfl rfl rfl rfl) σ) (qa_cons (qe_var 9) (qa_cons (qe_tup (qa_cons (qe_var 6) (qa_cons (qe_var 7) qa_nil))) (qa_cons (qe_tup (qa_cons (qe_var 3) (qa_cons (qe_var 4) qa_nil))) qa_nil)))) qe_bl)))) qb_nil))))) (qb_frz 2 (qb_one (qs_ret (qe_sortDT (hu_ng hr) rfl mkD_n (by rfl) T.b_sorted (qa_cons (qe_var 2) qa_nil)))))))
theorem ok_tried (T : Tx K mg cl fa fd ca) : FnOk P w K mg base (L2.CX P w) 3 (fa 31) (fd 31) ["ones", "others"] (SpP K cl p_tried) := fnP (okS_tried T)
theorem okS_layings (T : Tx K mg cl fa fd ca) : FnOk P w K mg base (L2.CX P w) 7 (fa 32) (fd 32) ["ones", "others", "least"] (SpS K cl q_layings) := by
  have sc := sc_layings
  exact fnS T.d32.fn sc_layings fun cdv A outer s H E hr =>
  (qb_cons (qs_if (qt_cmp ow_lt (qe_var 2) qe_int (nomark _)) (qb_one (qs_raise rfl (takes_of rfl rfl rfl rfl) T.c_BadCount (by rfl))) qb_nil) (qb_cons (qs_set (i := 3) sc.nd rfl (by first | exact .inl rfl | exact .inr rfl) (qe_callN (ok_face T) (hr.mono (by decide)) (by rfl) T.d27.mgd T.d27.fn.kp T.d27.bd (fun σ => passAt (takes_of rfl rfl rfl rfl) σ) (qa_cons (qe_var 0) qa_nil))) (qb_cons (qs_set (i := 4) sc.nd rfl (by first | exact .inl rfl | exact .inr rfl) (qe_callN (ok_face T) (hr.mono (by decide)) (by rfl) T.d27.mgd T.d27.fn.kp T.d27.bd (fun σ => passAt (takes_of rfl rfl rfl rfl) σ) (qa_cons (qe_var 1) qa_nil))) (qb_cons (qs_set (i := 5) sc.nd rfl (by first | exact .inl rfl | exact .inr rfl) (qe_lstC qa_nil)) (qb_cons (qs_for (passes_of rfl) rfl (qe_callN (ok_tried T) (hr.mono (by decide)) (by rfl) T.d31.mgd T.d31.fn.kp T.d31.bd (fun σ => passAt (takes_of rfl rfl rfl rfl) σ) (qa_cons (qe_var 3) (qa_cons (qe_var 4) qa_nil))) (qg_name (i := 6) sc.nd rfl (by first | exact .inl rfl | exact .inr rfl)) (qb_one (qs_if (qt_cmp ow_ge (qe_callN (ok_stars_met T) (hr.mono (by decide)) (by rfl) T.d30.mgd T.d30.fn.kp T.d30.bd (fun σ => passAt (takes_of rfl rfl rfl rfl) σ) (qa_cons (qe_var 3) (qa_cons (qe_var 4) (qa_cons (qe_var 6) qa_nil)))) (qe_var 2) (nomark _)) (qb_one (qs_if (qt_cmp ow_is (qe_callN (ok_unlike T) (hr.mono (by decide)) (by rfl) T.d25.mgd T.d25.fn.kp T.d25.bd (fun σ => passAt (takes_of rfl rfl rfl rfl) σ) (qa_cons (qe_var 0) (qa_cons (qe_callN (ok_led T) (hr.mono (by decide)) (by rfl) T.d29.mgd T.d29.fn.kp T.d29.bd (fun σ => passAt (takes_of rfl rfl rfl rfl) σ) (qa_cons (qe_var 1) (qa_cons (qe_var 6) qa_nil))) qa_nil))) qe_non (nomark _)) (qb_one (qs_expr (qe_bm PySem.F.plainAttrs_list PySem.F.slot_list_append PySem.F.type_list_append hm_append (qe_var 5) (qa_cons (qe_var 6) qa_nil)))) qb_nil)) qb_nil))) (qb_one (qs_ret (qe_fz (qe_var 5)))))))))
theorem ok_layings (T : Tx K mg cl fa fd ca) : FnOk P w K mg base (L2.CX P w) 7 (fa 32) (fd 32) ["ones", "others", "least"] (SpP K cl p_layings) := fnP (okS_layings T)
theorem okS_is_name (T : Tx K mg cl fa fd ca) : FnOk P w K mg base (L2.CX P w) 1 (fa 39) (fd 39) ["name"] (SpS K cl q_is_name) := by
  have sc := sc_is_name
  exact fnS T.d39.fn sc_is_name fun cdv A outer s H E hr =>
  (qb_cons (qs_if (QW.qt (qw_or (qt_cmp ow_lt (qe_callB cw_len (by rfl) T.b_len (by decide +kernel) (qa_cons (qe_var 0) qa_nil)) qe_int (nomark _)) (qw_or1 (qt_cmp ow_gt (qe_callB cw_len (by rfl) T.b_len (by decide +kernel) (qa_cons (qe_var 0) qa_nil)) (qe_globAt T.g_NAME_MOST) (nomark _))))) (qb_one (qs_ret qe_bl)) qb_nil) (qb_cons (qs_for (passes_of rfl) rfl (qe_var 0) (qg_name (i := 1) sc.nd rfl (by first | exact .inl rfl | exact .inr rfl)) (qb_one (qs_if (qt_cmp (ow_notin (hu_ng hr)) (qe_var 1) (qe_globAt T.g_LETTERS) (by rfl)) (qb_one (qs_ret qe_bl)) qb_nil))) (qb_one (qs_ret qe_bl))))
theorem ok_is_name (T : Tx K mg cl fa fd ca) : FnOk P w K mg base (L2.CX P w) 1 (fa 39) (fd 39) ["name"] (SpP K cl p_is_name) := fnP (okS_is_name T)
theorem okS_is_glass (T : Tx K mg cl fa fd ca) : FnOk P w K mg base (L2.CX P w) 1 (fa 40) (fd 40) ["width", "height", "limit", "stars"] (SpS K cl q_is_glass) := by
  have sc := sc_is_glass
  exact fnS T.d40.fn sc_is_glass fun cdv A outer s H E hr =>
  (qb_cons (qs_if (qt_not (QW.qt (qw_and (qt_chain ow_le ow_le qe_int (qe_var 0) (qe_globAt T.g_SIDE_MOST)) (qw_and1 (qt_chain ow_le ow_le qe_int (qe_var 1) (qe_globAt T.g_SIDE_MOST)))))) (qb_one (qs_ret qe_bl)) qb_nil) (qb_cons (qs_if (QW.qt (qw_or (qt_not (qt_chain ow_le ow_le qe_int (qe_var 2) (qe_globAt T.g_BRIGHT_MOST))) (qw_or1 (qt_cmp ow_gt (qe_callB cw_len (by rfl) T.b_len (by decide +kernel) (qa_cons (qe_var 3) qa_nil)) (qe_globAt T.g_STARS_MOST) (nomark _))))) (qb_one (qs_ret qe_bl)) qb_nil) (qb_cons (qs_set (i := 4) sc.nd rfl (by first | exact .inl rfl | exact .inr rfl) qe_newDT) (qb_cons (qs_for (passes_of rfl) rfl (qe_var 3) (qg_tup rfl (qgs_cons (qg_name (i := 5) sc.nd rfl (by first | exact .inl rfl | exact .inr rfl)) (qgs_cons (qg_name (i := 6) sc.nd rfl (by first | exact .inl rfl | exact .inr rfl)) (qgs_cons (qg_name (i := 7) sc.nd rfl (by first | exact .inl rfl | exact .inr rfl)) qgs_nil)))) (qb_cons (qs_if (qt_not (QW.qt (qw_and (qt_chain ow_le ow_lt qe_int (qe_var 5) (qe_var 0)) (qw_and1 (qt_chain ow_le ow_lt qe_int (qe_var 6) (qe_var 1)))))) (qb_one (qs_ret qe_bl)) qb_nil) (qb_cons (qs_if (qt_not (qt_chain ow_le ow_le (qe_var 2) (qe_var 7) (qe_globAt T.g_BRIGHT_MOST))) (qb_one (qs_ret qe_bl)) qb_nil) (qb_cons (qs_if (qt_cmp (ow_in (hu_ng hr)) (qe_tup (qa_cons (qe_var 5) (qa_cons (qe_var 6) qa_nil))) (qe_var 4) (by rfl)) (qb_one (qs_ret qe_bl)) qb_nil) (qb_one (qs_setIx (hu_ng hr) (qe_var 4) (qe_tup (qa_cons (qe_var 5) (qa_cons (qe_var 6) qa_nil))) qe_bl)))))) (qb_frz 4 (qb_one (qs_ret qe_bl)))))))
theorem ok_is_glass (T : Tx K mg cl fa fd ca) : FnOk P w K mg base (L2.CX P w) 1 (fa 40) (fd 40) ["width", "height", "limit", "stars"] (SpP K cl p_is_glass) := fnP (okS_is_glass T)
theorem okS_Plate___init__ (T : Tx K mg cl fa fd ca) : FnOk P w K mg base (L2.CX P w) 2 (fa 14100) (fd 14100) ["self", "name", "width", "height", "limit", "stars"] (SpS K cl q_Plate___init__) := by
  have sc := sc_Plate___init__
  exact fnS T.d14100.fn sc_Plate___init__ fun cdv A outer s H E hr =>
  (qb_cons (qs_if (qt_not (qt_truth (qe_callN (ok_is_name T) (hr.mono (by decide)) (by rfl) T.d39.mgd T.d39.fn.kp T.d39.bd (fun σ => passAt (takes_of rfl rfl rfl rfl) σ) (qa_cons (qe_var 1) qa_nil)))) (qb_one (qs_raise rfl (takes_of rfl rfl rfl rfl) T.c_BadName (by rfl))) qb_nil) (qb_cons (qs_if (qt_not (qt_truth (qe_callN (ok_is_glass T) (hr.mono (by decide)) (by rfl) T.d40.mgd T.d40.fn.kp T.d40.bd (fun σ => passAt (takes_of rfl rfl rfl rfl) σ) (qa_cons (qe_var 2) (qa_cons (qe_var 3) (qa_cons (qe_var 4) (qa_cons (qe_var 5) qa_nil))))))) (qb_one (qs_raise rfl (takes_of rfl rfl rfl rfl) T.c_BadPlate (by rfl))) qb_nil) (qb_cons (qs_fld T.f_name (qe_var 0) (qe_var 1)) (qb_cons (qs_fld T.f_width (qe_var 0) (qe_var 2)) (qb_cons (qs_fld T.f_height (qe_var 0) (qe_var 3)) (qb_cons (qs_fld T.f_limit (qe_var 0) (qe_var 4)) (qb_cons (qs_fld T.f_lights (qe_var 0) qe_newDT) (qb_one (qs_for (passes_of rfl) rfl (qe_callB (cn_sorted (hu_ng hr)).d (by rfl) T.b_sorted (by decide +kernel) (qa_cons (qe_var 5) qa_nil)) (qg_tup rfl (qgs_cons (qg_name (i := 6) sc.nd rfl (by first | exact .inl rfl | exact .inr rfl)) (qgs_cons (qg_name (i := 7) sc.nd rfl (by first | exact .inl rfl | exact .inr rfl)) (qgs_cons (qg_name (i := 8) sc.nd rfl (by first | exact .inl rfl | exact .inr rfl)) qgs_nil)))) (qb_one (qs_setIx (hu_ng hr) (qe_fld T.f_lights (qe_var 0)) (qe_tup (qa_cons (qe_var 6) (qa_cons (qe_var 7) qa_nil))) (qe_var 8))))))))))))
theorem okS_Plate_stars (T : Tx K mg cl fa fd ca) : FnOk P w K mg base (L2.CX P w) 1 (fa 14101) (fd 14101) ["self"] (SpS K cl q_Plate_stars) := by
  have sc := sc_Plate_stars
  exact fnS T.d14101.fn sc_Plate_stars fun cdv A outer s H E hr =>
  (qb_one (qs_ret (qe_lcI mkD_ok (own := [("place", 1), ("bright", 2)]) rfl sc.nd (qe_fld T.f_lights (qe_var 0)) (blkOk_by (own := [("place", 1), ("bright", 2)]) (N := ["self", "place", "bright"]) (sc := defScope s_Plate_stars) (by decide +kernel)) (sgw_tup (sgws_cons (sgw_name (i := 1) (by decide)) (sgws_cons (sgw_name (i := 2) (by decide)) sgws_nil))) (fun _ _ _ _ _ => (pg_tup rfl (pgs_cons (pg_name (i := 1) sc.nd rfl (by first | exact .inl rfl | exact .inr rfl)) (pgs_cons (pg_name (i := 2) sc.nd rfl (by first | exact .inl rfl | exact .inr rfl)) pgs_nil)))) (fun _ _ _ _ _ => pts_yes) (fun _ _ _ _ _ => (qe_tup (qa_cons (qe_ix (xw_ix (hu_ng hr)) (qe_var 1) qe_int (fun _ _ => rfl)) (qa_cons (qe_ix (xw_ix (hu_ng hr)) (qe_var 1) qe_int (fun _ _ => rfl)) (qa_cons (qe_var 2) qa_nil))))))))
theorem ok_Plate_stars (T : Tx K mg cl fa fd ca) : FnOk P w K mg base (L2.CX P w) 1 (fa 14101) (fd 14101) ["self"] (SpP K cl p_Plate_stars) := fnP (okS_Plate_stars T)
theorem okS_l_draws (T : Tx K mg cl fa fd ca) : FnOk P w K mg base (L2.CX P w) 1 (fa 43) (fd 43) ["_law_script", "_law_at", "_law_many"] (SpS K cl q_l_draws) := by
  have sc := sc_l_draws
  exact fnS T.d43.fn sc_l_draws fun cdv A outer s H E hr =>
  (qb_cons (qs_set (i := 3) sc.nd rfl (by first | exact .inl rfl | exact .inr rfl) (qe_bin ow_addD (qe_bin ow_mul qe_int (qe_var 1)) qe_int)) (qb_cons (qs_if (qt_cmp ow_lt (qe_var 1) (qe_callB cw_len (by rfl) T.b_len (by decide +kernel) (qa_cons (qe_var 0) qa_nil)) (nomark _)) (qb_one (qs_set (i := 3) sc.nd rfl (by first | exact .inl rfl | exact .inr rfl) (qe_ix (xw_ix (hu_ng hr)) (qe_var 0) (qe_var 1) (fun _ _ => rfl)))) (qb_one (qs_if (qt_cmp ow_gt (qe_callB cw_len (by rfl) T.b_len (by decide +kernel) (qa_cons (qe_var 0) qa_nil)) qe_int (nomark _)) (qb_one (qs_set (i := 3) sc.nd rfl (by first | exact .inl rfl | exact .inr rfl) (qe_bin ow_addD (qe_bin ow_addD (qe_bin ow_mod (qe_ix (xw_ix (hu_ng hr)) (qe_var 0) (qe_bin ow_mod (qe_var 1) (qe_callB cw_len (by rfl) T.b_len (by decide +kernel) (qa_cons (qe_var 0) qa_nil))) (fun _ _ => rfl)) qe_int) (qe_bin ow_mul (qe_bin ow_mul (qe_var 1) (qe_var 1)) qe_int)) qe_int))) qb_nil))) (qb_cons (qs_set (i := 4) sc.nd rfl (by first | exact .inl rfl | exact .inr rfl) (qe_bin ow_addD (qe_bin ow_addD (qe_bin ow_mod (qe_var 3) qe_int) (qe_bin ow_mul qe_int (qe_var 1))) qe_int)) (qb_cons (qs_set (i := 5) sc.nd rfl (by first | exact .inl rfl | exact .inr rfl) (qe_lstC qa_nil)) (qb_cons (qs_if (qt_cmp ow_ge (qe_var 3) (qe_bin ow_pow qe_int qe_int) (nomark _)) (qb_one (qs_while (passes_of rfl) (QW.qt (qw_and (qt_cmp ow_gt (qe_var 3) qe_int (nomark _)) (qw_and1 (qt_cmp ow_lt (qe_callB cw_len (by rfl) T.b_len (by decide +kernel) (qa_cons (qe_var 5) qa_nil)) (qe_var 2) (nomark _))))) (qb_cons (qs_expr (qe_bm PySem.F.plainAttrs_list PySem.F.slot_list_append PySem.F.type_list_append hm_append (qe_var 5) (qa_cons (qe_bin ow_mod (qe_var 3) qe_int) qa_nil))) (qb_one (qs_set (i := 3) sc.nd rfl (by first | exact .inl rfl | exact .inr rfl) (qe_bin ow_div (qe_var 3) qe_int)))))) qb_nil) (qb_cons (qs_while (passes_of rfl) (qt_cmp ow_lt (qe_callB cw_len (by rfl) T.b_len (by decide +kernel) (qa_cons (qe_var 5) qa_nil)) (qe_var 2) (nomark _)) (qb_cons (qs_set (i := 6) sc.nd rfl (by first | exact .inl rfl | exact .inr rfl) (qe_bin ow_addD (qe_callB cw_len (by rfl) T.b_len (by decide +kernel) (qa_cons (qe_var 5) qa_nil)) qe_int)) (qb_cons (qs_set (i := 4) sc.nd rfl (by first | exact .inl rfl | exact .inr rfl) (qe_bin ow_mod (qe_bin ow_addD (qe_bin ow_addD (qe_bin ow_mul (qe_var 4) qe_int) (qe_bin ow_mul (qe_bin ow_mul (qe_var 6) (qe_var 6)) qe_int)) qe_int) qe_int)) (qb_one (qs_expr (qe_bm PySem.F.plainAttrs_list PySem.F.slot_list_append PySem.F.type_list_append hm_append (qe_var 5) (qa_cons (qe_bin ow_mod (qe_bin ow_mod (qe_bin ow_mul (qe_bin ow_mod (qe_var 4) qe_int) (qe_bin ow_addD (qe_bin ow_mod (qe_bin ow_div (qe_var 4) qe_int) qe_int) qe_int)) qe_int) qe_int) qa_nil))))))) (qb_one (qs_ret (qe_fz (qe_var 5))))))))))
theorem ok_l_draws (T : Tx K mg cl fa fd ca) : FnOk P w K mg base (L2.CX P w) 1 (fa 43) (fd 43) ["_law_script", "_law_at", "_law_many"] (SpP K cl p_l_draws) := fnP (okS_l_draws T)
theorem okS_l_far (T : Tx K mg cl fa fd ca) : FnOk P w K mg base (L2.CX P w) 1 (fa 44) (fd 44) ["_law_one", "_law_two_here"] (SpS K cl q_l_far) := by
  have sc := sc_l_far
  exact fnS T.d44.fn sc_l_far fun cdv A outer s H E hr =>
  (qb_cons (qs_if (qt_cmp ow_lt (qe_bin ow_mod (qe_var 0) qe_int) qe_int (nomark _)) (qb_one (qs_ret (qe_bin ow_sub (qe_bin ow_mod (qe_bin ow_div (qe_var 0) qe_int) qe_int) qe_int))) qb_nil) (qb_cons (qs_if (qt_cmp (ow_eq (hu_ng hr)) (qe_bin ow_mod (qe_var 0) qe_int) qe_int (nomark _)) (qb_one (qs_ret (qe_bin ow_sub (qe_bin ow_addD (qe_bin ow_mul (qe_var 0) qe_int) (qe_var 1)) qe_int))) qb_nil) (qb_one (qs_ret (qe_bin ow_addD (qe_bin ow_mul (qe_bin ow_sub (qe_var 1) qe_int) (qe_bin ow_pow qe_int qe_int)) (qe_var 0))))))
theorem ok_l_far (T : Tx K mg cl fa fd ca) : FnOk P w K mg base (L2.CX P w) 1 (fa 44) (fd 44) ["_law_one", "_law_two_here"] (SpP K cl p_l_far) := fnP (okS_l_far T)
theorem okS_l_turned (T : Tx K mg cl fa fd ca) : FnOk P w K mg base (L2.CX P w) 1 (fa 45) (fd 45) ["_law_turn", "_law_x", "_law_y"] (SpS K cl q_l_turned) := by
  have sc := sc_l_turned
  exact fnS T.d45.fn sc_l_turned fun cdv A outer s H E hr =>
  (qb_one (qs_ret (qe_ix (xw_ix (hu_ng hr)) (qe_lst (qa_cons (qe_tup (qa_cons (qe_var 1) (qa_cons (qe_var 2) qa_nil))) (qa_cons (qe_tup (qa_cons (qe_un uw_neg (qe_var 2)) (qa_cons (qe_var 1) qa_nil))) (qa_cons (qe_tup (qa_cons (qe_un uw_neg (qe_var 1)) (qa_cons (qe_un uw_neg (qe_var 2)) qa_nil))) (qa_cons (qe_tup (qa_cons (qe_var 2) (qa_cons (qe_un uw_neg (qe_var 1)) qa_nil))) (qa_cons (qe_tup (qa_cons (qe_un uw_neg (qe_var 1)) (qa_cons (qe_var 2) qa_nil))) (qa_cons (qe_tup (qa_cons (qe_un uw_neg (qe_var 2)) (qa_cons (qe_un uw_neg (qe_var 1)) qa_nil))) (qa_cons (qe_tup (qa_cons (qe_var 1) (qa_cons (qe_un uw_neg (qe_var 2)) qa_nil))) (qa_cons (qe_tup (qa_cons (qe_var 2) (qa_cons (qe_var 1) qa_nil))) qa_nil))))))))) (qe_var 0) (fun _ _ => rfl))))
theorem ok_l_turned (T : Tx K mg cl fa fd ca) : FnOk P w K mg base (L2.CX P w) 1 (fa 45) (fd 45) ["_law_turn", "_law_x", "_law_y"] (SpP K cl p_l_turned) := fnP (okS_l_turned T)
theorem okS_l_moved (T : Tx K mg cl fa fd ca) : FnOk P w K mg base (L2.CX P w) 2 (fa 46) (fd 46) ["_law_motion_here", "_law_place"] (SpS K cl q_l_moved) := by
  have sc := sc_l_moved
  exact fnS T.d46.fn sc_l_moved fun cdv A outer s H E hr =>
  (qb_cons (qs_asg (qe_callN (ok_l_turned T) (hr.mono (by decide)) (by rfl) T.d45.mgd T.d45.fn.kp T.d45.bd (fun σ => passAt (takes_of rfl rfl rfl rfl) σ) (qa_cons (qe_ix (xw_ix (hu_ng hr)) (qe_var 0) qe_int (fun _ _ => rfl)) (qa_cons (qe_ix (xw_ix (hu_ng hr)) (qe_var 1) qe_int (fun _ _ => rfl)) (qa_cons (qe_ix (xw_ix (hu_ng hr)) (qe_var 1) qe_int (fun _ _ => rfl)) qa_nil)))) (qg_tup rfl (qgs_cons (qg_name (i := 2) sc.nd rfl (by first | exact .inl rfl | exact .inr rfl)) (qgs_cons (qg_name (i := 3) sc.nd rfl (by first | exact .inl rfl | exact .inr rfl)) qgs_nil)))) (qb_one (qs_ret (qe_tup (qa_cons (qe_bin ow_addD (qe_var 2) (qe_ix (xw_ix (hu_ng hr)) (qe_var 0) qe_int (fun _ _ => rfl))) (qa_cons (qe_bin ow_addD (qe_var 3) (qe_ix (xw_ix (hu_ng hr)) (qe_var 0) qe_int (fun _ _ => rfl))) qa_nil))))))
theorem ok_l_moved (T : Tx K mg cl fa fd ca) : FnOk P w K mg base (L2.CX P w) 2 (fa 46) (fd 46) ["_law_motion_here", "_law_place"] (SpP K cl p_l_moved) := fnP (okS_l_moved T)
theorem okS_l_behind (T : Tx K mg cl fa fd ca) : FnOk P w K mg base (L2.CX P w) 2 (fa 47) (fd 47) ["_law_first", "_law_second"] (SpS K cl q_l_behind) := by
  have sc := sc_l_behind
  exact fnS T.d47.fn sc_l_behind fun cdv A outer s H E hr =>
  (qb_cons (qs_set (i := 2) sc.nd rfl (by first | exact .inl rfl | exact .inr rfl) (qe_bin ow_mod (qe_ix (xw_ix (hu_ng hr)) (qe_var 0) qe_int (fun _ _ => rfl)) qe_int)) (qb_cons (qs_if (qt_cmp ow_gt (qe_ix (xw_ix (hu_ng hr)) (qe_var 1) qe_int (fun _ _ => rfl)) qe_int (nomark _)) (qb_one (qs_set (i := 2) sc.nd rfl (by first | exact .inl rfl | exact .inr rfl) (qe_un uw_neg (qe_var 2)))) qb_nil) (qb_cons (qs_set (i := 3) sc.nd rfl (by first | exact .inl rfl | exact .inr rfl) (qe_bin ow_addD (qe_bin ow_mod (qe_bin ow_addD (qe_var 2) (qe_ix (xw_ix (hu_ng hr)) (qe_var 1) qe_int (fun _ _ => rfl))) qe_int) (qe_bin ow_mul qe_int (qe_bin ow_mod (qe_bin ow_addD (qe_bin ow_div (qe_ix (xw_ix (hu_ng hr)) (qe_var 0) qe_int (fun _ _ => rfl)) qe_int) (qe_bin ow_div (qe_ix (xw_ix (hu_ng hr)) (qe_var 1) qe_int (fun _ _ => rfl)) qe_int)) qe_int)))) (qb_cons (qs_asg (qe_callN (ok_l_turned T) (hr.mono (by decide)) (by rfl) T.d45.mgd T.d45.fn.kp T.d45.bd (fun σ => passAt (takes_of rfl rfl rfl rfl) σ) (qa_cons (qe_ix (xw_ix (hu_ng hr)) (qe_var 1) qe_int (fun _ _ => rfl)) (qa_cons (qe_ix (xw_ix (hu_ng hr)) (qe_var 0) qe_int (fun _ _ => rfl)) (qa_cons (qe_ix (xw_ix (hu_ng hr)) (qe_var 0) qe_int (fun _ _ => rfl)) qa_nil)))) (qg_tup rfl (qgs_cons (qg_name (i := 4) sc.nd rfl (by first | exact .inl rfl | exact .inr rfl)) (qgs_cons (qg_name (i := 5) sc.nd rfl (by first | exact .inl rfl | exact .inr rfl)) qgs_nil)))) (qb_one (qs_ret (qe_tup (qa_cons (qe_var 3) (qa_cons (qe_bin ow_addD (qe_var 4) (qe_ix (xw_ix (hu_ng hr)) (qe_var 1) qe_int (fun _ _ => rfl))) (qa_cons (qe_bin ow_addD (qe_var 5) (qe_ix (xw_ix (hu_ng hr)) (qe_var 1) qe_int (fun _ _ => rfl))) qa_nil))))))))))
theorem ok_l_behind (T : Tx K mg cl fa fd ca) : FnOk P w K mg base (L2.CX P w) 2 (fa 47) (fd 47) ["_law_first", "_law_second"] (SpP K cl p_l_behind) := fnP (okS_l_behind T)
theorem okS_l_back (T : Tx K mg cl fa fd ca) : FnOk P w K mg base (L2.CX P w) 2 (fa 48) (fd 48) ["_law_motion_here"] (SpS K cl q_l_back) := by
  have sc := sc_l_back
  exact fnS T.d48.fn sc_l_back fun cdv A outer s H E hr =>
  (qb_cons (qs_set (i := 1) sc.nd rfl (by first | exact .inl rfl | exact .inr rfl) (qe_ix (xw_ix (hu_ng hr)) (qe_lst (qa_cons qe_int (qa_cons qe_int (qa_cons qe_int (qa_cons qe_int (qa_cons qe_int (qa_cons qe_int (qa_cons qe_int (qa_cons qe_int qa_nil))))))))) (qe_ix (xw_ix (hu_ng hr)) (qe_var 0) qe_int (fun _ _ => rfl)) (fun _ _ => rfl))) (qb_cons (qs_asg (qe_callN (ok_l_turned T) (hr.mono (by decide)) (by rfl) T.d45.mgd T.d45.fn.kp T.d45.bd (fun σ => passAt (takes_of rfl rfl rfl rfl) σ) (qa_cons (qe_var 1) (qa_cons (qe_ix (xw_ix (hu_ng hr)) (qe_var 0) qe_int (fun _ _ => rfl)) (qa_cons (qe_ix (xw_ix (hu_ng hr)) (qe_var 0) qe_int (fun _ _ => rfl)) qa_nil)))) (qg_tup rfl (qgs_cons (qg_name (i := 2) sc.nd rfl (by first | exact .inl rfl | exact .inr rfl)) (qgs_cons (qg_name (i := 3) sc.nd rfl (by first | exact .inl rfl | exact .inr rfl)) qgs_nil)))) (qb_one (qs_ret (qe_tup (qa_cons (qe_var 1) (qa_cons (qe_un uw_neg (qe_var 2)) (qa_cons (qe_un uw_neg (qe_var 3)) qa_nil))))))))
theorem ok_l_back (T : Tx K mg cl fa fd ca) : FnOk P w K mg base (L2.CX P w) 2 (fa 48) (fd 48) ["_law_motion_here"] (SpP K cl p_l_back) := fnP (okS_l_back T)
theorem okS_l_motion (T : Tx K mg cl fa fd ca) : FnOk P w K mg base (L2.CX P w) 2 (fa 49) (fd 49) ["_law_d", "_law_at"] (SpS K cl q_l_motion) := by
  have sc := sc_l_motion
  exact fnS T.d49.fn sc_l_motion fun cdv A outer s H E hr =>
  (qb_one (qs_ret (qe_tup (qa_cons (qe_bin ow_mod (qe_ix (xw_ix (hu_ng hr)) (qe_var 0) (qe_var 1) (fun _ _ => rfl)) qe_int) (qa_cons (qe_callN (ok_l_far T) (hr.mono (by decide)) (by rfl) T.d44.mgd T.d44.fn.kp T.d44.bd (fun σ => passAt (takes_of rfl rfl rfl rfl) σ) (qa_cons (qe_ix (xw_ix (hu_ng hr)) (qe_var 0) (qe_bin ow_addD (qe_var 1) qe_int) (fun _ _ => rfl)) (qa_cons (qe_ix (xw_ix (hu_ng hr)) (qe_var 0) (qe_bin ow_addD (qe_var 1) qe_int) (fun _ _ => rfl)) qa_nil))) (qa_cons (qe_callN (ok_l_far T) (hr.mono (by decide)) (by rfl) T.d44.mgd T.d44.fn.kp T.d44.bd (fun σ => passAt (takes_of rfl rfl rfl rfl) σ) (qa_cons (qe_ix (xw_ix (hu_ng hr)) (qe_var 0) (qe_bin ow_addD (qe_var 1) qe_int) (fun _ _ => rfl)) (qa_cons (qe_ix (xw_ix (hu_ng hr)) (qe_var 0) (qe_bin ow_addD (qe_var 1) qe_int) (fun _ _ => rfl)) qa_nil))) qa_nil))))))
theorem ok_l_motion (T : Tx K mg cl fa fd ca) : FnOk P w K mg base (L2.CX P w) 2 (fa 49) (fd 49) ["_law_d", "_law_at"] (SpP K cl p_l_motion) := fnP (okS_l_motion T)
theorem okr_l_same (T : Tx K mg cl fa fd ca) : ∀ n, FnOk P w K mg base (L2.CX P w) (n + 0) (fa 50) (fd 50) ["_law_found", "_law_due"] (SpP K cl (p_l_same n))
  | 0 => fn_stuck
  | n + 1 => by
    have G := okr_l_same T n
    have sc := sc_l_same
    show FnOk P w K mg base (L2.CX P w) (n + 0 + 1) (fa 50) (fd 50) ["_law_found", "_law_due"] (SpP K cl (runP 3 2 (m_l_same (p_l_same n))))
    exact fnP (fnS T.d50.fn sc_l_same fun cdv A outer s H E hr =>
    (qb_cons (qs_if (qt_truth (qe_isi2 (by rfl) T.b_isinstance (by rfl) T.b_tuple (by decide +kernel) (by rfl) T.b_list (by decide +kernel) (qe_var 1))) (qb_cons (qs_if (QW.qt (qw_or (qt_cmp (ow_ne (hu_ng hr)) (qe_isi (by rfl) T.b_isinstance (by rfl) T.b_tuple (by decide +kernel) (qe_var 1)) (qe_isi (by rfl) T.b_isinstance (by rfl) T.b_tuple (by decide +kernel) (qe_var 0)) (nomark _)) (qw_or1 (qt_cmp (ow_ne (hu_ng hr)) (qe_isi (by rfl) T.b_isinstance (by rfl) T.b_list (by decide +kernel) (qe_var 1)) (qe_isi (by rfl) T.b_isinstance (by rfl) T.b_list (by decide +kernel) (qe_var 0)) (nomark _))))) (qb_one (qs_ret qe_bl)) qb_nil) (qb_cons (qs_if (qt_cmp (ow_ne (hu_ng hr)) (qe_callB cw_len (by rfl) T.b_len (by decide +kernel) (qa_cons (qe_var 0) qa_nil)) (qe_callB cw_len (by rfl) T.b_len (by decide +kernel) (qa_cons (qe_var 1) qa_nil)) (nomark _)) (qb_one (qs_ret qe_bl)) qb_nil) (qb_cons (qs_range1 (passes_of rfl) rfl (by rfl) T.b_range (qa_cons (qe_callB cw_len (by rfl) T.b_len (by decide +kernel) (qa_cons (qe_var 1) qa_nil)) qa_nil) (qg_name (i := 2) sc.nd rfl (by first | exact .inl rfl | exact .inr rfl)) (qb_one (qs_if (qt_not (qt_truth (qe_callN G hr (by rfl) T.d50.mgd T.d50.fn.kp T.d50.bd (fun σ => passAt (takes_of rfl rfl rfl rfl) σ) (qa_cons (qe_ix (xw_ix (hu_ng hr)) (qe_var 0) (qe_var 2) (fun _ _ => rfl)) (qa_cons (qe_ix (xw_ix (hu_ng hr)) (qe_var 1) (qe_var 2) (fun _ _ => rfl)) qa_nil))))) (qb_one (qs_ret qe_bl)) qb_nil))) (qb_one (qs_ret qe_bl))))) qb_nil) (qb_cons (qs_if (qt_cmp ow_is (qe_var 1) qe_non (nomark _)) (qb_one (qs_ret (qe_cmp ow_is (qe_var 0) qe_non (nomark _)))) qb_nil) (qb_cons (qs_if (QW.qt (qw_or (qt_truth (qe_isi (by rfl) T.b_isinstance (by rfl) T.b_bool (by decide +kernel) (qe_var 1))) (qw_or1 (qt_truth (qe_isi (by rfl) T.b_isinstance (by rfl) T.b_bool (by decide +kernel) (qe_var 0)))))) (qb_one (qs_ret (qe_and (qe_isi (by rfl) T.b_isinstance (by rfl) T.b_bool (by decide +kernel) (qe_var 1)) (qe_and (qe_isi (by rfl) T.b_isinstance (by rfl) T.b_bool (by decide +kernel) (qe_var 0)) (qe_one (qe_cmp (ow_eq (hu_ng hr)) (qe_var 0) (qe_var 1) (nomark _))))))) qb_nil) (qb_cons (qs_if (qt_truth (qe_isi (by rfl) T.b_isinstance (by rfl) T.b_int (by decide +kernel) (qe_var 1))) (qb_one (qs_ret (qe_and (qe_isi (by rfl) T.b_isinstance (by rfl) T.b_int (by decide +kernel) (qe_var 0)) (qe_one (qe_cmp (ow_eq (hu_ng hr)) (qe_var 0) (qe_var 1) (nomark _)))))) qb_nil) (qb_one (qs_ret (qe_and (qe_isi (by rfl) T.b_isinstance (by rfl) T.b_str (by decide +kernel) (qe_var 0)) (qe_one (qe_cmp (ow_eq (hu_ng hr)) (qe_var 0) (qe_var 1) (nomark _)))))))))))
theorem ok_l_same (T : Tx K mg cl fa fd ca) : FnOk P w K mg base (L2.CX P w) 6 (fa 50) (fd 50) ["_law_found", "_law_due"] (SpP K cl (p_l_same 6)) := okr_l_same T 6
theorem okS_l_agreeing (T : Tx K mg cl fa fd ca) : FnOk P w K mg base (L2.CX P w) 1 (fa 51) (fd 51) ["_law_one", "_law_other"] (SpS K cl q_l_agreeing) := by
  have sc := sc_l_agreeing
  exact fnS T.d51.fn sc_l_agreeing fun cdv A outer s H E hr =>
  (qb_cons (qs_if (QW.qt (qw_and (qt_cmp (ow_eq (hu_ng hr)) (qe_ix (xw_ix (hu_ng hr)) (qe_var 0) qe_int (fun _ _ => rfl)) qe_str (nomark _)) (qw_and1 (qt_cmp (ow_eq (hu_ng hr)) (qe_ix (xw_ix (hu_ng hr)) (qe_var 1) qe_int (fun _ _ => rfl)) qe_str (nomark _))))) (qb_one (qs_ret (qe_cmp (ow_eq (hu_ng hr)) (qe_ix (xw_ix (hu_ng hr)) (qe_var 0) qe_int (fun _ _ => rfl)) (qe_ix (xw_ix (hu_ng hr)) (qe_var 1) qe_int (fun _ _ => rfl)) (nomark _)))) qb_nil) (qb_cons (qs_if (QW.qt (qw_and (qt_cmp (ow_eq (hu_ng hr)) (qe_ix (xw_ix (hu_ng hr)) (qe_var 0) qe_int (fun _ _ => rfl)) qe_str (nomark _)) (qw_and1 (qt_cmp (ow_eq (hu_ng hr)) (qe_ix (xw_ix (hu_ng hr)) (qe_var 1) qe_int (fun _ _ => rfl)) qe_str (nomark _))))) (qb_one (qs_ret (qe_cmp ow_lt (qe_ix (xw_ix (hu_ng hr)) (qe_var 0) qe_int (fun _ _ => rfl)) (qe_ix (xw_ix (hu_ng hr)) (qe_var 1) qe_int (fun _ _ => rfl)) (nomark _)))) qb_nil) (qb_cons (qs_if (QW.qt (qw_and (qt_cmp (ow_eq (hu_ng hr)) (qe_ix (xw_ix (hu_ng hr)) (qe_var 0) qe_int (fun _ _ => rfl)) qe_str (nomark _)) (qw_and1 (qt_cmp (ow_eq (hu_ng hr)) (qe_ix (xw_ix (hu_ng hr)) (qe_var 1) qe_int (fun _ _ => rfl)) qe_str (nomark _))))) (qb_one (qs_ret (qe_cmp ow_lt (qe_ix (xw_ix (hu_ng hr)) (qe_var 1) qe_int (fun _ _ => rfl)) (qe_ix (xw_ix (hu_ng hr)) (qe_var 0) qe_int (fun _ _ => rfl)) (nomark _)))) qb_nil) (qb_one (qs_ret qe_bl)))))
theorem ok_l_agreeing (T : Tx K mg cl fa fd ca) : FnOk P w K mg base (L2.CX P w) 1 (fa 51) (fd 51) ["_law_one", "_law_other"] (SpP K cl p_l_agreeing) := fnP (okS_l_agreeing T)
theorem okS_l_says (T : Tx K mg cl fa fd ca) : FnOk P w K mg base (L2.CX P w) 1 (fa 52) (fd 52) ["_law_pane_here", "_law_place"] (SpS K cl q_l_says) := by
  have sc := sc_l_says
  exact fnS T.d52.fn sc_l_says fun cdv A outer s H E hr =>
  (qb_cons (qs_if (qt_not (QW.qt (qw_and (qt_cmp ow_le qe_int (qe_ix (xw_ix (hu_ng hr)) (qe_var 1) qe_int (fun _ _ => rfl)) (nomark _)) (qw_and (qt_cmp ow_lt (qe_ix (xw_ix (hu_ng hr)) (qe_var 1) qe_int (fun _ _ => rfl)) (qe_ix (xw_ix (hu_ng hr)) (qe_var 0) qe_int (fun _ _ => rfl)) (nomark _)) (qw_and (qt_cmp ow_le qe_int (qe_ix (xw_ix (hu_ng hr)) (qe_var 1) qe_int (fun _ _ => rfl)) (nomark _)) (qw_and1 (qt_cmp ow_lt (qe_ix (xw_ix (hu_ng hr)) (qe_var 1) qe_int (fun _ _ => rfl)) (qe_ix (xw_ix (hu_ng hr)) (qe_var 0) qe_int (fun _ _ => rfl)) (nomark _)))))))) (qb_one (qs_ret (qe_tup (qa_cons qe_str (qa_cons qe_int qa_nil))))) qb_nil) (qb_cons (qs_for (passes_of rfl) rfl (qe_ix (xw_ix (hu_ng hr)) (qe_var 0) qe_int (fun _ _ => rfl)) (qg_tup rfl (qgs_cons (qg_name (i := 2) sc.nd rfl (by first | exact .inl rfl | exact .inr rfl)) (qgs_cons (qg_name (i := 3) sc.nd rfl (by first | exact .inl rfl | exact .inr rfl)) (qgs_cons (qg_name (i := 4) sc.nd rfl (by first | exact .inl rfl | exact .inr rfl)) qgs_nil)))) (qb_one (qs_if (QW.qt (qw_and (qt_cmp (ow_eq (hu_ng hr)) (qe_var 2) (qe_ix (xw_ix (hu_ng hr)) (qe_var 1) qe_int (fun _ _ => rfl)) (nomark _)) (qw_and1 (qt_cmp (ow_eq (hu_ng hr)) (qe_var 3) (qe_ix (xw_ix (hu_ng hr)) (qe_var 1) qe_int (fun _ _ => rfl)) (nomark _))))) (qb_one (qs_ret (qe_tup (qa_cons qe_str (qa_cons (qe_var 4) qa_nil))))) qb_nil))) (qb_one (qs_ret (qe_tup (qa_cons qe_str (qa_cons (qe_ix (xw_ix (hu_ng hr)) (qe_var 0) qe_int (fun _ _ => rfl)) qa_nil)))))))
theorem ok_l_says (T : Tx K mg cl fa fd ca) : FnOk P w K mg base (L2.CX P w) 1 (fa 52) (fd 52) ["_law_pane_here", "_law_place"] (SpP K cl p_l_says) := fnP (okS_l_says T)
theorem okS_l_heaven (T : Tx K mg cl fa fd ca) : FnOk P w K mg base (L2.CX P w) 2 (fa 53) (fd 53) ["_law_script"] (SpS K cl q_l_heaven) := by
  have sc := sc_l_heaven
  exact fnS T.d53.fn sc_l_heaven fun cdv A outer s H E hr =>
  (qb_cons (qs_set (i := 1) sc.nd rfl (by first | exact .inl rfl | exact .inr rfl) (qe_callN (ok_l_draws T) (hr.mono (by decide)) (by rfl) T.d43.mgd T.d43.fn.kp T.d43.bd (fun σ => passAt (takes_of rfl rfl rfl rfl) σ) (qa_cons (qe_var 0) (qa_cons qe_int (qa_cons qe_int qa_nil))))) (qb_cons (qs_set (i := 2) sc.nd rfl (by first | exact .inl rfl | exact .inr rfl) (qe_lstC qa_nil)) (qb_cons (qs_range1 (passes_of rfl) rfl (by rfl) T.b_range (qa_cons (qe_bin ow_mod (qe_ix (xw_ix (hu_ng hr)) (qe_var 1) qe_int (fun _ _ => rfl)) qe_int) qa_nil) (qg_name (i := 3) sc.nd rfl (by first | exact .inl rfl | exact .inr rfl)) (qb_cons (qs_set (i := 4) sc.nd rfl (by first | exact .inl rfl | exact .inr rfl) (qe_bin ow_sub (qe_bin ow_mod (qe_ix (xw_ix (hu_ng hr)) (qe_var 1) (qe_bin ow_addD (qe_bin ow_mul qe_int (qe_var 3)) qe_int) (fun _ _ => rfl)) qe_int) qe_int)) (qb_cons (qs_set (i := 5) sc.nd rfl (by first | exact .inl rfl | exact .inr rfl) (qe_bin ow_sub (qe_bin ow_mod (qe_ix (xw_ix (hu_ng hr)) (qe_var 1) (qe_bin ow_addD (qe_bin ow_mul qe_int (qe_var 3)) qe_int) (fun _ _ => rfl)) qe_int) qe_int)) (qb_cons (qs_set (i := 6) sc.nd rfl (by first | exact .inl rfl | exact .inr rfl) (qe_ix (xw_ix (hu_ng hr)) (qe_lst (qa_cons (qe_bin ow_addD qe_int (qe_bin ow_mod (qe_ix (xw_ix (hu_ng hr)) (qe_var 1) (qe_bin ow_addD (qe_bin ow_mul qe_int (qe_var 3)) qe_int) (fun _ _ => rfl)) qe_int)) (qa_cons (qe_bin ow_addD qe_int (qe_bin ow_mod (qe_ix (xw_ix (hu_ng hr)) (qe_var 1) (qe_bin ow_addD (qe_bin ow_mul qe_int (qe_var 3)) qe_int) (fun _ _ => rfl)) qe_int)) qa_nil))) (qe_callTy cw_int (by rfl) T.b_int (by decide +kernel) (qa_cons (qe_cmp (ow_eq (hu_ng hr)) (qe_bin ow_mod (qe_bin ow_div (qe_ix (xw_ix (hu_ng hr)) (qe_var 1) qe_int (fun _ _ => rfl)) qe_int) qe_int) qe_int (nomark _)) qa_nil)) (fun _ _ => rfl))) (qb_one (qs_if (qt_cmp (ow_notin (hu_ng hr)) (qe_tup (qa_cons (qe_var 4) (qa_cons (qe_var 5) qa_nil))) (qe_lc mkD_ok (own := [("_law_star", 7)]) rfl sc.nd (qe_var 2) (blkOk_by (own := [("_law_star", 7)]) (N := ["_law_script", "_law_d", "_law_found", "_law_k", "_law_x", "_law_y", "_law_bright", "_law_star"]) (sc := defScope s_l_heaven) (by decide +kernel)) (sgw_name (i := 7) (by decide)) (fun _ _ _ _ _ => (pg_name (i := 7) sc.nd rfl (by first | exact .inl rfl | exact .inr rfl))) (fun _ _ _ _ _ => pts_yes) (fun _ _ _ _ _ => (qe_tup (qa_cons (qe_ix (xw_ix (hu_ng hr)) (qe_var 7) qe_int (fun _ _ => rfl)) (qa_cons (qe_ix (xw_ix (hu_ng hr)) (qe_var 7) qe_int (fun _ _ => rfl)) qa_nil))))) (by rfl)) (qb_one (qs_expr (qe_bm PySem.F.plainAttrs_list PySem.F.slot_list_append PySem.F.type_list_append hm_append (qe_var 2) (qa_cons (qe_tup (qa_cons (qe_var 4) (qa_cons (qe_var 5) (qa_cons (qe_var 6) qa_nil)))) qa_nil)))) qb_nil)))))) (qb_one (qs_ret (qe_fz (qe_var 2)))))))
theorem ok_l_heaven (T : Tx K mg cl fa fd ca) : FnOk P w K mg base (L2.CX P w) 2 (fa 53) (fd 53) ["_law_script"] (SpP K cl p_l_heaven) := fnP (okS_l_heaven T)
theorem okS_l_names (T : Tx K mg cl fa fd ca) : FnOk P w K mg base (L2.CX P w) 1 (fa 54) (fd 54) ["_law_d"] (SpS K cl q_l_names) := by
  have sc := sc_l_names
  exact fnS T.d54.fn sc_l_names fun cdv A outer s H E hr =>
  (qb_cons (qs_set (i := 1) sc.nd rfl (by first | exact .inl rfl | exact .inr rfl) qe_str) (qb_cons (qs_set (i := 2) sc.nd rfl (by first | exact .inl rfl | exact .inr rfl) (qe_lstC qa_nil)) (qb_cons (qs_range1 (passes_of rfl) rfl (by rfl) T.b_range (qa_cons (qe_ix (xw_ix (hu_ng hr)) (qe_lst (qa_cons qe_int (qa_cons qe_int (qa_cons qe_int (qa_cons qe_int (qa_cons qe_int (qa_cons qe_int (qa_cons qe_int (qa_cons qe_int (qa_cons qe_int (qa_cons qe_int qa_nil))))))))))) (qe_bin ow_mod (qe_ix (xw_ix (hu_ng hr)) (qe_var 0) qe_int (fun _ _ => rfl)) qe_int) (fun _ _ => rfl)) qa_nil) (qg_name (i := 3) sc.nd rfl (by first | exact .inl rfl | exact .inr rfl)) (qb_cons (qs_set (i := 4) sc.nd rfl (by first | exact .inl rfl | exact .inr rfl) (qe_ix (xw_ix (hu_ng hr)) (qe_var 1) (qe_bin ow_mod (qe_bin ow_addD (qe_bin ow_mul (qe_var 3) (qe_ix (xw_ix (hu_ng hr)) (qe_lst (qa_cons qe_int (qa_cons qe_int (qa_cons qe_int (qa_cons qe_int (qa_cons qe_int (qa_cons qe_int qa_nil))))))) (qe_bin ow_mod (qe_ix (xw_ix (hu_ng hr)) (qe_var 0) qe_int (fun _ _ => rfl)) qe_int) (fun _ _ => rfl))) (qe_ix (xw_ix (hu_ng hr)) (qe_var 0) qe_int (fun _ _ => rfl))) qe_int) (fun _ _ => rfl))) (qb_cons (qs_set (i := 5) sc.nd rfl (by first | exact .inl rfl | exact .inr rfl) (qe_bin ow_mod (qe_bin ow_div (qe_ix (xw_ix (hu_ng hr)) (qe_var 0) qe_int (fun _ _ => rfl)) qe_int) qe_int)) (qb_cons (qs_if (qt_cmp (ow_eq (hu_ng hr)) (qe_bin ow_mod (qe_ix (xw_ix (hu_ng hr)) (qe_var 0) qe_int (fun _ _ => rfl)) qe_int) qe_int (nomark _)) (qb_one (qs_set (i := 5) sc.nd rfl (by first | exact .inl rfl | exact .inr rfl) (qe_bin ow_mod (qe_ix (xw_ix (hu_ng hr)) (qe_var 0) (qe_bin ow_addD qe_int (qe_var 3)) (fun _ _ => rfl)) qe_int))) qb_nil) (qb_cons (qs_set (i := 6) sc.nd rfl (by first | exact .inl rfl | exact .inr rfl) (qe_bm PySem.F.plainAttrs_str PySem.F.slot_str_join PySem.F.type_str_join hm_join qe_str (qa_cons (qe_lcR1 mkD_ok (own := [("_law_at", 7)]) rfl sc.nd (by rfl) T.b_range (qa_cons (qe_var 5) qa_nil) (blkOk_by (own := [("_law_at", 7)]) (N := ["_law_d", "_law_letters", "_law_names_here", "_law_k", "_law_own", "_law_size", "_law_rest", "_law_at"]) (sc := defScope s_l_names) (by decide +kernel)) (sgw_name (i := 7) (by decide)) (fun _ _ _ _ _ => (pg_name (i := 7) sc.nd rfl (by first | exact .inl rfl | exact .inr rfl))) (fun _ _ _ _ _ => pts_yes) (fun _ _ _ _ _ => (qe_ix (xw_ix (hu_ng hr)) (qe_var 1) (qe_bin ow_mod (qe_bin ow_addD (qe_ix (xw_ix (hu_ng hr)) (qe_var 0) qe_int (fun _ _ => rfl)) (qe_bin ow_mul (qe_var 7) (qe_ix (xw_ix (hu_ng hr)) (qe_var 0) qe_int (fun _ _ => rfl)))) qe_int) (fun _ _ => rfl)))) qa_nil))) (qb_one (qs_if (qt_cmp (ow_eq (hu_ng hr)) (qe_bin ow_mod (qe_bin ow_div (qe_ix (xw_ix (hu_ng hr)) (qe_var 0) qe_int (fun _ _ => rfl)) qe_int) qe_int) qe_int (nomark _)) (qb_one (qs_expr (qe_bm PySem.F.plainAttrs_list PySem.F.slot_list_append PySem.F.type_list_append hm_append (qe_var 2) (qa_cons (qe_bin ow_addD (qe_var 4) (qe_var 6)) qa_nil)))) (qb_one (qs_expr (qe_bm PySem.F.plainAttrs_list PySem.F.slot_list_append PySem.F.type_list_append hm_append (qe_var 2) (qa_cons (qe_bin ow_addD (qe_var 6) (qe_var 4)) qa_nil))))))))))) (qb_one (qs_ret (qe_fz (qe_var 2)))))))
theorem ok_l_names (T : Tx K mg cl fa fd ca) : FnOk P w K mg base (L2.CX P w) 1 (fa 54) (fd 54) ["_law_d"] (SpP K cl p_l_names) := fnP (okS_l_names T)
theorem okS_l_pane (T : Tx K mg cl fa fd ca) : FnOk P w K mg base (L2.CX P w) 3 (fa 55) (fd 55) ["_law_name", "_law_home_here", "_law_heaven_here", "_law_d"] (SpS K cl q_l_pane) := by
  have sc := sc_l_pane
  exact fnS T.d55.fn sc_l_pane fun cdv A outer s H E hr =>
  (qb_cons (qs_set (i := 4) sc.nd rfl (by first | exact .inl rfl | exact .inr rfl) (qe_ix (xw_ix (hu_ng hr)) (qe_lst (qa_cons (qe_bin ow_addD qe_int (qe_bin ow_mod (qe_ix (xw_ix (hu_ng hr)) (qe_var 3) qe_int (fun _ _ => rfl)) qe_int)) (qa_cons (qe_bin ow_addD qe_int (qe_bin ow_mod (qe_bin ow_div (qe_ix (xw_ix (hu_ng hr)) (qe_var 3) qe_int (fun _ _ => rfl)) qe_int) qe_int)) qa_nil))) (qe_callTy cw_int (by rfl) T.b_int (by decide +kernel) (qa_cons (qe_cmp (ow_eq (hu_ng hr)) (qe_bin ow_mod (qe_bin ow_div (qe_ix (xw_ix (hu_ng hr)) (qe_var 3) qe_int (fun _ _ => rfl)) qe_int) qe_int) qe_int (nomark _)) qa_nil)) (fun _ _ => rfl))) (qb_cons (qs_set (i := 5) sc.nd rfl (by first | exact .inl rfl | exact .inr rfl) (qe_ix (xw_ix (hu_ng hr)) (qe_lst (qa_cons (qe_bin ow_addD qe_int (qe_bin ow_mod (qe_ix (xw_ix (hu_ng hr)) (qe_var 3) qe_int (fun _ _ => rfl)) qe_int)) (qa_cons (qe_bin ow_addD qe_int (qe_bin ow_mod (qe_bin ow_div (qe_ix (xw_ix (hu_ng hr)) (qe_var 3) qe_int (fun _ _ => rfl)) qe_int) qe_int)) qa_nil))) (qe_callTy cw_int (by rfl) T.b_int (by decide +kernel) (qa_cons (qe_cmp (ow_eq (hu_ng hr)) (qe_bin ow_mod (qe_bin ow_div (qe_ix (xw_ix (hu_ng hr)) (qe_var 3) qe_int (fun _ _ => rfl)) qe_int) qe_int) qe_int (nomark _)) qa_nil)) (fun _ _ => rfl))) (qb_cons (qs_set (i := 6) sc.nd rfl (by first | exact .inl rfl | exact .inr rfl) (qe_ix (xw_ix (hu_ng hr)) (qe_lst (qa_cons (qe_bin ow_addD qe_int (qe_bin ow_mod (qe_ix (xw_ix (hu_ng hr)) (qe_var 3) qe_int (fun _ _ => rfl)) qe_int)) (qa_cons (qe_bin ow_addD qe_int (qe_bin ow_mod (qe_bin ow_div (qe_ix (xw_ix (hu_ng hr)) (qe_var 3) qe_int (fun _ _ => rfl)) qe_int) qe_int)) qa_nil))) (qe_callTy cw_int (by rfl) T.b_int (by decide +kernel) (qa_cons (qe_cmp (ow_eq (hu_ng hr)) (qe_bin ow_mod (qe_bin ow_div (qe_ix (xw_ix (hu_ng hr)) (qe_var 3) qe_int (fun _ _ => rfl)) qe_int) qe_int) qe_int (nomark _)) qa_nil)) (fun _ _ => rfl))) (qb_cons (qs_set (i := 7) sc.nd rfl (by first | exact .inl rfl | exact .inr rfl) (qe_lstC qa_nil)) (qb_cons (qs_for (passes_of rfl) rfl (qe_var 2) (qg_tup rfl (qgs_cons (qg_name (i := 8) sc.nd rfl (by first | exact .inl rfl | exact .inr rfl)) (qgs_cons (qg_name (i := 9) sc.nd rfl (by first | exact .inl rfl | exact .inr rfl)) (qgs_cons (qg_name (i := 10) sc.nd rfl (by first | exact .inl rfl | exact .inr rfl)) qgs_nil)))) (qb_cons (qs_asg (qe_callN (ok_l_moved T) (hr.mono (by decide)) (by rfl) T.d46.mgd T.d46.fn.kp T.d46.bd (fun σ => passAt (takes_of rfl rfl rfl rfl) σ) (qa_cons (qe_callN (ok_l_back T) (hr.mono (by decide)) (by rfl) T.d48.mgd T.d48.fn.kp T.d48.bd (fun σ => passAt (takes_of rfl rfl rfl rfl) σ) (qa_cons (qe_var 1) qa_nil)) (qa_cons (qe_tup (qa_cons (qe_var 8) (qa_cons (qe_var 9) qa_nil))) qa_nil))) (qg_tup rfl (qgs_cons (qg_name (i := 12) sc.nd rfl (by first | exact .inl rfl | exact .inr rfl)) (qgs_cons (qg_name (i := 13) sc.nd rfl (by first | exact .inl rfl | exact .inr rfl)) qgs_nil)))) (qb_one (qs_if (QW.qt (qw_and (qt_cmp ow_le qe_int (qe_var 12) (nomark _)) (qw_and (qt_cmp ow_lt (qe_var 12) (qe_var 4) (nomark _)) (qw_and (qt_cmp ow_le qe_int (qe_var 13) (nomark _)) (qw_and (qt_cmp ow_lt (qe_var 13) (qe_var 5) (nomark _)) (qw_and1 (qt_cmp ow_ge (qe_var 10) (qe_var 6) (nomark _)))))))) (qb_one (qs_expr (qe_bm PySem.F.plainAttrs_list PySem.F.slot_list_append PySem.F.type_list_append hm_append (qe_var 7) (qa_cons (qe_tup (qa_cons (qe_var 12) (qa_cons (qe_var 13) (qa_cons (qe_var 10) qa_nil)))) qa_nil)))) qb_nil)))) (qb_cons (qs_if (qt_cmp (ow_eq (hu_ng hr)) (qe_bin ow_mod (qe_ix (xw_ix (hu_ng hr)) (qe_var 3) qe_int (fun _ _ => rfl)) qe_int) qe_int (nomark _)) (qb_cons (qs_set (i := 11) sc.nd rfl (by first | exact .inl rfl | exact .inr rfl) (qe_tup (qa_cons (qe_bin ow_mod (qe_ix (xw_ix (hu_ng hr)) (qe_var 3) qe_int (fun _ _ => rfl)) (qe_var 4)) (qa_cons (qe_bin ow_mod (qe_ix (xw_ix (hu_ng hr)) (qe_var 3) qe_int (fun _ _ => rfl)) (qe_var 5)) (qa_cons (qe_bin ow_addD (qe_var 6) (qe_bin ow_mod (qe_bin ow_div (qe_ix (xw_ix (hu_ng hr)) (qe_var 3) qe_int (fun _ _ => rfl)) qe_int) (qe_bin ow_sub qe_int (qe_var 6)))) qa_nil))))) (qb_one (qs_set (i := 7) sc.nd rfl (by first | exact .inl rfl | exact .inr rfl) (qe_bin ow_addC (qe_lc mkD_ok (own := [("_law_star", 14)]) rfl sc.nd (qe_var 7) (blkOk_by (own := [("_law_star", 14)]) (N := ["_law_name", "_law_home_here", "_law_heaven_here", "_law_d", "_law_width", "_law_height", "_law_limit", "_law_stars_here", "_law_x", "_law_y", "_law_bright", "_law_odd", "_law_right", "_law_up", "_law_star"]) (sc := defScope s_l_pane) (by decide +kernel)) (sgw_name (i := 14) (by decide)) (fun _ _ _ _ _ => (pg_name (i := 14) sc.nd rfl (by first | exact .inl rfl | exact .inr rfl))) (fun _ _ _ _ _ => pts_one (pt_m (qt_cmp (ow_ne (hu_ng hr)) (qe_slD (qe_var 14) qo_none (qo_some qe_int)) (qe_slD (qe_var 11) qo_none (qo_some qe_int)) (nomark _)))) (fun _ _ _ _ _ => (qe_var 14))) (qe_lst (qa_cons (qe_var 11) qa_nil)))))) qb_nil) (qb_frz 7 (qb_one (qs_ret (qe_tup (qa_cons (qe_var 0) (qa_cons (qe_var 4) (qa_cons (qe_var 5) (qa_cons (qe_var 6) (qa_cons (qe_callTy hc_tupleD (by rfl) T.b_tuple (by decide +kernel) (qa_cons (qe_callB (cn_sorted (hu_ng hr)).d (by rfl) T.b_sorted (by decide +kernel) (qa_cons (qe_slD (qe_var 7) (qo_some (qe_un uw_neg qe_int)) qo_none) qa_nil)) qa_nil)) qa_nil)))))))))))))))
theorem ok_l_pane (T : Tx K mg cl fa fd ca) : FnOk P w K mg base (L2.CX P w) 3 (fa 55) (fd 55) ["_law_name", "_law_home_here", "_law_heaven_here", "_law_d"] (SpP K cl p_l_pane) := fnP (okS_l_pane T)
theorem okS_l_home (T : Tx K mg cl fa fd ca) : FnOk P w K mg base (L2.CX P w) 1 (fa 56) (fd 56) ["_law_d"] (SpS K cl q_l_home) := by
  have sc := sc_l_home
  exact fnS T.d56.fn sc_l_home fun cdv A outer s H E hr =>
  (qb_one (qs_ret (qe_tup (qa_cons (qe_bin ow_mod (qe_ix (xw_ix (hu_ng hr)) (qe_var 0) qe_int (fun _ _ => rfl)) qe_int) (qa_cons (qe_bin ow_sub (qe_bin ow_mod (qe_ix (xw_ix (hu_ng hr)) (qe_var 0) qe_int (fun _ _ => rfl)) qe_int) qe_int) (qa_cons (qe_bin ow_sub (qe_bin ow_mod (qe_ix (xw_ix (hu_ng hr)) (qe_var 0) qe_int (fun _ _ => rfl)) qe_int) qe_int) qa_nil))))))
theorem ok_l_home (T : Tx K mg cl fa fd ca) : FnOk P w K mg base (L2.CX P w) 1 (fa 56) (fd 56) ["_law_d"] (SpP K cl p_l_home) := fnP (okS_l_home T)
theorem okS_l_clash_of_two (T : Tx K mg cl fa fd ca) : FnOk P w K mg base (L2.CX P w) 3 (fa 57) (fd 57) ["_law_here", "_law_there", "_law_away"] (SpS K cl q_l_clash_of_two) := by
  have sc := sc_l_clash_of_two
  exact fnS T.d57.fn sc_l_clash_of_two fun cdv A outer s H E hr =>
  (qb_cons (qs_range1 (passes_of rfl) rfl (by rfl) T.b_range (qa_cons (qe_ix (xw_ix (hu_ng hr)) (qe_var 0) qe_int (fun _ _ => rfl)) qa_nil) (qg_name (i := 3) sc.nd rfl (by first | exact .inl rfl | exact .inr rfl)) (qb_one (qs_range1 (passes_of rfl) rfl (by rfl) T.b_range (qa_cons (qe_ix (xw_ix (hu_ng hr)) (qe_var 0) qe_int (fun _ _ => rfl)) qa_nil) (qg_name (i := 4) sc.nd rfl (by first | exact .inl rfl | exact .inr rfl)) (qb_one (qs_if (qt_not (qt_truth (qe_callN (ok_l_agreeing T) (hr.mono (by decide)) (by rfl) T.d51.mgd T.d51.fn.kp T.d51.bd (fun σ => passAt (takes_of rfl rfl rfl rfl) σ) (qa_cons (qe_callN (ok_l_says T) (hr.mono (by decide)) (by rfl) T.d52.mgd T.d52.fn.kp T.d52.bd (fun σ => passAt (takes_of rfl rfl rfl rfl) σ) (qa_cons (qe_var 0) (qa_cons (qe_tup (qa_cons (qe_var 3) (qa_cons (qe_var 4) qa_nil))) qa_nil))) (qa_cons (qe_callN (ok_l_says T) (hr.mono (by decide)) (by rfl) T.d52.mgd T.d52.fn.kp T.d52.bd (fun σ => passAt (takes_of rfl rfl rfl rfl) σ) (qa_cons (qe_var 1) (qa_cons (qe_callN (ok_l_moved T) (hr.mono (by decide)) (by rfl) T.d46.mgd T.d46.fn.kp T.d46.bd (fun σ => passAt (takes_of rfl rfl rfl rfl) σ) (qa_cons (qe_var 2) (qa_cons (qe_tup (qa_cons (qe_var 3) (qa_cons (qe_var 4) qa_nil))) qa_nil))) qa_nil))) qa_nil))))) (qb_one (qs_ret (qe_tup (qa_cons (qe_var 3) (qa_cons (qe_var 4) qa_nil))))) qb_nil))))) (qb_one (qs_ret qe_non)))
theorem ok_l_clash_of_two (T : Tx K mg cl fa fd ca) : FnOk P w K mg base (L2.CX P w) 3 (fa 57) (fd 57) ["_law_here", "_law_there", "_law_away"] (SpP K cl p_l_clash_of_two) := fnP (okS_l_clash_of_two T)
theorem okS_l_panes (T : Tx K mg cl fa fd ca) : FnOk P w K mg base (L2.CX P w) 4 (fa 58) (fd 58) ["_law_script", "_law_at", "_law_names_here", "_law_heaven_here", "_law_whole"] (SpS K cl q_l_panes) := by
  have sc := sc_l_panes
  exact fnS T.d58.fn sc_l_panes fun cdv A outer s H E hr =>
  (qb_cons (qs_set (i := 5) sc.nd rfl (by first | exact .inl rfl | exact .inr rfl) (qe_lstC qa_nil)) (qb_cons (qs_range1 (passes_of rfl) rfl (by rfl) T.b_range (qa_cons (qe_callB cw_len (by rfl) T.b_len (by decide +kernel) (qa_cons (qe_var 2) qa_nil)) qa_nil) (qg_name (i := 6) sc.nd rfl (by first | exact .inl rfl | exact .inr rfl)) (qb_cons (qs_set (i := 7) sc.nd rfl (by first | exact .inl rfl | exact .inr rfl) (qe_callN (ok_l_draws T) (hr.mono (by decide)) (by rfl) T.d43.mgd T.d43.fn.kp T.d43.bd (fun σ => passAt (takes_of rfl rfl rfl rfl) σ) (qa_cons (qe_var 0) (qa_cons (qe_bin ow_addD (qe_var 1) (qe_var 6)) (qa_cons qe_int qa_nil))))) (qb_cons (qs_set (i := 8) sc.nd rfl (by first | exact .inl rfl | exact .inr rfl) (qe_callN (ok_l_home T) (hr.mono (by decide)) (by rfl) T.d56.mgd T.d56.fn.kp T.d56.bd (fun σ => passAt (takes_of rfl rfl rfl rfl) σ) (qa_cons (qe_var 7) qa_nil))) (qb_cons (qs_if (qt_cmp (ow_eq (hu_ng hr)) (qe_bin ow_mod (qe_ix (xw_ix (hu_ng hr)) (qe_var 7) qe_int (fun _ _ => rfl)) qe_int) qe_int (nomark _)) (qb_one (qs_set (i := 8) sc.nd rfl (by first | exact .inl rfl | exact .inr rfl) (qe_tup (qa_cons (qe_ix (xw_ix (hu_ng hr)) (qe_var 8) qe_int (fun _ _ => rfl)) (qa_cons (qe_bin ow_addD (qe_ix (xw_ix (hu_ng hr)) (qe_var 8) qe_int (fun _ _ => rfl)) (qe_bin ow_mul qe_int (qe_bin ow_sub (qe_ix (xw_ix (hu_ng hr)) (qe_var 7) qe_int (fun _ _ => rfl)) qe_int))) (qa_cons (qe_bin ow_addD (qe_ix (xw_ix (hu_ng hr)) (qe_var 8) qe_int (fun _ _ => rfl)) (qe_bin ow_mul (qe_bin ow_pow qe_int qe_int) (qe_bin ow_mod (qe_ix (xw_ix (hu_ng hr)) (qe_var 7) qe_int (fun _ _ => rfl)) qe_int))) qa_nil)))))) qb_nil) (qb_one (qs_expr (qe_bm PySem.F.plainAttrs_list PySem.F.slot_list_append PySem.F.type_list_append hm_append (qe_var 5) (qa_cons (qe_tup (qa_cons (qe_callN (ok_l_pane T) (hr.mono (by decide)) (by rfl) T.d55.mgd T.d55.fn.kp T.d55.bd (fun σ => passAt (takes_of rfl rfl rfl rfl) σ) (qa_cons (qe_ix (xw_ix (hu_ng hr)) (qe_var 2) (qe_var 6) (fun _ _ => rfl)) (qa_cons (qe_var 8) (qa_cons (qe_var 3) (qa_cons (qe_var 7) qa_nil))))) (qa_cons (qe_callN (ok_l_behind T) (hr.mono (by decide)) (by rfl) T.d47.mgd T.d47.fn.kp T.d47.bd (fun σ => passAt (takes_of rfl rfl rfl rfl) σ) (qa_cons (qe_var 8) (qa_cons (qe_var 4) qa_nil))) qa_nil))) qa_nil)))))))) (qb_one (qs_ret (qe_fz (qe_var 5))))))
theorem ok_l_panes (T : Tx K mg cl fa fd ca) : FnOk P w K mg base (L2.CX P w) 4 (fa 58) (fd 58) ["_law_script", "_law_at", "_law_names_here", "_law_heaven_here", "_law_whole"] (SpP K cl p_l_panes) := fnP (okS_l_panes T)
theorem okS_l_plates (T : Tx K mg cl fa fd ca) : FnOk P w K mg base (L2.CX P w) 4 (fa 59) (fd 59) ["_law_rows"] (SpS K cl q_l_plates) := by
  have sc := sc_l_plates
  exact fnS T.d59.fn sc_l_plates fun cdv A outer s H E hr =>
  (qb_one (qs_ret (qe_lc mkD_ok (own := [("_law_pane_here", 1), ("_law_motion_here", 2)]) rfl sc.nd (qe_var 0) (blkOk_by (own := [("_law_pane_here", 1), ("_law_motion_here", 2)]) (N := ["_law_rows", "_law_pane_here", "_law_motion_here"]) (sc := defScope s_l_plates) (by decide +kernel)) (sgw_tup (sgws_cons (sgw_name (i := 1) (by decide)) (sgws_cons (sgw_name (i := 2) (by decide)) sgws_nil))) (fun _ _ _ _ _ => (pg_tup rfl (pgs_cons (pg_name (i := 1) sc.nd rfl (by first | exact .inl rfl | exact .inr rfl)) (pgs_cons (pg_name (i := 2) sc.nd rfl (by first | exact .inl rfl | exact .inr rfl)) pgs_nil)))) (fun _ _ _ _ _ => pts_yes) (fun _ _ _ _ _ => (qe_tup (qa_cons (qe_makeP T.c_Plate T.k_Plate (okS_Plate___init__ T) (hr.mono (by decide)) (by rfl) T.d14100.bd (fun σ => passW0) (qa_cons (qe_ix (xw_ix (hu_ng hr)) (qe_var 1) qe_int (fun _ _ => rfl)) (qa_cons (qe_ix (xw_ix (hu_ng hr)) (qe_var 1) qe_int (fun _ _ => rfl)) (qa_cons (qe_ix (xw_ix (hu_ng hr)) (qe_var 1) qe_int (fun _ _ => rfl)) (qa_cons (qe_ix (xw_ix (hu_ng hr)) (qe_var 1) qe_int (fun _ _ => rfl)) (qa_cons (qe_callTy (cn_list rfl).d (by rfl) T.b_list (by decide +kernel) (qa_cons (qe_ix (xw_ix (hu_ng hr)) (qe_var 1) qe_int (fun _ _ => rfl)) qa_nil)) qa_nil)))))) (qa_cons (qe_var 2) qa_nil)))))))
theorem ok_l_plates (T : Tx K mg cl fa fd ca) : FnOk P w K mg base (L2.CX P w) 4 (fa 59) (fd 59) ["_law_rows"] (SpP K cl p_l_plates) := fnP (okS_l_plates T)
theorem okS_l_fitting (T : Tx K mg cl fa fd ca) : FnOk P w K mg base (L2.CX P w) 4 (fa 60) (fd 60) ["_law_rows"] (SpS K cl q_l_fitting) := by
  have sc := sc_l_fitting
  exact fnS T.d60.fn sc_l_fitting fun cdv A outer s H E hr =>
  (qb_cons (qs_set (i := 1) sc.nd rfl (by first | exact .inl rfl | exact .inr rfl) (qe_lstC qa_nil)) (qb_cons (qs_for (passes_of rfl) rfl (qe_var 0) (qg_tup rfl (qgs_cons (qg_name (i := 2) sc.nd rfl (by first | exact .inl rfl | exact .inr rfl)) (qgs_cons (qg_name (i := 3) sc.nd rfl (by first | exact .inl rfl | exact .inr rfl)) qgs_nil))) (qb_cons (qs_set (i := 4) sc.nd rfl (by first | exact .inl rfl | exact .inr rfl) qe_bl) (qb_cons (qs_for (passes_of rfl) rfl (qe_var 1) (qg_tup rfl (qgs_cons (qg_name (i := 5) sc.nd rfl (by first | exact .inl rfl | exact .inr rfl)) (qgs_cons (qg_name (i := 6) sc.nd rfl (by first | exact .inl rfl | exact .inr rfl)) qgs_nil))) (qb_one (qs_if (qt_cmp ow_isnot (qe_callN (ok_l_clash_of_two T) (hr.mono (by decide)) (by rfl) T.d57.mgd T.d57.fn.kp T.d57.bd (fun σ => passAt (takes_of rfl rfl rfl rfl) σ) (qa_cons (qe_var 5) (qa_cons (qe_var 2) (qa_cons (qe_callN (ok_l_behind T) (hr.mono (by decide)) (by rfl) T.d47.mgd T.d47.fn.kp T.d47.bd (fun σ => passAt (takes_of rfl rfl rfl rfl) σ) (qa_cons (qe_var 6) (qa_cons (qe_callN (ok_l_back T) (hr.mono (by decide)) (by rfl) T.d48.mgd T.d48.fn.kp T.d48.bd (fun σ => passAt (takes_of rfl rfl rfl rfl) σ) (qa_cons (qe_var 3) qa_nil)) qa_nil))) qa_nil)))) qe_non (nomark _)) (qb_one (qs_set (i := 4) sc.nd rfl (by first | exact .inl rfl | exact .inr rfl) qe_bl)) qb_nil))) (qb_one (qs_if (qt_truth (qe_var 4)) (qb_one (qs_expr (qe_bm PySem.F.plainAttrs_list PySem.F.slot_list_append PySem.F.type_list_append hm_append (qe_var 1) (qa_cons (qe_tup (qa_cons (qe_var 2) (qa_cons (qe_var 3) qa_nil))) qa_nil)))) qb_nil))))) (qb_one (qs_ret (qe_fz (qe_var 1))))))
theorem ok_l_fitting (T : Tx K mg cl fa fd ca) : FnOk P w K mg base (L2.CX P w) 4 (fa 60) (fd 60) ["_law_rows"] (SpP K cl p_l_fitting) := fnP (okS_l_fitting T)
theorem okS_l_stars (T : Tx K mg cl fa fd ca) : FnOk P w K mg base (L2.CX P w) 3 (fa 61) (fd 61) ["_law_rows"] (SpS K cl q_l_stars) := by
  have sc := sc_l_stars
  exact fnS T.d61.fn sc_l_stars fun cdv A outer s H E hr =>
  (qb_cons (qs_set (i := 1) sc.nd rfl (by first | exact .inl rfl | exact .inr rfl) (qe_lstC qa_nil)) (qb_cons (qs_for (passes_of rfl) rfl (qe_var 0) (qg_tup rfl (qgs_cons (qg_name (i := 2) sc.nd rfl (by first | exact .inl rfl | exact .inr rfl)) (qgs_cons (qg_name (i := 3) sc.nd rfl (by first | exact .inl rfl | exact .inr rfl)) qgs_nil))) (qb_one (qs_for (passes_of rfl) rfl (qe_ix (xw_ix (hu_ng hr)) (qe_var 2) qe_int (fun _ _ => rfl)) (qg_tup rfl (qgs_cons (qg_name (i := 4) sc.nd rfl (by first | exact .inl rfl | exact .inr rfl)) (qgs_cons (qg_name (i := 5) sc.nd rfl (by first | exact .inl rfl | exact .inr rfl)) (qgs_cons (qg_name (i := 6) sc.nd rfl (by first | exact .inl rfl | exact .inr rfl)) qgs_nil)))) (qb_cons (qs_set (i := 7) sc.nd rfl (by first | exact .inl rfl | exact .inr rfl) (qe_callN (ok_l_moved T) (hr.mono (by decide)) (by rfl) T.d46.mgd T.d46.fn.kp T.d46.bd (fun σ => passAt (takes_of rfl rfl rfl rfl) σ) (qa_cons (qe_var 3) (qa_cons (qe_tup (qa_cons (qe_var 4) (qa_cons (qe_var 5) qa_nil))) qa_nil)))) (qb_one (qs_if (qt_cmp (ow_notin (hu_ng hr)) (qe_bin ow_addD (qe_var 7) (qe_tup (qa_cons (qe_var 6) qa_nil))) (qe_var 1) (by rfl)) (qb_one (qs_expr (qe_bm PySem.F.plainAttrs_list PySem.F.slot_list_append PySem.F.type_list_append hm_append (qe_var 1) (qa_cons (qe_bin ow_addD (qe_var 7) (qe_tup (qa_cons (qe_var 6) qa_nil))) qa_nil)))) qb_nil)))))) (qb_frz 1 (qb_one (qs_ret (qe_callB (cn_sorted (hu_ng hr)).d (by rfl) T.b_sorted (by decide +kernel) (qa_cons (qe_var 1) qa_nil)))))))
theorem ok_l_stars (T : Tx K mg cl fa fd ca) : FnOk P w K mg base (L2.CX P w) 3 (fa 61) (fd 61) ["_law_rows"] (SpP K cl p_l_stars) := fnP (okS_l_stars T)
theorem okS_l_met (T : Tx K mg cl fa fd ca) : FnOk P w K mg base (L2.CX P w) 3 (fa 62) (fd 62) ["_law_ones", "_law_others", "_law_motion_here"] (SpS K cl q_l_met) := by
  have sc := sc_l_met
  exact fnS T.d62.fn sc_l_met fun cdv A outer s H E hr =>
  (qb_cons (qs_set (i := 3) sc.nd rfl (by first | exact .inl rfl | exact .inr rfl) qe_int) (qb_cons (qs_for (passes_of rfl) rfl (qe_var 1) (qg_tup rfl (qgs_cons (qg_name (i := 4) sc.nd rfl (by first | exact .inl rfl | exact .inr rfl)) (qgs_cons (qg_name (i := 5) sc.nd rfl (by first | exact .inl rfl | exact .inr rfl)) (qgs_cons (qg_name (i := 6) sc.nd rfl (by first | exact .inl rfl | exact .inr rfl)) qgs_nil)))) (qb_one (qs_if (qt_cmp (ow_in (hu_ng hr)) (qe_bin ow_addD (qe_callN (ok_l_moved T) (hr.mono (by decide)) (by rfl) T.d46.mgd T.d46.fn.kp T.d46.bd (fun σ => passAt (takes_of rfl rfl rfl rfl) σ) (qa_cons (qe_var 2) (qa_cons (qe_tup (qa_cons (qe_var 4) (qa_cons (qe_var 5) qa_nil))) qa_nil))) (qe_tup (qa_cons (qe_var 6) qa_nil))) (qe_var 0) (by rfl)) (qb_one (qs_set (i := 3) sc.nd rfl (by first | exact .inl rfl | exact .inr rfl) (qe_bin ow_addD (qe_var 3) qe_int))) qb_nil))) (qb_one (qs_ret (qe_var 3)))))
theorem ok_l_met (T : Tx K mg cl fa fd ca) : FnOk P w K mg base (L2.CX P w) 3 (fa 62) (fd 62) ["_law_ones", "_law_others", "_law_motion_here"] (SpP K cl p_l_met) := fnP (okS_l_met T)
theorem okS_l_unlike_rows (T : Tx K mg cl fa fd ca) : FnOk P w K mg base (L2.CX P w) 4 (fa 63) (fd 63) ["_law_ones", "_law_others", "_law_motion_here"] (SpS K cl q_l_unlike_rows) := by
  have sc := sc_l_unlike_rows
  exact fnS T.d63.fn sc_l_unlike_rows fun cdv A outer s H E hr =>
  (qb_cons (qs_for (passes_of rfl) rfl (qe_var 0) (qg_tup rfl (qgs_cons (qg_name (i := 3) sc.nd rfl (by first | exact .inl rfl | exact .inr rfl)) (qgs_cons (qg_name (i := 4) sc.nd rfl (by first | exact .inl rfl | exact .inr rfl)) qgs_nil))) (qb_one (qs_for (passes_of rfl) rfl (qe_var 1) (qg_tup rfl (qgs_cons (qg_name (i := 5) sc.nd rfl (by first | exact .inl rfl | exact .inr rfl)) (qgs_cons (qg_name (i := 6) sc.nd rfl (by first | exact .inl rfl | exact .inr rfl)) qgs_nil))) (qb_cons (qs_set (i := 7) sc.nd rfl (by first | exact .inl rfl | exact .inr rfl) (qe_callN (ok_l_behind T) (hr.mono (by decide)) (by rfl) T.d47.mgd T.d47.fn.kp T.d47.bd (fun σ => passAt (takes_of rfl rfl rfl rfl) σ) (qa_cons (qe_var 4) (qa_cons (qe_callN (ok_l_back T) (hr.mono (by decide)) (by rfl) T.d48.mgd T.d48.fn.kp T.d48.bd (fun σ => passAt (takes_of rfl rfl rfl rfl) σ) (qa_cons (qe_callN (ok_l_behind T) (hr.mono (by decide)) (by rfl) T.d47.mgd T.d47.fn.kp T.d47.bd (fun σ => passAt (takes_of rfl rfl rfl rfl) σ) (qa_cons (qe_var 6) (qa_cons (qe_var 2) qa_nil))) qa_nil)) qa_nil)))) (qb_one (qs_if (qt_cmp ow_isnot (qe_callN (ok_l_clash_of_two T) (hr.mono (by decide)) (by rfl) T.d57.mgd T.d57.fn.kp T.d57.bd (fun σ => passAt (takes_of rfl rfl rfl rfl) σ) (qa_cons (qe_var 3) (qa_cons (qe_var 5) (qa_cons (qe_var 7) qa_nil)))) qe_non (nomark _)) (qb_one (qs_ret qe_bl)) qb_nil)))))) (qb_one (qs_ret qe_bl)))
theorem ok_l_unlike_rows (T : Tx K mg cl fa fd ca) : FnOk P w K mg base (L2.CX P w) 4 (fa 63) (fd 63) ["_law_ones", "_law_others", "_law_motion_here"] (SpP K cl p_l_unlike_rows) := fnP (okS_l_unlike_rows T)
theorem okS_l_all_layings (T : Tx K mg cl fa fd ca) : FnOk P w K mg base (L2.CX P w) 5 (fa 64) (fd 64) ["_law_ones", "_law_others", "_law_least"] (SpS K cl q_l_all_layings) := by
  have sc := sc_l_all_layings
  exact fnS T.d64.fn sc_l_all_layings fun cdv A outer s H E hr =>
  (qb_cons (qs_set (i := 3) sc.nd rfl (by first | exact .inl rfl | exact .inr rfl) (qe_callN (ok_l_stars T) (hr.mono (by decide)) (by rfl) T.d61.mgd T.d61.fn.kp T.d61.bd (fun σ => passAt (takes_of rfl rfl rfl rfl) σ) (qa_cons (qe_var 0) qa_nil))) (qb_cons (qs_set (i := 4) sc.nd rfl (by first | exact .inl rfl | exact .inr rfl) (qe_callN (ok_l_stars T) (hr.mono (by decide)) (by rfl) T.d61.mgd T.d61.fn.kp T.d61.bd (fun σ => passAt (takes_of rfl rfl rfl rfl) σ) (qa_cons (qe_var 1) qa_nil))) (qb_cons (qs_set (i := 5) sc.nd rfl (by first | exact .inl rfl | exact .inr rfl) (qe_lstC qa_nil)) (qb_cons (qs_for (passes_of rfl) rfl (qe_var 3) (qg_name (i := 6) sc.nd rfl (by first | exact .inl rfl | exact .inr rfl)) (qb_one (qs_for (passes_of rfl) rfl (qe_var 4) (qg_name (i := 7) sc.nd rfl (by first | exact .inl rfl | exact .inr rfl)) (qb_one (qs_range1 (passes_of rfl) rfl (by rfl) T.b_range (qa_cons qe_int qa_nil) (qg_name (i := 8) sc.nd rfl (by first | exact .inl rfl | exact .inr rfl)) (qb_cons (qs_asg (qe_callN (ok_l_turned T) (hr.mono (by decide)) (by rfl) T.d45.mgd T.d45.fn.kp T.d45.bd (fun σ => passAt (takes_of rfl rfl rfl rfl) σ) (qa_cons (qe_var 8) (qa_cons (qe_ix (xw_ix (hu_ng hr)) (qe_var 7) qe_int (fun _ _ => rfl)) (qa_cons (qe_ix (xw_ix (hu_ng hr)) (qe_var 7) qe_int (fun _ _ => rfl)) qa_nil)))) (qg_tup rfl (qgs_cons (qg_name (i := 10) sc.nd rfl (by first | exact .inl rfl | exact .inr rfl)) (qgs_cons (qg_name (i := 11) sc.nd rfl (by first | exact .inl rfl | exact .inr rfl)) qgs_nil)))) (qb_cons (qs_set (i := 9) sc.nd rfl (by first | exact .inl rfl | exact .inr rfl) (qe_tup (qa_cons (qe_var 8) (qa_cons (qe_bin ow_sub (qe_ix (xw_ix (hu_ng hr)) (qe_var 6) qe_int (fun _ _ => rfl)) (qe_var 10)) (qa_cons (qe_bin ow_sub (qe_ix (xw_ix (hu_ng hr)) (qe_var 6) qe_int (fun _ _ => rfl)) (qe_var 11)) qa_nil))))) (qb_one (qs_if (QW.qt (qw_and (qt_cmp (ow_eq (hu_ng hr)) (qe_ix (xw_ix (hu_ng hr)) (qe_var 6) qe_int (fun _ _ => rfl)) (qe_ix (xw_ix (hu_ng hr)) (qe_var 7) qe_int (fun _ _ => rfl)) (nomark _)) (qw_and (qt_cmp (ow_notin (hu_ng hr)) (qe_var 9) (qe_var 5) (by rfl)) (qw_and1 (qt_cmp ow_ge (qe_callN (ok_l_met T) (hr.mono (by decide)) (by rfl) T.d62.mgd T.d62.fn.kp T.d62.bd (fun σ => passAt (takes_of rfl rfl rfl rfl) σ) (qa_cons (qe_var 3) (qa_cons (qe_var 4) (qa_cons (qe_var 9) qa_nil)))) (qe_var 2) (nomark _)))))) (qb_one (qs_if (qt_not (qt_truth (qe_callN (ok_l_unlike_rows T) (hr.mono (by decide)) (by rfl) T.d63.mgd T.d63.fn.kp T.d63.bd (fun σ => passAt (takes_of rfl rfl rfl rfl) σ) (qa_cons (qe_var 0) (qa_cons (qe_var 1) (qa_cons (qe_var 9) qa_nil)))))) (qb_one (qs_expr (qe_bm PySem.F.plainAttrs_list PySem.F.slot_list_append PySem.F.type_list_append hm_append (qe_var 5) (qa_cons (qe_var 9) qa_nil)))) qb_nil)) qb_nil))))))))) (qb_frz 5 (qb_one (qs_ret (qe_callB (cn_sorted (hu_ng hr)).d (by rfl) T.b_sorted (by decide +kernel) (qa_cons (qe_var 5) qa_nil)))))))))
theorem ok_l_all_layings (T : Tx K mg cl fa fd ca) : FnOk P w K mg base (L2.CX P w) 5 (fa 64) (fd 64) ["_law_ones", "_law_others", "_law_least"] (SpP K cl p_l_all_layings) := fnP (okS_l_all_layings T)
theorem okS_l_two (T : Tx K mg cl fa fd ca) : FnOk P w K mg base (L2.CX P w) 5 (fa 65) (fd 65) ["_law_script"] (SpS K cl q_l_two) := by
  have sc := sc_l_two
  exact fnS T.d65.fn sc_l_two fun cdv A outer s H E hr =>
  (qb_cons (qs_set (i := 1) sc.nd rfl (by first | exact .inl rfl | exact .inr rfl) (qe_callN (ok_l_draws T) (hr.mono (by decide)) (by rfl) T.d43.mgd T.d43.fn.kp T.d43.bd (fun σ => passAt (takes_of rfl rfl rfl rfl) σ) (qa_cons (qe_var 0) (qa_cons qe_int (qa_cons qe_int qa_nil))))) (qb_cons (qs_set (i := 2) sc.nd rfl (by first | exact .inl rfl | exact .inr rfl) (qe_callN (ok_l_draws T) (hr.mono (by decide)) (by rfl) T.d43.mgd T.d43.fn.kp T.d43.bd (fun σ => passAt (takes_of rfl rfl rfl rfl) σ) (qa_cons (qe_var 0) (qa_cons qe_int (qa_cons qe_int qa_nil))))) (qb_cons (qs_set (i := 3) sc.nd rfl (by first | exact .inl rfl | exact .inr rfl) (qe_callN (ok_l_names T) (hr.mono (by decide)) (by rfl) T.d54.mgd T.d54.fn.kp T.d54.bd (fun σ => passAt (takes_of rfl rfl rfl rfl) σ) (qa_cons (qe_var 1) qa_nil))) (qb_cons (qs_set (i := 4) sc.nd rfl (by first | exact .inl rfl | exact .inr rfl) (qe_callN (ok_l_heaven T) (hr.mono (by decide)) (by rfl) T.d53.mgd T.d53.fn.kp T.d53.bd (fun σ => passAt (takes_of rfl rfl rfl rfl) σ) (qa_cons (qe_var 0) qa_nil))) (qb_cons (qs_set (i := 5) sc.nd rfl (by first | exact .inl rfl | exact .inr rfl) (qe_callN (ok_l_motion T) (hr.mono (by decide)) (by rfl) T.d49.mgd T.d49.fn.kp T.d49.bd (fun σ => passAt (takes_of rfl rfl rfl rfl) σ) (qa_cons (qe_var 2) (qa_cons qe_int qa_nil)))) (qb_cons (qs_set (i := 6) sc.nd rfl (by first | exact .inl rfl | exact .inr rfl) (qe_callN (ok_l_motion T) (hr.mono (by decide)) (by rfl) T.d49.mgd T.d49.fn.kp T.d49.bd (fun σ => passAt (takes_of rfl rfl rfl rfl) σ) (qa_cons (qe_var 2) (qa_cons qe_int qa_nil)))) (qb_cons (qs_set (i := 7) sc.nd rfl (by first | exact .inl rfl | exact .inr rfl) (qe_callN (ok_l_fitting T) (hr.mono (by decide)) (by rfl) T.d60.mgd T.d60.fn.kp T.d60.bd (fun σ => passAt (takes_of rfl rfl rfl rfl) σ) (qa_cons (qe_callN (ok_l_panes T) (hr.mono (by decide)) (by rfl) T.d58.mgd T.d58.fn.kp T.d58.bd (fun σ => passAt (takes_of rfl rfl rfl rfl) σ) (qa_cons (qe_var 0) (qa_cons qe_int (qa_cons (qe_slD (qe_var 3) qo_none (qo_some (qe_bin ow_mod (qe_ix (xw_ix (hu_ng hr)) (qe_var 2) qe_int (fun _ _ => rfl)) qe_int))) (qa_cons (qe_var 4) (qa_cons (qe_var 5) qa_nil)))))) qa_nil))) (qb_cons (qs_if (qt_cmp (ow_eq (hu_ng hr)) (qe_bin ow_mod (qe_ix (xw_ix (hu_ng hr)) (qe_var 2) qe_int (fun _ _ => rfl)) qe_int) qe_int (nomark _)) (qb_cons (qs_set (i := 9) sc.nd rfl (by first | exact .inl rfl | exact .inr rfl) (qe_tup (qa_cons (qe_bin ow_sub (qe_bin ow_mod (qe_ix (xw_ix (hu_ng hr)) (qe_var 2) qe_int (fun _ _ => rfl)) qe_int) qe_int) (qa_cons qe_int (qa_cons qe_int qa_nil))))) (qb_one (qs_set (i := 4) sc.nd rfl (by first | exact .inl rfl | exact .inr rfl) (qe_bin ow_addD (qe_lc mkD_ok (own := [("_law_star", 10)]) rfl sc.nd (qe_slD (qe_var 4) (qo_some qe_int) qo_none) (blkOk_by (own := [("_law_star", 10)]) (N := ["_law_script", "_law_d", "_law_e", "_law_names_here", "_law_heaven_here", "_law_left", "_law_right", "_law_ones", "_law_others", "_law_odd", "_law_star"]) (sc := defScope s_l_two) (by decide +kernel)) (sgw_name (i := 10) (by decide)) (fun _ _ _ _ _ => (pg_name (i := 10) sc.nd rfl (by first | exact .inl rfl | exact .inr rfl))) (fun _ _ _ _ _ => pts_one (pt_m (qt_cmp (ow_ne (hu_ng hr)) (qe_slD (qe_var 10) qo_none (qo_some qe_int)) (qe_slD (qe_var 9) qo_none (qo_some qe_int)) (nomark _)))) (fun _ _ _ _ _ => (qe_var 10))) (qe_lst (qa_cons (qe_var 9) qa_nil)))))) qb_nil) (qb_cons (qs_set (i := 8) sc.nd rfl (by first | exact .inl rfl | exact .inr rfl) (qe_callN (ok_l_fitting T) (hr.mono (by decide)) (by rfl) T.d60.mgd T.d60.fn.kp T.d60.bd (fun σ => passAt (takes_of rfl rfl rfl rfl) σ) (qa_cons (qe_callN (ok_l_panes T) (hr.mono (by decide)) (by rfl) T.d58.mgd T.d58.fn.kp T.d58.bd (fun σ => passAt (takes_of rfl rfl rfl rfl) σ) (qa_cons (qe_var 0) (qa_cons qe_int (qa_cons (qe_slD (qe_revD (qe_var 3)) qo_none (qo_some (qe_bin ow_mod (qe_ix (xw_ix (hu_ng hr)) (qe_var 2) qe_int (fun _ _ => rfl)) qe_int))) (qa_cons (qe_var 4) (qa_cons (qe_var 6) qa_nil)))))) qa_nil))) (qb_one (qs_ret (qe_tup (qa_cons (qe_var 7) (qa_cons (qe_var 8) (qa_cons (qe_callN (ok_l_behind T) (hr.mono (by decide)) (by rfl) T.d47.mgd T.d47.fn.kp T.d47.bd (fun σ => passAt (takes_of rfl rfl rfl rfl) σ) (qa_cons (qe_callN (ok_l_back T) (hr.mono (by decide)) (by rfl) T.d48.mgd T.d48.fn.kp T.d48.bd (fun σ => passAt (takes_of rfl rfl rfl rfl) σ) (qa_cons (qe_var 6) qa_nil)) (qa_cons (qe_var 5) qa_nil))) qa_nil)))))))))))))))
theorem ok_l_two (T : Tx K mg cl fa fd ca) : FnOk P w K mg base (L2.CX P w) 5 (fa 65) (fd 65) ["_law_script"] (SpP K cl p_l_two) := fnP (okS_l_two T)
theorem okS_l_kept (T : Tx K mg cl fa fd ca) : FnOk P w K mg base (L2.CX P w) 1 (fa 66) (fd 66) ["_law_handed", "_law_rows"] (SpS K cl q_l_kept) := by
  have sc := sc_l_kept
  exact fnS T.d66.fn sc_l_kept fun cdv A outer s H E hr =>
  (qb_one (qs_ret (qe_cmp (ow_eq (hu_ng hr)) (qe_lc mkD_ok (own := [("_law_plate", 2), ("_law_motion_here", 3)]) rfl sc.nd (qe_var 0) (blkOk_by (own := [("_law_plate", 2), ("_law_motion_here", 3)]) (N := ["_law_handed", "_law_rows", "_law_plate", "_law_motion_here", "_law_pane_here"]) (sc := defScope s_l_kept) (by decide +kernel)) (sgw_tup (sgws_cons (sgw_name (i := 2) (by decide)) (sgws_cons (sgw_name (i := 3) (by decide)) sgws_nil))) (fun _ _ _ _ _ => (pg_tup rfl (pgs_cons (pg_name (i := 2) sc.nd rfl (by first | exact .inl rfl | exact .inr rfl)) (pgs_cons (pg_name (i := 3) sc.nd rfl (by first | exact .inl rfl | exact .inr rfl)) pgs_nil)))) (fun _ _ _ _ _ => pts_yes) (fun _ _ _ _ _ => (qe_tup (qa_cons (qe_fld T.f_name (qe_var 2)) (qa_cons (qe_var 3) qa_nil))))) (qe_lc mkD_ok (own := [("_law_pane_here", 4), ("_law_motion_here", 3)]) rfl sc.nd (qe_var 1) (blkOk_by (own := [("_law_pane_here", 4), ("_law_motion_here", 3)]) (N := ["_law_handed", "_law_rows", "_law_plate", "_law_motion_here", "_law_pane_here"]) (sc := defScope s_l_kept) (by decide +kernel)) (sgw_tup (sgws_cons (sgw_name (i := 4) (by decide)) (sgws_cons (sgw_name (i := 3) (by decide)) sgws_nil))) (fun _ _ _ _ _ => (pg_tup rfl (pgs_cons (pg_name (i := 4) sc.nd rfl (by first | exact .inl rfl | exact .inr rfl)) (pgs_cons (pg_name (i := 3) sc.nd rfl (by first | exact .inl rfl | exact .inr rfl)) pgs_nil)))) (fun _ _ _ _ _ => pts_yes) (fun _ _ _ _ _ => (qe_tup (qa_cons (qe_ix (xw_ix (hu_ng hr)) (qe_var 4) qe_int (fun _ _ => rfl)) (qa_cons (qe_var 3) qa_nil))))) (nomark _))))
theorem ok_l_kept (T : Tx K mg cl fa fd ca) : FnOk P w K mg base (L2.CX P w) 1 (fa 66) (fd 66) ["_law_handed", "_law_rows"] (SpP K cl p_l_kept) := fnP (okS_l_kept T)
theorem okS_l_star_changed (T : Tx K mg cl fa fd ca) : FnOk P w K mg base (L2.CX P w) 5 (fa 67) (fd 67) ["_law_rows", "_law_k"] (SpS K cl q_l_star_changed) := by
  have sc := sc_l_star_changed
  exact fnS T.d67.fn sc_l_star_changed fun cdv A outer s H E hr =>
  (qb_cons (qs_range1 (passes_of rfl) rfl (by rfl) T.b_range (qa_cons (qe_callB cw_len (by rfl) T.b_len (by decide +kernel) (qa_cons (qe_var 0) qa_nil)) qa_nil) (qg_name (i := 2) sc.nd rfl (by first | exact .inl rfl | exact .inr rfl)) (qb_cons (qs_asg (qe_ix (xw_ix (hu_ng hr)) (qe_var 0) (qe_var 2) (fun _ _ => rfl)) (qg_tup rfl (qgs_cons (qg_name (i := 3) sc.nd rfl (by first | exact .inl rfl | exact .inr rfl)) (qgs_cons (qg_name (i := 4) sc.nd rfl (by first | exact .inl rfl | exact .inr rfl)) qgs_nil)))) (qb_one (qs_if (qt_truth (qe_ix (xw_ix (hu_ng hr)) (qe_var 3) qe_int (fun _ _ => rfl))) (qb_cons (qs_set (i := 5) sc.nd rfl (by first | exact .inl rfl | exact .inr rfl) (qe_ix (xw_ix (hu_ng hr)) (qe_ix (xw_ix (hu_ng hr)) (qe_var 3) qe_int (fun _ _ => rfl)) (qe_bin ow_mod (qe_var 1) (qe_callB cw_len (by rfl) T.b_len (by decide +kernel) (qa_cons (qe_ix (xw_ix (hu_ng hr)) (qe_var 3) qe_int (fun _ _ => rfl)) qa_nil))) (fun _ _ => rfl))) (qb_cons (qs_set (i := 6) sc.nd rfl (by first | exact .inl rfl | exact .inr rfl) (qe_bin ow_addD (qe_ix (xw_ix (hu_ng hr)) (qe_var 3) qe_int (fun _ _ => rfl)) (qe_bin ow_mod (qe_bin ow_addD (qe_bin ow_sub (qe_ix (xw_ix (hu_ng hr)) (qe_var 5) qe_int (fun _ _ => rfl)) (qe_ix (xw_ix (hu_ng hr)) (qe_var 3) qe_int (fun _ _ => rfl))) qe_int) (qe_bin ow_sub qe_int (qe_ix (xw_ix (hu_ng hr)) (qe_var 3) qe_int (fun _ _ => rfl)))))) (qb_cons (qs_set (i := 7) sc.nd rfl (by first | exact .inl rfl | exact .inr rfl) (qe_callB (cn_sorted (hu_ng hr)).d (by rfl) T.b_sorted (by decide +kernel) (qa_cons (qe_bin ow_addD (qe_lc mkD_ok (own := [("_law_other", 9)]) rfl sc.nd (qe_ix (xw_ix (hu_ng hr)) (qe_var 3) qe_int (fun _ _ => rfl)) (blkOk_by (own := [("_law_other", 9)]) (N := ["_law_rows", "_law_k", "_law_at", "_law_pane_here", "_law_motion_here", "_law_star", "_law_bright", "_law_stars_here", "_law_made", "_law_other"]) (sc := defScope s_l_star_changed) (by decide +kernel)) (sgw_name (i := 9) (by decide)) (fun _ _ _ _ _ => (pg_name (i := 9) sc.nd rfl (by first | exact .inl rfl | exact .inr rfl))) (fun _ _ _ _ _ => pts_one (pt_m (qt_cmp (ow_ne (hu_ng hr)) (qe_var 9) (qe_var 5) (nomark _)))) (fun _ _ _ _ _ => (qe_var 9))) (qe_lst (qa_cons (qe_bin ow_addD (qe_slD (qe_var 5) qo_none (qo_some qe_int)) (qe_tup (qa_cons (qe_var 6) qa_nil))) qa_nil))) qa_nil))) (qb_cons (qs_set (i := 8) sc.nd rfl (by first | exact .inl rfl | exact .inr rfl) (qe_bin ow_addD (qe_bin ow_addD (qe_slD (qe_var 0) qo_none (qo_some (qe_var 2))) (qe_lst (qa_cons (qe_tup (qa_cons (qe_bin ow_addD (qe_slD (qe_var 3) qo_none (qo_some qe_int)) (qe_tup (qa_cons (qe_callTy hc_tupleD (by rfl) T.b_tuple (by decide +kernel) (qa_cons (qe_var 7) qa_nil)) qa_nil))) (qa_cons (qe_var 4) qa_nil))) qa_nil))) (qe_slD (qe_var 0) (qo_some (qe_bin ow_addD (qe_var 2) qe_int)) qo_none))) (qb_one (qs_if (qt_cmp (ow_eq (hu_ng hr)) (qe_callB cw_len (by rfl) T.b_len (by decide +kernel) (qa_cons (qe_callN (ok_l_fitting T) (hr.mono (by decide)) (by rfl) T.d60.mgd T.d60.fn.kp T.d60.bd (fun σ => passAt (takes_of rfl rfl rfl rfl) σ) (qa_cons (qe_var 8) qa_nil)) qa_nil)) (qe_callB cw_len (by rfl) T.b_len (by decide +kernel) (qa_cons (qe_var 0) qa_nil)) (nomark _)) (qb_one (qs_ret (qe_var 8))) qb_nil)))))) qb_nil)))) (qb_one (qs_ret (qe_var 0))))
theorem ok_l_star_changed (T : Tx K mg cl fa fd ca) : FnOk P w K mg base (L2.CX P w) 5 (fa 67) (fd 67) ["_law_rows", "_law_k"] (SpP K cl p_l_star_changed) := fnP (okS_l_star_changed T)
theorem okS_law (T : Tx K mg cl fa fd ca) : FnOk P w K mg base (L2.CX P w) 8 (fa 68) (fd 68) ["_law_script"] (SpS K cl q_law) := by
  have sc := sc_law
  exact fnS T.d68.fn sc_law fun cdv A outer s H E hr =>
  (qb_cons (qs_asg (qe_callN (ok_l_two T) (hr.mono (by decide)) (by rfl) T.d65.mgd T.d65.fn.kp T.d65.bd (fun σ => passAt (takes_of rfl rfl rfl rfl) σ) (qa_cons (qe_var 0) qa_nil)) (qg_tup rfl (qgs_cons (qg_name (i := 9) sc.nd rfl (by first | exact .inl rfl | exact .inr rfl)) (qgs_cons (qg_name (i := 10) sc.nd rfl (by first | exact .inl rfl | exact .inr rfl)) (qgs_cons (qg_name (i := 11) sc.nd rfl (by first | exact .inl rfl | exact .inr rfl)) qgs_nil))))) (qb_cons (qs_set (i := 1) sc.nd rfl (by first | exact .inl rfl | exact .inr rfl) (qe_callN (ok_l_draws T) (hr.mono (by decide)) (by rfl) T.d43.mgd T.d43.fn.kp T.d43.bd (fun σ => passAt (takes_of rfl rfl rfl rfl) σ) (qa_cons (qe_var 0) (qa_cons qe_int (qa_cons qe_int qa_nil))))) (qb_cons (qs_set (i := 2) sc.nd rfl (by first | exact .inl rfl | exact .inr rfl) (qe_ix (xw_ix (hu_ng hr)) (qe_lst (qa_cons qe_int (qa_cons qe_int (qa_cons qe_int (qa_cons qe_int (qa_cons qe_int (qa_cons qe_int (qa_cons qe_int (qa_cons qe_int (qa_cons (qe_un uw_neg qe_int) (qa_cons (qe_un uw_neg qe_int) (qa_cons (qe_bin ow_pow qe_int qe_int) (qa_cons (qe_un uw_neg (qe_bin ow_pow qe_int qe_int)) qa_nil))))))))))))) (qe_bin ow_mod (qe_ix (xw_ix (hu_ng hr)) (qe_var 1) qe_int (fun _ _ => rfl)) qe_int) (fun _ _ => rfl))) (qb_cons (qs_set (i := 3) sc.nd rfl (by first | exact .inl rfl | exact .inr rfl) (qe_lst (qa_cons (qe_callN (ok_l_plates T) (hr.mono (by decide)) (by rfl) T.d59.mgd T.d59.fn.kp T.d59.bd (fun σ => passAt (takes_of rfl rfl rfl rfl) σ) (qa_cons (qe_var 9) qa_nil)) (qa_cons (qe_callN (ok_l_plates T) (hr.mono (by decide)) (by rfl) T.d59.mgd T.d59.fn.kp T.d59.bd (fun σ => passAt (takes_of rfl rfl rfl rfl) σ) (qa_cons (qe_var 10) qa_nil)) qa_nil)))) (qb_cons (qs_set (i := 4) sc.nd rfl (by first | exact .inl rfl | exact .inr rfl) qe_bl) (qb_cons (qs_set (i := 5) sc.nd rfl (by first | exact .inl rfl | exact .inr rfl) qe_non) (qb_cons (qs_tryAs (i := 6) rfl rfl sc.nd rfl rfl ⟨rfl, by decide, .inl T.c_GlassError.mgd⟩ (takes_of rfl rfl rfl rfl) T.h_GlassError (fun W pn xe tk po => (qb_one (qs_set (i := 5) sc.nd rfl (by first | exact .inl rfl | exact .inr rfl) (qe_callN (ok_layings T) (hr.mono (by decide)) (by rfl) T.d32.mgd T.d32.fn.kp T.d32.bd (fun σ => passAt tk σ) (qa_cons (qe_ix (xw_ix (hu_ng hr)) (qe_var 3) qe_int (fun _ _ => rfl)) (qa_cons (qe_ix (xw_ix (hu_ng hr)) (qe_var 3) qe_int (fun _ _ => rfl)) (qa_cons (qe_var 2) qa_nil))))))) (fun ea oe E d exn pn hz hv hcE hdE => (qb_one (qs_set (i := 4) sc.nd rfl (by first | exact .inl rfl | exact .inr rfl) (qe_and (qe_isE (i := 6) (T.i_BadCount) hz hv hcE hdE rfl (by first | exact .inl rfl | exact .inr (.inl rfl) | exact .inr (.inr rfl)) (by rfl) T.b_isinstance (pe_cls rfl T.c_BadCount.mgd) relv_ref) (qe_one (qe_isE (i := 6) (T.i_ValueError) hz hv hcE hdE rfl (by first | exact .inl rfl | exact .inr (.inl rfl) | exact .inr (.inr rfl)) (by rfl) T.b_isinstance (pe_bltn rfl T.b_ValueError (by decide +kernel) (v := .ty "ValueError") rfl) relv_ty))))))) (qb_cons (qs_if (QW.qt (qw_or (qt_not (qt_truth (qe_callN (ok_l_kept T) (hr.mono (by decide)) (by rfl) T.d66.mgd T.d66.fn.kp T.d66.bd (fun σ => passAt (takes_of rfl rfl rfl rfl) σ) (qa_cons (qe_ix (xw_ix (hu_ng hr)) (qe_var 3) qe_int (fun _ _ => rfl)) (qa_cons (qe_var 9) qa_nil))))) (qw_or1 (qt_not (qt_truth (qe_callN (ok_l_kept T) (hr.mono (by decide)) (by rfl) T.d66.mgd T.d66.fn.kp T.d66.bd (fun σ => passAt (takes_of rfl rfl rfl rfl) σ) (qa_cons (qe_ix (xw_ix (hu_ng hr)) (qe_var 3) qe_int (fun _ _ => rfl)) (qa_cons (qe_var 10) qa_nil)))))))) (qb_one (qs_ret qe_bl)) qb_nil) (qb_cons (qs_if (qt_cmp ow_lt (qe_var 2) qe_int (nomark _)) (qb_one (qs_ret (qe_var 4))) qb_nil) (qb_cons (qs_set (i := 7) sc.nd rfl (by first | exact .inl rfl | exact .inr rfl) (qe_callN (ok_l_all_layings T) (hr.mono (by decide)) (by rfl) T.d64.mgd T.d64.fn.kp T.d64.bd (fun σ => passAt (takes_of rfl rfl rfl rfl) σ) (qa_cons (qe_var 9) (qa_cons (qe_var 10) (qa_cons (qe_var 2) qa_nil))))) (qb_cons (qs_if (QW.qt (qw_or (qt_truth (qe_var 4)) (qw_or1 (qt_not (qt_truth (qe_callN (ok_l_same T) (hr.mono (by decide)) (by rfl) T.d50.mgd T.d50.fn.kp T.d50.bd (fun σ => passAt (takes_of rfl rfl rfl rfl) σ) (qa_cons (qe_var 5) (qa_cons (qe_var 7) qa_nil)))))))) (qb_one (qs_ret qe_bl)) qb_nil) (qb_cons (qs_set (i := 8) sc.nd rfl (by first | exact .inl rfl | exact .inr rfl) (qe_lst (qa_cons (qe_callN (ok_l_star_changed T) (hr.mono (by decide)) (by rfl) T.d67.mgd T.d67.fn.kp T.d67.bd (fun σ => passAt (takes_of rfl rfl rfl rfl) σ) (qa_cons (qe_var 9) (qa_cons (qe_ix (xw_ix (hu_ng hr)) (qe_var 1) qe_int (fun _ _ => rfl)) qa_nil))) (qa_cons (qe_callN (ok_l_star_changed T) (hr.mono (by decide)) (by rfl) T.d67.mgd T.d67.fn.kp T.d67.bd (fun σ => passAt (takes_of rfl rfl rfl rfl) σ) (qa_cons (qe_var 10) (qa_cons (qe_bin ow_div (qe_ix (xw_ix (hu_ng hr)) (qe_var 1) qe_int (fun _ _ => rfl)) qe_int) qa_nil))) qa_nil)))) (qb_cons (qs_set (i := 5) sc.nd rfl (by first | exact .inl rfl | exact .inr rfl) (qe_callN (ok_layings T) (hr.mono (by decide)) (by rfl) T.d32.mgd T.d32.fn.kp T.d32.bd (fun σ => passAt (takes_of rfl rfl rfl rfl) σ) (qa_cons (qe_callN (ok_l_plates T) (hr.mono (by decide)) (by rfl) T.d59.mgd T.d59.fn.kp T.d59.bd (fun σ => passAt (takes_of rfl rfl rfl rfl) σ) (qa_cons (qe_ix (xw_ix (hu_ng hr)) (qe_var 8) qe_int (fun _ _ => rfl)) qa_nil)) (qa_cons (qe_callN (ok_l_plates T) (hr.mono (by decide)) (by rfl) T.d59.mgd T.d59.fn.kp T.d59.bd (fun σ => passAt (takes_of rfl rfl rfl rfl) σ) (qa_cons (qe_ix (xw_ix (hu_ng hr)) (qe_var 8) qe_int (fun _ _ => rfl)) qa_nil)) (qa_cons (qe_var 2) qa_nil))))) (qb_cons (qs_if (qt_not (qt_truth (qe_callN (ok_l_same T) (hr.mono (by decide)) (by rfl) T.d50.mgd T.d50.fn.kp T.d50.bd (fun σ => passAt (takes_of rfl rfl rfl rfl) σ) (qa_cons (qe_var 5) (qa_cons (qe_callN (ok_l_all_layings T) (hr.mono (by decide)) (by rfl) T.d64.mgd T.d64.fn.kp T.d64.bd (fun σ => passAt (takes_of rfl rfl rfl rfl) σ) (qa_cons (qe_ix (xw_ix (hu_ng hr)) (qe_var 8) qe_int (fun _ _ => rfl)) (qa_cons (qe_ix (xw_ix (hu_ng hr)) (qe_var 8) qe_int (fun _ _ => rfl)) (qa_cons (qe_var 2) qa_nil)))) qa_nil))))) (qb_one (qs_ret qe_bl)) qb_nil) (qb_one (qs_ret (qe_callN (ok_l_same T) (hr.mono (by decide)) (by rfl) T.d50.mgd T.d50.fn.kp T.d50.bd (fun σ => passAt (takes_of rfl rfl rfl rfl) σ) (qa_cons (qe_callN (ok_layings T) (hr.mono (by decide)) (by rfl) T.d32.mgd T.d32.fn.kp T.d32.bd (fun σ => passAt (takes_of rfl rfl rfl rfl) σ) (qa_cons (qe_callN (ok_l_plates T) (hr.mono (by decide)) (by rfl) T.d59.mgd T.d59.fn.kp T.d59.bd (fun σ => passAt (takes_of rfl rfl rfl rfl) σ) (qa_cons (qe_var 9) qa_nil)) (qa_cons (qe_callN (ok_l_plates T) (hr.mono (by decide)) (by rfl) T.d59.mgd T.d59.fn.kp T.d59.bd (fun σ => passAt (takes_of rfl rfl rfl rfl) σ) (qa_cons (qe_var 10) qa_nil)) (qa_cons (qe_var 2) qa_nil)))) (qa_cons (qe_var 7) qa_nil)))))))))))))))))))
theorem ok_law (T : Tx K mg cl fa fd ca) : FnOk P w K mg base (L2.CX P w) 8 (fa 68) (fd 68) ["_law_script"] (SpP K cl p_law) := fnP (okS_law T)
end
/-! ### what the top has written -/
theorem all_mk {P : Program} {w : World} {K : PySem.W.Frag} {h : Heap} {mg : Str → Option Value} {fl : Addr} (X : K.In h) (G : h.Ns mainGlobals mg) (hfa : mg "law" = some (.ref fl))
    {k41 : Addr}
    {f7 : Addr} {od7 an7 : Option Addr} {sl7 : Array (Option Value)} {oc7 kV7 dc7 pm7 cd7 ct7 : Value}
    {f8 : Addr} {od8 an8 : Option Addr} {sl8 : Array (Option Value)} {oc8 kV8 dc8 pm8 cd8 ct8 : Value}
    {f9 : Addr} {od9 an9 : Option Addr} {sl9 : Array (Option Value)} {oc9 kV9 dc9 pm9 cd9 ct9 : Value}
    {f10 : Addr} {od10 an10 : Option Addr} {sl10 : Array (Option Value)} {oc10 kV10 dc10 pm10 cd10 ct10 : Value}
    {f11 : Addr} {od11 an11 : Option Addr} {sl11 : Array (Option Value)} {oc11 kV11 dc11 pm11 cd11 ct11 : Value}
    {f12 : Addr} {od12 an12 : Option Addr} {sl12 : Array (Option Value)} {oc12 kV12 dc12 pm12 cd12 ct12 : Value}
    {f13 : Addr} {od13 an13 : Option Addr} {sl13 : Array (Option Value)} {oc13 kV13 dc13 pm13 cd13 ct13 : Value}
    {f17 : Addr} {od17 an17 : Option Addr} {sl17 : Array (Option Value)} {oc17 kV17 dc17 pm17 cd17 ct17 : Value}
    {f18 : Addr} {od18 an18 : Option Addr} {sl18 : Array (Option Value)} {oc18 kV18 dc18 pm18 cd18 ct18 : Value}
    {f19 : Addr} {od19 an19 : Option Addr} {sl19 : Array (Option Value)} {oc19 kV19 dc19 pm19 cd19 ct19 : Value}
    {f20 : Addr} {od20 an20 : Option Addr} {sl20 : Array (Option Value)} {oc20 kV20 dc20 pm20 cd20 ct20 : Value}
    {f21 : Addr} {od21 an21 : Option Addr} {sl21 : Array (Option Value)} {oc21 kV21 dc21 pm21 cd21 ct21 : Value}
    {f23 : Addr} {od23 an23 : Option Addr} {sl23 : Array (Option Value)} {oc23 kV23 dc23 pm23 cd23 ct23 : Value}
    {f14104 : Addr} {od14104 an14104 : Option Addr} {sl14104 : Array (Option Value)} {oc14104 kV14104 dc14104 pm14104 cd14104 ct14104 : Value}
    {f14102 : Addr} {od14102 an14102 : Option Addr} {sl14102 : Array (Option Value)} {oc14102 kV14102 dc14102 pm14102 cd14102 ct14102 : Value}
    {f14103 : Addr} {od14103 an14103 : Option Addr} {sl14103 : Array (Option Value)} {oc14103 kV14103 dc14103 pm14103 cd14103 ct14103 : Value}
    {f24 : Addr} {od24 an24 : Option Addr} {sl24 : Array (Option Value)} {oc24 kV24 dc24 pm24 cd24 ct24 : Value}
    {f25 : Addr} {od25 an25 : Option Addr} {sl25 : Array (Option Value)} {oc25 kV25 dc25 pm25 cd25 ct25 : Value}
    {f26 : Addr} {od26 an26 : Option Addr} {sl26 : Array (Option Value)} {oc26 kV26 dc26 pm26 cd26 ct26 : Value}
    {f27 : Addr} {od27 an27 : Option Addr} {sl27 : Array (Option Value)} {oc27 kV27 dc27 pm27 cd27 ct27 : Value}
    {f29 : Addr} {od29 an29 : Option Addr} {sl29 : Array (Option Value)} {oc29 kV29 dc29 pm29 cd29 ct29 : Value}
    {f30 : Addr} {od30 an30 : Option Addr} {sl30 : Array (Option Value)} {oc30 kV30 dc30 pm30 cd30 ct30 : Value}
    {f31 : Addr} {od31 an31 : Option Addr} {sl31 : Array (Option Value)} {oc31 kV31 dc31 pm31 cd31 ct31 : Value}
    {f32 : Addr} {od32 an32 : Option Addr} {sl32 : Array (Option Value)} {oc32 kV32 dc32 pm32 cd32 ct32 : Value}
    {f39 : Addr} {od39 an39 : Option Addr} {sl39 : Array (Option Value)} {oc39 kV39 dc39 pm39 cd39 ct39 : Value}
    {f40 : Addr} {od40 an40 : Option Addr} {sl40 : Array (Option Value)} {oc40 kV40 dc40 pm40 cd40 ct40 : Value}
    {f14100 : Addr} {od14100 an14100 : Option Addr} {sl14100 : Array (Option Value)} {oc14100 kV14100 dc14100 pm14100 cd14100 ct14100 : Value}
    {f14101 : Addr} {od14101 an14101 : Option Addr} {sl14101 : Array (Option Value)} {oc14101 kV14101 dc14101 pm14101 cd14101 ct14101 : Value}
    {f43 : Addr} {od43 an43 : Option Addr} {sl43 : Array (Option Value)} {oc43 kV43 dc43 pm43 cd43 ct43 : Value}
    {f44 : Addr} {od44 an44 : Option Addr} {sl44 : Array (Option Value)} {oc44 kV44 dc44 pm44 cd44 ct44 : Value}
    {f45 : Addr} {od45 an45 : Option Addr} {sl45 : Array (Option Value)} {oc45 kV45 dc45 pm45 cd45 ct45 : Value}
    {f46 : Addr} {od46 an46 : Option Addr} {sl46 : Array (Option Value)} {oc46 kV46 dc46 pm46 cd46 ct46 : Value}
    {f47 : Addr} {od47 an47 : Option Addr} {sl47 : Array (Option Value)} {oc47 kV47 dc47 pm47 cd47 ct47 : Value}
    {f48 : Addr} {od48 an48 : Option Addr} {sl48 : Array (Option Value)} {oc48 kV48 dc48 pm48 cd48 ct48 : Value}
    {f49 : Addr} {od49 an49 : Option Addr} {sl49 : Array (Option Value)} {oc49 kV49 dc49 pm49 cd49 ct49 : Value}
    {f50 : Addr} {od50 an50 : Option Addr} {sl50 : Array (Option Value)} {oc50 kV50 dc50 pm50 cd50 ct50 : Value}
    {f51 : Addr} {od51 an51 : Option Addr} {sl51 : Array (Option Value)} {oc51 kV51 dc51 pm51 cd51 ct51 : Value}
    {f52 : Addr} {od52 an52 : Option Addr} {sl52 : Array (Option Value)} {oc52 kV52 dc52 pm52 cd52 ct52 : Value}
    {f53 : Addr} {od53 an53 : Option Addr} {sl53 : Array (Option Value)} {oc53 kV53 dc53 pm53 cd53 ct53 : Value}
    {f54 : Addr} {od54 an54 : Option Addr} {sl54 : Array (Option Value)} {oc54 kV54 dc54 pm54 cd54 ct54 : Value}
    {f55 : Addr} {od55 an55 : Option Addr} {sl55 : Array (Option Value)} {oc55 kV55 dc55 pm55 cd55 ct55 : Value}
    {f56 : Addr} {od56 an56 : Option Addr} {sl56 : Array (Option Value)} {oc56 kV56 dc56 pm56 cd56 ct56 : Value}
    {f57 : Addr} {od57 an57 : Option Addr} {sl57 : Array (Option Value)} {oc57 kV57 dc57 pm57 cd57 ct57 : Value}
    {f58 : Addr} {od58 an58 : Option Addr} {sl58 : Array (Option Value)} {oc58 kV58 dc58 pm58 cd58 ct58 : Value}
    {f59 : Addr} {od59 an59 : Option Addr} {sl59 : Array (Option Value)} {oc59 kV59 dc59 pm59 cd59 ct59 : Value}
    {f60 : Addr} {od60 an60 : Option Addr} {sl60 : Array (Option Value)} {oc60 kV60 dc60 pm60 cd60 ct60 : Value}
    {f61 : Addr} {od61 an61 : Option Addr} {sl61 : Array (Option Value)} {oc61 kV61 dc61 pm61 cd61 ct61 : Value}
    {f62 : Addr} {od62 an62 : Option Addr} {sl62 : Array (Option Value)} {oc62 kV62 dc62 pm62 cd62 ct62 : Value}
    {f63 : Addr} {od63 an63 : Option Addr} {sl63 : Array (Option Value)} {oc63 kV63 dc63 pm63 cd63 ct63 : Value}
    {f64 : Addr} {od64 an64 : Option Addr} {sl64 : Array (Option Value)} {oc64 kV64 dc64 pm64 cd64 ct64 : Value}
    {f65 : Addr} {od65 an65 : Option Addr} {sl65 : Array (Option Value)} {oc65 kV65 dc65 pm65 cd65 ct65 : Value}
    {f66 : Addr} {od66 an66 : Option Addr} {sl66 : Array (Option Value)} {oc66 kV66 dc66 pm66 cd66 ct66 : Value}
    {f67 : Addr} {od67 an67 : Option Addr} {sl67 : Array (Option Value)} {oc67 kV67 dc67 pm67 cd67 ct67 : Value}
    {f68 : Addr} {od68 an68 : Option Addr} {sl68 : Array (Option Value)} {oc68 kV68 dc68 pm68 cd68 ct68 : Value}
    {k1 : Addr}
    {k2 : Addr}
    {k3 : Addr}
    {k4 : Addr}
    {k5 : Addr}
    {t_BRIGHT_MOST : Tok}
    {t_LETTERS : Tok}
    {t_MOST : Tok}
    {t_NAME_MOST : Tok}
    {t_SIDE_MOST : Tok}
    {t_STARS_MOST : Tok}
    {a_UNSEEN : Addr} {od_UNSEEN : Option Addr} {n_UNSEEN : Nat} {sl_UNSEEN : Array (Option Value)} {t_UNSEEN_0 : Tok} {t_UNSEEN_1 : Tok}
    (ka41 : PySem.W.nsIn K mainGlobals "Plate" = some (some (.ref k41))) (kpg41 : PySem.W.plainGet K k41 Str.empty = true) (khd41 : PySem.W.hasDictIn K k41 = true) (kpo41 : PySem.W.plainOver K k41 = true) (ksa41 : PySem.W.findIn K (.ref k41) "__setattr__" = some (some (.builtin "object.__setattr__"))) (kmk41 : PySem.W.makesIn K k41 = true) (kkp41 : PySem.W.keepIn K (.ref k41) = true)
    (kn41_name : PySem.W.findIn K (.ref k41) "name" = some none)
    (kn41_width : PySem.W.findIn K (.ref k41) "width" = some none)
    (kn41_height : PySem.W.findIn K (.ref k41) "height" = some none)
    (kn41_limit : PySem.W.findIn K (.ref k41) "limit" = some none)
    (kn41_lights : PySem.W.findIn K (.ref k41) "lights" = some none)
    (a7 : PySem.W.nsIn K mainGlobals "turned" = some (some (.ref f7))) (l7 : K.lookup f7 = some ⟨oc7, od7, .func (PySem.W.fnOf "turned" "turned" (defArgs s_turned) (defBody s_turned) (defScope s_turned) .none kV7 dc7 pm7 an7 cd7 ct7), sl7⟩) (c7 : PySem.W.codeIn K cd7 "turned" = true) (k7 : PySem.W.keepIn K (.ref f7) = true)
    (a8 : PySem.W.nsIn K mainGlobals "moved" = some (some (.ref f8))) (l8 : K.lookup f8 = some ⟨oc8, od8, .func (PySem.W.fnOf "moved" "moved" (defArgs s_moved) (defBody s_moved) (defScope s_moved) .none kV8 dc8 pm8 an8 cd8 ct8), sl8⟩) (c8 : PySem.W.codeIn K cd8 "moved" = true) (k8 : PySem.W.keepIn K (.ref f8) = true)
    (a9 : PySem.W.nsIn K mainGlobals "turn_behind" = some (some (.ref f9))) (l9 : K.lookup f9 = some ⟨oc9, od9, .func (PySem.W.fnOf "turn_behind" "turn_behind" (defArgs s_turn_behind) (defBody s_turn_behind) (defScope s_turn_behind) .none kV9 dc9 pm9 an9 cd9 ct9), sl9⟩) (c9 : PySem.W.codeIn K cd9 "turn_behind" = true) (k9 : PySem.W.keepIn K (.ref f9) = true)
    (a10 : PySem.W.nsIn K mainGlobals "behind" = some (some (.ref f10))) (l10 : K.lookup f10 = some ⟨oc10, od10, .func (PySem.W.fnOf "behind" "behind" (defArgs s_behind) (defBody s_behind) (defScope s_behind) .none kV10 dc10 pm10 an10 cd10 ct10), sl10⟩) (c10 : PySem.W.codeIn K cd10 "behind" = true) (k10 : PySem.W.keepIn K (.ref f10) = true)
    (a11 : PySem.W.nsIn K mainGlobals "turn_back" = some (some (.ref f11))) (l11 : K.lookup f11 = some ⟨oc11, od11, .func (PySem.W.fnOf "turn_back" "turn_back" (defArgs s_turn_back) (defBody s_turn_back) (defScope s_turn_back) .none kV11 dc11 pm11 an11 cd11 ct11), sl11⟩) (c11 : PySem.W.codeIn K cd11 "turn_back" = true) (k11 : PySem.W.keepIn K (.ref f11) = true)
    (a12 : PySem.W.nsIn K mainGlobals "back" = some (some (.ref f12))) (l12 : K.lookup f12 = some ⟨oc12, od12, .func (PySem.W.fnOf "back" "back" (defArgs s_back) (defBody s_back) (defScope s_back) .none kV12 dc12 pm12 an12 cd12 ct12), sl12⟩) (c12 : PySem.W.codeIn K cd12 "back" = true) (k12 : PySem.W.keepIn K (.ref f12) = true)
    (a13 : PySem.W.nsIn K mainGlobals "leading" = some (some (.ref f13))) (l13 : K.lookup f13 = some ⟨oc13, od13, .func (PySem.W.fnOf "leading" "leading" (defArgs s_leading) (defBody s_leading) (defScope s_leading) .none kV13 dc13 pm13 an13 cd13 ct13), sl13⟩) (c13 : PySem.W.codeIn K cd13 "leading" = true) (k13 : PySem.W.keepIn K (.ref f13) = true)
    (a17 : PySem.W.nsIn K mainGlobals "leaves" = some (some (.ref f17))) (l17 : K.lookup f17 = some ⟨oc17, od17, .func (PySem.W.fnOf "leaves" "leaves" (defArgs s_leaves) (defBody s_leaves) (defScope s_leaves) .none kV17 dc17 pm17 an17 cd17 ct17), sl17⟩) (c17 : PySem.W.codeIn K cd17 "leaves" = true) (k17 : PySem.W.keepIn K (.ref f17) = true)
    (a18 : PySem.W.nsIn K mainGlobals "up_to" = some (some (.ref f18))) (l18 : K.lookup f18 = some ⟨oc18, od18, .func (PySem.W.fnOf "up_to" "up_to" (defArgs s_up_to) (defBody s_up_to) (defScope s_up_to) .none kV18 dc18 pm18 an18 cd18 ct18), sl18⟩) (c18 : PySem.W.codeIn K cd18 "up_to" = true) (k18 : PySem.W.keepIn K (.ref f18) = true)
    (a19 : PySem.W.nsIn K mainGlobals "agree" = some (some (.ref f19))) (l19 : K.lookup f19 = some ⟨oc19, od19, .func (PySem.W.fnOf "agree" "agree" (defArgs s_agree) (defBody s_agree) (defScope s_agree) .none kV19 dc19 pm19 an19 cd19 ct19), sl19⟩) (c19 : PySem.W.codeIn K cd19 "agree" = true) (k19 : PySem.W.keepIn K (.ref f19) = true)
    (a20 : PySem.W.nsIn K mainGlobals "joined" = some (some (.ref f20))) (l20 : K.lookup f20 = some ⟨oc20, od20, .func (PySem.W.fnOf "joined" "joined" (defArgs s_joined) (defBody s_joined) (defScope s_joined) .none kV20 dc20 pm20 an20 cd20 ct20), sl20⟩) (c20 : PySem.W.codeIn K cd20 "joined" = true) (k20 : PySem.W.keepIn K (.ref f20) = true)
    (a21 : PySem.W.nsIn K mainGlobals "pool" = some (some (.ref f21))) (l21 : K.lookup f21 = some ⟨oc21, od21, .func (PySem.W.fnOf "pool" "pool" (defArgs s_pool) (defBody s_pool) (defScope s_pool) .none kV21 dc21 pm21 an21 cd21 ct21), sl21⟩) (c21 : PySem.W.codeIn K cd21 "pool" = true) (k21 : PySem.W.keepIn K (.ref f21) = true)
    (a23 : PySem.W.nsIn K mainGlobals "name_of" = some (some (.ref f23))) (l23 : K.lookup f23 = some ⟨oc23, od23, .func (PySem.W.fnOf "name_of" "name_of" (defArgs s_name_of) (defBody s_name_of) (defScope s_name_of) .none kV23 dc23 pm23 an23 cd23 ct23), sl23⟩) (c23 : PySem.W.codeIn K cd23 "name_of" = true) (k23 : PySem.W.keepIn K (.ref f23) = true)
    (a14104 : PySem.W.findIn K (.ref k41) "places" = some (some (.ref f14104))) (i14104 : PySem.W.isFn K (.ref f14104) = true) (l14104 : K.lookup f14104 = some ⟨oc14104, od14104, .func (PySem.W.fnOf "places" "Plate.places" (defArgs s_Plate_places) (defBody s_Plate_places) (defScope s_Plate_places) .none kV14104 dc14104 pm14104 an14104 cd14104 ct14104), sl14104⟩) (c14104 : PySem.W.codeIn K cd14104 "Plate.places" = true) (k_14104 : PySem.W.keepIn K (.ref f14104) = true)
    (a14102 : PySem.W.findIn K (.ref k41) "holds" = some (some (.ref f14102))) (i14102 : PySem.W.isFn K (.ref f14102) = true) (l14102 : K.lookup f14102 = some ⟨oc14102, od14102, .func (PySem.W.fnOf "holds" "Plate.holds" (defArgs s_Plate_holds) (defBody s_Plate_holds) (defScope s_Plate_holds) .none kV14102 dc14102 pm14102 an14102 cd14102 ct14102), sl14102⟩) (c14102 : PySem.W.codeIn K cd14102 "Plate.holds" = true) (k_14102 : PySem.W.keepIn K (.ref f14102) = true)
    (a14103 : PySem.W.findIn K (.ref k41) "says" = some (some (.ref f14103))) (i14103 : PySem.W.isFn K (.ref f14103) = true) (l14103 : K.lookup f14103 = some ⟨oc14103, od14103, .func (PySem.W.fnOf "says" "Plate.says" (defArgs s_Plate_says) (defBody s_Plate_says) (defScope s_Plate_says) .none kV14103 dc14103 pm14103 an14103 cd14103 ct14103), sl14103⟩) (c14103 : PySem.W.codeIn K cd14103 "Plate.says" = true) (k_14103 : PySem.W.keepIn K (.ref f14103) = true)
    (a24 : PySem.W.nsIn K mainGlobals "unlike_two" = some (some (.ref f24))) (l24 : K.lookup f24 = some ⟨oc24, od24, .func (PySem.W.fnOf "unlike_two" "unlike_two" (defArgs s_unlike_two) (defBody s_unlike_two) (defScope s_unlike_two) .none kV24 dc24 pm24 an24 cd24 ct24), sl24⟩) (c24 : PySem.W.codeIn K cd24 "unlike_two" = true) (k24 : PySem.W.keepIn K (.ref f24) = true)
    (a25 : PySem.W.nsIn K mainGlobals "unlike" = some (some (.ref f25))) (l25 : K.lookup f25 = some ⟨oc25, od25, .func (PySem.W.fnOf "unlike" "unlike" (defArgs s_unlike) (defBody s_unlike) (defScope s_unlike) .none kV25 dc25 pm25 an25 cd25 ct25), sl25⟩) (c25 : PySem.W.codeIn K cd25 "unlike" = true) (k25 : PySem.W.keepIn K (.ref f25) = true)
    (a26 : PySem.W.nsIn K mainGlobals "chart" = some (some (.ref f26))) (l26 : K.lookup f26 = some ⟨oc26, od26, .func (PySem.W.fnOf "chart" "chart" (defArgs s_chart) (defBody s_chart) (defScope s_chart) .none kV26 dc26 pm26 an26 cd26 ct26), sl26⟩) (c26 : PySem.W.codeIn K cd26 "chart" = true) (k26 : PySem.W.keepIn K (.ref f26) = true)
    (a27 : PySem.W.nsIn K mainGlobals "face" = some (some (.ref f27))) (l27 : K.lookup f27 = some ⟨oc27, od27, .func (PySem.W.fnOf "face" "face" (defArgs s_face) (defBody s_face) (defScope s_face) .none kV27 dc27 pm27 an27 cd27 ct27), sl27⟩) (c27 : PySem.W.codeIn K cd27 "face" = true) (k27 : PySem.W.keepIn K (.ref f27) = true)
    (a29 : PySem.W.nsIn K mainGlobals "led" = some (some (.ref f29))) (l29 : K.lookup f29 = some ⟨oc29, od29, .func (PySem.W.fnOf "led" "led" (defArgs s_led) (defBody s_led) (defScope s_led) .none kV29 dc29 pm29 an29 cd29 ct29), sl29⟩) (c29 : PySem.W.codeIn K cd29 "led" = true) (k29 : PySem.W.keepIn K (.ref f29) = true)
    (a30 : PySem.W.nsIn K mainGlobals "stars_met" = some (some (.ref f30))) (l30 : K.lookup f30 = some ⟨oc30, od30, .func (PySem.W.fnOf "stars_met" "stars_met" (defArgs s_stars_met) (defBody s_stars_met) (defScope s_stars_met) .none kV30 dc30 pm30 an30 cd30 ct30), sl30⟩) (c30 : PySem.W.codeIn K cd30 "stars_met" = true) (k30 : PySem.W.keepIn K (.ref f30) = true)
    (a31 : PySem.W.nsIn K mainGlobals "tried" = some (some (.ref f31))) (l31 : K.lookup f31 = some ⟨oc31, od31, .func (PySem.W.fnOf "tried" "tried" (defArgs s_tried) (defBody s_tried) (defScope s_tried) .none kV31 dc31 pm31 an31 cd31 ct31), sl31⟩) (c31 : PySem.W.codeIn K cd31 "tried" = true) (k31 : PySem.W.keepIn K (.ref f31) = true)
    (a32 : PySem.W.nsIn K mainGlobals "layings" = some (some (.ref f32))) (l32 : K.lookup f32 = some ⟨oc32, od32, .func (PySem.W.fnOf "layings" "layings" (defArgs s_layings) (defBody s_layings) (defScope s_layings) .none kV32 dc32 pm32 an32 cd32 ct32), sl32⟩) (c32 : PySem.W.codeIn K cd32 "layings" = true) (k32 : PySem.W.keepIn K (.ref f32) = true)
    (a39 : PySem.W.nsIn K mainGlobals "is_name" = some (some (.ref f39))) (l39 : K.lookup f39 = some ⟨oc39, od39, .func (PySem.W.fnOf "is_name" "is_name" (defArgs s_is_name) (defBody s_is_name) (defScope s_is_name) .none kV39 dc39 pm39 an39 cd39 ct39), sl39⟩) (c39 : PySem.W.codeIn K cd39 "is_name" = true) (k39 : PySem.W.keepIn K (.ref f39) = true)
    (a40 : PySem.W.nsIn K mainGlobals "is_glass" = some (some (.ref f40))) (l40 : K.lookup f40 = some ⟨oc40, od40, .func (PySem.W.fnOf "is_glass" "is_glass" (defArgs s_is_glass) (defBody s_is_glass) (defScope s_is_glass) .none kV40 dc40 pm40 an40 cd40 ct40), sl40⟩) (c40 : PySem.W.codeIn K cd40 "is_glass" = true) (k40 : PySem.W.keepIn K (.ref f40) = true)
    (a14100 : PySem.W.findIn K (.ref k41) "__init__" = some (some (.ref f14100))) (i14100 : PySem.W.isFn K (.ref f14100) = true) (l14100 : K.lookup f14100 = some ⟨oc14100, od14100, .func (PySem.W.fnOf "__init__" "Plate.__init__" (defArgs s_Plate___init__) (defBody s_Plate___init__) (defScope s_Plate___init__) .none kV14100 dc14100 pm14100 an14100 cd14100 ct14100), sl14100⟩) (c14100 : PySem.W.codeIn K cd14100 "Plate.__init__" = true) (k_14100 : PySem.W.keepIn K (.ref f14100) = true)
    (a14101 : PySem.W.findIn K (.ref k41) "stars" = some (some (.ref f14101))) (i14101 : PySem.W.isFn K (.ref f14101) = true) (l14101 : K.lookup f14101 = some ⟨oc14101, od14101, .func (PySem.W.fnOf "stars" "Plate.stars" (defArgs s_Plate_stars) (defBody s_Plate_stars) (defScope s_Plate_stars) .none kV14101 dc14101 pm14101 an14101 cd14101 ct14101), sl14101⟩) (c14101 : PySem.W.codeIn K cd14101 "Plate.stars" = true) (k_14101 : PySem.W.keepIn K (.ref f14101) = true)
    (a43 : PySem.W.nsIn K mainGlobals "_law_draws" = some (some (.ref f43))) (l43 : K.lookup f43 = some ⟨oc43, od43, .func (PySem.W.fnOf "_law_draws" "_law_draws" (defArgs s_l_draws) (defBody s_l_draws) (defScope s_l_draws) .none kV43 dc43 pm43 an43 cd43 ct43), sl43⟩) (c43 : PySem.W.codeIn K cd43 "_law_draws" = true) (k43 : PySem.W.keepIn K (.ref f43) = true)
    (a44 : PySem.W.nsIn K mainGlobals "_law_far" = some (some (.ref f44))) (l44 : K.lookup f44 = some ⟨oc44, od44, .func (PySem.W.fnOf "_law_far" "_law_far" (defArgs s_l_far) (defBody s_l_far) (defScope s_l_far) .none kV44 dc44 pm44 an44 cd44 ct44), sl44⟩) (c44 : PySem.W.codeIn K cd44 "_law_far" = true) (k44 : PySem.W.keepIn K (.ref f44) = true)
    (a45 : PySem.W.nsIn K mainGlobals "_law_turned" = some (some (.ref f45))) (l45 : K.lookup f45 = some ⟨oc45, od45, .func (PySem.W.fnOf "_law_turned" "_law_turned" (defArgs s_l_turned) (defBody s_l_turned) (defScope s_l_turned) .none kV45 dc45 pm45 an45 cd45 ct45), sl45⟩) (c45 : PySem.W.codeIn K cd45 "_law_turned" = true) (k45 : PySem.W.keepIn K (.ref f45) = true)
    (a46 : PySem.W.nsIn K mainGlobals "_law_moved" = some (some (.ref f46))) (l46 : K.lookup f46 = some ⟨oc46, od46, .func (PySem.W.fnOf "_law_moved" "_law_moved" (defArgs s_l_moved) (defBody s_l_moved) (defScope s_l_moved) .none kV46 dc46 pm46 an46 cd46 ct46), sl46⟩) (c46 : PySem.W.codeIn K cd46 "_law_moved" = true) (k46 : PySem.W.keepIn K (.ref f46) = true)
    (a47 : PySem.W.nsIn K mainGlobals "_law_behind" = some (some (.ref f47))) (l47 : K.lookup f47 = some ⟨oc47, od47, .func (PySem.W.fnOf "_law_behind" "_law_behind" (defArgs s_l_behind) (defBody s_l_behind) (defScope s_l_behind) .none kV47 dc47 pm47 an47 cd47 ct47), sl47⟩) (c47 : PySem.W.codeIn K cd47 "_law_behind" = true) (k47 : PySem.W.keepIn K (.ref f47) = true)
    (a48 : PySem.W.nsIn K mainGlobals "_law_back" = some (some (.ref f48))) (l48 : K.lookup f48 = some ⟨oc48, od48, .func (PySem.W.fnOf "_law_back" "_law_back" (defArgs s_l_back) (defBody s_l_back) (defScope s_l_back) .none kV48 dc48 pm48 an48 cd48 ct48), sl48⟩) (c48 : PySem.W.codeIn K cd48 "_law_back" = true) (k48 : PySem.W.keepIn K (.ref f48) = true)
    (a49 : PySem.W.nsIn K mainGlobals "_law_motion" = some (some (.ref f49))) (l49 : K.lookup f49 = some ⟨oc49, od49, .func (PySem.W.fnOf "_law_motion" "_law_motion" (defArgs s_l_motion) (defBody s_l_motion) (defScope s_l_motion) .none kV49 dc49 pm49 an49 cd49 ct49), sl49⟩) (c49 : PySem.W.codeIn K cd49 "_law_motion" = true) (k49 : PySem.W.keepIn K (.ref f49) = true)
    (a50 : PySem.W.nsIn K mainGlobals "_law_same" = some (some (.ref f50))) (l50 : K.lookup f50 = some ⟨oc50, od50, .func (PySem.W.fnOf "_law_same" "_law_same" (defArgs s_l_same) (defBody s_l_same) (defScope s_l_same) .none kV50 dc50 pm50 an50 cd50 ct50), sl50⟩) (c50 : PySem.W.codeIn K cd50 "_law_same" = true) (k50 : PySem.W.keepIn K (.ref f50) = true)
    (a51 : PySem.W.nsIn K mainGlobals "_law_agreeing" = some (some (.ref f51))) (l51 : K.lookup f51 = some ⟨oc51, od51, .func (PySem.W.fnOf "_law_agreeing" "_law_agreeing" (defArgs s_l_agreeing) (defBody s_l_agreeing) (defScope s_l_agreeing) .none kV51 dc51 pm51 an51 cd51 ct51), sl51⟩) (c51 : PySem.W.codeIn K cd51 "_law_agreeing" = true) (k51 : PySem.W.keepIn K (.ref f51) = true)
    (a52 : PySem.W.nsIn K mainGlobals "_law_says" = some (some (.ref f52))) (l52 : K.lookup f52 = some ⟨oc52, od52, .func (PySem.W.fnOf "_law_says" "_law_says" (defArgs s_l_says) (defBody s_l_says) (defScope s_l_says) .none kV52 dc52 pm52 an52 cd52 ct52), sl52⟩) (c52 : PySem.W.codeIn K cd52 "_law_says" = true) (k52 : PySem.W.keepIn K (.ref f52) = true)
    (a53 : PySem.W.nsIn K mainGlobals "_law_heaven" = some (some (.ref f53))) (l53 : K.lookup f53 = some ⟨oc53, od53, .func (PySem.W.fnOf "_law_heaven" "_law_heaven" (defArgs s_l_heaven) (defBody s_l_heaven) (defScope s_l_heaven) .none kV53 dc53 pm53 an53 cd53 ct53), sl53⟩) (c53 : PySem.W.codeIn K cd53 "_law_heaven" = true) (k53 : PySem.W.keepIn K (.ref f53) = true)
    (a54 : PySem.W.nsIn K mainGlobals "_law_names" = some (some (.ref f54))) (l54 : K.lookup f54 = some ⟨oc54, od54, .func (PySem.W.fnOf "_law_names" "_law_names" (defArgs s_l_names) (defBody s_l_names) (defScope s_l_names) .none kV54 dc54 pm54 an54 cd54 ct54), sl54⟩) (c54 : PySem.W.codeIn K cd54 "_law_names" = true) (k54 : PySem.W.keepIn K (.ref f54) = true)
    (a55 : PySem.W.nsIn K mainGlobals "_law_pane" = some (some (.ref f55))) (l55 : K.lookup f55 = some ⟨oc55, od55, .func (PySem.W.fnOf "_law_pane" "_law_pane" (defArgs s_l_pane) (defBody s_l_pane) (defScope s_l_pane) .none kV55 dc55 pm55 an55 cd55 ct55), sl55⟩) (c55 : PySem.W.codeIn K cd55 "_law_pane" = true) (k55 : PySem.W.keepIn K (.ref f55) = true)
    (a56 : PySem.W.nsIn K mainGlobals "_law_home" = some (some (.ref f56))) (l56 : K.lookup f56 = some ⟨oc56, od56, .func (PySem.W.fnOf "_law_home" "_law_home" (defArgs s_l_home) (defBody s_l_home) (defScope s_l_home) .none kV56 dc56 pm56 an56 cd56 ct56), sl56⟩) (c56 : PySem.W.codeIn K cd56 "_law_home" = true) (k56 : PySem.W.keepIn K (.ref f56) = true)
    (a57 : PySem.W.nsIn K mainGlobals "_law_clash_of_two" = some (some (.ref f57))) (l57 : K.lookup f57 = some ⟨oc57, od57, .func (PySem.W.fnOf "_law_clash_of_two" "_law_clash_of_two" (defArgs s_l_clash_of_two) (defBody s_l_clash_of_two) (defScope s_l_clash_of_two) .none kV57 dc57 pm57 an57 cd57 ct57), sl57⟩) (c57 : PySem.W.codeIn K cd57 "_law_clash_of_two" = true) (k57 : PySem.W.keepIn K (.ref f57) = true)
    (a58 : PySem.W.nsIn K mainGlobals "_law_panes" = some (some (.ref f58))) (l58 : K.lookup f58 = some ⟨oc58, od58, .func (PySem.W.fnOf "_law_panes" "_law_panes" (defArgs s_l_panes) (defBody s_l_panes) (defScope s_l_panes) .none kV58 dc58 pm58 an58 cd58 ct58), sl58⟩) (c58 : PySem.W.codeIn K cd58 "_law_panes" = true) (k58 : PySem.W.keepIn K (.ref f58) = true)
    (a59 : PySem.W.nsIn K mainGlobals "_law_plates" = some (some (.ref f59))) (l59 : K.lookup f59 = some ⟨oc59, od59, .func (PySem.W.fnOf "_law_plates" "_law_plates" (defArgs s_l_plates) (defBody s_l_plates) (defScope s_l_plates) .none kV59 dc59 pm59 an59 cd59 ct59), sl59⟩) (c59 : PySem.W.codeIn K cd59 "_law_plates" = true) (k59 : PySem.W.keepIn K (.ref f59) = true)
    (a60 : PySem.W.nsIn K mainGlobals "_law_fitting" = some (some (.ref f60))) (l60 : K.lookup f60 = some ⟨oc60, od60, .func (PySem.W.fnOf "_law_fitting" "_law_fitting" (defArgs s_l_fitting) (defBody s_l_fitting) (defScope s_l_fitting) .none kV60 dc60 pm60 an60 cd60 ct60), sl60⟩) (c60 : PySem.W.codeIn K cd60 "_law_fitting" = true) (k60 : PySem.W.keepIn K (.ref f60) = true)
    (a61 : PySem.W.nsIn K mainGlobals "_law_stars" = some (some (.ref f61))) (l61 : K.lookup f61 = some ⟨oc61, od61, .func (PySem.W.fnOf "_law_stars" "_law_stars" (defArgs s_l_stars) (defBody s_l_stars) (defScope s_l_stars) .none kV61 dc61 pm61 an61 cd61 ct61), sl61⟩) (c61 : PySem.W.codeIn K cd61 "_law_stars" = true) (k61 : PySem.W.keepIn K (.ref f61) = true)
    (a62 : PySem.W.nsIn K mainGlobals "_law_met" = some (some (.ref f62))) (l62 : K.lookup f62 = some ⟨oc62, od62, .func (PySem.W.fnOf "_law_met" "_law_met" (defArgs s_l_met) (defBody s_l_met) (defScope s_l_met) .none kV62 dc62 pm62 an62 cd62 ct62), sl62⟩) (c62 : PySem.W.codeIn K cd62 "_law_met" = true) (k62 : PySem.W.keepIn K (.ref f62) = true)
    (a63 : PySem.W.nsIn K mainGlobals "_law_unlike_rows" = some (some (.ref f63))) (l63 : K.lookup f63 = some ⟨oc63, od63, .func (PySem.W.fnOf "_law_unlike_rows" "_law_unlike_rows" (defArgs s_l_unlike_rows) (defBody s_l_unlike_rows) (defScope s_l_unlike_rows) .none kV63 dc63 pm63 an63 cd63 ct63), sl63⟩) (c63 : PySem.W.codeIn K cd63 "_law_unlike_rows" = true) (k63 : PySem.W.keepIn K (.ref f63) = true)
    (a64 : PySem.W.nsIn K mainGlobals "_law_all_layings" = some (some (.ref f64))) (l64 : K.lookup f64 = some ⟨oc64, od64, .func (PySem.W.fnOf "_law_all_layings" "_law_all_layings" (defArgs s_l_all_layings) (defBody s_l_all_layings) (defScope s_l_all_layings) .none kV64 dc64 pm64 an64 cd64 ct64), sl64⟩) (c64 : PySem.W.codeIn K cd64 "_law_all_layings" = true) (k64 : PySem.W.keepIn K (.ref f64) = true)
    (a65 : PySem.W.nsIn K mainGlobals "_law_two" = some (some (.ref f65))) (l65 : K.lookup f65 = some ⟨oc65, od65, .func (PySem.W.fnOf "_law_two" "_law_two" (defArgs s_l_two) (defBody s_l_two) (defScope s_l_two) .none kV65 dc65 pm65 an65 cd65 ct65), sl65⟩) (c65 : PySem.W.codeIn K cd65 "_law_two" = true) (k65 : PySem.W.keepIn K (.ref f65) = true)
    (a66 : PySem.W.nsIn K mainGlobals "_law_kept" = some (some (.ref f66))) (l66 : K.lookup f66 = some ⟨oc66, od66, .func (PySem.W.fnOf "_law_kept" "_law_kept" (defArgs s_l_kept) (defBody s_l_kept) (defScope s_l_kept) .none kV66 dc66 pm66 an66 cd66 ct66), sl66⟩) (c66 : PySem.W.codeIn K cd66 "_law_kept" = true) (k66 : PySem.W.keepIn K (.ref f66) = true)
    (a67 : PySem.W.nsIn K mainGlobals "_law_star_changed" = some (some (.ref f67))) (l67 : K.lookup f67 = some ⟨oc67, od67, .func (PySem.W.fnOf "_law_star_changed" "_law_star_changed" (defArgs s_l_star_changed) (defBody s_l_star_changed) (defScope s_l_star_changed) .none kV67 dc67 pm67 an67 cd67 ct67), sl67⟩) (c67 : PySem.W.codeIn K cd67 "_law_star_changed" = true) (k67 : PySem.W.keepIn K (.ref f67) = true)
    (a68 : PySem.W.nsIn K mainGlobals "law" = some (some (.ref f68))) (l68 : K.lookup f68 = some ⟨oc68, od68, .func (PySem.W.fnOf "law" "law" (defArgs s_law) (defBody s_law) (defScope s_law) .none kV68 dc68 pm68 an68 cd68 ct68), sl68⟩) (c68 : PySem.W.codeIn K cd68 "law" = true) (k68 : PySem.W.keepIn K (.ref f68) = true)
    (oc_n : PySem.W.specialIn K (.builtin "object.__class__") "__get__" = some (some (.builtin "getset_descriptor.__get__"))) (oc_t : PySem.W.takesIn K (.builtin "object.__class__") = some true)
    (ka1 : PySem.W.nsIn K mainGlobals "GlassError" = some (some (.ref k1))) (kx1 : PySem.W.excIn K k1 veB "ValueError.__new__" = true) (kk1 : PySem.W.keepIn K (.ref k1) = true) (kt1 : PySem.W.typeIn K (.ref k1) = some (.type "type"))
    (khg1 : PySem.W.findIn K (.ref k1) "__getattribute__" = some (some (.builtin "BaseException.__getattribute__")))
    (khk1 : PySem.W.findIn K (.ref k1) "__getattr__" = some none)
    (khs1 : PySem.W.subIn K (.ref k1) (.type "BaseException") = some true)
    (khd1 : PySem.W.hasDictIn K k1 = true)
    (kha1 : PySem.W.findIn K (.ref k1) "__class__" = some (some (.builtin "object.__class__")))
    (khm1 : PySem.W.mroIn K k1 (.type "object") = some true)
    (ka2 : PySem.W.nsIn K mainGlobals "BadName" = some (some (.ref k2))) (kx2 : PySem.W.excIn K k2 veB "ValueError.__new__" = true) (kk2 : PySem.W.keepIn K (.ref k2) = true) (kt2 : PySem.W.typeIn K (.ref k2) = some (.type "type"))
    (khg2 : PySem.W.findIn K (.ref k2) "__getattribute__" = some (some (.builtin "BaseException.__getattribute__")))
    (khk2 : PySem.W.findIn K (.ref k2) "__getattr__" = some none)
    (khs2 : PySem.W.subIn K (.ref k2) (.type "BaseException") = some true)
    (khd2 : PySem.W.hasDictIn K k2 = true)
    (kha2 : PySem.W.findIn K (.ref k2) "__class__" = some (some (.builtin "object.__class__")))
    (khm2 : PySem.W.mroIn K k2 (.type "object") = some true)
    (ka3 : PySem.W.nsIn K mainGlobals "BadPlate" = some (some (.ref k3))) (kx3 : PySem.W.excIn K k3 veB "ValueError.__new__" = true) (kk3 : PySem.W.keepIn K (.ref k3) = true) (kt3 : PySem.W.typeIn K (.ref k3) = some (.type "type"))
    (khg3 : PySem.W.findIn K (.ref k3) "__getattribute__" = some (some (.builtin "BaseException.__getattribute__")))
    (khk3 : PySem.W.findIn K (.ref k3) "__getattr__" = some none)
    (khs3 : PySem.W.subIn K (.ref k3) (.type "BaseException") = some true)
    (khd3 : PySem.W.hasDictIn K k3 = true)
    (kha3 : PySem.W.findIn K (.ref k3) "__class__" = some (some (.builtin "object.__class__")))
    (khm3 : PySem.W.mroIn K k3 (.type "object") = some true)
    (ka4 : PySem.W.nsIn K mainGlobals "BadCount" = some (some (.ref k4))) (kx4 : PySem.W.excIn K k4 veB "ValueError.__new__" = true) (kk4 : PySem.W.keepIn K (.ref k4) = true) (kt4 : PySem.W.typeIn K (.ref k4) = some (.type "type"))
    (khg4 : PySem.W.findIn K (.ref k4) "__getattribute__" = some (some (.builtin "BaseException.__getattribute__")))
    (khk4 : PySem.W.findIn K (.ref k4) "__getattr__" = some none)
    (khs4 : PySem.W.subIn K (.ref k4) (.type "BaseException") = some true)
    (khd4 : PySem.W.hasDictIn K k4 = true)
    (kha4 : PySem.W.findIn K (.ref k4) "__class__" = some (some (.builtin "object.__class__")))
    (khm4 : PySem.W.mroIn K k4 (.type "object") = some true)
    (ka5 : PySem.W.nsIn K mainGlobals "Denied" = some (some (.ref k5))) (kx5 : PySem.W.excIn K k5 veB "ValueError.__new__" = true) (kk5 : PySem.W.keepIn K (.ref k5) = true) (kt5 : PySem.W.typeIn K (.ref k5) = some (.type "type"))
    (khg5 : PySem.W.findIn K (.ref k5) "__getattribute__" = some (some (.builtin "BaseException.__getattribute__")))
    (khk5 : PySem.W.findIn K (.ref k5) "__getattr__" = some none)
    (khs5 : PySem.W.subIn K (.ref k5) (.type "BaseException") = some true)
    (khd5 : PySem.W.hasDictIn K k5 = true)
    (kha5 : PySem.W.findIn K (.ref k5) "__class__" = some (some (.builtin "object.__class__")))
    (khm5 : PySem.W.mroIn K k5 (.type "object") = some true)
    (kh_5_1 : PySem.W.exmOne K (.ref k5) (.ref k1) = some true)
    (kh_4_1 : PySem.W.exmOne K (.ref k4) (.ref k1) = some true)
    (kh_3_1 : PySem.W.exmOne K (.ref k3) (.ref k1) = some true)
    (kh_2_1 : PySem.W.exmOne K (.ref k2) (.ref k1) = some true)
    (kh_1_1 : PySem.W.exmOne K (.ref k1) (.ref k1) = some true)
    (ki_5_BadCount : PySem.W.kitOne K (.ref k5) (.ref k4) = some false)
    (ki_4_BadCount : PySem.W.kitOne K (.ref k4) (.ref k4) = some true)
    (ki_3_BadCount : PySem.W.kitOne K (.ref k3) (.ref k4) = some false)
    (ki_2_BadCount : PySem.W.kitOne K (.ref k2) (.ref k4) = some false)
    (ki_1_BadCount : PySem.W.kitOne K (.ref k1) (.ref k4) = some false)
    (ki_5_ValueError : PySem.W.kitOne K (.ref k5) (.type "ValueError") = some true)
    (ki_4_ValueError : PySem.W.kitOne K (.ref k4) (.type "ValueError") = some true)
    (ki_3_ValueError : PySem.W.kitOne K (.ref k3) (.type "ValueError") = some true)
    (ki_2_ValueError : PySem.W.kitOne K (.ref k2) (.type "ValueError") = some true)
    (ki_1_ValueError : PySem.W.kitOne K (.ref k1) (.type "ValueError") = some true)
    (z_ValueError : PySem.W.nsIn K mainGlobals "ValueError" = some none)
    (z_bool : PySem.W.nsIn K mainGlobals "bool" = some none)
    (z_int : PySem.W.nsIn K mainGlobals "int" = some none)
    (z_isinstance : PySem.W.nsIn K mainGlobals "isinstance" = some none)
    (z_len : PySem.W.nsIn K mainGlobals "len" = some none)
    (z_list : PySem.W.nsIn K mainGlobals "list" = some none)
    (z_max : PySem.W.nsIn K mainGlobals "max" = some none)
    (z_min : PySem.W.nsIn K mainGlobals "min" = some none)
    (z_range : PySem.W.nsIn K mainGlobals "range" = some none)
    (z_sorted : PySem.W.nsIn K mainGlobals "sorted" = some none)
    (z_str : PySem.W.nsIn K mainGlobals "str" = some none)
    (z_tuple : PySem.W.nsIn K mainGlobals "tuple" = some none)
    (y_BRIGHT_MOST : PySem.W.nsIn K mainGlobals "BRIGHT_MOST" = some (some (.int 9 t_BRIGHT_MOST)))
    (y_LETTERS : PySem.W.nsIn K mainGlobals "LETTERS" = some (some (.str "abcdefghijklmnopqrstuvwxyz" t_LETTERS)))
    (y_MOST : PySem.W.nsIn K mainGlobals "MOST" = some (some (.int 9 t_MOST)))
    (y_NAME_MOST : PySem.W.nsIn K mainGlobals "NAME_MOST" = some (some (.int 8 t_NAME_MOST)))
    (y_SIDE_MOST : PySem.W.nsIn K mainGlobals "SIDE_MOST" = some (some (.int 8 t_SIDE_MOST)))
    (y_STARS_MOST : PySem.W.nsIn K mainGlobals "STARS_MOST" = some (some (.int 8 t_STARS_MOST)))
    (y_UNSEEN : PySem.W.nsIn K mainGlobals "UNSEEN" = some (some (.ref a_UNSEEN))) (x_UNSEEN : K.lookup a_UNSEEN = some ⟨.type "tuple", od_UNSEEN, .seq #[.str "unseen" t_UNSEEN_0, .int 0 t_UNSEEN_1] n_UNSEEN, sl_UNSEEN⟩) :
    ∃ fdl : FuncData, (∀ (s : Shared) (v : Value), BindsTo s fdl ⟨[v], []⟩ [("_law_script", v)]) ∧ ∀ base : Heap, K.In base → base.Ns mainGlobals mg → FnOk P w K mg base (L2.CX P w) 8 fl fdl ["_law_script"] (SpP K (clOf K) p_law) := by
  have e : f68 = fl := by
    have z := (PySem.W.mg_of X G a68).symm.trans hfa
    injection z with z
    injection z
  subst e
  have T : Tx K mg (clOf K) (fun i => if i = 7 then f7 else if i = 8 then f8 else if i = 9 then f9 else if i = 10 then f10 else if i = 11 then f11 else if i = 12 then f12 else if i = 13 then f13 else if i = 17 then f17 else if i = 18 then f18 else if i = 19 then f19 else if i = 20 then f20 else if i = 21 then f21 else if i = 23 then f23 else if i = 14104 then f14104 else if i = 14102 then f14102 else if i = 14103 then f14103 else if i = 24 then f24 else if i = 25 then f25 else if i = 26 then f26 else if i = 27 then f27 else if i = 29 then f29 else if i = 30 then f30 else if i = 31 then f31 else if i = 32 then f32 else if i = 39 then f39 else if i = 40 then f40 else if i = 14100 then f14100 else if i = 14101 then f14101 else if i = 43 then f43 else if i = 44 then f44 else if i = 45 then f45 else if i = 46 then f46 else if i = 47 then f47 else if i = 48 then f48 else if i = 49 then f49 else if i = 50 then f50 else if i = 51 then f51 else if i = 52 then f52 else if i = 53 then f53 else if i = 54 then f54 else if i = 55 then f55 else if i = 56 then f56 else if i = 57 then f57 else if i = 58 then f58 else if i = 59 then f59 else if i = 60 then f60 else if i = 61 then f61 else if i = 62 then f62 else if i = 63 then f63 else if i = 64 then f64 else if i = 65 then f65 else if i = 66 then f66 else if i = 67 then f67 else if i = 68 then f68 else 0) (fun i => if i = 7 then PySem.W.fnOf "turned" "turned" (defArgs s_turned) (defBody s_turned) (defScope s_turned) .none kV7 dc7 pm7 an7 cd7 ct7 else if i = 8 then PySem.W.fnOf "moved" "moved" (defArgs s_moved) (defBody s_moved) (defScope s_moved) .none kV8 dc8 pm8 an8 cd8 ct8 else if i = 9 then PySem.W.fnOf "turn_behind" "turn_behind" (defArgs s_turn_behind) (defBody s_turn_behind) (defScope s_turn_behind) .none kV9 dc9 pm9 an9 cd9 ct9 else if i = 10 then PySem.W.fnOf "behind" "behind" (defArgs s_behind) (defBody s_behind) (defScope s_behind) .none kV10 dc10 pm10 an10 cd10 ct10 else if i = 11 then PySem.W.fnOf "turn_back" "turn_back" (defArgs s_turn_back) (defBody s_turn_back) (defScope s_turn_back) .none kV11 dc11 pm11 an11 cd11 ct11 else if i = 12 then PySem.W.fnOf "back" "back" (defArgs s_back) (defBody s_back) (defScope s_back) .none kV12 dc12 pm12 an12 cd12 ct12 else if i = 13 then PySem.W.fnOf "leading" "leading" (defArgs s_leading) (defBody s_leading) (defScope s_leading) .none kV13 dc13 pm13 an13 cd13 ct13 else if i = 17 then PySem.W.fnOf "leaves" "leaves" (defArgs s_leaves) (defBody s_leaves) (defScope s_leaves) .none kV17 dc17 pm17 an17 cd17 ct17 else if i = 18 then PySem.W.fnOf "up_to" "up_to" (defArgs s_up_to) (defBody s_up_to) (defScope s_up_to) .none kV18 dc18 pm18 an18 cd18 ct18 else if i = 19 then PySem.W.fnOf "agree" "agree" (defArgs s_agree) (defBody s_agree) (defScope s_agree) .none kV19 dc19 pm19 an19 cd19 ct19 else if i = 20 then PySem.W.fnOf "joined" "joined" (defArgs s_joined) (defBody s_joined) (defScope s_joined) .none kV20 dc20 pm20 an20 cd20 ct20 else if i = 21 then PySem.W.fnOf "pool" "pool" (defArgs s_pool) (defBody s_pool) (defScope s_pool) .none kV21 dc21 pm21 an21 cd21 ct21 else if i = 23 then PySem.W.fnOf "name_of" "name_of" (defArgs s_name_of) (defBody s_name_of) (defScope s_name_of) .none kV23 dc23 pm23 an23 cd23 ct23 else if i = 14104 then PySem.W.fnOf "places" "Plate.places" (defArgs s_Plate_places) (defBody s_Plate_places) (defScope s_Plate_places) .none kV14104 dc14104 pm14104 an14104 cd14104 ct14104 else if i = 14102 then PySem.W.fnOf "holds" "Plate.holds" (defArgs s_Plate_holds) (defBody s_Plate_holds) (defScope s_Plate_holds) .none kV14102 dc14102 pm14102 an14102 cd14102 ct14102 else if i = 14103 then PySem.W.fnOf "says" "Plate.says" (defArgs s_Plate_says) (defBody s_Plate_says) (defScope s_Plate_says) .none kV14103 dc14103 pm14103 an14103 cd14103 ct14103 else if i = 24 then PySem.W.fnOf "unlike_two" "unlike_two" (defArgs s_unlike_two) (defBody s_unlike_two) (defScope s_unlike_two) .none kV24 dc24 pm24 an24 cd24 ct24 else if i = 25 then PySem.W.fnOf "unlike" "unlike" (defArgs s_unlike) (defBody s_unlike) (defScope s_unlike) .none kV25 dc25 pm25 an25 cd25 ct25 else if i = 26 then PySem.W.fnOf "chart" "chart" (defArgs s_chart) (defBody s_chart) (defScope s_chart) .none kV26 dc26 pm26 an26 cd26 ct26 else if i = 27 then PySem.W.fnOf "face" "face" (defArgs s_face) (defBody s_face) (defScope s_face) .none kV27 dc27 pm27 an27 cd27 ct27 else if i = 29 then PySem.W.fnOf "led" "led" (defArgs s_led) (defBody s_led) (defScope s_led) .none kV29 dc29 pm29 an29 cd29 ct29 else if i = 30 then PySem.W.fnOf "stars_met" "stars_met" (defArgs s_stars_met) (defBody s_stars_met) (defScope s_stars_met) .none kV30 dc30 pm30 an30 cd30 ct30 else if i = 31 then PySem.W.fnOf "tried" "tried" (defArgs s_tried) (defBody s_tried) (defScope s_tried) .none kV31 dc31 pm31 an31 cd31 ct31 else if i = 32 then PySem.W.fnOf "layings" "layings" (defArgs s_layings) (defBody s_layings) (defScope s_layings) .none kV32 dc32 pm32 an32 cd32 ct32 else if i = 39 then PySem.W.fnOf "is_name" "is_name" (defArgs s_is_name) (defBody s_is_name) (defScope s_is_name) .none kV39 dc39 pm39 an39 cd39 ct39 else if i = 40 then PySem.W.fnOf "is_glass" "is_glass" (defArgs s_is_glass) (defBody s_is_glass) (defScope s_is_glass) .none kV40 dc40 pm40 an40 cd40 ct40 else if i = 14100 then PySem.W.fnOf "__init__" "Plate.__init__" (defArgs s_Plate___init__) (defBody s_Plate___init__) (defScope s_Plate___init__) .none kV14100 dc14100 pm14100 an14100 cd14100 ct14100 else if i = 14101 then PySem.W.fnOf "stars" "Plate.stars" (defArgs s_Plate_stars) (defBody s_Plate_stars) (defScope s_Plate_stars) .none kV14101 dc14101 pm14101 an14101 cd14101 ct14101 else if i = 43 then PySem.W.fnOf "_law_draws" "_law_draws" (defArgs s_l_draws) (defBody s_l_draws) (defScope s_l_draws) .none kV43 dc43 pm43 an43 cd43 ct43 else if i = 44 then PySem.W.fnOf "_law_far" "_law_far" (defArgs s_l_far) (defBody s_l_far) (defScope s_l_far) .none kV44 dc44 pm44 an44 cd44 ct44 else if i = 45 then PySem.W.fnOf "_law_turned" "_law_turned" (defArgs s_l_turned) (defBody s_l_turned) (defScope s_l_turned) .none kV45 dc45 pm45 an45 cd45 ct45 else if i = 46 then PySem.W.fnOf "_law_moved" "_law_moved" (defArgs s_l_moved) (defBody s_l_moved) (defScope s_l_moved) .none kV46 dc46 pm46 an46 cd46 ct46 else if i = 47 then PySem.W.fnOf "_law_behind" "_law_behind" (defArgs s_l_behind) (defBody s_l_behind) (defScope s_l_behind) .none kV47 dc47 pm47 an47 cd47 ct47 else if i = 48 then PySem.W.fnOf "_law_back" "_law_back" (defArgs s_l_back) (defBody s_l_back) (defScope s_l_back) .none kV48 dc48 pm48 an48 cd48 ct48 else if i = 49 then PySem.W.fnOf "_law_motion" "_law_motion" (defArgs s_l_motion) (defBody s_l_motion) (defScope s_l_motion) .none kV49 dc49 pm49 an49 cd49 ct49 else if i = 50 then PySem.W.fnOf "_law_same" "_law_same" (defArgs s_l_same) (defBody s_l_same) (defScope s_l_same) .none kV50 dc50 pm50 an50 cd50 ct50 else if i = 51 then PySem.W.fnOf "_law_agreeing" "_law_agreeing" (defArgs s_l_agreeing) (defBody s_l_agreeing) (defScope s_l_agreeing) .none kV51 dc51 pm51 an51 cd51 ct51 else if i = 52 then PySem.W.fnOf "_law_says" "_law_says" (defArgs s_l_says) (defBody s_l_says) (defScope s_l_says) .none kV52 dc52 pm52 an52 cd52 ct52 else if i = 53 then PySem.W.fnOf "_law_heaven" "_law_heaven" (defArgs s_l_heaven) (defBody s_l_heaven) (defScope s_l_heaven) .none kV53 dc53 pm53 an53 cd53 ct53 else if i = 54 then PySem.W.fnOf "_law_names" "_law_names" (defArgs s_l_names) (defBody s_l_names) (defScope s_l_names) .none kV54 dc54 pm54 an54 cd54 ct54 else if i = 55 then PySem.W.fnOf "_law_pane" "_law_pane" (defArgs s_l_pane) (defBody s_l_pane) (defScope s_l_pane) .none kV55 dc55 pm55 an55 cd55 ct55 else if i = 56 then PySem.W.fnOf "_law_home" "_law_home" (defArgs s_l_home) (defBody s_l_home) (defScope s_l_home) .none kV56 dc56 pm56 an56 cd56 ct56 else if i = 57 then PySem.W.fnOf "_law_clash_of_two" "_law_clash_of_two" (defArgs s_l_clash_of_two) (defBody s_l_clash_of_two) (defScope s_l_clash_of_two) .none kV57 dc57 pm57 an57 cd57 ct57 else if i = 58 then PySem.W.fnOf "_law_panes" "_law_panes" (defArgs s_l_panes) (defBody s_l_panes) (defScope s_l_panes) .none kV58 dc58 pm58 an58 cd58 ct58 else if i = 59 then PySem.W.fnOf "_law_plates" "_law_plates" (defArgs s_l_plates) (defBody s_l_plates) (defScope s_l_plates) .none kV59 dc59 pm59 an59 cd59 ct59 else if i = 60 then PySem.W.fnOf "_law_fitting" "_law_fitting" (defArgs s_l_fitting) (defBody s_l_fitting) (defScope s_l_fitting) .none kV60 dc60 pm60 an60 cd60 ct60 else if i = 61 then PySem.W.fnOf "_law_stars" "_law_stars" (defArgs s_l_stars) (defBody s_l_stars) (defScope s_l_stars) .none kV61 dc61 pm61 an61 cd61 ct61 else if i = 62 then PySem.W.fnOf "_law_met" "_law_met" (defArgs s_l_met) (defBody s_l_met) (defScope s_l_met) .none kV62 dc62 pm62 an62 cd62 ct62 else if i = 63 then PySem.W.fnOf "_law_unlike_rows" "_law_unlike_rows" (defArgs s_l_unlike_rows) (defBody s_l_unlike_rows) (defScope s_l_unlike_rows) .none kV63 dc63 pm63 an63 cd63 ct63 else if i = 64 then PySem.W.fnOf "_law_all_layings" "_law_all_layings" (defArgs s_l_all_layings) (defBody s_l_all_layings) (defScope s_l_all_layings) .none kV64 dc64 pm64 an64 cd64 ct64 else if i = 65 then PySem.W.fnOf "_law_two" "_law_two" (defArgs s_l_two) (defBody s_l_two) (defScope s_l_two) .none kV65 dc65 pm65 an65 cd65 ct65 else if i = 66 then PySem.W.fnOf "_law_kept" "_law_kept" (defArgs s_l_kept) (defBody s_l_kept) (defScope s_l_kept) .none kV66 dc66 pm66 an66 cd66 ct66 else if i = 67 then PySem.W.fnOf "_law_star_changed" "_law_star_changed" (defArgs s_l_star_changed) (defBody s_l_star_changed) (defScope s_l_star_changed) .none kV67 dc67 pm67 an67 cd67 ct67 else if i = 68 then PySem.W.fnOf "law" "law" (defArgs s_law) (defBody s_law) (defScope s_law) .none kV68 dc68 pm68 an68 cd68 ct68 else (PySem.W.fnOf "law" "law" (defArgs s_law) (defBody s_law) (defScope s_law) .none kV68 dc68 pm68 an68 cd68 ct68)) (fun i => if i = 41 then k41 else if i = 1 then k1 else if i = 2 then k2 else if i = 3 then k3 else if i = 4 then k4 else if i = 5 then k5 else 0) := {
    c_Plate := ⟨clOf_at ka41, PySem.W.mg_of X G ka41, ⟨kpg41, khd41, kpo41, ksa41⟩⟩,
    k_Plate := ⟨kmk41, a14100, i14100, kkp41⟩,
    f_name := (fldOk_cons (clOf_at ka41) ⟨kpg41, khd41, kpo41, ksa41⟩ kn41_name fldOk_nil),
    f_width := (fldOk_cons (clOf_at ka41) ⟨kpg41, khd41, kpo41, ksa41⟩ kn41_width fldOk_nil),
    f_height := (fldOk_cons (clOf_at ka41) ⟨kpg41, khd41, kpo41, ksa41⟩ kn41_height fldOk_nil),
    f_limit := (fldOk_cons (clOf_at ka41) ⟨kpg41, khd41, kpo41, ksa41⟩ kn41_limit fldOk_nil),
    f_lights := (fldOk_cons (clOf_at ka41) ⟨kpg41, khd41, kpo41, ksa41⟩ kn41_lights fldOk_nil),
    d7 := ⟨fun_mk (st := s_turned) l7 c7 k7, PySem.W.mg_of X G a7, (fun_mk (st := s_turned) l7 c7 k7).binds (ps := ["turn", "place"]) (fun _ _ _ _ _ _ us hl => match us, hl with | [_, _], _ => rfl)⟩,
    d8 := ⟨fun_mk (st := s_moved) l8 c8 k8, PySem.W.mg_of X G a8, (fun_mk (st := s_moved) l8 c8 k8).binds (ps := ["motion", "place"]) (fun _ _ _ _ _ _ us hl => match us, hl with | [_, _], _ => rfl)⟩,
    d9 := ⟨fun_mk (st := s_turn_behind) l9 c9 k9, PySem.W.mg_of X G a9, (fun_mk (st := s_turn_behind) l9 c9 k9).binds (ps := ["first", "second"]) (fun _ _ _ _ _ _ us hl => match us, hl with | [_, _], _ => rfl)⟩,
    d10 := ⟨fun_mk (st := s_behind) l10 c10 k10, PySem.W.mg_of X G a10, (fun_mk (st := s_behind) l10 c10 k10).binds (ps := ["first", "second"]) (fun _ _ _ _ _ _ us hl => match us, hl with | [_, _], _ => rfl)⟩,
    d11 := ⟨fun_mk (st := s_turn_back) l11 c11 k11, PySem.W.mg_of X G a11, (fun_mk (st := s_turn_back) l11 c11 k11).binds (ps := ["turn"]) (fun _ _ _ _ _ _ us hl => match us, hl with | [_], _ => rfl)⟩,
    d12 := ⟨fun_mk (st := s_back) l12 c12 k12, PySem.W.mg_of X G a12, (fun_mk (st := s_back) l12 c12 k12).binds (ps := ["motion"]) (fun _ _ _ _ _ _ us hl => match us, hl with | [_], _ => rfl)⟩,
    d13 := ⟨fun_mk (st := s_leading) l13 c13 k13, PySem.W.mg_of X G a13, (fun_mk (st := s_leading) l13 c13 k13).binds (ps := ["turn", "place", "goal"]) (fun _ _ _ _ _ _ us hl => match us, hl with | [_, _, _], _ => rfl)⟩,
    d17 := ⟨fun_mk (st := s_leaves) l17 c17 k17, PySem.W.mg_of X G a17, (fun_mk (st := s_leaves) l17 c17 k17).binds (ps := ["saying"]) (fun _ _ _ _ _ _ us hl => match us, hl with | [_], _ => rfl)⟩,
    d18 := ⟨fun_mk (st := s_up_to) l18 c18 k18, PySem.W.mg_of X G a18, (fun_mk (st := s_up_to) l18 c18 k18).binds (ps := ["greatest"]) (fun _ _ _ _ _ _ us hl => match us, hl with | [_], _ => rfl)⟩,
    d19 := ⟨fun_mk (st := s_agree) l19 c19 k19, PySem.W.mg_of X G a19, (fun_mk (st := s_agree) l19 c19 k19).binds (ps := ["one", "other"]) (fun _ _ _ _ _ _ us hl => match us, hl with | [_, _], _ => rfl)⟩,
    d20 := ⟨fun_mk (st := s_joined) l20 c20 k20, PySem.W.mg_of X G a20, (fun_mk (st := s_joined) l20 c20 k20).binds (ps := ["one", "other"]) (fun _ _ _ _ _ _ us hl => match us, hl with | [_, _], _ => rfl)⟩,
    d21 := ⟨fun_mk (st := s_pool) l21 c21 k21, PySem.W.mg_of X G a21, (fun_mk (st := s_pool) l21 c21 k21).binds (ps := ["sayings"]) (fun _ _ _ _ _ _ us hl => match us, hl with | [_], _ => rfl)⟩,
    d23 := ⟨fun_mk (st := s_name_of) l23 c23 k23, PySem.W.mg_of X G a23, (fun_mk (st := s_name_of) l23 c23 k23).binds (ps := ["entry"]) (fun _ _ _ _ _ _ us hl => match us, hl with | [_], _ => rfl)⟩,
    d14104 := ⟨fun_mk (st := s_Plate_places) l14104 c14104 k_14104, ⟨a14104, i14104, k_14104⟩, (fun_mk (st := s_Plate_places) l14104 c14104 k_14104).binds (ps := ["self"]) (fun _ _ _ _ _ _ us hl => match us, hl with | [_], _ => rfl)⟩,
    d14102 := ⟨fun_mk (st := s_Plate_holds) l14102 c14102 k_14102, ⟨a14102, i14102, k_14102⟩, (fun_mk (st := s_Plate_holds) l14102 c14102 k_14102).binds (ps := ["self", "place"]) (fun _ _ _ _ _ _ us hl => match us, hl with | [_, _], _ => rfl)⟩,
    d14103 := ⟨fun_mk (st := s_Plate_says) l14103 c14103 k_14103, ⟨a14103, i14103, k_14103⟩, (fun_mk (st := s_Plate_says) l14103 c14103 k_14103).binds (ps := ["self", "place"]) (fun _ _ _ _ _ _ us hl => match us, hl with | [_, _], _ => rfl)⟩,
    d24 := ⟨fun_mk (st := s_unlike_two) l24 c24 k24, PySem.W.mg_of X G a24, (fun_mk (st := s_unlike_two) l24 c24 k24).binds (ps := ["here", "there", "motion"]) (fun _ _ _ _ _ _ us hl => match us, hl with | [_, _, _], _ => rfl)⟩,
    d25 := ⟨fun_mk (st := s_unlike) l25 c25 k25, PySem.W.mg_of X G a25, (fun_mk (st := s_unlike) l25 c25 k25).binds (ps := ["laid", "others"]) (fun _ _ _ _ _ _ us hl => match us, hl with | [_, _], _ => rfl)⟩,
    d26 := ⟨fun_mk (st := s_chart) l26 c26 k26, PySem.W.mg_of X G a26, (fun_mk (st := s_chart) l26 c26 k26).binds (ps := ["laid"]) (fun _ _ _ _ _ _ us hl => match us, hl with | [_], _ => rfl)⟩,
    d27 := ⟨fun_mk (st := s_face) l27 c27 k27, PySem.W.mg_of X G a27, (fun_mk (st := s_face) l27 c27 k27).binds (ps := ["laid"]) (fun _ _ _ _ _ _ us hl => match us, hl with | [_], _ => rfl)⟩,
    d29 := ⟨fun_mk (st := s_led) l29 c29 k29, PySem.W.mg_of X G a29, (fun_mk (st := s_led) l29 c29 k29).binds (ps := ["laid", "motion"]) (fun _ _ _ _ _ _ us hl => match us, hl with | [_, _], _ => rfl)⟩,
    d30 := ⟨fun_mk (st := s_stars_met) l30 c30 k30, PySem.W.mg_of X G a30, (fun_mk (st := s_stars_met) l30 c30 k30).binds (ps := ["ones", "others", "motion"]) (fun _ _ _ _ _ _ us hl => match us, hl with | [_, _, _], _ => rfl)⟩,
    d31 := ⟨fun_mk (st := s_tried) l31 c31 k31, PySem.W.mg_of X G a31, (fun_mk (st := s_tried) l31 c31 k31).binds (ps := ["ones", "others"]) (fun _ _ _ _ _ _ us hl => match us, hl with | [_, _], _ => rfl)⟩,
    d32 := ⟨fun_mk (st := s_layings) l32 c32 k32, PySem.W.mg_of X G a32, (fun_mk (st := s_layings) l32 c32 k32).binds (ps := ["ones", "others", "least"]) (fun _ _ _ _ _ _ us hl => match us, hl with | [_, _, _], _ => rfl)⟩,
    d39 := ⟨fun_mk (st := s_is_name) l39 c39 k39, PySem.W.mg_of X G a39, (fun_mk (st := s_is_name) l39 c39 k39).binds (ps := ["name"]) (fun _ _ _ _ _ _ us hl => match us, hl with | [_], _ => rfl)⟩,
    d40 := ⟨fun_mk (st := s_is_glass) l40 c40 k40, PySem.W.mg_of X G a40, (fun_mk (st := s_is_glass) l40 c40 k40).binds (ps := ["width", "height", "limit", "stars"]) (fun _ _ _ _ _ _ us hl => match us, hl with | [_, _, _, _], _ => rfl)⟩,
    d14100 := ⟨fun_mk (st := s_Plate___init__) l14100 c14100 k_14100, ⟨a14100, i14100, k_14100⟩, (fun_mk (st := s_Plate___init__) l14100 c14100 k_14100).binds (ps := ["self", "name", "width", "height", "limit", "stars"]) (fun _ _ _ _ _ _ us hl => match us, hl with | [_, _, _, _, _, _], _ => rfl)⟩,
    d14101 := ⟨fun_mk (st := s_Plate_stars) l14101 c14101 k_14101, ⟨a14101, i14101, k_14101⟩, (fun_mk (st := s_Plate_stars) l14101 c14101 k_14101).binds (ps := ["self"]) (fun _ _ _ _ _ _ us hl => match us, hl with | [_], _ => rfl)⟩,
    d43 := ⟨fun_mk (st := s_l_draws) l43 c43 k43, PySem.W.mg_of X G a43, (fun_mk (st := s_l_draws) l43 c43 k43).binds (ps := ["_law_script", "_law_at", "_law_many"]) (fun _ _ _ _ _ _ us hl => match us, hl with | [_, _, _], _ => rfl)⟩,
    d44 := ⟨fun_mk (st := s_l_far) l44 c44 k44, PySem.W.mg_of X G a44, (fun_mk (st := s_l_far) l44 c44 k44).binds (ps := ["_law_one", "_law_two_here"]) (fun _ _ _ _ _ _ us hl => match us, hl with | [_, _], _ => rfl)⟩,
    d45 := ⟨fun_mk (st := s_l_turned) l45 c45 k45, PySem.W.mg_of X G a45, (fun_mk (st := s_l_turned) l45 c45 k45).binds (ps := ["_law_turn", "_law_x", "_law_y"]) (fun _ _ _ _ _ _ us hl => match us, hl with | [_, _, _], _ => rfl)⟩,
    d46 := ⟨fun_mk (st := s_l_moved) l46 c46 k46, PySem.W.mg_of X G a46, (fun_mk (st := s_l_moved) l46 c46 k46).binds (ps := ["_law_motion_here", "_law_place"]) (fun _ _ _ _ _ _ us hl => match us, hl with | [_, _], _ => rfl)⟩,
    d47 := ⟨fun_mk (st := s_l_behind) l47 c47 k47, PySem.W.mg_of X G a47, (fun_mk (st := s_l_behind) l47 c47 k47).binds (ps := ["_law_first", "_law_second"]) (fun _ _ _ _ _ _ us hl => match us, hl with | [_, _], _ => rfl)⟩,
    d48 := ⟨fun_mk (st := s_l_back) l48 c48 k48, PySem.W.mg_of X G a48, (fun_mk (st := s_l_back) l48 c48 k48).binds (ps := ["_law_motion_here"]) (fun _ _ _ _ _ _ us hl => match us, hl with | [_], _ => rfl)⟩,
    d49 := ⟨fun_mk (st := s_l_motion) l49 c49 k49, PySem.W.mg_of X G a49, (fun_mk (st := s_l_motion) l49 c49 k49).binds (ps := ["_law_d", "_law_at"]) (fun _ _ _ _ _ _ us hl => match us, hl with | [_, _], _ => rfl)⟩,
    d50 := ⟨fun_mk (st := s_l_same) l50 c50 k50, PySem.W.mg_of X G a50, (fun_mk (st := s_l_same) l50 c50 k50).binds (ps := ["_law_found", "_law_due"]) (fun _ _ _ _ _ _ us hl => match us, hl with | [_, _], _ => rfl)⟩,
    d51 := ⟨fun_mk (st := s_l_agreeing) l51 c51 k51, PySem.W.mg_of X G a51, (fun_mk (st := s_l_agreeing) l51 c51 k51).binds (ps := ["_law_one", "_law_other"]) (fun _ _ _ _ _ _ us hl => match us, hl with | [_, _], _ => rfl)⟩,
    d52 := ⟨fun_mk (st := s_l_says) l52 c52 k52, PySem.W.mg_of X G a52, (fun_mk (st := s_l_says) l52 c52 k52).binds (ps := ["_law_pane_here", "_law_place"]) (fun _ _ _ _ _ _ us hl => match us, hl with | [_, _], _ => rfl)⟩,
    d53 := ⟨fun_mk (st := s_l_heaven) l53 c53 k53, PySem.W.mg_of X G a53, (fun_mk (st := s_l_heaven) l53 c53 k53).binds (ps := ["_law_script"]) (fun _ _ _ _ _ _ us hl => match us, hl with | [_], _ => rfl)⟩,
    d54 := ⟨fun_mk (st := s_l_names) l54 c54 k54, PySem.W.mg_of X G a54, (fun_mk (st := s_l_names) l54 c54 k54).binds (ps := ["_law_d"]) (fun _ _ _ _ _ _ us hl => match us, hl with | [_], _ => rfl)⟩,
    d55 := ⟨fun_mk (st := s_l_pane) l55 c55 k55, PySem.W.mg_of X G a55, (fun_mk (st := s_l_pane) l55 c55 k55).binds (ps := ["_law_name", "_law_home_here", "_law_heaven_here", "_law_d"]) (fun _ _ _ _ _ _ us hl => match us, hl with | [_, _, _, _], _ => rfl)⟩,
    d56 := ⟨fun_mk (st := s_l_home) l56 c56 k56, PySem.W.mg_of X G a56, (fun_mk (st := s_l_home) l56 c56 k56).binds (ps := ["_law_d"]) (fun _ _ _ _ _ _ us hl => match us, hl with | [_], _ => rfl)⟩,
    d57 := ⟨fun_mk (st := s_l_clash_of_two) l57 c57 k57, PySem.W.mg_of X G a57, (fun_mk (st := s_l_clash_of_two) l57 c57 k57).binds (ps := ["_law_here", "_law_there", "_law_away"]) (fun _ _ _ _ _ _ us hl => match us, hl with | [_, _, _], _ => rfl)⟩,
    d58 := ⟨fun_mk (st := s_l_panes) l58 c58 k58, PySem.W.mg_of X G a58, (fun_mk (st := s_l_panes) l58 c58 k58).binds (ps := ["_law_script", "_law_at", "_law_names_here", "_law_heaven_here", "_law_whole"]) (fun _ _ _ _ _ _ us hl => match us, hl with | [_, _, _, _, _], _ => rfl)⟩,
    d59 := ⟨fun_mk (st := s_l_plates) l59 c59 k59, PySem.W.mg_of X G a59, (fun_mk (st := s_l_plates) l59 c59 k59).binds (ps := ["_law_rows"]) (fun _ _ _ _ _ _ us hl => match us, hl with | [_], _ => rfl)⟩,
    d60 := ⟨fun_mk (st := s_l_fitting) l60 c60 k60, PySem.W.mg_of X G a60, (fun_mk (st := s_l_fitting) l60 c60 k60).binds (ps := ["_law_rows"]) (fun _ _ _ _ _ _ us hl => match us, hl with | [_], _ => rfl)⟩,
    d61 := ⟨fun_mk (st := s_l_stars) l61 c61 k61, PySem.W.mg_of X G a61, (fun_mk (st := s_l_stars) l61 c61 k61).binds (ps := ["_law_rows"]) (fun _ _ _ _ _ _ us hl => match us, hl with | [_], _ => rfl)⟩,
    d62 := ⟨fun_mk (st := s_l_met) l62 c62 k62, PySem.W.mg_of X G a62, (fun_mk (st := s_l_met) l62 c62 k62).binds (ps := ["_law_ones", "_law_others", "_law_motion_here"]) (fun _ _ _ _ _ _ us hl => match us, hl with | [_, _, _], _ => rfl)⟩,
    d63 := ⟨fun_mk (st := s_l_unlike_rows) l63 c63 k63, PySem.W.mg_of X G a63, (fun_mk (st := s_l_unlike_rows) l63 c63 k63).binds (ps := ["_law_ones", "_law_others", "_law_motion_here"]) (fun _ _ _ _ _ _ us hl => match us, hl with | [_, _, _], _ => rfl)⟩,
    d64 := ⟨fun_mk (st := s_l_all_layings) l64 c64 k64, PySem.W.mg_of X G a64, (fun_mk (st := s_l_all_layings) l64 c64 k64).binds (ps := ["_law_ones", "_law_others", "_law_least"]) (fun _ _ _ _ _ _ us hl => match us, hl with | [_, _, _], _ => rfl)⟩,
    d65 := ⟨fun_mk (st := s_l_two) l65 c65 k65, PySem.W.mg_of X G a65, (fun_mk (st := s_l_two) l65 c65 k65).binds (ps := ["_law_script"]) (fun _ _ _ _ _ _ us hl => match us, hl with | [_], _ => rfl)⟩,
    d66 := ⟨fun_mk (st := s_l_kept) l66 c66 k66, PySem.W.mg_of X G a66, (fun_mk (st := s_l_kept) l66 c66 k66).binds (ps := ["_law_handed", "_law_rows"]) (fun _ _ _ _ _ _ us hl => match us, hl with | [_, _], _ => rfl)⟩,
    d67 := ⟨fun_mk (st := s_l_star_changed) l67 c67 k67, PySem.W.mg_of X G a67, (fun_mk (st := s_l_star_changed) l67 c67 k67).binds (ps := ["_law_rows", "_law_k"]) (fun _ _ _ _ _ _ us hl => match us, hl with | [_, _], _ => rfl)⟩,
    d68 := ⟨fun_mk (st := s_law) l68 c68 k68, PySem.W.mg_of X G a68, (fun_mk (st := s_law) l68 c68 k68).binds (ps := ["_law_script"]) (fun _ _ _ _ _ _ us hl => match us, hl with | [_], _ => rfl)⟩,
    c_GlassError := ⟨clOf_at ka1, PySem.W.mg_of X G ka1, kx1, kk1, khs1, kt1⟩,
    c_BadName := ⟨clOf_at ka2, PySem.W.mg_of X G ka2, kx2, kk2, khs2, kt2⟩,
    c_BadPlate := ⟨clOf_at ka3, PySem.W.mg_of X G ka3, kx3, kk3, khs3, kt3⟩,
    c_BadCount := ⟨clOf_at ka4, PySem.W.mg_of X G ka4, kx4, kk4, khs4, kt4⟩,
    c_Denied := ⟨clOf_at ka5, PySem.W.mg_of X G ka5, kx5, kk5, khs5, kt5⟩,
    h_GlassError := (hits_cons (clOf_at ka1) kh_1_1 (hits_cons (clOf_at ka2) kh_2_1 (hits_cons (clOf_at ka3) kh_3_1 (hits_cons (clOf_at ka4) kh_4_1 (hits_cons (clOf_at ka5) kh_5_1 hits_nil))))),
    i_BadCount := (isis_cons (clOf_at ka1) ⟨khg1, khk1, khs1, khd1, kha1, oc_n, oc_t, khm1⟩ ki_1_BadCount (isis_cons (clOf_at ka2) ⟨khg2, khk2, khs2, khd2, kha2, oc_n, oc_t, khm2⟩ ki_2_BadCount (isis_cons (clOf_at ka3) ⟨khg3, khk3, khs3, khd3, kha3, oc_n, oc_t, khm3⟩ ki_3_BadCount (isis_cons (clOf_at ka4) ⟨khg4, khk4, khs4, khd4, kha4, oc_n, oc_t, khm4⟩ ki_4_BadCount (isis_cons (clOf_at ka5) ⟨khg5, khk5, khs5, khd5, kha5, oc_n, oc_t, khm5⟩ ki_5_BadCount isis_nil))))),
    i_ValueError := (isis_cons (clOf_at ka1) ⟨khg1, khk1, khs1, khd1, kha1, oc_n, oc_t, khm1⟩ ki_1_ValueError (isis_cons (clOf_at ka2) ⟨khg2, khk2, khs2, khd2, kha2, oc_n, oc_t, khm2⟩ ki_2_ValueError (isis_cons (clOf_at ka3) ⟨khg3, khk3, khs3, khd3, kha3, oc_n, oc_t, khm3⟩ ki_3_ValueError (isis_cons (clOf_at ka4) ⟨khg4, khk4, khs4, khd4, kha4, oc_n, oc_t, khm4⟩ ki_4_ValueError (isis_cons (clOf_at ka5) ⟨khg5, khk5, khs5, khd5, kha5, oc_n, oc_t, khm5⟩ ki_5_ValueError isis_nil))))),
    b_ValueError := PySem.W.mg_none_of X G z_ValueError,
    b_bool := PySem.W.mg_none_of X G z_bool,
    b_int := PySem.W.mg_none_of X G z_int,
    b_isinstance := PySem.W.mg_none_of X G z_isinstance,
    b_len := PySem.W.mg_none_of X G z_len,
    b_list := PySem.W.mg_none_of X G z_list,
    b_max := PySem.W.mg_none_of X G z_max,
    b_min := PySem.W.mg_none_of X G z_min,
    b_range := PySem.W.mg_none_of X G z_range,
    b_sorted := PySem.W.mg_none_of X G z_sorted,
    b_str := PySem.W.mg_none_of X G z_str,
    b_tuple := PySem.W.mg_none_of X G z_tuple,
    g_BRIGHT_MOST := ⟨.int 9, _, PySem.W.mg_of X G y_BRIGHT_MOST, ⟨_, rfl⟩, fun _ => rfl⟩,
    g_LETTERS := ⟨.str "abcdefghijklmnopqrstuvwxyz", _, PySem.W.mg_of X G y_LETTERS, ⟨_, rfl⟩, fun _ => rfl⟩,
    g_MOST := ⟨.int 9, _, PySem.W.mg_of X G y_MOST, ⟨_, rfl⟩, fun _ => rfl⟩,
    g_NAME_MOST := ⟨.int 8, _, PySem.W.mg_of X G y_NAME_MOST, ⟨_, rfl⟩, fun _ => rfl⟩,
    g_SIDE_MOST := ⟨.int 8, _, PySem.W.mg_of X G y_SIDE_MOST, ⟨_, rfl⟩, fun _ => rfl⟩,
    g_STARS_MOST := ⟨.int 8, _, PySem.W.mg_of X G y_STARS_MOST, ⟨_, rfl⟩, fun _ => rfl⟩,
    g_UNSEEN := ⟨.ref a_UNSEEN, _, PySem.W.mg_of X G y_UNSEEN, rfl, fun F => ⟨a_UNSEEN, [.str "unseen", .int 0], rfl, .inr ⟨_, _, _, x_UNSEEN, rfl, rfl, by show 2 ≤ sizeLine; decide, (.cons ⟨_, rfl⟩ (.cons ⟨_, rfl⟩ .nil))⟩, ⟨_, _, rfl, rfl, ⟨_, _, rfl, rfl, rfl⟩⟩⟩⟩ }
  exact ⟨PySem.W.fnOf "law" "law" (defArgs s_law) (defBody s_law) (defScope s_law) .none kV68 dc68 pm68 an68 cd68 ct68, fun s v => .of_eq rfl, fun base _ _ => ok_law T⟩
/-! ### operations, where they hold -/
abbrev iW (i : Int) : W := .da (.int i)
theorem tup_lst (S : Sto) (ds : List D) : tupW S (.da (.lst ds)) = none := rfl
theorem add_ii (i j : Int) (S : Sto) : addD (.da (.int i)) (.da (.int j)) S = .ok (.da (.int (i + j))) S := rfl
theorem addC_ii (i j : Int) (S : Sto) : addC (.da (.int i)) (.da (.int j)) S = .ok (.da (.int (i + j))) S := rfl
theorem add_ss (x y : Str) (S : Sto) (h : x.length + y.length ≤ sizeLine) : addD (.da (.str x)) (.da (.str y)) S = .ok (.da (.str (x ++ y))) S := by
  unfold addD addF addV
  simp only [ifc_pos h]
theorem lst_dats (a : List D) : datC (.lst (a.map .da)) = some (.lst a) := by simp only [datC, dats_da, Option.map]
theorem add_ll (a b : List D) (S : Sto) (h : a.length + b.length ≤ sizeLine) : addD (.da (.lst a)) (.da (.lst b)) S = .ok (.da (.lst (a ++ b))) S := by
  unfold addD addF addV
  simp only [tupW, catC, lstW, List.length_map, ifc_pos h, mkD, ← List.map_append, lst_dats]
theorem add_tt (x y : D) (a b : List D) (S : Sto) (h : a.length + b.length + 2 ≤ sizeLine) : addD (.da (.tup (x :: a))) (.da (.tup (y :: b))) S = .ok (.da (.tup (x :: a ++ y :: b))) S := by
  unfold addD addF addV
  simp only [tupW, List.map_cons, dats, dats_da]
  rw [ifc_pos ⟨rfl, rfl, by simp only [List.length_cons, List.length_map]; omega⟩]
theorem sub_ii (i j : Int) (S : Sto) : vl2 subW (.da (.int i)) (.da (.int j)) S = .ok (.da (.int (i - j))) S := rfl
theorem neg_i (i : Int) (S : Sto) : vl1 negW (.da (.int i)) S = .ok (.da (.int (-i))) S := rfl
theorem lt_ii (i j : Int) (S : Sto) : vl2 ltW (.da (.int i)) (.da (.int j)) S = .ok (.da (.bl (dec (i < j)))) S := rfl
theorem le_ii (i j : Int) (S : Sto) : vl2 leW (.da (.int i)) (.da (.int j)) S = .ok (.da (.bl (dec (i ≤ j)))) S := rfl
theorem gt_ii (i j : Int) (S : Sto) : vl2 gtW (.da (.int i)) (.da (.int j)) S = .ok (.da (.bl (dec (j < i)))) S := rfl
theorem ge_ii (i j : Int) (S : Sto) : vl2 geW (.da (.int i)) (.da (.int j)) S = .ok (.da (.bl (dec (j ≤ i)))) S := rfl
theorem mod_ok (i j : Int) (S : Sto) (h : 0 < j) : vl2 modW (.da (.int i)) (.da (.int j)) S = .ok (.da (.int (i % j))) S := by
  unfold vl2 modW wIg
  simp only [ifc_pos h, lift]
theorem div_ok (i j : Int) (S : Sto) (h : 0 < j) (h2 : j < 1073741824) : vl2 divW (.da (.int i)) (.da (.int j)) S = .ok (.da (.int (i / j))) S := by
  unfold vl2 divW wIg
  simp only [ifc_pos (And.intro h h2), lift]
theorem mul_r (i j : Int) (S : Sto) (h : -1000000000 < j) (h2 : j < 1000000000) : vl2 mulW (.da (.int i)) (.da (.int j)) S = .ok (.da (.int (i * j))) S := by
  have q : (-(2 ^ 64) < i ∧ i < 2 ^ 64) ∨ (-(2 ^ 64) < j ∧ j < 2 ^ 64) := .inr ⟨Int.lt_trans (by decide) h, Int.lt_trans h2 (by decide)⟩
  unfold vl2 mulW wIg
  simp only [ifc_pos q, lift]
theorem mul_l (i j : Int) (S : Sto) (h : -1000000000 < i) (h2 : i < 1000000000) : vl2 mulW (.da (.int i)) (.da (.int j)) S = .ok (.da (.int (i * j))) S := by
  have q : (-(2 ^ 64) < i ∧ i < 2 ^ 64) ∨ (-(2 ^ 64) < j ∧ j < 2 ^ 64) := .inl ⟨Int.lt_trans (by decide) h, Int.lt_trans h2 (by decide)⟩
  unfold vl2 mulW wIg
  simp only [ifc_pos q, lift]
theorem pow_ok (i j : Int) (S : Sto) (h : 0 ≤ j) (h2 : j ≤ 1000000) (h3 : i.natAbs < 2 ^ 64) : vl2 powW (.da (.int i)) (.da (.int j)) S = .ok (.da (.int (i ^ j.toNat))) S := by
  unfold vl2 powW wIg
  simp only [ifc_pos (And.intro h (And.intro h2 h3)), lift]
theorem eq_ii (i j : Int) (S : Sto) : vl2 eqW (.da (.int i)) (.da (.int j)) S = .ok (.da (.bl (dec (i = j)))) S := rfl
theorem eq_ss (i j : Str) (S : Sto) : vl2 eqW (.da (.str i)) (.da (.str j)) S = .ok (.da (.bl (dec (i = j)))) S := rfl
theorem eq_bb (i j : Bool) (S : Sto) : vl2 eqW (.da (.bl i)) (.da (.bl j)) S = .ok (.da (.bl (dec (i = j)))) S := rfl
theorem ne_ii (i j : Int) (S : Sto) : vl2 neW (.da (.int i)) (.da (.int j)) S = .ok (.da (.bl (!dec (i = j)))) S := rfl
theorem ne_ss (i j : Str) (S : Sto) : vl2 neW (.da (.str i)) (.da (.str j)) S = .ok (.da (.bl (!dec (i = j)))) S := rfl
theorem ne_bb (i j : Bool) (S : Sto) : vl2 neW (.da (.bl i)) (.da (.bl j)) S = .ok (.da (.bl (!dec (i = j)))) S := rfl
theorem is_non (x : W) (S : Sto) : vl2 isNW x (.da .non) S = lift ((isN x).map fun b => .da (.bl b)) S := rfl
theorem isnot_non (x : W) (S : Sto) : vl2 notNW x (.da .non) S = lift ((isN x).map fun b => .da (.bl (!b))) S := rfl
theorem min_ii (i j : Int) (S : Sto) : vlN min2W [.da (.int i), .da (.int j)] S = .ok (.da (.int (if j < i then j else i))) S := rfl
theorem max_ii (i j : Int) (S : Sto) : vlN max2W [.da (.int i), .da (.int j)] S = .ok (.da (.int (if j > i then j else i))) S := rfl
theorem int_i (i : Int) (S : Sto) : vlN intW [.da (.int i)] S = .ok (.da (.int i)) S := rfl
theorem int_b (b : Bool) (S : Sto) : vlN intW [.da (.bl b)] S = .ok (.da (.int (if b then 1 else 0))) S := rfl
theorem len_c (n : Nat) (S : Sto) : vlN lenW [.lo n] S = lift (lenW [.lo n] S) S := rfl
theorem rng1_ok (j : Int) (h : 0 ≤ j) (h2 : j ≤ 1000000) : rng1 [.da (.int j)] = some (0, j.toNat) := by
  exact ifc_pos ⟨by omega, by omega⟩
theorem rng2_ok (i j : Int) (h1 : -1000000 ≤ i) (h2 : i ≤ 1000000) (h3 : -1000000 ≤ j) (h4 : j ≤ 1000000) : rng2 [.da (.int i), .da (.int j)] = some (i, (j - i).toNat) := by
  exact ifc_pos ⟨by omega, by omega, by omega, by omega⟩
theorem ix_ok {x : W} {ws : List W} {S : Sto} (k : Int) (h : seqW S x = some ws) : vl2 ixW x (.da (.int k)) S = lift (atI ws k) S := by
  unfold vl2 ixW
  simp only [h]
theorem ix_tup_ (ds : List D) (k : Int) (S : Sto) : vl2 ixW (.da (.tup ds)) (.da (.int k)) S = lift (atI (ds.map W.da) k) S := ix_ok k rfl
theorem ix_wt_ (ds : List D) (k : Int) (S : Sto) : vl2 ixW (.da (.wt ds)) (.da (.int k)) S = lift (atI (ds.map W.da) k) S := ix_ok k rfl
theorem ix_lst_ (ds : List D) (k : Int) (S : Sto) : vl2 ixW (.da (.lst ds)) (.da (.int k)) S = lift (atI (ds.map W.da) k) S := ix_ok k rfl
theorem ix_scr_ (ds : List D) (k : Int) (S : Sto) : vl2 ixW (.da (.scr ds)) (.da (.int k)) S = lift (atI (ds.map W.da) k) S := ix_ok k rfl
theorem len_tup (ds : List D) (S : Sto) : vlN lenW [.da (.tup ds)] S = .ok (.da (.int ds.length)) S := by simp [vlN, lenW, seqW, lift]
theorem len_wt (ds : List D) (S : Sto) : vlN lenW [.da (.wt ds)] S = .ok (.da (.int ds.length)) S := by simp [vlN, lenW, seqW, lift]
theorem len_lst (ds : List D) (S : Sto) : vlN lenW [.da (.lst ds)] S = .ok (.da (.int ds.length)) S := by simp [vlN, lenW, seqW, lift]
theorem len_scr (ds : List D) (S : Sto) : vlN lenW [.da (.scr ds)] S = .ok (.da (.int ds.length)) S := by simp [vlN, lenW, seqW, lift]
theorem len_cell (n : Nat) (ws : List W) (S : Sto) (h : S[n]? = some (.lst ws)) : vlN lenW [.lo n] S = .ok (.da (.int ws.length)) S := by simp [vlN, lenW, seqW, lift, h]
theorem sz_lt {n : Nat} (h : n < 100000) : n < sizeLine := Nat.lt_of_lt_of_le h (by decide)
theorem sz_le {n : Nat} (h : n ≤ 100000) : n ≤ sizeLine := Nat.le_trans h (by decide)
theorem atI_lit {a : Type} (xs : List a) (k : Nat) : atI xs (k : Int) = xs[k]? := by
  unfold atI ixN
  rw [if_pos (Int.natCast_nonneg k)]
  by_cases h : k < xs.length
  · rw [if_pos (by omega)]; simp
  · rw [if_neg (by omega)]; simp; omega
theorem atI_get {a : Type} (xs : List a) (i : Int) (h : 0 ≤ i) (h2 : i < xs.length) : atI xs i = some (xs[i.toNat]'(by omega)) := by
  unfold atI ixN
  rw [if_pos h, if_pos h2]
  simp only [Option.bind_some, Option.bind]
  exact List.getElem?_eq_getElem _

theorem nc_0 : ((0 : Nat) : Int) = 0 := rfl
theorem nc_1 : ((1 : Nat) : Int) = 1 := rfl
theorem nc_2 : ((2 : Nat) : Int) = 2 := rfl
theorem nc_3 : ((3 : Nat) : Int) = 3 := rfl
theorem nc_4 : ((4 : Nat) : Int) = 4 := rfl
theorem nc_5 : ((5 : Nat) : Int) = 5 := rfl
theorem nc_6 : ((6 : Nat) : Int) = 6 := rfl
theorem nc_7 : ((7 : Nat) : Int) = 7 := rfl
theorem nc_8 : ((8 : Nat) : Int) = 8 := rfl
theorem nc_9 : ((9 : Nat) : Int) = 9 := rfl
theorem nc_10 : ((10 : Nat) : Int) = 10 := rfl
theorem nc_11 : ((11 : Nat) : Int) = 11 := rfl
theorem nc_12 : ((12 : Nat) : Int) = 12 := rfl
theorem nc_13 : ((13 : Nat) : Int) = 13 := rfl
theorem nc_14 : ((14 : Nat) : Int) = 14 := rfl
theorem nc_15 : ((15 : Nat) : Int) = 15 := rfl
theorem nc_16 : ((16 : Nat) : Int) = 16 := rfl
theorem nc_17 : ((17 : Nat) : Int) = 17 := rfl
theorem nc_18 : ((18 : Nat) : Int) = 18 := rfl
theorem nc_19 : ((19 : Nat) : Int) = 19 := rfl
theorem nc_20 : ((20 : Nat) : Int) = 20 := rfl
theorem nc_21 : ((21 : Nat) : Int) = 21 := rfl
theorem nc_22 : ((22 : Nat) : Int) = 22 := rfl
theorem nc_23 : ((23 : Nat) : Int) = 23 := rfl
theorem nc_24 : ((24 : Nat) : Int) = 24 := rfl
theorem nc_25 : ((25 : Nat) : Int) = 25 := rfl
theorem nc_26 : ((26 : Nat) : Int) = 26 := rfl
theorem nc_27 : ((27 : Nat) : Int) = 27 := rfl
theorem nc_28 : ((28 : Nat) : Int) = 28 := rfl
theorem nc_29 : ((29 : Nat) : Int) = 29 := rfl
theorem sz0 : 0 ≤ sizeLine := by decide
theorem sz1 : 1 ≤ sizeLine := by decide
theorem sz2 : 2 ≤ sizeLine := by decide
theorem sz3 : 3 ≤ sizeLine := by decide
theorem sz4 : 4 ≤ sizeLine := by decide
theorem sz5 : 5 ≤ sizeLine := by decide
theorem sz6 : 6 ≤ sizeLine := by decide
theorem sz7 : 7 ≤ sizeLine := by decide
theorem sz8 : 8 ≤ sizeLine := by decide
theorem sz9 : 9 ≤ sizeLine := by decide
theorem sz10 : 10 ≤ sizeLine := by decide
theorem sz11 : 11 ≤ sizeLine := by decide
theorem sz12 : 12 ≤ sizeLine := by decide
theorem sz13 : 13 ≤ sizeLine := by decide
theorem sz14 : 14 ≤ sizeLine := by decide
theorem sz15 : 15 ≤ sizeLine := by decide
theorem sz16 : 16 ≤ sizeLine := by decide
theorem sz17 : 17 ≤ sizeLine := by decide
theorem sz18 : 18 ≤ sizeLine := by decide
theorem sz19 : 19 ≤ sizeLine := by decide
theorem sz20 : 20 ≤ sizeLine := by decide
theorem sz21 : 21 ≤ sizeLine := by decide
theorem sz22 : 22 ≤ sizeLine := by decide
theorem sz23 : 23 ≤ sizeLine := by decide
theorem sz24 : 24 ≤ sizeLine := by decide
theorem sz25 : 25 ≤ sizeLine := by decide
theorem sz26 : 26 ≤ sizeLine := by decide
theorem sz27 : 27 ≤ sizeLine := by decide
theorem sz28 : 28 ≤ sizeLine := by decide
theorem sz29 : 29 ≤ sizeLine := by decide
theorem szl0 : 0 < sizeLine := by decide
theorem szl1 : 1 < sizeLine := by decide
theorem szl2 : 2 < sizeLine := by decide
theorem szl3 : 3 < sizeLine := by decide
theorem szl4 : 4 < sizeLine := by decide
theorem szl5 : 5 < sizeLine := by decide
theorem szl6 : 6 < sizeLine := by decide
theorem szl7 : 7 < sizeLine := by decide
theorem szl8 : 8 < sizeLine := by decide
theorem szl9 : 9 < sizeLine := by decide
theorem szl10 : 10 < sizeLine := by decide
theorem szl11 : 11 < sizeLine := by decide
theorem szl12 : 12 < sizeLine := by decide
theorem szl13 : 13 < sizeLine := by decide
theorem szl14 : 14 < sizeLine := by decide
theorem szl15 : 15 < sizeLine := by decide
theorem szl16 : 16 < sizeLine := by decide
theorem szl17 : 17 < sizeLine := by decide
theorem szl18 : 18 < sizeLine := by decide
theorem szl19 : 19 < sizeLine := by decide
theorem szl20 : 20 < sizeLine := by decide
theorem szl21 : 21 < sizeLine := by decide
theorem szl22 : 22 < sizeLine := by decide
theorem szl23 : 23 < sizeLine := by decide
theorem szl24 : 24 < sizeLine := by decide
theorem szl25 : 25 < sizeLine := by decide
theorem szl26 : 26 < sizeLine := by decide
theorem szl27 : 27 < sizeLine := by decide
theorem szl28 : 28 < sizeLine := by decide
theorem szl29 : 29 < sizeLine := by decide
theorem at_0 {a : Type} (x0 : a) (xs : List a) : atI (x0 :: xs) 0 = some x0 := (atI_lit (x0 :: xs) 0).trans rfl
theorem at_1 {a : Type} (x0 x1 : a) (xs : List a) : atI (x0 :: x1 :: xs) 1 = some x1 := (atI_lit (x0 :: x1 :: xs) 1).trans rfl
theorem at_2 {a : Type} (x0 x1 x2 : a) (xs : List a) : atI (x0 :: x1 :: x2 :: xs) 2 = some x2 := (atI_lit (x0 :: x1 :: x2 :: xs) 2).trans rfl
theorem at_3 {a : Type} (x0 x1 x2 x3 : a) (xs : List a) : atI (x0 :: x1 :: x2 :: x3 :: xs) 3 = some x3 := (atI_lit (x0 :: x1 :: x2 :: x3 :: xs) 3).trans rfl
theorem at_4 {a : Type} (x0 x1 x2 x3 x4 : a) (xs : List a) : atI (x0 :: x1 :: x2 :: x3 :: x4 :: xs) 4 = some x4 := (atI_lit (x0 :: x1 :: x2 :: x3 :: x4 :: xs) 4).trans rfl
theorem at_5 {a : Type} (x0 x1 x2 x3 x4 x5 : a) (xs : List a) : atI (x0 :: x1 :: x2 :: x3 :: x4 :: x5 :: xs) 5 = some x5 := (atI_lit (x0 :: x1 :: x2 :: x3 :: x4 :: x5 :: xs) 5).trans rfl
theorem at_6 {a : Type} (x0 x1 x2 x3 x4 x5 x6 : a) (xs : List a) : atI (x0 :: x1 :: x2 :: x3 :: x4 :: x5 :: x6 :: xs) 6 = some x6 := (atI_lit (x0 :: x1 :: x2 :: x3 :: x4 :: x5 :: x6 :: xs) 6).trans rfl
theorem at_7 {a : Type} (x0 x1 x2 x3 x4 x5 x6 x7 : a) (xs : List a) : atI (x0 :: x1 :: x2 :: x3 :: x4 :: x5 :: x6 :: x7 :: xs) 7 = some x7 := (atI_lit (x0 :: x1 :: x2 :: x3 :: x4 :: x5 :: x6 :: x7 :: xs) 7).trans rfl
theorem at_8 {a : Type} (x0 x1 x2 x3 x4 x5 x6 x7 x8 : a) (xs : List a) : atI (x0 :: x1 :: x2 :: x3 :: x4 :: x5 :: x6 :: x7 :: x8 :: xs) 8 = some x8 := (atI_lit (x0 :: x1 :: x2 :: x3 :: x4 :: x5 :: x6 :: x7 :: x8 :: xs) 8).trans rfl
theorem at_9 {a : Type} (x0 x1 x2 x3 x4 x5 x6 x7 x8 x9 : a) (xs : List a) : atI (x0 :: x1 :: x2 :: x3 :: x4 :: x5 :: x6 :: x7 :: x8 :: x9 :: xs) 9 = some x9 := (atI_lit (x0 :: x1 :: x2 :: x3 :: x4 :: x5 :: x6 :: x7 :: x8 :: x9 :: xs) 9).trans rfl
theorem at_10 {a : Type} (x0 x1 x2 x3 x4 x5 x6 x7 x8 x9 x10 : a) (xs : List a) : atI (x0 :: x1 :: x2 :: x3 :: x4 :: x5 :: x6 :: x7 :: x8 :: x9 :: x10 :: xs) 10 = some x10 := (atI_lit (x0 :: x1 :: x2 :: x3 :: x4 :: x5 :: x6 :: x7 :: x8 :: x9 :: x10 :: xs) 10).trans rfl
theorem at_11 {a : Type} (x0 x1 x2 x3 x4 x5 x6 x7 x8 x9 x10 x11 : a) (xs : List a) : atI (x0 :: x1 :: x2 :: x3 :: x4 :: x5 :: x6 :: x7 :: x8 :: x9 :: x10 :: x11 :: xs) 11 = some x11 := (atI_lit (x0 :: x1 :: x2 :: x3 :: x4 :: x5 :: x6 :: x7 :: x8 :: x9 :: x10 :: x11 :: xs) 11).trans rfl
theorem at_12 {a : Type} (x0 x1 x2 x3 x4 x5 x6 x7 x8 x9 x10 x11 x12 : a) (xs : List a) : atI (x0 :: x1 :: x2 :: x3 :: x4 :: x5 :: x6 :: x7 :: x8 :: x9 :: x10 :: x11 :: x12 :: xs) 12 = some x12 := (atI_lit (x0 :: x1 :: x2 :: x3 :: x4 :: x5 :: x6 :: x7 :: x8 :: x9 :: x10 :: x11 :: x12 :: xs) 12).trans rfl
theorem at_13 {a : Type} (x0 x1 x2 x3 x4 x5 x6 x7 x8 x9 x10 x11 x12 x13 : a) (xs : List a) : atI (x0 :: x1 :: x2 :: x3 :: x4 :: x5 :: x6 :: x7 :: x8 :: x9 :: x10 :: x11 :: x12 :: x13 :: xs) 13 = some x13 := (atI_lit (x0 :: x1 :: x2 :: x3 :: x4 :: x5 :: x6 :: x7 :: x8 :: x9 :: x10 :: x11 :: x12 :: x13 :: xs) 13).trans rfl
theorem at_14 {a : Type} (x0 x1 x2 x3 x4 x5 x6 x7 x8 x9 x10 x11 x12 x13 x14 : a) (xs : List a) : atI (x0 :: x1 :: x2 :: x3 :: x4 :: x5 :: x6 :: x7 :: x8 :: x9 :: x10 :: x11 :: x12 :: x13 :: x14 :: xs) 14 = some x14 := (atI_lit (x0 :: x1 :: x2 :: x3 :: x4 :: x5 :: x6 :: x7 :: x8 :: x9 :: x10 :: x11 :: x12 :: x13 :: x14 :: xs) 14).trans rfl
theorem at_15 {a : Type} (x0 x1 x2 x3 x4 x5 x6 x7 x8 x9 x10 x11 x12 x13 x14 x15 : a) (xs : List a) : atI (x0 :: x1 :: x2 :: x3 :: x4 :: x5 :: x6 :: x7 :: x8 :: x9 :: x10 :: x11 :: x12 :: x13 :: x14 :: x15 :: xs) 15 = some x15 := (atI_lit (x0 :: x1 :: x2 :: x3 :: x4 :: x5 :: x6 :: x7 :: x8 :: x9 :: x10 :: x11 :: x12 :: x13 :: x14 :: x15 :: xs) 15).trans rfl
theorem at_16 {a : Type} (x0 x1 x2 x3 x4 x5 x6 x7 x8 x9 x10 x11 x12 x13 x14 x15 x16 : a) (xs : List a) : atI (x0 :: x1 :: x2 :: x3 :: x4 :: x5 :: x6 :: x7 :: x8 :: x9 :: x10 :: x11 :: x12 :: x13 :: x14 :: x15 :: x16 :: xs) 16 = some x16 := (atI_lit (x0 :: x1 :: x2 :: x3 :: x4 :: x5 :: x6 :: x7 :: x8 :: x9 :: x10 :: x11 :: x12 :: x13 :: x14 :: x15 :: x16 :: xs) 16).trans rfl
theorem at_17 {a : Type} (x0 x1 x2 x3 x4 x5 x6 x7 x8 x9 x10 x11 x12 x13 x14 x15 x16 x17 : a) (xs : List a) : atI (x0 :: x1 :: x2 :: x3 :: x4 :: x5 :: x6 :: x7 :: x8 :: x9 :: x10 :: x11 :: x12 :: x13 :: x14 :: x15 :: x16 :: x17 :: xs) 17 = some x17 := (atI_lit (x0 :: x1 :: x2 :: x3 :: x4 :: x5 :: x6 :: x7 :: x8 :: x9 :: x10 :: x11 :: x12 :: x13 :: x14 :: x15 :: x16 :: x17 :: xs) 17).trans rfl
theorem at_18 {a : Type} (x0 x1 x2 x3 x4 x5 x6 x7 x8 x9 x10 x11 x12 x13 x14 x15 x16 x17 x18 : a) (xs : List a) : atI (x0 :: x1 :: x2 :: x3 :: x4 :: x5 :: x6 :: x7 :: x8 :: x9 :: x10 :: x11 :: x12 :: x13 :: x14 :: x15 :: x16 :: x17 :: x18 :: xs) 18 = some x18 := (atI_lit (x0 :: x1 :: x2 :: x3 :: x4 :: x5 :: x6 :: x7 :: x8 :: x9 :: x10 :: x11 :: x12 :: x13 :: x14 :: x15 :: x16 :: x17 :: x18 :: xs) 18).trans rfl
theorem at_19 {a : Type} (x0 x1 x2 x3 x4 x5 x6 x7 x8 x9 x10 x11 x12 x13 x14 x15 x16 x17 x18 x19 : a) (xs : List a) : atI (x0 :: x1 :: x2 :: x3 :: x4 :: x5 :: x6 :: x7 :: x8 :: x9 :: x10 :: x11 :: x12 :: x13 :: x14 :: x15 :: x16 :: x17 :: x18 :: x19 :: xs) 19 = some x19 := (atI_lit (x0 :: x1 :: x2 :: x3 :: x4 :: x5 :: x6 :: x7 :: x8 :: x9 :: x10 :: x11 :: x12 :: x13 :: x14 :: x15 :: x16 :: x17 :: x18 :: x19 :: xs) 19).trans rfl
theorem at_20 {a : Type} (x0 x1 x2 x3 x4 x5 x6 x7 x8 x9 x10 x11 x12 x13 x14 x15 x16 x17 x18 x19 x20 : a) (xs : List a) : atI (x0 :: x1 :: x2 :: x3 :: x4 :: x5 :: x6 :: x7 :: x8 :: x9 :: x10 :: x11 :: x12 :: x13 :: x14 :: x15 :: x16 :: x17 :: x18 :: x19 :: x20 :: xs) 20 = some x20 := (atI_lit (x0 :: x1 :: x2 :: x3 :: x4 :: x5 :: x6 :: x7 :: x8 :: x9 :: x10 :: x11 :: x12 :: x13 :: x14 :: x15 :: x16 :: x17 :: x18 :: x19 :: x20 :: xs) 20).trans rfl
theorem at_21 {a : Type} (x0 x1 x2 x3 x4 x5 x6 x7 x8 x9 x10 x11 x12 x13 x14 x15 x16 x17 x18 x19 x20 x21 : a) (xs : List a) : atI (x0 :: x1 :: x2 :: x3 :: x4 :: x5 :: x6 :: x7 :: x8 :: x9 :: x10 :: x11 :: x12 :: x13 :: x14 :: x15 :: x16 :: x17 :: x18 :: x19 :: x20 :: x21 :: xs) 21 = some x21 := (atI_lit (x0 :: x1 :: x2 :: x3 :: x4 :: x5 :: x6 :: x7 :: x8 :: x9 :: x10 :: x11 :: x12 :: x13 :: x14 :: x15 :: x16 :: x17 :: x18 :: x19 :: x20 :: x21 :: xs) 21).trans rfl
theorem at_22 {a : Type} (x0 x1 x2 x3 x4 x5 x6 x7 x8 x9 x10 x11 x12 x13 x14 x15 x16 x17 x18 x19 x20 x21 x22 : a) (xs : List a) : atI (x0 :: x1 :: x2 :: x3 :: x4 :: x5 :: x6 :: x7 :: x8 :: x9 :: x10 :: x11 :: x12 :: x13 :: x14 :: x15 :: x16 :: x17 :: x18 :: x19 :: x20 :: x21 :: x22 :: xs) 22 = some x22 := (atI_lit (x0 :: x1 :: x2 :: x3 :: x4 :: x5 :: x6 :: x7 :: x8 :: x9 :: x10 :: x11 :: x12 :: x13 :: x14 :: x15 :: x16 :: x17 :: x18 :: x19 :: x20 :: x21 :: x22 :: xs) 22).trans rfl
theorem at_23 {a : Type} (x0 x1 x2 x3 x4 x5 x6 x7 x8 x9 x10 x11 x12 x13 x14 x15 x16 x17 x18 x19 x20 x21 x22 x23 : a) (xs : List a) : atI (x0 :: x1 :: x2 :: x3 :: x4 :: x5 :: x6 :: x7 :: x8 :: x9 :: x10 :: x11 :: x12 :: x13 :: x14 :: x15 :: x16 :: x17 :: x18 :: x19 :: x20 :: x21 :: x22 :: x23 :: xs) 23 = some x23 := (atI_lit (x0 :: x1 :: x2 :: x3 :: x4 :: x5 :: x6 :: x7 :: x8 :: x9 :: x10 :: x11 :: x12 :: x13 :: x14 :: x15 :: x16 :: x17 :: x18 :: x19 :: x20 :: x21 :: x22 :: x23 :: xs) 23).trans rfl
theorem at_24 {a : Type} (x0 x1 x2 x3 x4 x5 x6 x7 x8 x9 x10 x11 x12 x13 x14 x15 x16 x17 x18 x19 x20 x21 x22 x23 x24 : a) (xs : List a) : atI (x0 :: x1 :: x2 :: x3 :: x4 :: x5 :: x6 :: x7 :: x8 :: x9 :: x10 :: x11 :: x12 :: x13 :: x14 :: x15 :: x16 :: x17 :: x18 :: x19 :: x20 :: x21 :: x22 :: x23 :: x24 :: xs) 24 = some x24 := (atI_lit (x0 :: x1 :: x2 :: x3 :: x4 :: x5 :: x6 :: x7 :: x8 :: x9 :: x10 :: x11 :: x12 :: x13 :: x14 :: x15 :: x16 :: x17 :: x18 :: x19 :: x20 :: x21 :: x22 :: x23 :: x24 :: xs) 24).trans rfl
theorem at_25 {a : Type} (x0 x1 x2 x3 x4 x5 x6 x7 x8 x9 x10 x11 x12 x13 x14 x15 x16 x17 x18 x19 x20 x21 x22 x23 x24 x25 : a) (xs : List a) : atI (x0 :: x1 :: x2 :: x3 :: x4 :: x5 :: x6 :: x7 :: x8 :: x9 :: x10 :: x11 :: x12 :: x13 :: x14 :: x15 :: x16 :: x17 :: x18 :: x19 :: x20 :: x21 :: x22 :: x23 :: x24 :: x25 :: xs) 25 = some x25 := (atI_lit (x0 :: x1 :: x2 :: x3 :: x4 :: x5 :: x6 :: x7 :: x8 :: x9 :: x10 :: x11 :: x12 :: x13 :: x14 :: x15 :: x16 :: x17 :: x18 :: x19 :: x20 :: x21 :: x22 :: x23 :: x24 :: x25 :: xs) 25).trans rfl
theorem at_26 {a : Type} (x0 x1 x2 x3 x4 x5 x6 x7 x8 x9 x10 x11 x12 x13 x14 x15 x16 x17 x18 x19 x20 x21 x22 x23 x24 x25 x26 : a) (xs : List a) : atI (x0 :: x1 :: x2 :: x3 :: x4 :: x5 :: x6 :: x7 :: x8 :: x9 :: x10 :: x11 :: x12 :: x13 :: x14 :: x15 :: x16 :: x17 :: x18 :: x19 :: x20 :: x21 :: x22 :: x23 :: x24 :: x25 :: x26 :: xs) 26 = some x26 := (atI_lit (x0 :: x1 :: x2 :: x3 :: x4 :: x5 :: x6 :: x7 :: x8 :: x9 :: x10 :: x11 :: x12 :: x13 :: x14 :: x15 :: x16 :: x17 :: x18 :: x19 :: x20 :: x21 :: x22 :: x23 :: x24 :: x25 :: x26 :: xs) 26).trans rfl
theorem at_27 {a : Type} (x0 x1 x2 x3 x4 x5 x6 x7 x8 x9 x10 x11 x12 x13 x14 x15 x16 x17 x18 x19 x20 x21 x22 x23 x24 x25 x26 x27 : a) (xs : List a) : atI (x0 :: x1 :: x2 :: x3 :: x4 :: x5 :: x6 :: x7 :: x8 :: x9 :: x10 :: x11 :: x12 :: x13 :: x14 :: x15 :: x16 :: x17 :: x18 :: x19 :: x20 :: x21 :: x22 :: x23 :: x24 :: x25 :: x26 :: x27 :: xs) 27 = some x27 := (atI_lit (x0 :: x1 :: x2 :: x3 :: x4 :: x5 :: x6 :: x7 :: x8 :: x9 :: x10 :: x11 :: x12 :: x13 :: x14 :: x15 :: x16 :: x17 :: x18 :: x19 :: x20 :: x21 :: x22 :: x23 :: x24 :: x25 :: x26 :: x27 :: xs) 27).trans rfl
theorem at_28 {a : Type} (x0 x1 x2 x3 x4 x5 x6 x7 x8 x9 x10 x11 x12 x13 x14 x15 x16 x17 x18 x19 x20 x21 x22 x23 x24 x25 x26 x27 x28 : a) (xs : List a) : atI (x0 :: x1 :: x2 :: x3 :: x4 :: x5 :: x6 :: x7 :: x8 :: x9 :: x10 :: x11 :: x12 :: x13 :: x14 :: x15 :: x16 :: x17 :: x18 :: x19 :: x20 :: x21 :: x22 :: x23 :: x24 :: x25 :: x26 :: x27 :: x28 :: xs) 28 = some x28 := (atI_lit (x0 :: x1 :: x2 :: x3 :: x4 :: x5 :: x6 :: x7 :: x8 :: x9 :: x10 :: x11 :: x12 :: x13 :: x14 :: x15 :: x16 :: x17 :: x18 :: x19 :: x20 :: x21 :: x22 :: x23 :: x24 :: x25 :: x26 :: x27 :: x28 :: xs) 28).trans rfl
theorem at_29 {a : Type} (x0 x1 x2 x3 x4 x5 x6 x7 x8 x9 x10 x11 x12 x13 x14 x15 x16 x17 x18 x19 x20 x21 x22 x23 x24 x25 x26 x27 x28 x29 : a) (xs : List a) : atI (x0 :: x1 :: x2 :: x3 :: x4 :: x5 :: x6 :: x7 :: x8 :: x9 :: x10 :: x11 :: x12 :: x13 :: x14 :: x15 :: x16 :: x17 :: x18 :: x19 :: x20 :: x21 :: x22 :: x23 :: x24 :: x25 :: x26 :: x27 :: x28 :: x29 :: xs) 29 = some x29 := (atI_lit (x0 :: x1 :: x2 :: x3 :: x4 :: x5 :: x6 :: x7 :: x8 :: x9 :: x10 :: x11 :: x12 :: x13 :: x14 :: x15 :: x16 :: x17 :: x18 :: x19 :: x20 :: x21 :: x22 :: x23 :: x24 :: x25 :: x26 :: x27 :: x28 :: x29 :: xs) 29).trans rfl
theorem kb_t_t : kitB "tuple" "tuple" = some true := by decide +kernel
theorem kb_t_l : kitB "tuple" "list" = some false := by decide +kernel
theorem kb_t_i : kitB "tuple" "int" = some false := by decide +kernel
theorem kb_t_b : kitB "tuple" "bool" = some false := by decide +kernel
theorem kb_t_s : kitB "tuple" "str" = some false := by decide +kernel
theorem kb_t_d : kitB "tuple" "dict" = some false := by decide +kernel
theorem kb_l_t : kitB "list" "tuple" = some false := by decide +kernel
theorem kb_l_l : kitB "list" "list" = some true := by decide +kernel
theorem kb_l_i : kitB "list" "int" = some false := by decide +kernel
theorem kb_l_b : kitB "list" "bool" = some false := by decide +kernel
theorem kb_l_s : kitB "list" "str" = some false := by decide +kernel
theorem kb_l_d : kitB "list" "dict" = some false := by decide +kernel
theorem kb_i_t : kitB "int" "tuple" = some false := by decide +kernel
theorem kb_i_l : kitB "int" "list" = some false := by decide +kernel
theorem kb_i_i : kitB "int" "int" = some true := by decide +kernel
theorem kb_i_b : kitB "int" "bool" = some false := by decide +kernel
theorem kb_i_s : kitB "int" "str" = some false := by decide +kernel
theorem kb_i_d : kitB "int" "dict" = some false := by decide +kernel
theorem kb_b_t : kitB "bool" "tuple" = some false := by decide +kernel
theorem kb_b_l : kitB "bool" "list" = some false := by decide +kernel
theorem kb_b_i : kitB "bool" "int" = some true := by decide +kernel
theorem kb_b_b : kitB "bool" "bool" = some true := by decide +kernel
theorem kb_b_s : kitB "bool" "str" = some false := by decide +kernel
theorem kb_b_d : kitB "bool" "dict" = some false := by decide +kernel
theorem kb_s_t : kitB "str" "tuple" = some false := by decide +kernel
theorem kb_s_l : kitB "str" "list" = some false := by decide +kernel
theorem kb_s_i : kitB "str" "int" = some false := by decide +kernel
theorem kb_s_b : kitB "str" "bool" = some false := by decide +kernel
theorem kb_s_s : kitB "str" "str" = some true := by decide +kernel
theorem kb_s_d : kitB "str" "dict" = some false := by decide +kernel
theorem kb_n_t : kitB "NoneType" "tuple" = some false := by decide +kernel
theorem kb_n_l : kitB "NoneType" "list" = some false := by decide +kernel
theorem kb_n_i : kitB "NoneType" "int" = some false := by decide +kernel
theorem kb_n_b : kitB "NoneType" "bool" = some false := by decide +kernel
theorem kb_n_s : kitB "NoneType" "str" = some false := by decide +kernel
theorem kb_n_d : kitB "NoneType" "dict" = some false := by decide +kernel
theorem kb_d_t : kitB "dict" "tuple" = some false := by decide +kernel
theorem kb_d_l : kitB "dict" "list" = some false := by decide +kernel
theorem kb_d_i : kitB "dict" "int" = some false := by decide +kernel
theorem kb_d_b : kitB "dict" "bool" = some false := by decide +kernel
theorem kb_d_s : kitB "dict" "str" = some false := by decide +kernel
theorem kb_d_d : kitB "dict" "dict" = some true := by decide +kernel
theorem mSeq_nx {a b : MS} {r r' : Rho} {s s' : Sto} (h : a r s = .nx r' s') : mSeq a b r s = b r' s' := by
  unfold mSeq
  rw [h]
  rfl
theorem mSeq_rt {a b : MS} {r : Rho} {s s' : Sto} {w : W} (h : a r s = .rt w s') : mSeq a b r s = .rt w s' := by
  unfold mSeq
  rw [h]
  rfl
theorem mSeq_ex {a b : MS} {r r' : Rho} {s s' : Sto} {x : Exn} (h : a r s = .ex x r' s') : mSeq a b r s = .ex x r' s' := by
  unfold mSeq
  rw [h]
  rfl
theorem mIf_t {t : MT} {a b : MS} {r : Rho} {s s' : Sto} (h : t r s = .ok true s') : mIf t a b r s = a r s' := by
  unfold mIf
  rw [h]
  rfl
theorem mIf_f {t : MT} {a b : MS} {r : Rho} {s s' : Sto} (h : t r s = .ok false s') : mIf t a b r s = b r s' := by
  unfold mIf
  rw [h]
  rfl
/-- a pure def, by its run -/
theorem runP_ok {n np : Nat} {m : MS} {ds : List D} {d : D} {S : Sto} (hl : ds.length = np) (h : m (startR n (ds.map .da)) [] = .rt (.da d) S) : runP n np m ds = .ok d := by
  unfold runP pureOf runS
  rw [if_pos (by rw [List.length_map]; exact hl), h]
  simp only [endS, trimS, List.length_nil, List.take_zero, ifc_true, eq_self]
theorem runP_ex {n np : Nat} {m : MS} {ds : List D} {x : Exn} {r : Rho} {S : Sto} (hl : ds.length = np) (h : m (startR n (ds.map .da)) [] = .ex x r S) (hx : x.ws.all isDa = true) : runP n np m ds = .ex x := by
  unfold runP pureOf runS
  rw [if_pos (by rw [List.length_map]; exact hl), h]
  simp only [endS, trimX, List.length_nil, List.take_zero, hx, and_self, ifc_true, eq_self]
theorem da_da (f : List D) : (W.da ∘ D.int) = iW := rfl

theorem ee_endS_1 : type_of% @endS.eq_1 := @endS.eq_1
theorem ee_endS_2 : type_of% @endS.eq_2 := @endS.eq_2
theorem ee_endS_3 : type_of% @endS.eq_3 := @endS.eq_3
theorem ee_seqK_1 : type_of% @seqK.eq_1 := @seqK.eq_1
theorem ee_seqK_2 : type_of% @seqK.eq_2 := @seqK.eq_2
theorem ee_seqK_3 : type_of% @seqK.eq_3 := @seqK.eq_3
theorem ee_seqK_4 : type_of% @seqK.eq_4 := @seqK.eq_4
theorem ee_seqK_5 : type_of% @seqK.eq_5 := @seqK.eq_5
theorem ee_seqK_6 : type_of% @seqK.eq_6 := @seqK.eq_6
theorem ee_reN_1 : type_of% @reN.eq_1 := @reN.eq_1
theorem ee_reN_2 : type_of% @reN.eq_2 := @reN.eq_2
theorem ee_reN_3 : type_of% @reN.eq_3 := @reN.eq_3
theorem ee_noL_1 : type_of% @noL.eq_1 := @noL.eq_1
theorem ee_noL_2 : type_of% @noL.eq_2 := @noL.eq_2
theorem ee_noL_3 : type_of% @noL.eq_3 := @noL.eq_3
theorem ee_noL_4 : type_of% @noL.eq_4 := @noL.eq_4
theorem ee_noL_5 : type_of% @noL.eq_5 := @noL.eq_5
theorem ee_noL_6 : type_of% @noL.eq_6 := @noL.eq_6
theorem ee_noL_9 : type_of% @noL.eq_9 := @noL.eq_9
theorem ee_noL_10 : type_of% @noL.eq_10 := @noL.eq_10
theorem ee_noL_11 : type_of% @noL.eq_11 := @noL.eq_11
theorem ee_noLs_1 : type_of% @noLs.eq_1 := @noLs.eq_1
theorem ee_noLs_2 : type_of% @noLs.eq_2 := @noLs.eq_2
theorem ee_noLW_1 : type_of% @noLW.eq_1 := @noLW.eq_1
theorem ee_insW_1 : type_of% @insW.eq_1 := @insW.eq_1
theorem ee_insW_2 : type_of% @insW.eq_2 := @insW.eq_2
theorem ee_look_1 : type_of% @look.eq_1 := @look.eq_1
theorem ee_look_2 : type_of% @look.eq_2 := @look.eq_2
theorem ee_putFW_1 : type_of% @putFW.eq_1 := @putFW.eq_1
theorem ee_putFW_2 : type_of% @putFW.eq_2 := @putFW.eq_2
theorem ee_pairsD_1 : type_of% @pairsD.eq_1 := @pairsD.eq_1
theorem ee_pairsD_2 : type_of% @pairsD.eq_2 := @pairsD.eq_2
theorem ee_reK_1 : type_of% @reK.eq_1 := @reK.eq_1
theorem ee_reK_2 : type_of% @reK.eq_2 := @reK.eq_2
theorem ee_reK_3 : type_of% @reK.eq_3 := @reK.eq_3
theorem ee_reF_1 : type_of% @reF.eq_1 := @reF.eq_1
theorem ee_reF_2 : type_of% @reF.eq_2 := @reF.eq_2
theorem ee_reF_3 : type_of% @reF.eq_3 := @reF.eq_3
theorem ee_valsW_1 : type_of% @valsW.eq_1 := @valsW.eq_1
theorem ee_valsW_2 : type_of% @valsW.eq_2 := @valsW.eq_2
theorem ee_valW_1 : type_of% @valW.eq_1 := @valW.eq_1
theorem ee_valW_2 : type_of% @valW.eq_2 := @valW.eq_2
theorem ee_flatD_1 : type_of% @flatD.eq_1 := @flatD.eq_1
theorem ee_flatD_2 : type_of% @flatD.eq_2 := @flatD.eq_2
theorem ee_flatD_3 : type_of% @flatD.eq_3 := @flatD.eq_3
theorem ee_flatD_4 : type_of% @flatD.eq_4 := @flatD.eq_4
theorem ee_liftB_1 : type_of% @liftB.eq_1 := @liftB.eq_1
theorem ee_boolOf_1 : type_of% @boolOf.eq_1 := @boolOf.eq_1
theorem ee_Rs_bind_1 : type_of% @Rs.bind.eq_1 := @Rs.bind.eq_1
theorem ee_Rs_bind_2 : type_of% @Rs.bind.eq_2 := @Rs.bind.eq_2
theorem ee_Rs_bind_3 : type_of% @Rs.bind.eq_3 := @Rs.bind.eq_3
theorem ee_Rs_out_1 : type_of% @Rs.out.eq_1 := @Rs.out.eq_1
theorem ee_Rs_out_2 : type_of% @Rs.out.eq_2 := @Rs.out.eq_2
theorem ee_Rs_out_3 : type_of% @Rs.out.eq_3 := @Rs.out.eq_3
theorem ee_tupW_1 : type_of% @tupW.eq_1 := @tupW.eq_1
theorem ee_tupW_2 : type_of% @tupW.eq_2 := @tupW.eq_2
theorem ee_tupW_3 : type_of% @tupW.eq_3 := @tupW.eq_3
theorem ee_lstW_1 : type_of% @lstW.eq_1 := @lstW.eq_1
theorem ee_lstW_2 : type_of% @lstW.eq_2 := @lstW.eq_2
theorem ee_itemsD_1 : type_of% @itemsD.eq_1 := @itemsD.eq_1
theorem ee_itemsD_2 : type_of% @itemsD.eq_2 := @itemsD.eq_2
theorem ee_itemsD_3 : type_of% @itemsD.eq_3 := @itemsD.eq_3
theorem ee_itemsD_4 : type_of% @itemsD.eq_4 := @itemsD.eq_4
theorem ee_itemsD_5 : type_of% @itemsD.eq_5 := @itemsD.eq_5
theorem ee_itemsD_6 : type_of% @itemsD.eq_6 := @itemsD.eq_6
theorem ee_lift_1 : type_of% @lift.eq_1 := @lift.eq_1
theorem ee_lift_2 : type_of% @lift.eq_2 := @lift.eq_2
theorem ee_mkD_1 : type_of% @mkD.eq_1 := @mkD.eq_1
theorem ee_mkD_2 : type_of% @mkD.eq_2 := @mkD.eq_2
theorem ee_mkC_1 : type_of% @mkC.eq_1 := @mkC.eq_1
theorem ee_mkC_2 : type_of% @mkC.eq_2 := @mkC.eq_2
theorem ee_datC_1 : type_of% @datC.eq_1 := @datC.eq_1
theorem ee_datC_2 : type_of% @datC.eq_2 := @datC.eq_2
theorem ee_datC_3 : type_of% @datC.eq_3 := @datC.eq_3
theorem ee_datL_1 : type_of% @datL.eq_1 := @datL.eq_1
theorem ee_datL_2 : type_of% @datL.eq_2 := @datL.eq_2
theorem ee_mkL_1 : type_of% @mkL.eq_1 := @mkL.eq_1
theorem ee_mkL_2 : type_of% @mkL.eq_2 := @mkL.eq_2
theorem ee_truW_1 : type_of% @truW.eq_1 := @truW.eq_1
theorem ee_truW_2 : type_of% @truW.eq_2 := @truW.eq_2
theorem ee_truW_3 : type_of% @truW.eq_3 := @truW.eq_3
theorem ee_truW_4 : type_of% @truW.eq_4 := @truW.eq_4
theorem ee_truW_5 : type_of% @truW.eq_5 := @truW.eq_5
theorem ee_truW_6 : type_of% @truW.eq_6 := @truW.eq_6
theorem ee_truW_7 : type_of% @truW.eq_7 := @truW.eq_7
theorem ee_truW_8 : type_of% @truW.eq_8 := @truW.eq_8
theorem ee_truW_9 : type_of% @truW.eq_9 := @truW.eq_9
theorem ee_truW_10 : type_of% @truW.eq_10 := @truW.eq_10
theorem ee_truW_11 : type_of% @truW.eq_11 := @truW.eq_11
theorem ee_tyW_1 : type_of% @tyW.eq_1 := @tyW.eq_1
theorem ee_tyW_2 : type_of% @tyW.eq_2 := @tyW.eq_2
theorem ee_tyW_3 : type_of% @tyW.eq_3 := @tyW.eq_3
theorem ee_tyD_1 : type_of% @tyD.eq_1 := @tyD.eq_1
theorem ee_tyD_2 : type_of% @tyD.eq_2 := @tyD.eq_2
theorem ee_tyD_3 : type_of% @tyD.eq_3 := @tyD.eq_3
theorem ee_tyD_4 : type_of% @tyD.eq_4 := @tyD.eq_4
theorem ee_tyD_5 : type_of% @tyD.eq_5 := @tyD.eq_5
theorem ee_tyD_6 : type_of% @tyD.eq_6 := @tyD.eq_6
theorem ee_tyD_7 : type_of% @tyD.eq_7 := @tyD.eq_7
theorem ee_tyD_8 : type_of% @tyD.eq_8 := @tyD.eq_8
theorem ee_tyD_9 : type_of% @tyD.eq_9 := @tyD.eq_9
theorem ee_tyD_10 : type_of% @tyD.eq_10 := @tyD.eq_10
theorem ee_tyD_11 : type_of% @tyD.eq_11 := @tyD.eq_11
theorem ee_isN_1 : type_of% @isN.eq_1 := @isN.eq_1
theorem ee_isN_2 : type_of% @isN.eq_2 := @isN.eq_2
theorem ee_isN_3 : type_of% @isN.eq_3 := @isN.eq_3
theorem ee_isN_4 : type_of% @isN.eq_4 := @isN.eq_4
theorem ee_dkW_1 : type_of% @dkW.eq_1 := @dkW.eq_1
theorem ee_dkW_2 : type_of% @dkW.eq_2 := @dkW.eq_2
theorem ee_datW_1 : type_of% @datW.eq_1 := @datW.eq_1
theorem ee_datW_4 : type_of% @datW.eq_4 := @datW.eq_4
theorem ee_datWs_1 : type_of% @datWs.eq_1 := @datWs.eq_1
theorem ee_datWs_2 : type_of% @datWs.eq_2 := @datWs.eq_2
theorem ee_tyM_1 : type_of% @tyM.eq_1 := @tyM.eq_1
theorem ee_tyM_2 : type_of% @tyM.eq_2 := @tyM.eq_2
theorem ee_tyM_3 : type_of% @tyM.eq_3 := @tyM.eq_3
theorem ee_hitL_1 : type_of% @hitL.eq_1 := @hitL.eq_1
theorem ee_hitL_2 : type_of% @hitL.eq_2 := @hitL.eq_2
theorem ee_outOff_1 : type_of% @outOff.eq_1 := @outOff.eq_1
theorem ee_outOff_2 : type_of% @outOff.eq_2 := @outOff.eq_2
theorem ee_outOff_3 : type_of% @outOff.eq_3 := @outOff.eq_3
theorem ee_outOff_4 : type_of% @outOff.eq_4 := @outOff.eq_4
theorem ee_seqW_1 : type_of% @seqW.eq_1 := @seqW.eq_1
theorem ee_seqW_2 : type_of% @seqW.eq_2 := @seqW.eq_2
theorem ee_seqW_3 : type_of% @seqW.eq_3 := @seqW.eq_3
theorem ee_seqW_4 : type_of% @seqW.eq_4 := @seqW.eq_4
theorem ee_seqW_5 : type_of% @seqW.eq_5 := @seqW.eq_5
local macro_rules | `(tactic| simp_arith [$args,*]) => `(tactic| all_goals try simp only [runP, pureOf, runS, startR, ee_endS_1, ee_endS_2, ee_endS_3, trimS, trimX, isDa, mSeq, ee_seqK_1, ee_seqK_2, ee_seqK_3, ee_seqK_4, ee_seqK_5, ee_seqK_6, mSet, mSkip, mAsg, mRet, mIf, mDrop, mPar, mInc, incW, mVar, mC, mOp, mUn, mCons, mNil, mCall, mCallP, callP, mCallN, callN, ee_reN_1, ee_reN_2, ee_reN_3, ee_noL_1, ee_noL_2, ee_noL_3, ee_noL_4, ee_noL_5, ee_noL_6, ee_noL_9, ee_noL_10, ee_noL_11, ee_noLs_1, ee_noLs_2, ee_noLW_1, mCallL, callL, mFld, mMeth, ee_insW_1, ee_insW_2, fldW, ee_look_1, ee_look_2, mSetF, setFW, ee_putFW_1, ee_putFW_2, mForI, mLcI, ee_pairsD_1, ee_pairsD_2, ee_reK_1, ee_reK_2, ee_reK_3, ee_reF_1, ee_reF_2, ee_reF_3, ee_valsW_1, ee_valsW_2, ee_valW_1, ee_valW_2, ee_flatD_1, ee_flatD_2, ee_flatD_3, ee_flatD_4, mTst, mTru, ee_liftB_1, mAnd, mOr, mNot, mAndV, mOrV, mNotV, mNotT, mChain, ee_boolOf_1, dats, dat, ee_Rs_bind_1, ee_Rs_bind_2, ee_Rs_bind_3, ee_Rs_out_1, ee_Rs_out_2, ee_Rs_out_3, gtName, gtTup, gtCons, gtNil, gtTupT, tup_lst, ee_tupW_1, ee_tupW_2, ee_tupW_3, ee_lstW_1, ee_lstW_2, mForR, rng1_ok, rng2_ok, mFor, ee_itemsD_1, ee_itemsD_2, ee_itemsD_3, ee_itemsD_4, ee_itemsD_5, ee_itemsD_6, add_ii, addC_ii, sub_ii, neg_i, lt_ii, le_ii, gt_ii, ge_ii, mod_ok, div_ok, mul_r, eq_ii, eq_ss, eq_bb, ne_ii, ne_ss, ne_bb, ix_tup_, ix_wt_, ix_lst_, ix_scr_, len_tup, len_wt, len_lst, len_scr, ee_lift_1, ee_lift_2, ndN, ncN, ee_mkD_1, ee_mkD_2, ee_mkC_1, ee_mkC_2, tupC, lstC, ee_datC_1, ee_datC_2, ee_datC_3, ee_datL_1, ee_datL_2, ee_mkL_1, ee_mkL_2, lkN, ee_truW_1, ee_truW_2, ee_truW_3, ee_truW_4, ee_truW_5, ee_truW_6, ee_truW_7, ee_truW_8, ee_truW_9, ee_truW_10, ee_truW_11, isiW, isiB, ee_tyW_1, ee_tyW_2, ee_tyW_3, ee_tyD_1, ee_tyD_2, ee_tyD_3, ee_tyD_4, ee_tyD_5, ee_tyD_6, ee_tyD_7, ee_tyD_8, ee_tyD_9, ee_tyD_10, ee_tyD_11, is_non, isnot_non, ee_isN_1, ee_isN_2, ee_isN_3, ee_isN_4, min_ii, max_ii, int_i, int_b, len_c, lenW, ee_dkW_1, ee_dkW_2, fzW, mFz, ee_datW_1, ee_datW_4, ee_datWs_1, ee_datWs_2, mMt, ee_tyM_1, ee_tyM_2, ee_tyM_3, chL, appL, mSetIx, setW, mRaise, mTryAs, ee_hitL_1, ee_hitL_2, ee_outOff_1, ee_outOff_2, ee_outOff_3, ee_outOff_4, mIsE, mFrz, mYes, mkLst, listC, ee_seqW_1, ee_seqW_2, ee_seqW_3, ee_seqW_4, ee_seqW_5, mLc, mLcR, wipeR, mListRg, mDisp, mpNil, mpCons, at_0, at_1, at_2, at_3, at_4, at_5, at_6, at_7, at_8, at_9, at_10, at_11, at_12, at_13, at_14, at_15, at_16, at_17, at_18, at_19, at_20, at_21, at_22, at_23, at_24, at_25, at_26, at_27, at_28, at_29, nc_0, nc_1, nc_2, nc_3, nc_4, nc_5, nc_6, nc_7, nc_8, nc_9, nc_10, nc_11, nc_12, nc_13, nc_14, nc_15, nc_16, nc_17, nc_18, nc_19, nc_20, nc_21, nc_22, nc_23, nc_24, nc_25, nc_26, nc_27, nc_28, nc_29, sz0, sz1, sz2, sz3, sz4, sz5, sz6, sz7, sz8, sz9, sz10, sz11, sz12, sz13, sz14, sz15, sz16, sz17, sz18, sz19, sz20, sz21, sz22, sz23, sz24, sz25, sz26, sz27, sz28, sz29, szl0, szl1, szl2, szl3, szl4, szl5, szl6, szl7, szl8, szl9, szl10, szl11, szl12, szl13, szl14, szl15, szl16, szl17, szl18, szl19, szl20, szl21, szl22, szl23, szl24, szl25, szl26, szl27, szl28, szl29, kb_t_t, kb_t_l, kb_t_i, kb_t_b, kb_t_s, kb_t_d, kb_l_t, kb_l_l, kb_l_i, kb_l_b, kb_l_s, kb_l_d, kb_i_t, kb_i_l, kb_i_i, kb_i_b, kb_i_s, kb_i_d, kb_b_t, kb_b_l, kb_b_i, kb_b_b, kb_b_s, kb_b_d, kb_s_t, kb_s_l, kb_s_i, kb_s_b, kb_s_s, kb_s_d, kb_n_t, kb_n_l, kb_n_i, kb_n_b, kb_n_s, kb_n_d, kb_d_t, kb_d_l, kb_d_i, kb_d_b, kb_d_s, kb_d_d,
  List.map_cons, List.map_nil, List.map_map, List.length_cons, List.length_nil, List.length_map, List.length_append, List.cons_append, List.nil_append, List.append_nil, List.replicate, List.set_cons_zero, List.set_cons_succ, List.getElem?_cons_zero, List.getElem?_cons_succ, List.getElem?_nil, List.take_zero, List.all_cons, List.all_nil, List.isEmpty_cons, List.isEmpty_nil, Option.bind_some, Option.bind, Option.map, if_true, if_false, Bool.false_eq_true, Bool.true_eq_false, ite_true, ite_false, reduceIte, Nat.reduceAdd, Nat.reduceSub, Nat.reduceEqDiff, Nat.reduceLT, Nat.reduceLeDiff, Int.reduceEq, Int.reduceLT, Int.reduceLE, Int.reduceNeg, Int.reduceAdd, Int.reduceSub, Int.reduceMul, Int.reduceDiv, Int.reduceMod, Int.reduceToNat, Int.reducePow, Nat.reducePow, Bool.not_true, Bool.not_false, Bool.and_true, Bool.and_false, Bool.true_and, Bool.false_and, Bool.or_true, Bool.or_false, Bool.true_or, Bool.false_or, ifc_true, ifc_false, dec_true, dec_false, eq_self, and_self, and_true, true_and, or_true, true_or, not_true_eq_false, not_false_eq_true, $args,*])
local macro_rules | `(tactic| simp_all_arith [$args,*]) => `(tactic| all_goals try simp only [loopM, intsW, lcM, runP, pureOf, runS, startR, ee_endS_1, ee_endS_2, ee_endS_3, trimS, trimX, isDa, mSeq, ee_seqK_1, ee_seqK_2, ee_seqK_3, ee_seqK_4, ee_seqK_5, ee_seqK_6, mSet, mSkip, mAsg, mRet, mIf, mDrop, mPar, mInc, incW, mVar, mC, mOp, mUn, mCons, mNil, mCall, mCallP, callP, mCallN, callN, ee_reN_1, ee_reN_2, ee_reN_3, ee_noL_1, ee_noL_2, ee_noL_3, ee_noL_4, ee_noL_5, ee_noL_6, ee_noL_9, ee_noL_10, ee_noL_11, ee_noLs_1, ee_noLs_2, ee_noLW_1, mCallL, callL, mFld, mMeth, ee_insW_1, ee_insW_2, fldW, ee_look_1, ee_look_2, mSetF, setFW, ee_putFW_1, ee_putFW_2, mForI, mLcI, ee_pairsD_1, ee_pairsD_2, ee_reK_1, ee_reK_2, ee_reK_3, ee_reF_1, ee_reF_2, ee_reF_3, ee_valsW_1, ee_valsW_2, ee_valW_1, ee_valW_2, ee_flatD_1, ee_flatD_2, ee_flatD_3, ee_flatD_4, mTst, mTru, ee_liftB_1, mAnd, mOr, mNot, mAndV, mOrV, mNotV, mNotT, mChain, ee_boolOf_1, dats, dat, ee_Rs_bind_1, ee_Rs_bind_2, ee_Rs_bind_3, ee_Rs_out_1, ee_Rs_out_2, ee_Rs_out_3, gtName, gtTup, gtCons, gtNil, gtTupT, tup_lst, ee_tupW_1, ee_tupW_2, ee_tupW_3, ee_lstW_1, ee_lstW_2, mForR, rng1_ok, rng2_ok, mFor, ee_itemsD_1, ee_itemsD_2, ee_itemsD_3, ee_itemsD_4, ee_itemsD_5, ee_itemsD_6, add_ii, addC_ii, sub_ii, neg_i, lt_ii, le_ii, gt_ii, ge_ii, mod_ok, div_ok, mul_r, eq_ii, eq_ss, eq_bb, ne_ii, ne_ss, ne_bb, ix_tup_, ix_wt_, ix_lst_, ix_scr_, len_tup, len_wt, len_lst, len_scr, ee_lift_1, ee_lift_2, ndN, ncN, ee_mkD_1, ee_mkD_2, ee_mkC_1, ee_mkC_2, tupC, lstC, ee_datC_1, ee_datC_2, ee_datC_3, ee_datL_1, ee_datL_2, ee_mkL_1, ee_mkL_2, lkN, ee_truW_1, ee_truW_2, ee_truW_3, ee_truW_4, ee_truW_5, ee_truW_6, ee_truW_7, ee_truW_8, ee_truW_9, ee_truW_10, ee_truW_11, isiW, isiB, ee_tyW_1, ee_tyW_2, ee_tyW_3, ee_tyD_1, ee_tyD_2, ee_tyD_3, ee_tyD_4, ee_tyD_5, ee_tyD_6, ee_tyD_7, ee_tyD_8, ee_tyD_9, ee_tyD_10, ee_tyD_11, is_non, isnot_non, ee_isN_1, ee_isN_2, ee_isN_3, ee_isN_4, min_ii, max_ii, int_i, int_b, len_c, lenW, ee_dkW_1, ee_dkW_2, fzW, mFz, ee_datW_1, ee_datW_4, ee_datWs_1, ee_datWs_2, mMt, ee_tyM_1, ee_tyM_2, ee_tyM_3, chL, appL, mSetIx, setW, mRaise, mTryAs, ee_hitL_1, ee_hitL_2, ee_outOff_1, ee_outOff_2, ee_outOff_3, ee_outOff_4, mIsE, mFrz, mYes, mkLst, listC, ee_seqW_1, ee_seqW_2, ee_seqW_3, ee_seqW_4, ee_seqW_5, mLc, mLcR, wipeR, mListRg, mDisp, mpNil, mpCons, at_0, at_1, at_2, at_3, at_4, at_5, at_6, at_7, at_8, at_9, at_10, at_11, at_12, at_13, at_14, at_15, at_16, at_17, at_18, at_19, at_20, at_21, at_22, at_23, at_24, at_25, at_26, at_27, at_28, at_29, nc_0, nc_1, nc_2, nc_3, nc_4, nc_5, nc_6, nc_7, nc_8, nc_9, nc_10, nc_11, nc_12, nc_13, nc_14, nc_15, nc_16, nc_17, nc_18, nc_19, nc_20, nc_21, nc_22, nc_23, nc_24, nc_25, nc_26, nc_27, nc_28, nc_29, sz0, sz1, sz2, sz3, sz4, sz5, sz6, sz7, sz8, sz9, sz10, sz11, sz12, sz13, sz14, sz15, sz16, sz17, sz18, sz19, sz20, sz21, sz22, sz23, sz24, sz25, sz26, sz27, sz28, sz29, szl0, szl1, szl2, szl3, szl4, szl5, szl6, szl7, szl8, szl9, szl10, szl11, szl12, szl13, szl14, szl15, szl16, szl17, szl18, szl19, szl20, szl21, szl22, szl23, szl24, szl25, szl26, szl27, szl28, szl29, kb_t_t, kb_t_l, kb_t_i, kb_t_b, kb_t_s, kb_t_d, kb_l_t, kb_l_l, kb_l_i, kb_l_b, kb_l_s, kb_l_d, kb_i_t, kb_i_l, kb_i_i, kb_i_b, kb_i_s, kb_i_d, kb_b_t, kb_b_l, kb_b_i, kb_b_b, kb_b_s, kb_b_d, kb_s_t, kb_s_l, kb_s_i, kb_s_b, kb_s_s, kb_s_d, kb_n_t, kb_n_l, kb_n_i, kb_n_b, kb_n_s, kb_n_d, kb_d_t, kb_d_l, kb_d_i, kb_d_b, kb_d_s, kb_d_d,
  List.map_cons, List.map_nil, List.map_map, List.length_cons, List.length_nil, List.length_map, List.length_append, List.cons_append, List.nil_append, List.append_nil, List.replicate, List.set_cons_zero, List.set_cons_succ, List.getElem?_cons_zero, List.getElem?_cons_succ, List.getElem?_nil, List.take_zero, List.all_cons, List.all_nil, List.isEmpty_cons, List.isEmpty_nil, Option.bind_some, Option.bind, Option.map, if_true, if_false, Bool.false_eq_true, Bool.true_eq_false, ite_true, ite_false, reduceIte, Nat.reduceAdd, Nat.reduceSub, Nat.reduceEqDiff, Nat.reduceLT, Nat.reduceLeDiff, Int.reduceEq, Int.reduceLT, Int.reduceLE, Int.reduceNeg, Int.reduceAdd, Int.reduceSub, Int.reduceMul, Int.reduceDiv, Int.reduceMod, Int.reduceToNat, Int.reducePow, Nat.reducePow, Bool.not_true, Bool.not_false, Bool.and_true, Bool.and_false, Bool.true_and, Bool.false_and, Bool.or_true, Bool.or_false, Bool.true_or, Bool.false_or, ifc_true, ifc_false, dec_true, dec_false, eq_self, and_self, and_true, true_and, or_true, true_or, not_true_eq_false, not_false_eq_true, $args,*])
/-! ### the draws: so many numbers from 0 to 1012, whatever the script is -/
abbrev rowC (row : List Int) : Cell := .lst (row.map iW)
theorem dats_ints : ∀ row : List Int, dats (row.map iW) = some (row.map .int)
  | [] => rfl
  | x :: r => by simp only [List.map_cons, dats, dats_ints r]
theorem datWs_da (k : Nat) (S : Sto) : ∀ ds : List D, datWs k S (ds.map .da) = some (ds, S)
  | [] => by unfold datWs; rfl
  | d :: ds => by
    unfold datWs
    simp only [List.map_cons]
    rw [show datW k S (.da d) = some (d, S) by unfold datW; rfl]
    simp only [datWs_da k S ds]
theorem datW_lst (k n : Nat) (S : Sto) (ds : List D) (h : S[n]? = some (.lst (ds.map .da))) : datW (k + 1) S (.lo n) = some (.lst ds, S.set n .dead) := by
  unfold datW
  simp only [h, datWs_da]
theorem app_ok (n : Nat) (ws : List W) (w : W) (S : Sto) (h : S[n]? = some (.lst ws)) (hl : ws.length < 100000) : chL appL (.lo n) [w] S = .ok (.da .non) (S.set n (.lst (ws ++ [w]))) := by
  unfold chL appL
  simp only [h, ifc_pos (sz_lt hl)]
abbrev dR (sc at_ : W) (many cell seed : Int) (mk : Option W) : Rho := [some sc, some at_, some (iW many), some (iW cell), some (iW seed), some (.lo 0), mk]
theorem c_draws_0 (sc at_ : W) (many cell seed : Int) (row : List Int) : c_l_draws_0 (dR sc at_ many cell seed none) [rowC row] = .ok (dec (0 < cell) && dec ((row.length : Int) < many)) [rowC row] := by
  unfold c_l_draws_0
  simp_arith []
  by_cases h : 0 < cell
  · rw [dec_pos h]; simp_arith []
  · rw [dec_neg h]; simp_arith []
theorem b_draws_1 (sc at_ : W) (many cell seed : Int) (row : List Int) (h : row.length < 100000) : b_l_draws_1 (dR sc at_ many cell seed none) [rowC row] = .nx (dR sc at_ many (cell / 1013) seed none) [rowC (row ++ [cell % 1013])] := by
  unfold b_l_draws_1
  simp_arith [sz_lt h]
  simp only [dR, rowC, List.map_append, List.map_cons, List.map_nil]
theorem wh_draws_1 (sc at_ : W) (many seed : Int) (hm : many ≤ 1000) : ∀ (n : Nat) (cell : Int) (row : List Int), 0 ≤ cell → (row.length : Int) + n = many → (∀ x ∈ row, 0 ≤ x ∧ x < 1013) →
    ∃ cell' row', whileN c_l_draws_0 b_l_draws_1 (n + 1) (dR sc at_ many cell seed none) [rowC row] = .nx (dR sc at_ many cell' seed none) [rowC row'] ∧ (row'.length : Int) ≤ many ∧ ∀ x ∈ row', 0 ≤ x ∧ x < 1013
  | n, cell, row, hc, hl, hr => by
    unfold whileN
    rw [c_draws_0]
    by_cases h1 : 0 < cell ∧ (row.length : Int) < many
    · cases n with
      | zero => omega
      | succ n =>
        have hx : ∀ x ∈ row ++ [cell % 1013], 0 ≤ x ∧ x < 1013 := by
          intro x hx
          rcases List.mem_append.mp hx with z | z
          · exact hr x z
          · simp at z; subst z; omega
        obtain ⟨c', r', e, h3, h4⟩ := wh_draws_1 sc at_ many seed hm n (cell / 1013) (row ++ [cell % 1013]) (Int.ediv_nonneg hc (by decide)) (by simp; omega) hx
        refine ⟨c', r', ?_, h3, h4⟩
        simp only [dec_pos h1.1, dec_pos h1.2, Bool.and_self]
        rw [b_draws_1 _ _ _ _ _ _ (by omega)]
        exact e
    · refine ⟨cell, row, ?_, by omega, hr⟩
      have hf : (dec (0 < cell) && dec ((row.length : Int) < many)) = false := by
        rw [Bool.and_eq_false_iff]
        by_cases h2 : 0 < cell
        · right; exact dec_neg (fun z => h1 ⟨h2, z⟩)
        · left; exact dec_neg h2
      rw [hf]
theorem c_draws_2 (sc at_ : W) (many cell seed : Int) (mk : Option W) (row : List Int) : c_l_draws_2 (dR sc at_ many cell seed mk) [rowC row] = .ok (dec ((row.length : Int) < many)) [rowC row] := by
  unfold c_l_draws_2
  simp_arith []
theorem b_draws_3 (sc at_ : W) (many cell seed : Int) (mk : Option W) (row : List Int) (h : row.length < 100000) : ∃ seed' mk' x, b_l_draws_3 (dR sc at_ many cell seed mk) [rowC row] = .nx (dR sc at_ many cell seed' mk') [rowC (row ++ [x])] ∧ 0 ≤ x ∧ x < 1013 := by
  have fin : ∀ z : Int, -1000000000 < z → z < 1000000000 → (row.length : Int) + 1 = z → ∃ seed' mk' x, b_l_draws_3 (dR sc at_ many cell seed mk) [rowC row] = .nx (dR sc at_ many cell seed' mk') [rowC (row ++ [x])] ∧ 0 ≤ x ∧ x < 1013 := by
    intro z z1 z2 hz
    have h4 := fun S => mul_l z z S z1 z2
    have h5 : ∀ (s : Int) (S : Sto), vl2 mulW (.da (.int (s % 65521))) (.da (.int (s / 65521 % 32749 + 1))) S = .ok (.da (.int (s % 65521 * (s / 65521 % 32749 + 1)))) S := fun s S => mul_l _ _ _ (by omega) (by omega)
    have key : ∀ s : Int, 0 ≤ s % 65521 * (s / 65521 % 32749 + 1) % 1000003 % 1013 ∧ s % 65521 * (s / 65521 % 32749 + 1) % 1000003 % 1013 < 1013 := fun s => ⟨Int.emod_nonneg _ (by decide), Int.emod_lt_of_pos _ (by decide)⟩
    refine ⟨(seed * 48271 + z * z * 6133 + 17) % 2147483647, some (iW z), _, ?_, (key ((seed * 48271 + z * z * 6133 + 17) % 2147483647)).1, (key ((seed * 48271 + z * z * 6133 + 17) % 2147483647)).2⟩
    unfold b_l_draws_3
    simp_arith [hz]
    simp_arith [h4]
    generalize (seed * 48271 + z * z * 6133 + 17) % 2147483647 = s
    simp_arith [h5, sz_lt h]
    simp only [dR, rowC, List.map_append, List.map_cons, List.map_nil]
  exact fin _ (by omega) (by omega) rfl
theorem wh_draws_3 (sc at_ : W) (many cell : Int) (hm : many ≤ 1000) : ∀ (n : Nat) (seed : Int) (mk : Option W) (row : List Int), (row.length : Int) + n = many → (∀ x ∈ row, 0 ≤ x ∧ x < 1013) →
    ∃ seed' mk' row', whileN c_l_draws_2 b_l_draws_3 (n + 1) (dR sc at_ many cell seed mk) [rowC row] = .nx (dR sc at_ many cell seed' mk') [rowC row'] ∧ (row'.length : Int) = many ∧ ∀ x ∈ row', 0 ≤ x ∧ x < 1013
  | n, seed, mk, row, hl, hr => by
    unfold whileN
    rw [c_draws_2]
    cases n with
    | zero =>
      refine ⟨seed, mk, row, ?_, by omega, hr⟩
      rw [dec_neg (by omega : ¬ (row.length : Int) < many)]
    | succ n =>
      obtain ⟨s', k', x, e, h1, h2⟩ := b_draws_3 sc at_ many cell seed mk row (by omega)
      have hx : ∀ y ∈ row ++ [x], 0 ≤ y ∧ y < 1013 := by
        intro y hy
        rcases List.mem_append.mp hy with z | z
        · exact hr y z
        · simp at z; subst z; exact ⟨h1, h2⟩
      obtain ⟨s2, k2, r2, e2, h3, h4⟩ := wh_draws_3 sc at_ many cell hm n s' k' (row ++ [x]) (by simp; omega) hx
      refine ⟨s2, k2, r2, ?_, h3, h4⟩
      rw [dec_pos (by omega : (row.length : Int) < many)]
      simp only [e]
      exact e2
/-- a row of draws -/
def Drawn (n : Nat) (row : List Int) : Prop := row.length = n ∧ ∀ x ∈ row, 0 ≤ x ∧ x < 1013
theorem draws_end (sc at_ : W) (many cell seed : Int) (row : List Int) (hm : many ≤ 1000) (hl : (row.length : Int) ≤ many) (hr : ∀ x ∈ row, 0 ≤ x ∧ x < 1013) : ∃ r' S', Drawn many.toNat r' ∧
    mSeq (mWhile c_l_draws_2 b_l_draws_3) (mRet (mFz (mVar 5))) (dR sc at_ many cell seed none) [rowC row] = .rt (.da (.lst (r'.map .int))) S' := by
  obtain ⟨s', k', r', e, h1, h2⟩ := wh_draws_3 sc at_ many cell hm (many - row.length).toNat seed none row (by omega) hr
  refine ⟨r', [.dead], ⟨by omega, h2⟩, ?_⟩
  have hw := mWhile_of _ (by rw [e]; intro z; cases z)
  rw [e] at hw
  rw [mSeq_nx hw]
  have hd := datW_lst 4 0 [rowC r'] (r'.map .int) (by simp [Function.comp_def])
  simp_arith [hd]
theorem draws_ok (ns : List Int) (at_ many : Int) (ha : 0 ≤ at_) (ha2 : at_ ≤ 1000000) (h0 : 0 ≤ many) (hm : many ≤ 1000) (hn : ns.length ≤ 1000) : ∃ row, Drawn many.toNat row ∧ p_l_draws [.scr (ns.map .int), .int at_, .int many] = .ok (.lst (row.map .int)) := by
  have m1 := fun S => mul_l at_ at_ S (by omega) (by omega)
  have m2 := fun S => mul_l 7 at_ S (by decide) (by decide)
  have m3 := fun S => mul_l 31 at_ S (by decide) (by decide)
  have e18 := fun S => pow_ok 10 18 S (by decide) (by decide) (by decide)
  suffices h : ∃ row S, Drawn many.toNat row ∧ m_l_draws [some (.da (.scr (ns.map .int))), some (iW at_), some (iW many), none, none, none, none] [] = .rt (.da (.lst (row.map .int))) S by
    obtain ⟨row, S, hd, e⟩ := h
    exact ⟨row, hd, runP_ok rfl e⟩
  unfold m_l_draws
  have s0 : ∀ m : MS, mSeq (mSet 3 (mOp addD (mOp (vl2 mulW) (mC (.int 7)) (mVar 1)) (mC (.int 1)))) m [some (.da (.scr (ns.map .int))), some (iW at_), some (iW many), none, none, none, none] [] = m [some (.da (.scr (ns.map .int))), some (iW at_), some (iW many), some (iW (7 * at_ + 1)), none, none, none] [] := fun m => by
    simp_arith [m2]
  rw [s0]
  have rest : ∀ cell : Int, ∃ row S, Drawn many.toNat row ∧ (mSeq (mSet 4 (mOp addD (mOp addD (mOp (vl2 modW) (mVar 3) (mC (.int 999983))) (mOp (vl2 mulW) (mC (.int 31)) (mVar 1))) (mC (.int 5)))) (mSeq (mSet 5 (mCall (ncN lstC) mNil)) (mSeq (mIf (mTst (mOp (vl2 geW) (mVar 3) (mOp (vl2 powW) (mC (.int 10)) (mC (.int 18))))) (mWhile c_l_draws_0 b_l_draws_1) mSkip) (mSeq (mWhile c_l_draws_2 b_l_draws_3) (mRet (mFz (mVar 5))))))) [some (.da (.scr (ns.map .int))), some (iW at_), some (iW many), some (iW cell), none, none, none] [] = .rt (.da (.lst (row.map .int))) S := by
    intro cell
    have t1 : ∀ m : MS, mSeq (mSet 4 (mOp addD (mOp addD (mOp (vl2 modW) (mVar 3) (mC (.int 999983))) (mOp (vl2 mulW) (mC (.int 31)) (mVar 1))) (mC (.int 5)))) (mSeq (mSet 5 (mCall (ncN lstC) mNil)) m) [some (.da (.scr (ns.map .int))), some (iW at_), some (iW many), some (iW cell), none, none, none] [] = m (dR (.da (.scr (ns.map .int))) (iW at_) many cell (cell % 999983 + 31 * at_ + 5) none) [rowC []] := fun m => by
      simp_arith [m3]
      rfl
    rw [t1]
    generalize cell % 999983 + 31 * at_ + 5 = seed
    have t2 : mTst (mOp (vl2 geW) (mVar 3) (mOp (vl2 powW) (mC (.int 10)) (mC (.int 18)))) (dR (.da (.scr (ns.map .int))) (iW at_) many cell seed none) [rowC []] = .ok (dec ((10 : Int) ^ 18 ≤ cell)) [rowC []] := by
      unfold mTst mOp
      simp only [mVar, mC, Rs.bind, List.getElem?_cons_succ, List.getElem?_cons_zero, e18, ge_ii, boolOf]
      rfl
    by_cases hc : (10 : Int) ^ 18 ≤ cell
    · rw [dec_pos hc] at t2
      obtain ⟨c', r', e, h1, h2⟩ := wh_draws_1 (.da (.scr (ns.map .int))) (iW at_) many seed hm many.toNat cell [] (Int.le_trans (by decide) hc) (by simp; omega) (by simp)
      have hw := mWhile_of _ (by rw [e]; intro z; cases z)
      rw [e] at hw
      rw [mSeq_nx ((mIf_t t2).trans hw)]
      exact let ⟨r, S, a, b⟩ := draws_end _ _ many c' seed r' hm h1 h2; ⟨r, S, a, b⟩
    · rw [dec_neg hc] at t2
      rw [mSeq_nx (r' := dR (.da (.scr (ns.map .int))) (iW at_) many cell seed none) (s' := [rowC []]) (mIf_f (b := mSkip) t2)]
      exact let ⟨r, S, a, b⟩ := draws_end _ _ many cell seed [] hm (by simpa using h0) (by simp); ⟨r, S, a, b⟩
  by_cases h1 : at_ < (ns.length : Int)
  · have e1 : atI (List.map (W.da ∘ D.int) ns) at_ = some (iW (ns[at_.toNat]'(by omega))) := by
      rw [atI_get _ _ ha (by simpa using h1)]; simp
    refine (?_ : ∃ row S, Drawn many.toNat row ∧ _ = _)
    have t : mIf (mTst (mOp (vl2 ltW) (mVar 1) (mCall (vlN lenW) (mCons (mVar 0) mNil)))) (mSet 3 (mOp (vl2 ixW) (mVar 0) (mVar 1))) (mIf (mTst (mOp (vl2 gtW) (mCall (vlN lenW) (mCons (mVar 0) mNil)) (mC (.int 0)))) (mSet 3 (mOp addD (mOp addD (mOp (vl2 modW) (mOp (vl2 ixW) (mVar 0) (mOp (vl2 modW) (mVar 1) (mCall (vlN lenW) (mCons (mVar 0) mNil)))) (mC (.int 999983))) (mOp (vl2 mulW) (mOp (vl2 mulW) (mVar 1) (mVar 1)) (mC (.int 97)))) (mC (.int 1)))) mSkip) [some (.da (.scr (ns.map .int))), some (iW at_), some (iW many), some (iW (7 * at_ + 1)), none, none, none] [] = .nx [some (.da (.scr (ns.map .int))), some (iW at_), some (iW many), some (iW (ns[at_.toNat]'(by omega))), none, none, none] [] := by
      refine (mIf_t (s' := []) (by simp_arith [dec_pos h1])).trans ?_
      simp_arith [e1]
    rw [mSeq_nx t]
    exact rest _
  · by_cases h2 : (0 : Int) < (ns.length : Int)
    · have hq : 0 ≤ at_ % (ns.length : Int) := Int.emod_nonneg _ (by omega)
      have hq2 : at_ % (ns.length : Int) < (ns.length : Int) := Int.emod_lt_of_pos _ h2
      have e1 : atI (List.map (W.da ∘ D.int) ns) (at_ % (ns.length : Int)) = some (iW (ns[(at_ % (ns.length : Int)).toNat]'(by omega))) := by
        rw [atI_get _ _ hq (by simpa using hq2)]; simp
      have hm3 := fun S => mod_ok at_ (ns.length : Int) S h2
      have t : ∃ c : Int, mIf (mTst (mOp (vl2 ltW) (mVar 1) (mCall (vlN lenW) (mCons (mVar 0) mNil)))) (mSet 3 (mOp (vl2 ixW) (mVar 0) (mVar 1))) (mIf (mTst (mOp (vl2 gtW) (mCall (vlN lenW) (mCons (mVar 0) mNil)) (mC (.int 0)))) (mSet 3 (mOp addD (mOp addD (mOp (vl2 modW) (mOp (vl2 ixW) (mVar 0) (mOp (vl2 modW) (mVar 1) (mCall (vlN lenW) (mCons (mVar 0) mNil)))) (mC (.int 999983))) (mOp (vl2 mulW) (mOp (vl2 mulW) (mVar 1) (mVar 1)) (mC (.int 97)))) (mC (.int 1)))) mSkip) [some (.da (.scr (ns.map .int))), some (iW at_), some (iW many), some (iW (7 * at_ + 1)), none, none, none] [] = .nx [some (.da (.scr (ns.map .int))), some (iW at_), some (iW many), some (iW c), none, none, none] [] := by
        refine ⟨_, (mIf_f (s' := []) (by simp_arith [dec_neg h1])).trans ((mIf_t (s' := []) (by simp_arith [dec_pos h2])).trans (?_ : _ = Out.nx [_, _, _, some (iW (ns[(at_ % (ns.length : Int)).toNat]'(by omega) % 999983 + at_ * at_ * 97 + 1)), _, _, _] _))⟩
        simp_arith [hm3, e1, m1]
      obtain ⟨c, t⟩ := t
      rw [mSeq_nx t]
      exact rest c
    · have t : mIf (mTst (mOp (vl2 ltW) (mVar 1) (mCall (vlN lenW) (mCons (mVar 0) mNil)))) (mSet 3 (mOp (vl2 ixW) (mVar 0) (mVar 1))) (mIf (mTst (mOp (vl2 gtW) (mCall (vlN lenW) (mCons (mVar 0) mNil)) (mC (.int 0)))) (mSet 3 (mOp addD (mOp addD (mOp (vl2 modW) (mOp (vl2 ixW) (mVar 0) (mOp (vl2 modW) (mVar 1) (mCall (vlN lenW) (mCons (mVar 0) mNil)))) (mC (.int 999983))) (mOp (vl2 mulW) (mOp (vl2 mulW) (mVar 1) (mVar 1)) (mC (.int 97)))) (mC (.int 1)))) mSkip) [some (.da (.scr (ns.map .int))), some (iW at_), some (iW many), some (iW (7 * at_ + 1)), none, none, none] [] = .nx [some (.da (.scr (ns.map .int))), some (iW at_), some (iW many), some (iW (7 * at_ + 1)), none, none, none] [] := by
        refine (mIf_f (s' := []) (by simp_arith [dec_neg h1])).trans ?_
        exact mIf_f (s' := []) (by simp_arith [dec_neg h2])
      rw [mSeq_nx t]
      exact rest _
/-! ### loops and comprehensions, by what holds between the turns -/
theorem lc_gen {α β : Type} (wx : α → W) (wy : β → W) (f : α → Option β) {g : MG} {mt : MT} {me : ME} {ρw : Rho} {S : Sto} : ∀ (xs : List α) (acc : List W), acc.length + xs.length ≤ 100000 →
    (∀ x ∈ xs, ∃ ρ2, g (wx x) ρw S = some ρ2 ∧ match f x with
      | some y => mt ρ2 S = .ok true S ∧ me ρ2 S = .ok (wy y) S
      | none => mt ρ2 S = .ok false S) →
    lcM g mt me ρw (xs.map wx) acc S = .ok (acc ++ (xs.filterMap f).map wy) S
  | [], acc, _, _ => by simp [lcM]
  | x :: xs, acc, hl, h => by
    obtain ⟨ρ2, e1, e2⟩ := h x (List.mem_cons_self)
    have ih := fun acc hl => lc_gen wx wy f (g := g) (mt := mt) (me := me) (ρw := ρw) (S := S) xs acc hl fun y hy => h y (List.mem_cons_of_mem _ hy)
    simp only [List.map_cons, lcM, e1]
    simp only [List.length_cons] at hl
    cases hf : f x with
    | some y =>
      rw [hf] at e2
      simp only [e2.1, e2.2]
      rw [ifc_pos (sz_lt (by omega)), ih _ (by simp; omega)]
      simp [hf]
    | none =>
      rw [hf] at e2
      simp only [e2]
      rw [ih _ (by omega)]
      simp [hf]
theorem filterMap_ite {α : Type} (f : α → Bool) : ∀ xs : List α, xs.filterMap (fun x => if f x = true then some x else none) = xs.filter f
  | [] => rfl
  | x :: xs => by
    have ih := filterMap_ite f xs
    cases h : f x <;> simp [List.filterMap_cons, List.filter_cons, h, ih]
theorem lc_filter {α : Type} (wx : α → W) (f : α → Bool) {g : MG} {mt : MT} {me : ME} {ρw : Rho} {S : Sto} (xs : List α) (hl : xs.length ≤ 100000)
    (h : ∀ x ∈ xs, ∃ ρ2, g (wx x) ρw S = some ρ2 ∧ mt ρ2 S = .ok (f x) S ∧ (f x = true → me ρ2 S = .ok (wx x) S)) : lcM g mt me ρw (xs.map wx) [] S = .ok ((xs.filter f).map wx) S := by
  rw [lc_gen wx wx (fun x => if f x = true then some x else none) xs [] (by simpa using hl), filterMap_ite]
  · rfl
  · intro x hx
    obtain ⟨ρ2, e1, e2, e3⟩ := h x hx
    refine ⟨ρ2, e1, ?_⟩
    cases q : f x with
    | true => rw [q] at e2; simp only [if_true]; exact ⟨e2, e3 q⟩
    | false => rw [q] at e2; simp only [Bool.false_eq_true, if_false]; exact e2
theorem lc_map {α β : Type} (wx : α → W) (wy : β → W) (f : α → β) {g : MG} {me : ME} {ρw : Rho} {S : Sto} (xs : List α) (hl : xs.length ≤ 100000)
    (h : ∀ x ∈ xs, ∃ ρ2, g (wx x) ρw S = some ρ2 ∧ me ρ2 S = .ok (wy (f x)) S) : lcM g mYes me ρw (xs.map wx) [] S = .ok ((xs.map f).map wy) S := by
  rw [lc_gen wx wy (fun x => some (f x)) xs [] (by simpa using hl)]
  · simp
  · intro x hx
    obtain ⟨ρ2, e1, e2⟩ := h x hx
    exact ⟨ρ2, e1, rfl, e2⟩
theorem loop_all {α : Type} (wx : α → W) {g : MG} {b : MS} (I : List α → Rho → Sto → Prop) : ∀ (rest done : List α) (ρ : Rho) (S : Sto),
    (∀ (dn : List α) (x : α) (r : List α) ρ S, done ++ rest = dn ++ x :: r → I dn ρ S → ∃ ρ1, g (wx x) ρ S = some ρ1 ∧ ∃ ρ2 S2, (b ρ1 S = .nx ρ2 S2 ∨ b ρ1 S = .ct ρ2 S2) ∧ I (dn ++ [x]) ρ2 S2) →
    I done ρ S → ∃ ρ' S', loopM g b (rest.map wx) ρ S = .nx ρ' S' ∧ I (done ++ rest) ρ' S'
  | [], done, ρ, S, _, h => ⟨ρ, S, rfl, by simpa using h⟩
  | x :: rest, done, ρ, S, st, h => by
    obtain ⟨ρ1, e1, ρ2, S2, e2, h2⟩ := st done x rest ρ S rfl h
    obtain ⟨ρ', S', e3, h3⟩ := loop_all wx I rest (done ++ [x]) ρ2 S2 (fun dn y r ρ S e => st dn y r ρ S (by simpa using e)) h2
    refine ⟨ρ', S', ?_, by simpa using h3⟩
    simp only [List.map_cons, loopM, e1]
    rcases e2 with e2 | e2 <;> simp only [e2, e3]
/-- a loop that may return -/
theorem loop_or {α : Type} (wx : α → W) {g : MG} {b : MS} (I : List α → Rho → Sto → Prop) (R : W → Sto → Prop) : ∀ (rest done : List α) (ρ : Rho) (S : Sto),
    (∀ (dn : List α) (x : α) (r : List α) ρ S, done ++ rest = dn ++ x :: r → I dn ρ S → ∃ ρ1, g (wx x) ρ S = some ρ1 ∧ ((∃ ρ2 S2, (b ρ1 S = .nx ρ2 S2 ∨ b ρ1 S = .ct ρ2 S2) ∧ I (dn ++ [x]) ρ2 S2) ∨ ∃ w S2, b ρ1 S = .rt w S2 ∧ R w S2)) →
    I done ρ S → (∃ ρ' S', loopM g b (rest.map wx) ρ S = .nx ρ' S' ∧ I (done ++ rest) ρ' S') ∨ ∃ w S', loopM g b (rest.map wx) ρ S = .rt w S' ∧ R w S'
  | [], done, ρ, S, _, h => .inl ⟨ρ, S, rfl, by simpa using h⟩
  | x :: rest, done, ρ, S, st, h => by
    obtain ⟨ρ1, e1, e2⟩ := st done x rest ρ S rfl h
    rcases e2 with ⟨ρ2, S2, e2, h2⟩ | ⟨w, S2, e2, h2⟩
    · rcases loop_or wx I R rest (done ++ [x]) ρ2 S2 (fun dn y r ρ S e => st dn y r ρ S (by simpa using e)) h2 with ⟨ρ', S', e3, h3⟩ | ⟨w, S', e3, h3⟩
      · refine .inl ⟨ρ', S', ?_, by simpa using h3⟩
        simp only [List.map_cons, loopM, e1]
        rcases e2 with e2 | e2 <;> simp only [e2, e3]
      · refine .inr ⟨w, S', ?_, h3⟩
        simp only [List.map_cons, loopM, e1]
        rcases e2 with e2 | e2 <;> simp only [e2, e3]
    · exact .inr ⟨w, S2, by simp only [List.map_cons, loopM, e1, e2], h2⟩
/-! ### a drawn row, asked at a place -/
theorem at_row {n : Nat} {row : List Int} (h : Drawn n row) (i : Int) (h0 : 0 ≤ i) (h1 : i < n) : ∃ x : Int, (0 ≤ x ∧ x < 1013) ∧ atI (row.map (W.da ∘ D.int)) i = some (iW x) := by
  have hl : i.toNat < row.length := by rw [h.1]; omega
  refine ⟨row[i.toNat], h.2 _ (List.getElem_mem hl), ?_⟩
  rw [atI_get _ _ h0 (by rw [List.length_map, h.1]; exact h1)]
  simp
theorem at_list {α : Type} (f : α → W) (xs : List α) (i : Int) (h0 : 0 ≤ i) (h1 : i < xs.length) : ∃ x ∈ xs, atI (xs.map f) i = some (f x) := by
  have hl : i.toNat < xs.length := by omega
  refine ⟨xs[i.toNat], List.getElem_mem hl, ?_⟩
  rw [atI_get _ _ h0 (by rw [List.length_map]; exact h1)]
  simp
/-! ### lists of whole numbers -/
def intsL (lo : Int) : Nat → List Int
  | 0 => []
  | n + 1 => lo :: intsL (lo + 1) n
theorem ints_map : ∀ (n : Nat) (lo : Int), intsW lo n = (intsL lo n).map iW
  | 0, _ => rfl
  | n + 1, lo => by simp only [intsW, intsL, ints_map n, List.map_cons]
theorem mem_intsL : ∀ (n : Nat) (lo b : Int), b ∈ intsL lo n ↔ lo ≤ b ∧ b < lo + n
  | 0, lo, b => by simp only [intsL, List.not_mem_nil, false_iff]; omega
  | n + 1, lo, b => by simp only [intsL, List.mem_cons, mem_intsL n]; omega
theorem len_intsL : ∀ (n : Nat) (lo : Int), (intsL lo n).length = n
  | 0, _ => rfl
  | n + 1, lo => by simp [intsL, len_intsL n]
theorem lay_ints : ∀ row : List Int, PyData.canLayAll0 (toPyL (row.map .int)) = true
  | [] => rfl
  | x :: r => by simp [toPyL, toPy, PyData.canLayAll0, PyData.canLay0, lay_ints r]
theorem depth_ints : ∀ row : List Int, PyData.depthAll (toPyL (row.map .int)) ≤ 1
  | [] => by simp [toPyL, PyData.depthAll]
  | x :: r => by
    have := depth_ints r
    simp [toPyL, toPy, PyData.depthAll, PyData.depth]
    omega
theorem shaped_ints (row : List Int) : SeqAt.shaped (.list (toPyL (row.map .int))) = true := by
  have := depth_ints row
  have e : (PyData.list (toPyL (row.map .int))).canLay0 = true := by simp only [PyData.canLay0, lay_ints]
  have f : (PyData.list (toPyL (row.map .int))).depth ≤ 64 := by
    simp only [PyData.depth]
    omega
  unfold SeqAt.shaped
  rw [e, decide_eq_true f]
  rfl
theorem any_ints (b : Int) : ∀ row : List Int, ((row.map D.int).any fun z => PyData.eqv (toPy z) (.int b)) = row.any (· == b)
  | [] => rfl
  | x :: r => by
    have := any_ints b r
    simp only [List.map_cons, List.any_cons, toPy, PyData.eqv, this]
theorem in_ints (b : Int) (row : List Int) (S : Sto) : vl2 inW (.da (.int b)) (.da (.lst (row.map .int))) S = .ok (.da (.bl (row.any (· == b)))) S := by
  unfold vl2 inW inB dget
  simp only [dkW, dtW, valW, toPy]
  rw [ifc_pos ⟨by rfl, shaped_ints row⟩]
  simp only [any_ints, Option.map, lift]
theorem notin_ints (b : Int) (row : List Int) (S : Sto) : vl2 notinW (.da (.int b)) (.da (.lst (row.map .int))) S = .ok (.da (.bl (!row.any (· == b)))) S := by
  unfold vl2 notinW inB dget
  simp only [dkW, dtW, valW, toPy]
  rw [ifc_pos ⟨by rfl, shaped_ints row⟩]
  simp only [any_ints, Option.map, lift]
theorem eqvL_ints : ∀ a b : List Int, PyData.eqvAll (toPyL (a.map .int)) (toPyL (b.map .int)) = decide (a = b)
  | [], [] => by simp [toPyL, PyData.eqvAll]
  | [], _ :: _ => by simp [toPyL, PyData.eqvAll]
  | _ :: _, [] => by simp [toPyL, PyData.eqvAll]
  | x :: a, y :: b => by
    have := eqvL_ints a b
    simp only [List.map_cons, toPyL, toPy, PyData.eqvAll, PyData.eqv, this]
    by_cases h : x = y
    · subst h; simp
    · simp [h]
theorem eq_ints (a b : List Int) (S : Sto) : vl2 eqW (.da (.lst (a.map .int))) (.da (.lst (b.map .int))) S = .ok (.da (.bl (decide (a = b)))) S := by
  unfold vl2 eqW eqB
  simp only [valW, eqD, toPy]
  rw [ifc_pos ⟨shaped_ints a, shaped_ints b⟩]
  simp only [PyData.eqv, eqvL_ints, Option.map, lift]
theorem ne_ints (a b : List Int) (S : Sto) : vl2 neW (.da (.lst (a.map .int))) (.da (.lst (b.map .int))) S = .ok (.da (.bl (!decide (a = b)))) S := by
  unfold vl2 neW eqB
  simp only [valW, eqD, toPy]
  rw [ifc_pos ⟨shaped_ints a, shaped_ints b⟩]
  simp only [PyData.eqv, eqvL_ints, Option.map, lift]
/-! ### turns and motions, by the program and by the law -/
def turnP (t : Int) (x y : Int) : Int × Int :=
  if t = 0 then (x, y) else if t = 1 then (-y, x) else if t = 2 then (-x, -y) else if t = 3 then (y, -x)
  else if t = 4 then (-x, y) else if t = 5 then (-y, -x) else if t = 6 then (x, -y) else (y, x)
theorem turn8 {t : Int} (h0 : 0 ≤ t) (h7 : t ≤ 7) : t = 0 ∨ t = 1 ∨ t = 2 ∨ t = 3 ∨ t = 4 ∨ t = 5 ∨ t = 6 ∨ t = 7 := by omega
theorem turn_add (t x y r u : Int) (h0 : 0 ≤ t) (h7 : t ≤ 7) : turnP t (x + r) (y + u) = ((turnP t x y).1 + (turnP t r u).1, (turnP t x y).2 + (turnP t r u).2) := by
  rcases turn8 h0 h7 with rfl | rfl | rfl | rfl | rfl | rfl | rfl | rfl <;> simp [turnP] <;> omega
def tbP (t1 t2 : Int) : Int := ((if 4 ≤ t2 then -(t1 % 4) else t1 % 4) + t2) % 4 + 4 * ((t1 / 4 + t2 / 4) % 2)
theorem tb_range (t1 t2 : Int) : 0 ≤ tbP t1 t2 ∧ tbP t1 t2 ≤ 7 := by unfold tbP; omega
theorem turn_turn (t1 t2 x y : Int) (h0 : 0 ≤ t1) (h7 : t1 ≤ 7) (k0 : 0 ≤ t2) (k7 : t2 ≤ 7) : turnP (tbP t1 t2) x y = turnP t2 (turnP t1 x y).1 (turnP t1 x y).2 := by
  rcases turn8 h0 h7 with rfl | rfl | rfl | rfl | rfl | rfl | rfl | rfl <;> rcases turn8 k0 k7 with rfl | rfl | rfl | rfl | rfl | rfl | rfl | rfl <;> simp [turnP, tbP]
def bkP (t : Int) : Int := if 4 ≤ t then t else (4 - t) % 4
theorem bk_range (t : Int) (h0 : 0 ≤ t) (h7 : t ≤ 7) : 0 ≤ bkP t ∧ bkP t ≤ 7 := by
  unfold bkP
  split <;> omega
theorem turn_bk (t x y : Int) (h0 : 0 ≤ t) (h7 : t ≤ 7) : turnP (bkP t) (turnP t x y).1 (turnP t x y).2 = (x, y) := by
  rcases turn8 h0 h7 with rfl | rfl | rfl | rfl | rfl | rfl | rfl | rfl <;> simp [turnP, bkP]
/-! ### motions as things that act -/
abbrev Mo := Int × Int × Int
def okM (m : Mo) : Prop := 0 ≤ m.1 ∧ m.1 ≤ 7
abbrev moL (m : Mo) : List D := [.int m.1, .int m.2.1, .int m.2.2]
abbrev moD (m : Mo) : D := .tup (moL m)
/-- such a motion, as data -/
def IsMo (d : D) (m : Mo) : Prop := d = .tup (moL m) ∨ d = .wt (moL m)
def still : Mo := (0, 0, 0)
def bh (m n : Mo) : Mo := (tbP m.1 n.1, (turnP n.1 m.2.1 m.2.2).1 + n.2.1, (turnP n.1 m.2.1 m.2.2).2 + n.2.2)
def act (m : Mo) (p : Int × Int) : Int × Int := ((turnP m.1 p.1 p.2).1 + m.2.1, (turnP m.1 p.1 p.2).2 + m.2.2)
theorem ok_still : okM still := ⟨by decide, by decide⟩
theorem ok_bh (m n : Mo) : okM (bh m n) := tb_range _ _
theorem act_still (p : Int × Int) : act still p = p := by
  obtain ⟨x, y⟩ := p
  simp [act, still, turnP]
theorem act_bh (m n : Mo) (p : Int × Int) (hm : okM m) (hn : okM n) : act (bh m n) p = act n (act m p) := by
  obtain ⟨x, y⟩ := p
  obtain ⟨t1, r1, u1⟩ := m
  obtain ⟨t2, r2, u2⟩ := n
  simp only [act, bh]
  rw [turn_turn t1 t2 x y hm.1 hm.2 hn.1 hn.2, turn_add t2 _ _ _ _ hn.1 hn.2]
  simp only [Prod.mk.injEq]
  omega
theorem turn_inj {a b : Int} (a0 : 0 ≤ a) (a7 : a ≤ 7) (b0 : 0 ≤ b) (b7 : b ≤ 7) (h : turnP a 1 2 = turnP b 1 2) : a = b := by
  rcases turn8 a0 a7 with rfl | rfl | rfl | rfl | rfl | rfl | rfl | rfl <;> rcases turn8 b0 b7 with rfl | rfl | rfl | rfl | rfl | rfl | rfl | rfl <;> simp [turnP] at h ⊢
theorem turn_00 {a : Int} (a0 : 0 ≤ a) (a7 : a ≤ 7) : turnP a 0 0 = (0, 0) := by
  rcases turn8 a0 a7 with rfl | rfl | rfl | rfl | rfl | rfl | rfl | rfl <;> simp [turnP]
theorem act_inj {m n : Mo} (hm : okM m) (hn : okM n) (h : ∀ p, act m p = act n p) : m = n := by
  obtain ⟨t1, r1, u1⟩ := m
  obtain ⟨t2, r2, u2⟩ := n
  have h0 := h (0, 0)
  have h1 := h (1, 2)
  simp only [act] at h0 h1
  rw [turn_00 hm.1 hm.2, turn_00 hn.1 hn.2] at h0
  simp only [Prod.mk.injEq] at h0 h1
  have e := turn_inj (a := t1) (b := t2) hm.1 hm.2 hn.1 hn.2 (Prod.ext (by have := h0.1; have := h1.1; omega) (by have := h0.2; have := h1.2; omega))
  simp only [Prod.mk.injEq]
  exact ⟨e, by omega, by omega⟩
def bkM (m : Mo) : Mo := (bkP m.1, -(turnP (bkP m.1) m.2.1 m.2.2).1, -(turnP (bkP m.1) m.2.1 m.2.2).2)
theorem ok_bk {m : Mo} (h : okM m) : okM (bkM m) := bk_range _ h.1 h.2
theorem turn_bk2 (t x y : Int) (h0 : 0 ≤ t) (h7 : t ≤ 7) : turnP t (turnP (bkP t) x y).1 (turnP (bkP t) x y).2 = (x, y) := by
  rcases turn8 h0 h7 with rfl | rfl | rfl | rfl | rfl | rfl | rfl | rfl <;> simp [turnP, bkP]
theorem act_bk (m : Mo) (p : Int × Int) (hm : okM m) : act (bkM m) (act m p) = p := by
  obtain ⟨x, y⟩ := p
  obtain ⟨t, r, u⟩ := m
  have hb := bk_range t hm.1 hm.2
  simp only [act, bkM]
  rw [turn_add (bkP t) _ _ _ _ hb.1 hb.2, turn_bk t x y hm.1 hm.2]
  simp only [Prod.mk.injEq]
  omega
theorem turn_neg (t x y : Int) (h0 : 0 ≤ t) (h7 : t ≤ 7) : turnP t (-x) (-y) = (-(turnP t x y).1, -(turnP t x y).2) := by
  rcases turn8 h0 h7 with rfl | rfl | rfl | rfl | rfl | rfl | rfl | rfl <;> simp [turnP]
theorem act_bk2 (m : Mo) (p : Int × Int) (hm : okM m) : act m (act (bkM m) p) = p := by
  obtain ⟨x, y⟩ := p
  obtain ⟨t, r, u⟩ := m
  have hb := bk_range t hm.1 hm.2
  simp only [act, bkM]
  rw [turn_add t _ _ _ _ hm.1 hm.2, turn_neg t _ _ hm.1 hm.2, turn_bk2 t x y hm.1 hm.2, turn_bk2 t r u hm.1 hm.2]
  simp only [Prod.mk.injEq]
  omega
theorem bh_still (m : Mo) (hm : okM m) : bh m still = m := act_inj (ok_bh _ _) hm fun p => by rw [act_bh _ _ _ hm ok_still, act_still]
theorem still_bh (m : Mo) (hm : okM m) : bh still m = m := act_inj (ok_bh _ _) hm fun p => by rw [act_bh _ _ _ ok_still hm, act_still]
theorem bh_assoc (a b c : Mo) (ha : okM a) (hb : okM b) (hc : okM c) : bh (bh a b) c = bh a (bh b c) := act_inj (ok_bh _ _) (ok_bh _ _) fun p => by
  rw [act_bh _ _ _ (ok_bh _ _) hc, act_bh _ _ _ ha hb, act_bh _ _ _ ha (ok_bh _ _), act_bh _ _ _ hb hc]
theorem bh_bk (m : Mo) (hm : okM m) : bh m (bkM m) = still := act_inj (ok_bh _ _) ok_still fun p => by rw [act_bh _ _ _ hm (ok_bk hm), act_bk _ _ hm, act_still]
theorem bk_bh (a m : Mo) (ha : okM a) (hm : okM m) : bkM (bh a m) = bh (bkM m) (bkM a) := act_inj (ok_bk (ok_bh _ _)) (ok_bh _ _) fun p => by
  have e := act_bk (bh a m) (act (bkM a) (act (bkM m) p)) (ok_bh _ _)
  rw [act_bh _ _ _ ha hm, act_bk2 _ _ ha, act_bk2 _ _ hm] at e
  rw [e, act_bh _ _ _ (ok_bk hm) (ok_bk ha)]
theorem bk_still : bkM still = still := by decide
theorem turned_eq (t x y : Int) (h0 : 0 ≤ t) (h7 : t ≤ 7) : p_turned [.int t, .tup [.int x, .int y]] = .ok (.tup [.int (turnP t x y).1, .int (turnP t x y).2]) := by
  unfold p_turned m_turned
  rcases turn8 h0 h7 with rfl | rfl | rfl | rfl | rfl | rfl | rfl | rfl <;> simp_all_arith [b_turned_0, mPar] <;> simp [turnP]
theorem l_turned_eq (t x y : Int) (h0 : 0 ≤ t) (h7 : t ≤ 7) : p_l_turned [.int t, .int x, .int y] = .ok (.tup [.int (turnP t x y).1, .int (turnP t x y).2]) := by
  unfold p_l_turned m_l_turned
  rcases turn8 h0 h7 with rfl | rfl | rfl | rfl | rfl | rfl | rfl | rfl <;> simp_arith [] <;> simp [turnP]
theorem moved_eq (m : Mo) (hm : okM m) (x y : Int) : p_moved [moD m, .tup [.int x, .int y]] = .ok (.tup [.int (act m (x, y)).1, .int (act m (x, y)).2]) := by
  unfold p_moved m_moved act
  simp_arith [turned_eq m.1 x y hm.1 hm.2]
theorem l_moved_eq (m : Mo) (hm : okM m) (x y : Int) : p_l_moved [moD m, .tup [.int x, .int y]] = .ok (.tup [.int (act m (x, y)).1, .int (act m (x, y)).2]) := by
  unfold p_l_moved m_l_moved act
  simp_arith [l_turned_eq m.1 x y hm.1 hm.2]
theorem turn_behind_eq (t1 t2 : Int) : p_turn_behind [.int t1, .int t2] = .ok (.int (tbP t1 t2)) := by
  have hm : ∀ (z : Int) (S : Sto), vl2 mulW (.da (.int 4)) (.da (.int z)) S = .ok (.da (.int (4 * z))) S := fun z S => mul_l _ _ _ (by decide) (by decide)
  unfold p_turn_behind m_turn_behind tbP
  by_cases h : 4 ≤ t2
  · simp_arith [h, hm]
  · simp_arith [h, hm]
theorem behind_mo (m n : Mo) (d e : D) (hd : IsMo d m) (he : IsMo e n) (hn : okM n) : p_behind [d, e] = .ok (moD (bh m n)) := by
  unfold p_behind m_behind bh
  rcases hd with rfl | rfl <;> rcases he with rfl | rfl <;> simp_arith [turned_eq n.1 m.2.1 m.2.2 hn.1 hn.2, turn_behind_eq]
theorem turn_back_eq (t : Int) : p_turn_back [.int t] = .ok (.int (bkP t)) := by
  unfold p_turn_back m_turn_back bkP
  by_cases h : 4 ≤ t
  · simp_arith [h]
  · simp_arith [h]
theorem back_mo (m : Mo) (d : D) (hd : IsMo d m) (hm : okM m) : p_back [d] = .ok (moD (bkM m)) := by
  have hb := bk_range m.1 hm.1 hm.2
  unfold p_back m_back bkM
  rcases hd with rfl | rfl <;> simp_arith [turn_back_eq, turned_eq (bkP m.1) m.2.1 m.2.2 hb.1 hb.2]
theorem l_back_mo (m : Mo) (d : D) (hd : IsMo d m) (hm : okM m) : p_l_back [d] = .ok (moD (bkM m)) := by
  have hb := bk_range m.1 hm.1 hm.2
  obtain ⟨t, r, u⟩ := m
  have k : atI [iW 0, iW 3, iW 2, iW 1, iW 4, iW 5, iW 6, iW 7] t = some (iW (bkP t)) := by
    have h : 0 ≤ t ∧ t ≤ 7 := hm
    rcases turn8 h.1 h.2 with rfl | rfl | rfl | rfl | rfl | rfl | rfl | rfl <;> rfl
  have lt := l_turned_eq (bkP t) r u hb.1 hb.2
  unfold p_l_back m_l_back bkM
  rcases hd with rfl | rfl <;> simp_arith [k, lt]
theorem l_behind_mo (m n : Mo) (d e : D) (hd : IsMo d m) (he : IsMo e n) (hn : okM n) : p_l_behind [d, e] = .ok (moD (bh m n)) := by
  have hm : ∀ (z : Int) (S : Sto), vl2 mulW (.da (.int 4)) (.da (.int z)) S = .ok (.da (.int (4 * z))) S := fun z S => mul_l _ _ _ (by decide) (by decide)
  unfold p_l_behind m_l_behind bh tbP
  by_cases h : 4 ≤ n.1
  · have h' : 3 < n.1 := by omega
    rcases hd with rfl | rfl <;> rcases he with rfl | rfl <;> simp_arith [l_turned_eq n.1 m.2.1 m.2.2 hn.1 hn.2, hm, h, h']
  · have h' : ¬ 3 < n.1 := by omega
    rcases hd with rfl | rfl <;> rcases he with rfl | rfl <;> simp_arith [l_turned_eq n.1 m.2.1 m.2.2 hn.1 hn.2, hm, h, h']
/-! ### numbers far and near: some number -/
theorem far_ok (a b : Int) (ha : 0 ≤ a) (ha2 : a < 1013) (hb : 0 ≤ b) (hb2 : b < 1013) : ∃ r, p_l_far [.int a, .int b] = .ok (.int r) := by
  have hp := fun S => pow_ok 10 27 S (by decide) (by decide) (by decide)
  have hm : ∀ (j : Int) (S : Sto), vl2 mulW (.da (.int (b - 506))) (.da (.int j)) S = .ok (.da (.int ((b - 506) * j))) S := fun j S => mul_l _ _ _ (by omega) (by omega)
  unfold p_l_far m_l_far
  by_cases h1 : a % 5 < 3
  · exact ⟨_, by simp_arith [h1]; rfl⟩
  · by_cases h2 : a % 5 = 3
    · have h3 : ¬ ((3 : Int) < 3) := by omega
      exact ⟨_, by simp_arith [h2, h3]; rfl⟩
    · exact ⟨_, by simp_arith [h1, h2, hm, hp]; rfl⟩
theorem l_motion_at (x0 x1 x2 x3 x4 : Int) (row : List D) (k : Int) (h0 : atI (row.map W.da) k = some (iW x0)) (h1 : atI (row.map W.da) (k + 1) = some (iW x1)) (h2 : atI (row.map W.da) (k + 2) = some (iW x2)) (h3 : atI (row.map W.da) (k + 3) = some (iW x3)) (h4 : atI (row.map W.da) (k + 4) = some (iW x4))
    (b1 : 0 ≤ x1 ∧ x1 < 1013) (b2 : 0 ≤ x2 ∧ x2 < 1013) (b3 : 0 ≤ x3 ∧ x3 < 1013) (b4 : 0 ≤ x4 ∧ x4 < 1013) :
    ∃ m : Mo, okM m ∧ p_l_motion [.lst row, .int k] = .ok (moD m) := by
  obtain ⟨r, er⟩ := far_ok x1 x2 b1.1 b1.2 b2.1 b2.2
  obtain ⟨u, eu⟩ := far_ok x3 x4 b3.1 b3.2 b4.1 b4.2
  refine ⟨(x0 % 8, r, u), ⟨by show 0 ≤ x0 % 8; omega, by show x0 % 8 ≤ 7; omega⟩, ?_⟩
  unfold p_l_motion m_l_motion
  simp_arith [h0, h1, h2, h3, h4, er, eu]
/-! ### plates -/
abbrev Star := Int × Int × Int
abbrev stD (s : Star) : D := .tup [.int s.1, .int s.2.1, .int s.2.2]
abbrev stW (s : Star) : W := .da (stD s)
abbrev starsD (l : List Star) : D := .lst (l.map stD)
abbrev plc (s : Star) : Int × Int := (s.1, s.2.1)
theorem enc_star : Enc stD 1 := EncL.tup (EncL.cons enc_int (EncL.cons enc_int (EncL.one enc_int)))
theorem sk_star : Sk stD := .inl fun a => ⟨_, _, by simp [toPy, toPyL]; exact ⟨rfl, rfl⟩⟩
theorem lay_star (l : List Star) : Lay stD l := fun a _ => by simp [toPy, toPyL, PyData.canLay0, PyData.canLayAll0]
theorem dats_stars (l : List Star) : dats (l.map stW) = some (l.map stD) := by
  rw [show l.map stW = (l.map stD).map .da by simp [Function.comp_def], dats_da]
theorem stars_map (l : List Star) : List.map (W.da ∘ stD) l = l.map stW := rfl
abbrev azS : Str := "abcdefghijklmnopqrstuvwxyz"
def NameOk (s : Str) : Prop := 1 ≤ s.length ∧ s.length ≤ 8 ∧ ∀ c ∈ s.cps.toList, c ∈ azS.cps.toList
theorem notin_az (c : Nat) (S : Sto) : vl2 notinW (.da (.str ⟨#[c]⟩)) (.da (.str azS)) S = .ok (.da (.bl (!dec (c ∈ azS.cps.toList)))) S := rfl
theorem name_loop (s : Str) (S : Sto) : ∀ (cs : List Nat) (o1 : Option W), (∃ a, loopM (gtName 1) b_is_name_0 (cs.map fun c => W.da (.str ⟨#[c]⟩)) [some (.da (.str s)), o1] S = .nx [some (.da (.str s)), a] S ∧ ∀ c ∈ cs, c ∈ azS.cps.toList) ∨ (loopM (gtName 1) b_is_name_0 (cs.map fun c => W.da (.str ⟨#[c]⟩)) [some (.da (.str s)), o1] S = .rt (.da (.bl false)) S ∧ ¬ ∀ c ∈ cs, c ∈ azS.cps.toList)
  | [], o1 => .inl ⟨o1, rfl, by simp⟩
  | c :: cs, o1 => by
    have g : gtName 1 (W.da (.str ⟨#[c]⟩)) [some (.da (.str s)), o1] S = some [some (.da (.str s)), some (.da (.str ⟨#[c]⟩))] := rfl
    by_cases h : c ∈ azS.cps.toList
    · have b : b_is_name_0 [some (.da (.str s)), some (.da (.str ⟨#[c]⟩))] S = .nx [some (.da (.str s)), some (.da (.str ⟨#[c]⟩))] S := by
        unfold b_is_name_0
        simp_arith [notin_az, dec_pos h]
      rcases name_loop s S cs (some (.da (.str ⟨#[c]⟩))) with ⟨a, e, k⟩ | ⟨e, k⟩
      · refine .inl ⟨a, ?_, ?_⟩
        · simp only [List.map_cons, loopM, g, b, e]
        · intro x hx
          rcases List.mem_cons.mp hx with rfl | hx
          · exact h
          · exact k x hx
      · refine .inr ⟨?_, fun z => k fun x hx => z x (List.mem_cons_of_mem _ hx)⟩
        simp only [List.map_cons, loopM, g, b, e]
    · have b : b_is_name_0 [some (.da (.str s)), some (.da (.str ⟨#[c]⟩))] S = .rt (.da (.bl false)) S := by
        unfold b_is_name_0
        simp_arith [notin_az, dec_neg h]
      refine .inr ⟨?_, fun z => h (z c (by simp))⟩
      simp only [List.map_cons, loopM, g, b]
theorem len_str (s : Str) (h : s.length ≤ 100000) (S : Sto) : vlN lenW [.da (.str s)] S = .ok (.da (.int s.length)) S := by
  unfold vlN lenW
  simp only [seqW, ifc_pos (sz_le h), lift]
theorem is_name_eq (s : Str) (hl : s.length ≤ 100000) : p_is_name [.str s] = .ok (.bl (dec (NameOk s))) := by
  unfold p_is_name m_is_name
  have ln := fun S => len_str s hl S
  by_cases h1 : (s.length : Int) < 1
  · rw [dec_neg (c := NameOk s) (fun z => by have := z.1; omega)]
    simp_arith [ln, dec_pos h1]
  · by_cases h2 : (8 : Int) < (s.length : Int)
    · rw [dec_neg (c := NameOk s) (fun z => by have := z.2.1; omega)]
      simp_arith [ln, dec_neg h1, dec_pos h2]
    · have sg : signs s = s.cps.toList.map fun c => W.da (.str ⟨#[c]⟩) := rfl
      rcases name_loop s [] s.cps.toList none with ⟨a, e, k⟩ | ⟨e, k⟩
      · rw [dec_pos (c := NameOk s) ⟨by omega, by omega, k⟩]
        simp_arith [ln, dec_neg h1, dec_neg h2]
        rw [sg, e]
        simp_arith []
      · rw [dec_neg (c := NameOk s) (fun z => k z.2.2)]
        simp_arith [ln, dec_neg h1, dec_neg h2]
        rw [sg, e]
        simp_arith []
/-! stars -/
def StarOk (w h l : Int) (s : Star) : Prop := (0 ≤ s.1 ∧ s.1 < w) ∧ (0 ≤ s.2.1 ∧ s.2.1 < h) ∧ (l ≤ s.2.2 ∧ s.2.2 ≤ 9)
def GlassOk (w h l : Int) (ss : List Star) : Prop := (1 ≤ w ∧ w ≤ 8) ∧ (1 ≤ h ∧ h ≤ 8) ∧ (1 ≤ l ∧ l ≤ 9) ∧ ss.length ≤ 8 ∧ (∀ s ∈ ss, StarOk w h l s) ∧ (ss.map plc).Nodup
abbrev plK (s : Star) : List Key := [.inl s.1, .inl s.2.1]
theorem plK_inj (a b : Star) : plK a = plK b ↔ plc a = plc b := by simp [plK, plc]
abbrev glR (w h l : Int) (sd : D) (o4 o5 o6 o7 : Option W) : Rho := [some (iW w), some (iW h), some (iW l), some (.da sd), o4, o5, o6, o7]
abbrev seenC (ss : List Star) : Cell := .dt (ss.map fun s => (plK s, W.da (.bl true)))
theorem look_seen (x y : Int) : ∀ ss : List Star, (look (ss.map fun s => (plK s, W.da (.bl true))) [.inl x, .inl y]).isSome = dec ((x, y) ∈ ss.map plc)
  | [] => by rw [dec_neg (by simp)]; rfl
  | s :: ss => by
    simp only [List.map_cons, look]
    by_cases h : plK s = [.inl x, .inl y]
    · rw [if_pos h, dec_pos]
      · rfl
      · simp only [List.cons.injEq, Sum.inl.injEq, and_true] at h
        exact List.mem_cons.mpr (.inl (by rw [← h.1, ← h.2]))
    · rw [if_neg h, look_seen x y ss]
      by_cases q : (x, y) ∈ ss.map plc
      · rw [dec_pos q, dec_pos (List.mem_cons_of_mem _ q)]
      · rw [dec_neg q, dec_neg]
        intro z
        rcases List.mem_cons.mp z with z | z
        · apply h
          simp only [plc, Prod.mk.injEq] at z
          rw [z.1, z.2]
        · exact q z
theorem in_seen (x y : Int) (ss : List Star) : vl2 inW (.da (.tup [.int x, .int y])) (.lo 0) [seenC ss] = .ok (.da (.bl (dec ((x, y) ∈ ss.map plc)))) [seenC ss] := by
  unfold vl2 inW inB dget
  simp only [dkW, dtW, List.getElem?_cons_zero, keysW, keysD, keyD, Option.map, look_seen, lift]
theorem put_seen (s : Star) (ss : List Star) (h : plc s ∉ ss.map plc) : putW (ss.map fun s => (plK s, W.da (.bl true))) (plK s) (.da (.bl true)) = (ss ++ [s]).map fun s => (plK s, W.da (.bl true)) := by
  unfold putW
  rw [if_neg]
  · simp
  · intro z
    rw [List.any_eq_true] at z
    obtain ⟨q, hq, e⟩ := z
    obtain ⟨u, hu, rfl⟩ := List.mem_map.mp hq
    exact h (List.mem_map.mpr ⟨u, hu, (plK_inj _ _).mp (of_decide_eq_true e)⟩)
theorem glass_loop (w h l : Int) (sd : D) : ∀ (rest done : List Star) (o5 o6 o7 : Option W), done.length + rest.length < 1000 → (done.map plc).Nodup →
    (∃ a b c, loopM (gtTup 3 (gtCons (gtName 5) (gtCons (gtName 6) (gtCons (gtName 7) gtNil)))) b_is_glass_0 (rest.map stW) (glR w h l sd (some (.lo 0)) o5 o6 o7) [seenC done] = .nx (glR w h l sd (some (.lo 0)) a b c) [seenC (done ++ rest)] ∧ (∀ s ∈ rest, StarOk w h l s) ∧ ((done ++ rest).map plc).Nodup) ∨
    ((∃ S, loopM (gtTup 3 (gtCons (gtName 5) (gtCons (gtName 6) (gtCons (gtName 7) gtNil)))) b_is_glass_0 (rest.map stW) (glR w h l sd (some (.lo 0)) o5 o6 o7) [seenC done] = .rt (.da (.bl false)) S) ∧ ¬ ((∀ s ∈ rest, StarOk w h l s) ∧ ((done ++ rest).map plc).Nodup))
  | [], done, o5, o6, o7, _, nd => .inl ⟨o5, o6, o7, by simp [loopM], by simp, by simpa using nd⟩
  | s :: rest, done, o5, o6, o7, hl, nd => by
    simp only [List.length_cons] at hl
    have g : (gtTup 3 (gtCons (gtName 5) (gtCons (gtName 6) (gtCons (gtName 7) gtNil)))) (stW s) (glR w h l sd (some (.lo 0)) o5 o6 o7) [seenC done] = some (glR w h l sd (some (.lo 0)) (some (iW s.1)) (some (iW s.2.1)) (some (iW s.2.2))) := by
      simp_arith []
    have isn := in_seen s.1 s.2.1 done
    by_cases h1 : StarOk w h l s
    · obtain ⟨⟨a1, a2⟩, ⟨a3, a4⟩, a5, a6⟩ := id h1
      by_cases h2 : plc s ∈ done.map plc
      · refine .inr ⟨⟨[seenC done], ?_⟩, fun z => ?_⟩
        · have b : b_is_glass_0 (glR w h l sd (some (.lo 0)) (some (iW s.1)) (some (iW s.2.1)) (some (iW s.2.2))) [seenC done] = .rt (.da (.bl false)) [seenC done] := by
            unfold b_is_glass_0
            simp_arith [dec_pos a1, dec_pos a2, dec_pos a3, dec_pos a4, dec_pos a5, dec_pos a6, isn, dec_pos h2]
          simp only [List.map_cons, loopM, g, b]
        · have := z.2
          rw [List.map_append, List.nodup_append] at this
          exact this.2.2 _ h2 _ (List.mem_map.mpr ⟨s, by simp, rfl⟩) rfl
      · have b : b_is_glass_0 (glR w h l sd (some (.lo 0)) (some (iW s.1)) (some (iW s.2.1)) (some (iW s.2.2))) [seenC done] = .nx (glR w h l sd (some (.lo 0)) (some (iW s.1)) (some (iW s.2.1)) (some (iW s.2.2))) [seenC (done ++ [s])] := by
          have ps := put_seen s done h2
          have kk : keysW (.da (.tup [.int s.1, .int s.2.1])) = some (plK s) := rfl
          unfold b_is_glass_0 mSetIx
          simp_arith [dec_pos a1, dec_pos a2, dec_pos a3, dec_pos a4, dec_pos a5, dec_pos a6, isn, dec_neg h2, kk, ifc_pos (sz_lt (show done.length < 100000 by omega)), ps]
        have nd2 : ((done ++ [s]).map plc).Nodup := by
          rw [List.map_append, List.nodup_append]
          refine ⟨nd, by simp, fun a ha c hc => ?_⟩
          simp only [List.map_cons, List.map_nil, List.mem_singleton] at hc
          subst hc
          intro z
          exact h2 (z ▸ ha)
        rcases glass_loop w h l sd rest (done ++ [s]) (some (iW s.1)) (some (iW s.2.1)) (some (iW s.2.2)) (by simp; omega) nd2 with ⟨x, y, z, e, k1, k2⟩ | ⟨⟨S, e⟩, k⟩
        · refine .inl ⟨x, y, z, ?_, ?_, by simpa using k2⟩
          · simp only [List.map_cons, loopM, g, b, e]
            simp
          · intro u hu
            rcases List.mem_cons.mp hu with rfl | hu
            · exact h1
            · exact k1 u hu
        · refine .inr ⟨⟨S, ?_⟩, fun z => k ⟨fun u hu => z.1 u (List.mem_cons_of_mem _ hu), by simpa using z.2⟩⟩
          simp only [List.map_cons, loopM, g, b, e]
    · refine .inr ⟨⟨[seenC done], ?_⟩, fun z => h1 (z.1 s (by simp))⟩
      have b : b_is_glass_0 (glR w h l sd (some (.lo 0)) (some (iW s.1)) (some (iW s.2.1)) (some (iW s.2.2))) [seenC done] = .rt (.da (.bl false)) [seenC done] := by
        unfold b_is_glass_0
        by_cases a1 : 0 ≤ s.1
        · by_cases a2 : s.1 < w
          · by_cases a3 : 0 ≤ s.2.1
            · by_cases a4 : s.2.1 < h
              · by_cases a5 : l ≤ s.2.2
                · have a6 : ¬ s.2.2 ≤ 9 := fun z => h1 ⟨⟨a1, a2⟩, ⟨a3, a4⟩, a5, z⟩
                  simp_arith [dec_pos a1, dec_pos a2, dec_pos a3, dec_pos a4, dec_pos a5, dec_neg a6]
                · simp_arith [dec_pos a1, dec_pos a2, dec_pos a3, dec_pos a4, dec_neg a5]
              · simp_arith [dec_pos a1, dec_pos a2, dec_pos a3, dec_neg a4]
            · simp_arith [dec_pos a1, dec_pos a2, dec_neg a3]
          · simp_arith [dec_pos a1, dec_neg a2]
        · simp_arith [dec_neg a1]
      simp only [List.map_cons, loopM, g, b]
theorem is_glass_eq (w h l : Int) (ss : List Star) (hl : ss.length ≤ 900) : p_is_glass [.int w, .int h, .int l, starsD ss] = .ok (.bl (dec (GlassOk w h l ss))) := by
  unfold p_is_glass m_is_glass
  by_cases w1 : (1 : Int) ≤ w
  · by_cases w2 : w ≤ 8
    · by_cases h1 : (1 : Int) ≤ h
      · by_cases h2 : h ≤ 8
        · by_cases l1 : (1 : Int) ≤ l
          · by_cases l2 : l ≤ 9
            · by_cases n1 : (8 : Int) < (ss.length : Int)
              · rw [dec_neg (c := GlassOk w h l ss) (fun z => by have := z.2.2.2.1; omega)]
                simp_arith [dec_pos w1, dec_pos w2, dec_pos h1, dec_pos h2, dec_pos l1, dec_pos l2, dec_pos n1]
              · rcases glass_loop w h l (starsD ss) ss [] none none none (by simp; omega) (by simp) with ⟨x, y, z, e, k1, k2⟩ | ⟨⟨S, e⟩, k⟩
                · rw [dec_pos (c := GlassOk w h l ss) ⟨⟨w1, w2⟩, ⟨h1, h2⟩, ⟨l1, l2⟩, by omega, k1, by simpa using k2⟩]
                  have dw : datWs 4 [Cell.dead] (List.map ((fun x : List Key × W => x.snd) ∘ fun s => (plK s, W.da (D.bl true))) ss) = some (ss.map fun _ => .bl true, [.dead]) := by
                    rw [show (List.map ((fun x : List Key × W => x.snd) ∘ fun s => (plK s, W.da (D.bl true))) ss) = (ss.map fun _ => D.bl true).map .da by simp [Function.comp_def]]
                    exact datWs_da 4 _ _
                  simp_arith [dec_pos w1, dec_pos w2, dec_pos h1, dec_pos h2, dec_pos l1, dec_pos l2, dec_neg n1, newDT]
                  rw [stars_map, show ([Cell.dt []] : Sto) = [seenC []] from rfl, e]
                  unfold mFrz
                  rw [List.nil_append]
                  simp_arith [dw]
                · rw [dec_neg (c := GlassOk w h l ss) (fun z => k ⟨z.2.2.2.2.1, by simpa using z.2.2.2.2.2⟩)]
                  simp_arith [dec_pos w1, dec_pos w2, dec_pos h1, dec_pos h2, dec_pos l1, dec_pos l2, dec_neg n1, newDT]
                  rw [stars_map, show ([Cell.dt []] : Sto) = [seenC []] from rfl, e]
                  simp_arith []
            · rw [dec_neg (c := GlassOk w h l ss) (fun z => l2 z.2.2.1.2)]
              simp_arith [dec_pos w1, dec_pos w2, dec_pos h1, dec_pos h2, dec_pos l1, dec_neg l2]
          · rw [dec_neg (c := GlassOk w h l ss) (fun z => l1 z.2.2.1.1)]
            simp_arith [dec_pos w1, dec_pos w2, dec_pos h1, dec_pos h2, dec_neg l1]
        · rw [dec_neg (c := GlassOk w h l ss) (fun z => h2 z.2.1.2)]
          simp_arith [dec_pos w1, dec_pos w2, dec_pos h1, dec_neg h2]
      · rw [dec_neg (c := GlassOk w h l ss) (fun z => h1 z.2.1.1)]
        simp_arith [dec_pos w1, dec_pos w2, dec_neg h1]
    · rw [dec_neg (c := GlassOk w h l ss) (fun z => w2 z.1.2)]
      simp_arith [dec_pos w1, dec_neg w2]
  · rw [dec_neg (c := GlassOk w h l ss) (fun z => w1 z.1.1)]
    simp_arith [dec_neg w1]
/-! ### a plate made -/
theorem plne : ((("name" : Str) = "width") = False) ∧ ((("name" : Str) = "height") = False) ∧ ((("name" : Str) = "limit") = False) ∧ ((("name" : Str) = "lights") = False) ∧ ((("name" : Str) = "stars") = False) ∧ ((("name" : Str) = "holds") = False) ∧ ((("name" : Str) = "says") = False) ∧ ((("name" : Str) = "places") = False) ∧ ((("width" : Str) = "name") = False) ∧ ((("width" : Str) = "height") = False) ∧ ((("width" : Str) = "limit") = False) ∧ ((("width" : Str) = "lights") = False) ∧ ((("width" : Str) = "stars") = False) ∧ ((("width" : Str) = "holds") = False) ∧ ((("width" : Str) = "says") = False) ∧ ((("width" : Str) = "places") = False) ∧ ((("height" : Str) = "name") = False) ∧ ((("height" : Str) = "width") = False) ∧ ((("height" : Str) = "limit") = False) ∧ ((("height" : Str) = "lights") = False) ∧ ((("height" : Str) = "stars") = False) ∧ ((("height" : Str) = "holds") = False) ∧ ((("height" : Str) = "says") = False) ∧ ((("height" : Str) = "places") = False) ∧ ((("limit" : Str) = "name") = False) ∧ ((("limit" : Str) = "width") = False) ∧ ((("limit" : Str) = "height") = False) ∧ ((("limit" : Str) = "lights") = False) ∧ ((("limit" : Str) = "stars") = False) ∧ ((("limit" : Str) = "holds") = False) ∧ ((("limit" : Str) = "says") = False) ∧ ((("limit" : Str) = "places") = False) ∧ ((("lights" : Str) = "name") = False) ∧ ((("lights" : Str) = "width") = False) ∧ ((("lights" : Str) = "height") = False) ∧ ((("lights" : Str) = "limit") = False) ∧ ((("lights" : Str) = "stars") = False) ∧ ((("lights" : Str) = "holds") = False) ∧ ((("lights" : Str) = "says") = False) ∧ ((("lights" : Str) = "places") = False) := by
  refine ⟨?_, ?_, ?_, ?_, ?_, ?_, ?_, ?_, ?_, ?_, ?_, ?_, ?_, ?_, ?_, ?_, ?_, ?_, ?_, ?_, ?_, ?_, ?_, ?_, ?_, ?_, ?_, ?_, ?_, ?_, ?_, ?_, ?_, ?_, ?_, ?_, ?_, ?_, ?_, ?_⟩ <;> exact eq_false (by decide +kernel)
abbrev brV (s : Star) : D := .int s.2.2
abbrev brKW (s : Star) : List Key × W := (plK s, .da (brV s))
abbrev plFs : List Str := ["name", "width", "height", "limit", "lights"]
/-- a plate, as data: its stars in order -/
abbrev plateD (n : Str) (w h l : Int) (ss : List Star) : D := .obj "Plate" plFs [.str n, .int w, .int h, .int l, .dt (ss.map plK) (ss.map brV)]
abbrev plIns (n : Str) (w h l : Int) : Cell := .ins "Plate" [("name", .da (.str n)), ("width", iW w), ("height", iW h), ("limit", iW l), ("lights", .lo 1)]
theorem put_br (s : Star) (ss : List Star) (h : plc s ∉ ss.map plc) : putW (ss.map brKW) (plK s) (.da (brV s)) = (ss ++ [s]).map brKW := by
  unfold putW
  rw [if_neg]
  · simp
  · intro z
    rw [List.any_eq_true] at z
    obtain ⟨q, hq, e⟩ := z
    obtain ⟨u, hu, rfl⟩ := List.mem_map.mp hq
    exact h (List.mem_map.mpr ⟨u, hu, (plK_inj _ _).mp (of_decide_eq_true e)⟩)
abbrev inR (n : Str) (w h l : Int) (sd : D) (o6 o7 o8 : Option W) : Rho := [some (.lo 0), some (.da (.str n)), some (iW w), some (iW h), some (iW l), some (.da sd), o6, o7, o8]
theorem init_loop (n : Str) (w h l : Int) (sd : D) : ∀ (rest done : List Star) (o6 o7 o8 : Option W), done.length + rest.length < 1000 → ((done ++ rest).map plc).Nodup →
    ∃ a b c, loopM (gtTup 3 (gtCons (gtName 6) (gtCons (gtName 7) (gtCons (gtName 8) gtNil)))) b_Plate___init___0 (rest.map stW) (inR n w h l sd o6 o7 o8) [plIns n w h l, .dt (done.map brKW)] = .nx (inR n w h l sd a b c) [plIns n w h l, .dt ((done ++ rest).map brKW)]
  | [], done, o6, o7, o8, _, nd => ⟨o6, o7, o8, by simp [loopM]⟩
  | s :: rest, done, o6, o7, o8, hl, nd => by
    simp only [List.length_cons] at hl
    have g : (gtTup 3 (gtCons (gtName 6) (gtCons (gtName 7) (gtCons (gtName 8) gtNil)))) (stW s) (inR n w h l sd o6 o7 o8) [plIns n w h l, .dt (done.map brKW)] = some (inR n w h l sd (some (iW s.1)) (some (iW s.2.1)) (some (iW s.2.2))) := by
      simp_arith []
    have h2 : plc s ∉ done.map plc := by
      rw [List.map_append, List.nodup_append] at nd
      exact fun z => nd.2.2 _ z _ (List.mem_map.mpr ⟨s, by simp, rfl⟩) rfl
    have ps := put_br s done h2
    have kk : keysW (.da (.tup [.int s.1, .int s.2.1])) = some (plK s) := rfl
    have b : b_Plate___init___0 (inR n w h l sd (some (iW s.1)) (some (iW s.2.1)) (some (iW s.2.2))) [plIns n w h l, .dt (done.map brKW)] = .nx (inR n w h l sd (some (iW s.1)) (some (iW s.2.1)) (some (iW s.2.2))) [plIns n w h l, .dt ((done ++ [s]).map brKW)] := by
      unfold b_Plate___init___0 mSetIx
      simp_arith [plne, vl1, List.mem_singleton, kk, ifc_pos (sz_lt (show done.length < 100000 by omega)), ps]
    obtain ⟨x, y, z, e⟩ := init_loop n w h l sd rest (done ++ [s]) (some (iW s.1)) (some (iW s.2.1)) (some (iW s.2.2)) (by simp; omega) (by simpa using nd)
    refine ⟨x, y, z, ?_⟩
    simp only [List.map_cons, loopM, g, b, e]
    simp
theorem dats_brs (k : Nat) (S : Sto) (ss : List Star) : datWs k S (List.map ((fun x : List Key × W => x.snd) ∘ brKW) ss) = some (ss.map brV, S) := by
  rw [show (List.map ((fun x : List Key × W => x.snd) ∘ brKW) ss) = (ss.map brV).map .da by simp [Function.comp_def]]
  exact datWs_da k _ _
theorem plate_ok (n : Str) (w h l : Int) (ss : List Star) (hn : NameOk n) (hg : GlassOk w h l ss) : makeP "Plate" q_Plate___init__ [.str n, .int w, .int h, .int l, starsD ss] = .ok (plateD n w h l (sortE stD ss)) := by
  have l1 : n.length ≤ 100000 := by have := hn.2.1; omega
  have l2 : ss.length ≤ 8 := hg.2.2.2.1
  have e1 := is_name_eq n l1
  have e2 := is_glass_eq w h l ss (by omega)
  rw [dec_pos hn] at e1
  rw [dec_pos hg] at e2
  have nd : ((sortE stD ss).map plc).Nodup := ((sortE_is ss).map plc).nodup_iff.mpr hg.2.2.2.2.2
  have sl : (sortE stD ss).length ≤ 8 := by rw [sortE_len]; exact l2
  have so := sortC_ok enc_star (by omega) sk_star (lay_star ss) (lstW_da [plIns n w h l, .dt []] ss)
  generalize sortE stD ss = st at nd sl so ⊢
  obtain ⟨a, b, c, e⟩ := init_loop n w h l (starsD ss) st [] none none none (by simp; omega) (by simpa using nd)
  have pr : List.map ((fun x : List Key × W => x.fst) ∘ brKW) st = st.map plK := by simp [Function.comp_def]
  rw [List.nil_append] at e
  unfold makeP q_Plate___init__ m_Plate___init__
  simp_arith [e1, e2, plne, List.mem_singleton, newDT, so, dats_stars]
  rw [stars_map, show ([plIns n w h l, Cell.dt []] : Sto) = [plIns n w h l, .dt (([] : List Star).map brKW)] from rfl, e]
  simp_arith []
  rw [ifc_neg (by simp)]
  simp_arith [datW, datWs, dats_brs, pr]
theorem plate_noname (n : Str) (w h l : Int) (ss : List Star) (l1 : n.length ≤ 100000) (hn : ¬ NameOk n) : makeP "Plate" q_Plate___init__ [.str n, .int w, .int h, .int l, starsD ss] = .ex ⟨"BadName", [], []⟩ := by
  have e1 := is_name_eq n l1
  rw [dec_neg hn] at e1
  unfold makeP q_Plate___init__ m_Plate___init__ mRaise
  simp_arith [e1, List.take_succ_cons]
theorem plate_noglass (n : Str) (w h l : Int) (ss : List Star) (l2 : ss.length ≤ 900) (hn : NameOk n) (hg : ¬ GlassOk w h l ss) : makeP "Plate" q_Plate___init__ [.str n, .int w, .int h, .int l, starsD ss] = .ex ⟨"BadPlate", [], []⟩ := by
  have l1 : n.length ≤ 100000 := by have := hn.2.1; omega
  have e1 := is_name_eq n l1
  have e2 := is_glass_eq w h l ss l2
  rw [dec_pos hn] at e1
  rw [dec_neg hg] at e2
  unfold makeP q_Plate___init__ m_Plate___init__ mRaise
  simp_arith [e1, e2, List.take_succ_cons]
/-! ### slices of lists -/
theorem cut_from {α : Type} (xs : List α) (k : Nat) : cutL xs (some (k : Int)) none = xs.drop k := by
  unfold cutL
  rw [HT.sIx_nat, HT.sIx_none]
  by_cases h : k ≤ xs.length
  · rw [Nat.min_eq_left h, List.take_of_length_le (by simp)]
  · rw [Nat.min_eq_right (by omega), List.drop_length, List.drop_eq_nil_of_le (by omega)]
    simp
theorem cut_to {α : Type} (xs : List α) (k : Nat) : cutL xs none (some (k : Int)) = xs.take k := by
  unfold cutL
  rw [HT.sIx_nat, HT.sIx_none]
  simp only [List.drop_zero, Nat.sub_zero]
  by_cases h : k ≤ xs.length
  · rw [Nat.min_eq_left h]
  · rw [Nat.min_eq_right (by omega), List.take_length, List.take_of_length_le (by omega)]
theorem cut_mid {α : Type} (xs : List α) (k j : Nat) (h : k ≤ j) (hj : j ≤ xs.length) : cutL xs (some (k : Int)) (some (j : Int)) = (xs.drop k).take (j - k) := by
  unfold cutL
  rw [HT.sIx_nat, HT.sIx_nat, Nat.min_eq_left hj, Nat.min_eq_left (by omega)]
theorem sl_from (ds : List D) (k : Nat) (S : Sto) : slF mkD (.da (.lst ds)) (some (k : Int)) none S = .ok (.da (.lst (ds.drop k))) S := by
  unfold slF slV
  simp only [lstW, cut_from]
  rw [← List.map_drop]
  simp only [mkD, datC, dats_da, Option.map]
theorem sl_to (ds : List D) (k : Nat) (S : Sto) : slF mkD (.da (.lst ds)) none (some (k : Int)) S = .ok (.da (.lst (ds.take k))) S := by
  unfold slF slV
  simp only [lstW, cut_to]
  rw [← List.map_take]
  simp only [mkD, datC, dats_da, Option.map]
theorem sl_mid (ds : List D) (k j : Nat) (h : k ≤ j) (hj : j ≤ ds.length) (S : Sto) : slF mkD (.da (.lst ds)) (some (k : Int)) (some (j : Int)) S = .ok (.da (.lst ((ds.drop k).take (j - k)))) S := by
  unfold slF slV
  simp only [lstW]
  rw [cut_mid _ k j h (by simpa using hj), ← List.map_drop, ← List.map_take]
  simp only [mkD, datC, dats_da, Option.map]
/-! ### names -/
abbrev abc : Str := "abcdefghijklmnopqrstuvwxyz"
def letS (i : Int) : Str := ⟨#[abc.cps.toList.getD i.toNat 97]⟩
theorem abc_len : abc.cps.toList.length = 26 := by decide +kernel
theorem abc_len2 : abc.length = 26 := by decide +kernel
theorem let_ok (i : Int) (h0 : 0 ≤ i) (h1 : i < 26) (S : Sto) : vl2 ixW (.da (.str abc)) (.da (.int i)) S = .ok (.da (.str (letS i))) S := by
  unfold vl2 ixW
  simp only [seqW]
  rw [ifc_pos (by rw [abc_len2]; decide), atI_get _ _ h0 (by rw [abc_len]; exact h1)]
  have hl : i.toNat < abc.cps.toList.length := by rw [abc_len]; omega
  simp only [Option.map, lift, letS, List.getD, List.getElem?_eq_getElem hl, Option.getD_some]
theorem let_len (i : Int) : (letS i).length = 1 := rfl
theorem str_len_append (x y : Str) : (x ++ y).length = x.length + y.length := by
  show (x ++ y).cps.size = x.cps.size + y.cps.size
  rw [Str.cps_append, Array.size_append]
theorem join0_len : ∀ ys : List Str, (∀ y ∈ ys, y.length = 1) → (Str.join "" ys).length = ys.length
  | [], _ => rfl
  | [x], h => h x (by simp)
  | x :: y :: r, h => by
    show (x ++ "" ++ Str.join "" (y :: r)).length = _
    rw [str_len_append, str_len_append, join0_len (y :: r) (fun z hz => h z (List.mem_cons_of_mem _ hz)), h x (by simp)]
    show 1 + ("" : Str).length + (y :: r).length = _
    rw [show ("" : Str).length = 0 by decide +kernel]
    simp; omega
theorem strsW_map : ∀ ys : List Str, strsW (ys.map (fun s => W.da (.str s))) = some ys
  | [] => rfl
  | y :: ys => by simp only [List.map_cons, strsW, strsW_map ys]
theorem sum_one : ∀ ys : List Str, (∀ y ∈ ys, y.length = 1) → (ys.map (·.length)).sum = ys.length
  | [], _ => rfl
  | y :: ys, h => by
    simp only [List.map_cons, List.sum_cons, List.length_cons, h y (by simp), sum_one ys (fun z hz => h z (List.mem_cons_of_mem _ hz))]
    omega
theorem join0_ok (ys : List Str) (h : ∀ y ∈ ys, y.length = 1) (hl : ys.length ≤ 1000) (S : Sto) : vmt joinW (.da (.str "")) [.da (.lst (ys.map .str))] S = .ok (.da (.str (Str.join "" ys))) S := by
  have e : (ys.map D.str).map W.da = ys.map (fun s => W.da (.str s)) := by simp [Function.comp_def]
  have z : ("" : Str).length = 0 := by decide +kernel
  unfold vmt joinW
  simp only [seqW, e, strsW_map]
  rw [ifc_pos (by rw [sum_one ys h, z]; omega), TL.join_eq]
  rfl
theorem dats_strs (ys : List Str) : dats (ys.map (fun s => W.da (.str s))) = some (ys.map .str) := by
  rw [show ys.map (fun s => W.da (.str s)) = (ys.map D.str).map .da by simp [Function.comp_def], dats_da]
/-! ### places, slices of stars, lists walked as they stand -/
abbrev pD (p : Int × Int) : D := .tup [.int p.1, .int p.2]
abbrev pW (p : Int × Int) : W := .da (pD p)
theorem enc_pair : Enc pD 1 := EncL.tup (EncL.cons enc_int (EncL.one enc_int))
theorem lay_pair (l : List (Int × Int)) : Lay pD l := fun a _ => by simp [toPy, toPyL, PyData.canLay0, PyData.canLayAll0]
theorem dats_pairs (l : List (Int × Int)) : dats (l.map pW) = some (l.map pD) := by
  rw [show l.map pW = (l.map pD).map .da by simp [Function.comp_def], dats_da]
theorem sl_tup2 (a b c : D) (S : Sto) : slF mkD (.da (.tup [a, b, c])) none (some 2) S = .ok (.da (.tup [a, b])) S := by
  unfold slF slV
  simp only [lstW, tupW, List.map_cons, List.map_nil, List.length_cons, List.length_nil]
  rw [if_neg (by intro h; revert h; decide)]
  have : cutL [W.da a, W.da b, W.da c] none (some 2) = [.da a, .da b] := cut_to [W.da a, W.da b, W.da c] 2
  simp only [this, mkD, datC, dats, Option.map]
theorem lcP_map {α β : Type} {P : Sto → Prop} (wx : α → W) (wy : β → W) (f : α → β) {g : MG} {me : ME} {ρw : Rho} {S : Sto} (hP : P S) : ∀ (xs : List α) (acc : List W), acc.length + xs.length ≤ 100000 →
    (∀ x ∈ xs, ∃ ρ2, g (wx x) ρw S = some ρ2 ∧ me ρ2 S = .ok (wy (f x)) S) → lcP P g mYes me ρw (xs.map wx) acc S = .ok (acc ++ (xs.map f).map wy) S
  | [], acc, _, _ => by simp [lcP, ifc_pos hP]
  | x :: xs, acc, hl, h => by
    obtain ⟨ρ2, e1, e2⟩ := h x (List.mem_cons_self)
    simp only [List.length_cons] at hl
    have ih := lcP_map wx wy f (g := g) (me := me) (ρw := ρw) hP xs (acc ++ [wy (f x)]) (by simp; omega) fun y hy => h y (List.mem_cons_of_mem _ hy)
    simp only [List.map_cons, lcP, e1, ifc_pos hP, mYes, e2]
    rw [ifc_pos (sz_lt (by omega)), ih]
    simp
theorem lcP_filter {α : Type} {P : Sto → Prop} (wx : α → W) (f : α → Bool) {g : MG} {mt : MT} {me : ME} {ρw : Rho} {S : Sto} (hP : P S) (xs : List α) (hl : xs.length ≤ 100000)
    (h : ∀ x ∈ xs, ∃ ρ2, g (wx x) ρw S = some ρ2 ∧ mt ρ2 S = .ok (f x) S ∧ (f x = true → me ρ2 S = .ok (wx x) S)) : lcP P g mt me ρw (xs.map wx) [] S = .ok ((xs.filter f).map wx) S := by
  have gen : ∀ (xs : List α) (acc : List W), acc.length + xs.length ≤ 100000 → (∀ x ∈ xs, ∃ ρ2, g (wx x) ρw S = some ρ2 ∧ mt ρ2 S = .ok (f x) S ∧ (f x = true → me ρ2 S = .ok (wx x) S)) → lcP P g mt me ρw (xs.map wx) acc S = .ok (acc ++ (xs.filter f).map wx) S := by
    intro xs
    induction xs with
    | nil => intro acc _ _; simp [lcP, ifc_pos hP]
    | cons x xs ih =>
      intro acc hl h
      obtain ⟨ρ2, e1, e2, e3⟩ := h x (List.mem_cons_self)
      simp only [List.length_cons] at hl
      cases q : f x with
      | true =>
        have i := ih (acc ++ [wx x]) (by simp; omega) fun y hy => h y (List.mem_cons_of_mem _ hy)
        rw [q] at e2
        simp only [List.map_cons, lcP, e1, ifc_pos hP, e2, e3 q]
        rw [ifc_pos (sz_lt (by omega)), i]
        simp [q]
      | false =>
        have i := ih acc (by omega) fun y hy => h y (List.mem_cons_of_mem _ hy)
        rw [q] at e2
        simp only [List.map_cons, lcP, e1, ifc_pos hP, e2]
        rw [i]
        simp [q]
  have := gen xs [] (by simpa using hl) h
  simpa using this
/-! ### what a plate tells -/
theorem zp (a b c d e : W) : plFs.zip [a, b, c, d, e] = ([("name", a), ("width", b), ("height", c), ("limit", d), ("lights", e)] : List (Str × W)) := rfl
def starAt : List Star → Int × Int → Option Int
  | [], _ => none
  | s :: ss, p => if plc s = p then some s.2.2 else starAt ss p
theorem starAt_iff : ∀ {ss : List Star}, (ss.map plc).Nodup → ∀ (p : Int × Int) (b : Int), starAt ss p = some b ↔ ((p.1, p.2, b) : Star) ∈ ss
  | [], _, p, b => by simp [starAt]
  | s :: ss, nd, p, b => by
    simp only [List.map_cons, List.nodup_cons] at nd
    simp only [starAt]
    by_cases h : plc s = p
    · rw [if_pos h]
      constructor
      · intro e
        cases e
        rw [← h]
        exact List.mem_cons_self
      · intro e
        rcases List.mem_cons.mp e with e | e
        · rw [← e]
        · exact absurd (List.mem_map.mpr ⟨_, e, by rw [h]⟩) nd.1
    · rw [if_neg h, starAt_iff nd.2 p b]
      constructor
      · exact fun e => List.mem_cons_of_mem _ e
      · intro e
        rcases List.mem_cons.mp e with e | e
        · exact absurd (by rw [← e]) h
        · exact e
theorem starAt_perm {ss st : List Star} (hp : ss.Perm st) (nd : (ss.map plc).Nodup) (p : Int × Int) : starAt ss p = starAt st p := by
  have nd2 : (st.map plc).Nodup := (hp.map plc).nodup_iff.mp nd
  cases h : starAt ss p with
  | some b => exact ((starAt_iff nd2 p b).mpr (hp.mem_iff.mp ((starAt_iff nd p b).mp h))).symm
  | none =>
    cases q : starAt st p with
    | none => rfl
    | some b => rw [(starAt_iff nd p b).mpr (hp.mem_iff.mpr ((starAt_iff nd2 p b).mp q))] at h; cases h
theorem look_lights (x y : Int) : ∀ ss : List Star, look ((ss.map plK).zip ((ss.map brV).map W.da)) [.inl x, .inl y] = (starAt ss (x, y)).map fun b => .da (.int b)
  | [] => rfl
  | s :: ss => by
    simp only [List.map_cons, List.zip_cons_cons, look, starAt]
    by_cases h : plc s = (x, y)
    · rw [if_pos h, if_pos (by simp only [plc, Prod.mk.injEq] at h; simp only [plK]; rw [h.1, h.2])]
      rfl
    · rw [if_neg h, if_neg (by intro z; apply h; simp only [List.cons.injEq, Sum.inl.injEq, and_true] at z; rw [plc, z.1, z.2]), look_lights x y ss]
theorem dget_lights (x y : Int) (ss : List Star) (S : Sto) : dget (.da (.dt (ss.map plK) (ss.map brV))) (.da (.tup [.int x, .int y])) S = some ((starAt ss (x, y)).map fun b => .da (.int b)) := by
  unfold dget
  simp only [dkW, dtW, keysW, keysD, keyD, Option.map, look_lights]
theorem in_lights (x y : Int) (ss : List Star) (S : Sto) : vl2 inW (.da (.tup [.int x, .int y])) (.da (.dt (ss.map plK) (ss.map brV))) S = .ok (.da (.bl (starAt ss (x, y)).isSome)) S := by
  unfold vl2 inW inB
  rw [dget_lights]
  cases starAt ss (x, y) <;> rfl
theorem ix_lights (x y b : Int) (ss : List Star) (h : starAt ss (x, y) = some b) (S : Sto) : vl2 ixW (.da (.dt (ss.map plK) (ss.map brV))) (.da (.tup [.int x, .int y])) S = .ok (.da (.int b)) S := by
  unfold vl2 ixW
  simp only [seqW, dget_lights, h, Option.map, lift]
def InW (w h : Int) (p : Int × Int) : Prop := (0 ≤ p.1 ∧ p.1 < w) ∧ 0 ≤ p.2 ∧ p.2 < h
theorem holds_eq (n : Str) (w h l : Int) (ss : List Star) (x y : Int) : p_Plate_holds [plateD n w h l ss, .tup [.int x, .int y]] = .ok (.bl (dec (InW w h (x, y)))) := by
  unfold p_Plate_holds m_Plate_holds
  by_cases a1 : 0 ≤ x
  · by_cases a2 : x < w
    · by_cases a3 : 0 ≤ y
      · by_cases a4 : y < h
        · rw [dec_pos (c := InW w h (x, y)) ⟨⟨a1, a2⟩, a3, a4⟩]
          simp_arith [vl1, zp, plne, List.mem_singleton, dec_pos a1, dec_pos a2, dec_pos a3, dec_pos a4]
        · rw [dec_neg (c := InW w h (x, y)) (fun z => a4 z.2.2)]
          simp_arith [vl1, zp, plne, List.mem_singleton, dec_pos a1, dec_pos a2, dec_pos a3, dec_neg a4]
      · rw [dec_neg (c := InW w h (x, y)) (fun z => a3 z.2.1)]
        simp_arith [vl1, zp, plne, List.mem_singleton, dec_pos a1, dec_pos a2, dec_neg a3]
    · rw [dec_neg (c := InW w h (x, y)) (fun z => a2 z.1.2)]
      simp_arith [vl1, zp, plne, List.mem_singleton, dec_pos a1, dec_neg a2]
  · rw [dec_neg (c := InW w h (x, y)) (fun z => a1 z.1.1)]
    simp_arith [vl1, zp, plne, List.mem_singleton, dec_neg a1]
/-- what is said: of a place beyond the window (data or the written one), of a star, of a dark place -/
noncomputable def saysD (un : List D → D) (w h l : Int) (ss : List Star) (p : Int × Int) : D := ifc (InW w h p) (match starAt ss p with
  | some b => .tup [.str "star", .int b]
  | none => .tup [.str "under", .int l]) (un [.str "unseen", .int 0])
theorem says_eq (n : Str) (w h l : Int) (ss : List Star) (x y : Int) : p_Plate_says [plateD n w h l ss, .tup [.int x, .int y]] = .ok (saysD .wt w h l ss (x, y)) := by
  have eh := holds_eq n w h l ss x y
  have ei := fun S => in_lights x y ss S
  unfold saysD
  unfold p_Plate_says m_Plate_says
  by_cases q : InW w h (x, y)
  · rw [dec_pos q] at eh
    rw [ifc_pos q]
    cases hs : starAt ss (x, y) with
    | some b =>
      rw [hs] at ei
      have ex := fun S => ix_lights x y b ss hs S
      simp only [Option.isSome] at ei
      simp_arith [vl1, zp, plne, List.mem_singleton, eh, ei, ex]
    | none =>
      rw [hs] at ei
      simp only [Option.isSome] at ei
      simp_arith [vl1, zp, plne, List.mem_singleton, eh, ei]
  · rw [dec_neg q] at eh
    rw [ifc_neg q]
    simp_arith [vl1, zp, plne, List.mem_singleton, eh]
/-! ### names drawn -/
theorem str_app_toList (x y : Str) : (x ++ y).cps.toList = x.cps.toList ++ y.cps.toList := by
  rw [Str.cps_append, Array.toList_append]
theorem join0_mem : ∀ (ys : List Str) (c : Nat), c ∈ (Str.join "" ys).cps.toList → ∃ y ∈ ys, c ∈ y.cps.toList
  | [], c, h => by
    have e : (Str.join "" []).cps.toList = [] := by decide +kernel
    rw [e] at h; cases h
  | [x], c, h => ⟨x, by simp, h⟩
  | x :: y :: r, c, h => by
    have h' : c ∈ (x ++ "" ++ Str.join "" (y :: r)).cps.toList := h
    have e0 : ("" : Str).cps.toList = [] := by decide +kernel
    rw [str_app_toList, str_app_toList, e0, List.append_nil] at h'
    rcases List.mem_append.mp h' with h' | h'
    · exact ⟨x, by simp, h'⟩
    · obtain ⟨z, hz, k⟩ := join0_mem (y :: r) c h'
      exact ⟨z, List.mem_cons_of_mem _ hz, k⟩
theorem let_az (i : Int) (h0 : 0 ≤ i) (h1 : i < 26) : ∀ c ∈ (letS i).cps.toList, c ∈ azS.cps.toList := by
  intro c hc
  have hl : i.toNat < abc.cps.toList.length := by rw [abc_len]; omega
  have : c = abc.cps.toList.getD i.toNat 97 := by simpa [letS] using hc
  rw [this, List.getD_eq_getElem?_getD, List.getElem?_eq_getElem hl]
  exact List.getElem_mem hl
def nmS (a b : Int) (n : Nat) : Str := Str.join "" ((intsL 0 n).map fun k => letS ((a + k * b) % 26))
theorem nm_one (a b : Int) (n : Nat) : ∀ y ∈ (intsL 0 n).map (fun k => letS ((a + k * b) % 26)), Str.length y = 1 := fun y hy => by
  obtain ⟨k, _, rfl⟩ := List.mem_map.mp hy
  rfl
theorem nm_ok (a b : Int) (n : Nat) (h1 : 1 ≤ n) (h8 : n ≤ 8) : NameOk (nmS a b n) := by
  have hl : (nmS a b n).length = n := by
    unfold nmS
    rw [join0_len _ (nm_one a b n), List.length_map, len_intsL]
  refine ⟨by omega, by omega, fun c hc => ?_⟩
  obtain ⟨y, hy, k⟩ := join0_mem _ c hc
  obtain ⟨j, _, rfl⟩ := List.mem_map.mp hy
  exact let_az _ (by omega) (by omega) c k
/-! ### names: good ones, no two alike -/
abbrev nR (row : List Int) (o3 o4 o5 o6 : Option W) : Rho := [some (.da (.lst (row.map .int))), some (.da (.str abc)), some (.lo 0), o3, o4, o5, o6, none]
abbrev nW (s : Str) : W := .da (.str s)
/-- the own letter ahead or behind -/
def ShapeN (x3 x4 y k : Int) (s : Str) : Prop := ∃ rest : Str, rest.length ≤ 7 ∧ (∀ c ∈ rest.cps.toList, c ∈ azS.cps.toList) ∧ s = if x4 / 2 % 2 = 1 then letS ((k * y + x3) % 26) ++ rest else rest ++ letS ((k * y + x3) % 26)
theorem shape_name {x3 x4 y k : Int} {s : Str} (h : ShapeN x3 x4 y k s) : NameOk s := by
  obtain ⟨rest, h1, h2, rfl⟩ := h
  have l1 := let_az ((k * y + x3) % 26) (by omega) (by omega)
  have ll : (letS ((k * y + x3) % 26)).length = 1 := rfl
  split
  · refine ⟨by rw [str_len_append]; omega, by rw [str_len_append]; omega, fun c hc => ?_⟩
    rw [str_app_toList] at hc
    rcases List.mem_append.mp hc with hc | hc
    · exact l1 c hc
    · exact h2 c hc
  · refine ⟨by rw [str_len_append]; omega, by rw [str_len_append]; omega, fun c hc => ?_⟩
    rw [str_app_toList] at hc
    rcases List.mem_append.mp hc with hc | hc
    · exact h2 c hc
    · exact l1 c hc
theorem abc_nd : abc.cps.toList.Nodup := by decide +kernel
theorem let_inj {i j : Int} (i0 : 0 ≤ i) (i1 : i < 26) (j0 : 0 ≤ j) (j1 : j < 26) (h : (letS i).cps.toList = (letS j).cps.toList) : i = j := by
  have hi : i.toNat < abc.cps.toList.length := by rw [abc_len]; omega
  have hj : j.toNat < abc.cps.toList.length := by rw [abc_len]; omega
  have e : abc.cps.toList.getD i.toNat 97 = abc.cps.toList.getD j.toNat 97 := by simpa [letS] using h
  rw [List.getD_eq_getElem?_getD, List.getD_eq_getElem?_getD, List.getElem?_eq_getElem hi, List.getElem?_eq_getElem hj] at e
  have := (List.getElem_inj abc_nd).mp e
  omega
theorem shape_inj {x3 x4 y k j : Int} {s : Str} (hy : y = 1 ∨ y = 3 ∨ y = 5 ∨ y = 7 ∨ y = 9 ∨ y = 11) (k0 : 0 ≤ k) (k1 : k < 12) (j0 : 0 ≤ j) (j1 : j < 12) (h1 : ShapeN x3 x4 y k s) (h2 : ShapeN x3 x4 y j s) : k = j := by
  obtain ⟨r1, _, _, e1⟩ := h1
  obtain ⟨r2, _, _, e2⟩ := h2
  have e := congrArg (fun s : Str => s.cps.toList) (e1.symm.trans e2)
  have le : (letS ((k * y + x3) % 26)).cps.toList = (letS ((j * y + x3) % 26)).cps.toList := by
    by_cases q : x4 / 2 % 2 = 1
    · simp only [if_pos q, str_app_toList] at e
      exact (List.append_inj e rfl).1
    · simp only [if_neg q, str_app_toList] at e
      exact (List.append_inj' e rfl).2
  have := let_inj (by omega) (by omega) (by omega) (by omega) le
  rcases hy with rfl | rfl | rfl | rfl | rfl | rfl <;> omega
theorem names_body (row : List Int) (h : Drawn 18 row) (x2 x3 x4 y : Int) (e2 : atI (row.map (W.da ∘ D.int)) 2 = some (iW x2)) (e3 : atI (row.map (W.da ∘ D.int)) 3 = some (iW x3)) (e4 : atI (row.map (W.da ∘ D.int)) 4 = some (iW x4)) (b4 : 0 ≤ x4 ∧ x4 < 1013) (ey : atI [iW 1, iW 3, iW 5, iW 7, iW 9, iW 11] (x2 % 6) = some (iW y)) (hy : 1 ≤ y ∧ y ≤ 11)
    (k : Int) (h0 : 0 ≤ k) (h1 : k < 12) (o4 o5 o6 : Option W) (ns : List Str) (hn : ns.length < 1000) :
    ∃ o4' o5' o6' s, ShapeN x3 x4 y k s ∧ b_l_names_1 (nR row (some (iW k)) o4 o5 o6) [.lst (ns.map nW)] = .nx (nR row (some (iW k)) o4' o5' o6') [.lst ((ns ++ [s]).map nW)] := by
  obtain ⟨x5, b5, e5⟩ := at_row h (5 + k) (by omega) (by omega)
  have m1 := fun S => mul_l k y S (by omega) (by omega)
  have lc : ∀ (z : Int) (o4 o5 o6 : Option W) (S : Sto), 0 ≤ z → z < 8 → lcM (gtName 7) mYes e_l_names_0 (nR row (some (iW k)) o4 o5 o6) (intsW 0 z.toNat) [] S = .ok (((intsL 0 z.toNat).map (fun a => letS ((x3 + a * x4) % 26))).map nW) S := fun z o4 o5 o6 S z0 z8 => by
    rw [ints_map]
    refine lc_map iW nW (fun a => letS ((x3 + a * x4) % 26)) (intsL 0 z.toNat) (by rw [len_intsL]; omega) fun a ha => ⟨_, rfl, ?_⟩
    have m2 := fun S => mul_r a x4 S (by omega) (by omega)
    unfold e_l_names_0
    simp_arith [e3, e4, m2, let_ok ((x3 + a * x4) % 26) (by omega) (by omega)]
  have rg : ∀ z : Int, 0 ≤ z → z < 8 → rng1 [iW z] = some (0, z.toNat) := fun z z0 z8 => rng1_ok z z0 (by omega)
  have dl : ∀ z : Int, dats (((intsL 0 z.toNat).map (fun a => letS ((x3 + a * x4) % 26))).map nW) = some (((intsL 0 z.toNat).map (fun a => letS ((x3 + a * x4) % 26))).map .str) := fun z => dats_strs _
  have jl : ∀ z : Int, 0 ≤ z → z < 8 → (Str.join "" ((intsL 0 z.toNat).map (fun a => letS ((x3 + a * x4) % 26)))).length ≤ 7 ∧ ∀ c ∈ (Str.join "" ((intsL 0 z.toNat).map (fun a => letS ((x3 + a * x4) % 26)))).cps.toList, c ∈ azS.cps.toList := fun z z0 z8 => by
    refine ⟨by rw [join0_len _ (nm_one _ _ _), List.length_map, len_intsL]; omega, fun c hc => ?_⟩
    obtain ⟨w, hw, k'⟩ := join0_mem _ c hc
    obtain ⟨j, _, rfl⟩ := List.mem_map.mp hw
    exact let_az _ (by omega) (by omega) c k'
  have jo : ∀ (z : Int) (S : Sto), z < 8 → vmt joinW (.da (.str "")) [.da (.lst (((intsL 0 z.toNat).map (fun a => letS ((x3 + a * x4) % 26))).map .str))] S = .ok (.da (.str (Str.join "" ((intsL 0 z.toNat).map (fun a => letS ((x3 + a * x4) % 26)))))) S := fun z S z8 => join0_ok _ (nm_one _ _ _) (by rw [List.length_map, len_intsL]; omega) S
  have eo := fun S => let_ok ((k * y + x3) % 26) (by omega) (by omega) S
  have fin : ∀ (z : Int), 0 ≤ z → z < 8 → ∃ (rest : Str) (ds : List D), (rest.length ≤ 7 ∧ ∀ c ∈ rest.cps.toList, c ∈ azS.cps.toList) ∧ (∀ S : Sto, vmt joinW (.da (.str "")) [.da (.lst ds)] S = .ok (.da (.str rest)) S) ∧ ∀ (o4 o5 o6 : Option W) (S : Sto), (lcM (gtName 7) mYes e_l_names_0 (nR row (some (iW k)) o4 o5 o6) (intsW 0 z.toNat) [] S).bind (mkLst mkD) = .ok (.da (.lst ds)) S := fun z z0 z8 => by
    refine ⟨_, _, jl z z0 z8, fun S => jo z S z8, fun o4 o5 o6 S => ?_⟩
    rw [lc z o4 o5 o6 S z0 z8]
    simp only [Rs.bind, mkLst, mkD, datC, dl, Option.map]
  have ll : (letS ((k * y + x3) % 26)).length = 1 := rfl
  have pick : ∀ z : Int, 0 ≤ z → z < 8 → (if x4 % 2 = 1 then x5 % 8 else x4 / 4 % 8) = z → ∃ o4' o5' o6' s, ShapeN x3 x4 y k s ∧ b_l_names_1 (nR row (some (iW k)) o4 o5 o6) [.lst (ns.map nW)] = .nx (nR row (some (iW k)) o4' o5' o6') [.lst ((ns ++ [s]).map nW)] := fun z z0 z8 hz => by
    obtain ⟨rest, ds, hr, ej, er⟩ := fin z z0 z8
    obtain ⟨own, ho⟩ : ∃ own, own = letS ((k * y + x3) % 26) := ⟨_, rfl⟩
    have sh : ∀ s, (s = if x4 / 2 % 2 = 1 then own ++ rest else rest ++ own) → ShapeN x3 x4 y k s := fun s hs => ⟨rest, hr.1, hr.2, by rw [hs, ho]⟩
    have ll2 : own.length = 1 := by rw [ho]; rfl
    rw [← ho] at eo
    by_cases q : x4 % 2 = 1
    · rw [if_pos q] at hz
      by_cases q2 : x4 / 2 % 2 = 1
      · exact ⟨_, _, _, own ++ rest, sh _ (by rw [if_pos q2]), by
          unfold b_l_names_1
          simp_arith [e2, e3, e4, e5, ey, m1, eo, q, hz, rg z z0 z8, er, ej, q2, add_ss own rest _ (sz_le (by omega)), sz_lt (show ns.length < 100000 by omega), List.map_append]
          rfl⟩
      · exact ⟨_, _, _, rest ++ own, sh _ (by rw [if_neg q2]), by
          unfold b_l_names_1
          simp_arith [e2, e3, e4, e5, ey, m1, eo, q, hz, rg z z0 z8, er, ej, q2, add_ss rest own _ (sz_le (by omega)), sz_lt (show ns.length < 100000 by omega), List.map_append]
          rfl⟩
    · rw [if_neg q] at hz
      by_cases q2 : x4 / 2 % 2 = 1
      · exact ⟨_, _, _, own ++ rest, sh _ (by rw [if_pos q2]), by
          unfold b_l_names_1
          simp_arith [e2, e3, e4, e5, ey, m1, eo, q, hz, rg z z0 z8, er, ej, q2, add_ss own rest _ (sz_le (by omega)), sz_lt (show ns.length < 100000 by omega), List.map_append]
          rfl⟩
      · exact ⟨_, _, _, rest ++ own, sh _ (by rw [if_neg q2]), by
          unfold b_l_names_1
          simp_arith [e2, e3, e4, e5, ey, m1, eo, q, hz, rg z z0 z8, er, ej, q2, add_ss rest own _ (sz_le (by omega)), sz_lt (show ns.length < 100000 by omega), List.map_append]
          rfl⟩
  exact pick _ (by split <;> omega) (by split <;> omega) rfl
theorem paired_mem {α β : Type} {R : α → β → Prop} : ∀ {as : List α} {bs : List β}, Paired R as bs → ∀ b ∈ bs, ∃ a ∈ as, R a b
  | _, _, .nil, b, h => by cases h
  | _, _, .cons r t, b, h => by
    rcases List.mem_cons.mp h with rfl | h
    · exact ⟨_, List.mem_cons_self, r⟩
    · obtain ⟨a, ha, k⟩ := paired_mem t b h
      exact ⟨a, List.mem_cons_of_mem _ ha, k⟩
theorem paired_nodup {α β : Type} {R : α → β → Prop} {P : α → Prop} (inj : ∀ a a' b, P a → P a' → R a b → R a' b → a = a') : ∀ {as : List α} {bs : List β}, Paired R as bs → (∀ a ∈ as, P a) → as.Nodup → bs.Nodup
  | _, _, .nil, _, _ => List.nodup_nil
  | a :: as, b :: bs, .cons r t, hp, nd => by
    rw [List.nodup_cons] at nd ⊢
    refine ⟨fun hb => ?_, paired_nodup inj t (fun x hx => hp x (List.mem_cons_of_mem _ hx)) nd.2⟩
    obtain ⟨a', ha', r'⟩ := paired_mem t b hb
    have := inj a a' b (hp a List.mem_cons_self) (hp a' (List.mem_cons_of_mem _ ha')) r r'
    subst this
    exact nd.1 ha'
theorem intsL_nd : ∀ (n : Nat) (lo : Int), (intsL lo n).Nodup
  | 0, _ => List.nodup_nil
  | n + 1, lo => by
    simp only [intsL, List.nodup_cons]
    refine ⟨fun h => ?_, intsL_nd n (lo + 1)⟩
    have := (mem_intsL _ _ _).mp h
    omega
theorem names_ok (row : List Int) (h : Drawn 18 row) : ∃ ns : List Str, 1 ≤ ns.length ∧ ns.length ≤ 12 ∧ (∀ s ∈ ns, NameOk s) ∧ ns.Nodup ∧ p_l_names [.lst (row.map .int)] = .ok (.lst (ns.map .str)) := by
  obtain ⟨x1, b1, e1⟩ := at_row h 1 (by decide) (by decide)
  obtain ⟨x2, b2, e2⟩ := at_row h 2 (by decide) (by decide)
  obtain ⟨x3, b3, e3⟩ := at_row h 3 (by decide) (by decide)
  obtain ⟨x4, b4, e4⟩ := at_row h 4 (by decide) (by decide)
  obtain ⟨y, hy, ey⟩ : ∃ y : Int, (y = 1 ∨ y = 3 ∨ y = 5 ∨ y = 7 ∨ y = 9 ∨ y = 11) ∧ atI [iW 1, iW 3, iW 5, iW 7, iW 9, iW 11] (x2 % 6) = some (iW y) := by
    obtain ⟨y, hy, e⟩ := at_list iW [1, 3, 5, 7, 9, 11] (x2 % 6) (by omega) (by simp; omega)
    refine ⟨y, ?_, e⟩
    simpa only [List.mem_cons, List.not_mem_nil, or_false] using hy
  obtain ⟨z, hz, ez⟩ : ∃ z : Int, (1 ≤ z ∧ z ≤ 12) ∧ atI [iW 2, iW 3, iW 3, iW 4, iW 4, iW 5, iW 6, iW 7, iW 12, iW 1] (x1 % 10) = some (iW z) := by
    obtain ⟨y, hy, e⟩ := at_list iW [2, 3, 3, 4, 4, 5, 6, 7, 12, 1] (x1 % 10) (by omega) (by simp; omega)
    refine ⟨y, ?_, e⟩
    simp only [List.mem_cons, List.not_mem_nil, or_false] at hy
    omega
  obtain ⟨ρ', S', el, o3, o4, o5, o6, ns, f2, f3, hs⟩ := loop_all (g := gtName 3) (b := b_l_names_1) iW (fun dn ρ S => ∃ o3 o4 o5 o6 ns, ρ = nR row o3 o4 o5 o6 ∧ S = [.lst (ns.map nW)] ∧ Paired (ShapeN x3 x4 y) dn ns) (intsL 0 z.toNat) [] (nR row none none none none) [.lst []]
    (by
      intro dn k r ρ S e ⟨o3, o4, o5, o6, ns, f2, f3, hs⟩
      subst f2 f3
      have hk : k ∈ intsL 0 z.toNat := by
        rw [show intsL 0 z.toNat = dn ++ k :: r from e]
        simp
      have hk' := (mem_intsL _ _ _).mp hk
      have hlen := congrArg List.length e
      have hpl := Paired.length hs
      simp only [List.nil_append, List.length_append, List.length_cons, len_intsL] at hlen
      obtain ⟨p4, p5, p6, s, h1, h2⟩ := names_body row h x2 x3 x4 y e2 e3 e4 b4 ey (by omega) k (by omega) (by omega) o4 o5 o6 ns (by omega)
      exact ⟨_, rfl, _, _, .inl h2, _, p4, p5, p6, ns ++ [s], rfl, rfl, paired_append hs (.cons h1 .nil)⟩)
    ⟨none, none, none, none, [], rfl, rfl, .nil⟩
  subst f2 f3
  rw [List.nil_append] at hs
  have hpl := Paired.length hs
  rw [len_intsL] at hpl
  rw [← ints_map] at el
  refine ⟨ns, by omega, by omega, fun s hs' => ?_, ?_, ?_⟩
  · obtain ⟨k, _, q⟩ := paired_mem hs s hs'
    exact shape_name q
  · refine paired_nodup (R := ShapeN x3 x4 y) (P := fun k => 0 ≤ k ∧ k < 12) (fun a a' b pa pa' r r' => shape_inj hy pa.1 pa.2 pa'.1 pa'.2 r r') hs (fun k hk => ?_) (intsL_nd _ _)
    have := (mem_intsL _ _ _).mp hk
    omega
  · have fz : datW 5 [Cell.lst (ns.map nW)] (.lo 0) = some (.lst (ns.map .str), [.dead]) := datW_lst 4 0 _ (ns.map .str) (by simp [Function.comp_def])
    have r1 : rng1 [iW z] = some (0, z.toNat) := rng1_ok z (by omega) (by omega)
    refine runP_ok (S := [.dead]) rfl ?_
    unfold m_l_names
    simp_arith [e1, ez, r1, el, fz]
/-! ### the law's sky: stars at unlike places -/
def HeavOk (hs : List Star) : Prop := hs.length ≤ 8 ∧ (∀ s ∈ hs, 1 ≤ s.2.2 ∧ s.2.2 ≤ 9) ∧ (hs.map plc).Nodup
abbrev hvR (sc : W) (row : List Int) (o3 o4 o5 o6 : Option W) : Rho := [some sc, some (.da (.lst (row.map .int))), some (.lo 0), o3, o4, o5, o6, none]
theorem nodup_snoc {ss : List Star} {s : Star} (nd : (ss.map plc).Nodup) (h : plc s ∉ ss.map plc) : ((ss ++ [s]).map plc).Nodup := by
  rw [List.map_append, List.nodup_append]
  refine ⟨nd, by simp, fun a ha b hb => ?_⟩
  simp only [List.map_cons, List.map_nil, List.mem_singleton] at hb
  subst hb
  intro z
  exact h (by rw [z] at ha; exact ha)
theorem hv_body (sc : W) (row : List Int) (hr : Drawn 25 row) (k : Int) (k0 : 0 ≤ k) (k8 : k < 8) (o4 o5 o6 : Option W) (ss : List Star) (hl : ss.length < 100) (ok : ∀ s ∈ ss, 1 ≤ s.2.2 ∧ s.2.2 ≤ 9) (nd : (ss.map plc).Nodup) :
    ∃ a b c, ∃ ss' : List Star, b_l_heaven_1 (hvR sc row (some (iW k)) o4 o5 o6) [.lst (ss.map stW)] = .nx (hvR sc row (some (iW k)) a b c) [.lst (ss'.map stW)] ∧ (∀ s ∈ ss', 1 ≤ s.2.2 ∧ s.2.2 ≤ 9) ∧ (ss'.map plc).Nodup ∧ ss'.length ≤ ss.length + 1 := by
  obtain ⟨x0, b0, e0⟩ := at_row hr 0 (by decide) (by decide)
  obtain ⟨x1, b1, e1⟩ := at_row hr (3 * k + 1) (by omega) (by omega)
  obtain ⟨x2, b2, e2⟩ := at_row hr (3 * k + 2) (by omega) (by omega)
  obtain ⟨x3, b3, e3⟩ := at_row hr (3 * k + 3) (by omega) (by omega)
  have m1 := fun S => mul_l 3 k S (by decide) (by decide)
  obtain ⟨br, hbr, eb⟩ : ∃ br : Int, (1 ≤ br ∧ br ≤ 9) ∧ ∃ j : Int, (if dec (x0 / 9 % 3 = 1) = true then 1 else 0) = j ∧ atI [iW (1 + x3 % 9), iW (8 + x3 % 2)] j = some (iW br) := by
    by_cases q : x0 / 9 % 3 = 1
    · exact ⟨8 + x3 % 2, by omega, 1, by rw [dec_pos q]; rfl, rfl⟩
    · exact ⟨1 + x3 % 9, by omega, 0, by rw [dec_neg q]; rfl, rfl⟩
  obtain ⟨j, hj, eb⟩ := eb
  obtain ⟨P, hP, lc⟩ : ∃ P, P = ss.map plc ∧ ∀ o4 o5 o6, lcP (fun S => S[0]? = some (.lst (ss.map stW))) (gtName 7) mYes e_l_heaven_0 (hvR sc row (some (iW k)) o4 o5 o6) (ss.map stW) [] [.lst (ss.map stW)] = .ok (P.map pW) [.lst (ss.map stW)] := by
    refine ⟨_, rfl, fun o4 o5 o6 => ?_⟩
    have := lcP_map (P := fun S => S[0]? = some (.lst (ss.map stW))) stW pW plc (g := gtName 7) (me := e_l_heaven_0) (ρw := hvR sc row (some (iW k)) o4 o5 o6) (S := [.lst (ss.map stW)]) rfl ss [] (by simp; omega) fun s _ => ⟨_, rfl, by
      unfold e_l_heaven_0
      simp_arith []⟩
    simpa using this
  have dp := dats_pairs P
  have ni := fun S => notin_e (a := (x1 % 9 - 4, x2 % 9 - 4)) (l := P) enc_pair (by omega) (lay_pair [(x1 % 9 - 4, x2 % 9 - 4)] _ (by simp)) (lay_pair P) S
  by_cases hm : (x1 % 9 - 4, x2 % 9 - 4) ∈ P
  · refine ⟨some (iW (x1 % 9 - 4)), some (iW (x2 % 9 - 4)), some (iW br), ss, ?_, ok, nd, by omega⟩
    rw [dec_pos hm] at ni
    unfold b_l_heaven_1 mMt mLc mkLst
    simp_arith [m1, e0, e1, e2, e3, int_b, hj, eb, wipeR, lc, dp, ni]
  · refine ⟨some (iW (x1 % 9 - 4)), some (iW (x2 % 9 - 4)), some (iW br), ss ++ [(x1 % 9 - 4, x2 % 9 - 4, br)], ?_, ?_, ?_, by simp⟩
    · rw [dec_neg hm] at ni
      unfold b_l_heaven_1 mMt mLc mkLst
      simp_arith [m1, e0, e1, e2, e3, int_b, hj, eb, wipeR, lc, dp, ni, tyM, ifc_pos (sz_lt (show ss.length < 100000 by omega)), List.map_append]
    · intro s hs
      rcases List.mem_append.mp hs with hs | hs
      · exact ok s hs
      · simp at hs; subst hs; exact hbr
    · exact nodup_snoc nd (by rw [← hP]; exact hm)
theorem hv_loop (sc : W) (row : List Int) (hr : Drawn 25 row) : ∀ (ks : List Int) (o3 o4 o5 o6 : Option W) (ss : List Star), (∀ k ∈ ks, 0 ≤ k ∧ k < 8) → ss.length + ks.length < 100 → (∀ s ∈ ss, 1 ≤ s.2.2 ∧ s.2.2 ≤ 9) → (ss.map plc).Nodup →
    ∃ a b c d, ∃ ss' : List Star, loopM (gtName 3) b_l_heaven_1 (ks.map iW) (hvR sc row o3 o4 o5 o6) [.lst (ss.map stW)] = .nx (hvR sc row a b c d) [.lst (ss'.map stW)] ∧ (∀ s ∈ ss', 1 ≤ s.2.2 ∧ s.2.2 ≤ 9) ∧ (ss'.map plc).Nodup ∧ ss'.length ≤ ss.length + ks.length
  | [], o3, o4, o5, o6, ss, _, _, ok, nd => ⟨o3, o4, o5, o6, ss, rfl, ok, nd, by simp⟩
  | k :: ks, o3, o4, o5, o6, ss, hk, hl, ok, nd => by
    simp only [List.length_cons] at hl
    obtain ⟨a, b, c, s1, e1, k1, k2, k3⟩ := hv_body sc row hr k (hk k (by simp)).1 (hk k (by simp)).2 o4 o5 o6 ss (by omega) ok nd
    obtain ⟨a', b', c', d', s2, e2, j1, j2, j3⟩ := hv_loop sc row hr ks (some (iW k)) a b c s1 (fun x hx => hk x (by simp [hx])) (by omega) k1 k2
    refine ⟨a', b', c', d', s2, ?_, j1, j2, by simp; omega⟩
    have g : gtName 3 (iW k) (hvR sc row o3 o4 o5 o6) [.lst (ss.map stW)] = some (hvR sc row (some (iW k)) o4 o5 o6) := rfl
    simp only [List.map_cons, loopM, g, e1, e2]
theorem datWs_stars (k : Nat) (S : Sto) (l : List Star) : datWs k S (l.map stW) = some (l.map stD, S) := by
  rw [show l.map stW = (l.map stD).map .da by simp [Function.comp_def]]
  exact datWs_da k S _
theorem heaven_ok (ns : List Int) (hn : ns.length ≤ 63) : ∃ hs : List Star, HeavOk hs ∧ p_l_heaven [.scr (ns.map .int)] = .ok (starsD hs) := by
  obtain ⟨row, hr, ed⟩ := draws_ok ns 1 25 (by decide) (by decide) (by decide) (by decide) (by omega)
  obtain ⟨x0, b0, e0⟩ := at_row hr 0 (by decide) (by decide)
  have r : rng1 [.da (.int (x0 % 9))] = some (0, (x0 % 9).toNat) := rng1_ok _ (by omega) (by omega)
  obtain ⟨a, b, c, d, ss, e, k1, k2, k3⟩ := hv_loop (.da (.scr (ns.map .int))) row hr (intsL 0 (x0 % 9).toNat) none none none none [] (fun k hk => by
    have := (mem_intsL _ _ _).mp hk
    omega) (by rw [len_intsL]; simp; omega) (by simp) (by simp)
  rw [← ints_map] at e
  rw [len_intsL] at k3
  simp only [List.length_nil, Nat.zero_add] at k3
  refine ⟨ss, ⟨by omega, k1, k2⟩, ?_⟩
  unfold p_l_heaven m_l_heaven
  simp_arith [ed, e0, r]
  rw [show ([Cell.lst []] : Sto) = [.lst (([] : List Star).map stW)] from rfl, e]
  unfold mFz fzW
  simp_arith [datWs_stars]
/-! ### the law's plates as tuples: panes -/
structure Pane where
  n : Str
  w : Int
  h : Int
  l : Int
  ss : List Star
def Pane.ok (p : Pane) : Prop := NameOk p.n ∧ GlassOk p.w p.h p.l p.ss ∧ sortE stD p.ss = p.ss
abbrev paneT (p : Pane) : D := .tup [.str p.n, .int p.w, .int p.h, .int p.l, .tup (p.ss.map stD)]
abbrev pnR (nm : W) (home : Mo) (hs : List Star) (d : D) (w h l : Int) (st : W) (o8 o9 o10 o11 o12 o13 : Option W) : Rho := [some nm, some (.da (moD home)), some (.da (starsD hs)), some (.da d), some (iW w), some (iW h), some (iW l), some st, o8, o9, o10, o11, o12, o13, none]
theorem back_inj (m : Mo) (hm : okM m) (p q : Int × Int) (h : act (bkM m) p = act (bkM m) q) : p = q := by
  have := congrArg (act m) h
  rwa [act_bk2 m p hm, act_bk2 m q hm] at this
/-- a star seen from the plate -/
def seenS (home : Mo) (s : Star) : Star := ((act (bkM home) (s.1, s.2.1)).1, (act (bkM home) (s.1, s.2.1)).2, s.2.2)
def inPane (w h l : Int) (s : Star) : Prop := 0 ≤ s.1 ∧ s.1 < w ∧ 0 ≤ s.2.1 ∧ s.2.1 < h ∧ l ≤ s.2.2
noncomputable def seenL (home : Mo) (w h l : Int) (hs : List Star) : List Star := (hs.map (seenS home)).filter fun s => dec (inPane w h l s)
theorem pn_body (nm : W) (home : Mo) (hm : okM home) (hs : List Star) (d : D) (w h l : Int) (s : Star) (o11 o12 o13 : Option W) (ss : List Star) (hl : ss.length < 1000) :
    ∃ a b, b_l_pane_0 (pnR nm home hs d w h l (.lo 0) (some (iW s.1)) (some (iW s.2.1)) (some (iW s.2.2)) o11 o12 o13) [.lst (ss.map stW)] = .nx (pnR nm home hs d w h l (.lo 0) (some (iW s.1)) (some (iW s.2.1)) (some (iW s.2.2)) o11 a b) [.lst ((ss ++ ([seenS home s].filter fun s => dec (inPane w h l s))).map stW)] := by
  have e1 := l_back_mo home (moD home) (.inl rfl) hm
  have e2 := l_moved_eq (bkM home) (ok_bk hm) s.1 s.2.1
  refine ⟨some (iW (seenS home s).1), some (iW (seenS home s).2.1), ?_⟩
  have hb : (seenS home s).2.2 = s.2.2 := rfl
  have e2' : p_l_moved [moD (bkM home), .tup [.int s.1, .int s.2.1]] = .ok (.tup [.int (seenS home s).1, .int (seenS home s).2.1]) := e2
  have hz : seenS home s = ((seenS home s).1, (seenS home s).2.1, s.2.2) := rfl
  rw [hz]
  generalize (seenS home s).1 = x at *
  generalize (seenS home s).2.1 = y at *
  by_cases q : inPane w h l (x, y, s.2.2)
  · obtain ⟨a1, a2, a3, a4, a5⟩ := id q
    rw [List.filter_cons_of_pos (by rw [dec_pos q])]
    unfold b_l_pane_0 mMt
    simp_arith [e1, e2', dec_pos a1, dec_pos a2, dec_pos a3, dec_pos a4, dec_pos a5, tyM, ifc_pos (sz_lt (show ss.length < 100000 by omega)), List.map_append, List.filter_nil]
  · rw [List.filter_cons_of_neg (by rw [dec_neg q]; simp)]
    unfold b_l_pane_0 mMt
    by_cases a1 : 0 ≤ x
    · by_cases a2 : x < w
      · by_cases a3 : 0 ≤ y
        · by_cases a4 : y < h
          · have a5 : ¬ l ≤ s.2.2 := fun z => q ⟨a1, a2, a3, a4, z⟩
            simp_arith [e1, e2', dec_pos a1, dec_pos a2, dec_pos a3, dec_pos a4, dec_neg a5, List.filter_nil]
          · simp_arith [e1, e2', dec_pos a1, dec_pos a2, dec_pos a3, dec_neg a4, List.filter_nil]
        · simp_arith [e1, e2', dec_pos a1, dec_pos a2, dec_neg a3, List.filter_nil]
      · simp_arith [e1, e2', dec_pos a1, dec_neg a2, List.filter_nil]
    · simp_arith [e1, e2', dec_neg a1, List.filter_nil]
theorem pn_loop (nm : W) (home : Mo) (hm : okM home) (hs : List Star) (d : D) (w h l : Int) (o11 : Option W) : ∀ (rest : List Star) (o8 o9 o10 o12 o13 : Option W) (ss : List Star), ss.length + rest.length < 1000 →
    ∃ a b c e f, loopM (gtTup 3 (gtCons (gtName 8) (gtCons (gtName 9) (gtCons (gtName 10) gtNil)))) b_l_pane_0 (rest.map stW) (pnR nm home hs d w h l (.lo 0) o8 o9 o10 o11 o12 o13) [.lst (ss.map stW)] = .nx (pnR nm home hs d w h l (.lo 0) a b c o11 e f) [.lst ((ss ++ seenL home w h l rest).map stW)]
  | [], o8, o9, o10, o12, o13, ss, _ => ⟨o8, o9, o10, o12, o13, by simp [loopM, seenL]⟩
  | s :: rest, o8, o9, o10, o12, o13, ss, hl => by
    simp only [List.length_cons] at hl
    obtain ⟨a, b, e⟩ := pn_body nm home hm hs d w h l s o11 o12 o13 ss (by omega)
    have h1 : ([seenS home s].filter fun s => dec (inPane w h l s)).length ≤ 1 := List.length_filter_le _ _
    obtain ⟨a', b', c', e', f', ee⟩ := pn_loop nm home hm hs d w h l o11 rest (some (iW s.1)) (some (iW s.2.1)) (some (iW s.2.2)) a b (ss ++ ([seenS home s].filter fun s => dec (inPane w h l s))) (by rw [List.length_append]; omega)
    refine ⟨a', b', c', e', f', ?_⟩
    have g : (gtTup 3 (gtCons (gtName 8) (gtCons (gtName 9) (gtCons (gtName 10) gtNil)))) (stW s) (pnR nm home hs d w h l (.lo 0) o8 o9 o10 o11 o12 o13) [.lst (ss.map stW)] = some (pnR nm home hs d w h l (.lo 0) (some (iW s.1)) (some (iW s.2.1)) (some (iW s.2.2)) o11 o12 o13) := by
      simp_arith []
    have hf : seenL home w h l (s :: rest) = ([seenS home s].filter fun s => dec (inPane w h l s)) ++ seenL home w h l rest := by
      unfold seenL
      rw [← List.filter_append]; rfl
    rw [hf, ← List.append_assoc]
    simp only [List.map_cons, loopM, g, e, ee]
theorem seen_ok (home : Mo) (hm : okM home) (w h l : Int) (hs : List Star) (hh : HeavOk hs) : (∀ s ∈ seenL home w h l hs, StarOk w h l s) ∧ ((seenL home w h l hs).map plc).Nodup ∧ (seenL home w h l hs).length ≤ 8 := by
  refine ⟨fun s hs' => ?_, ?_, ?_⟩
  · unfold seenL at hs'
    rw [List.mem_filter] at hs'
    obtain ⟨h1, h2⟩ := hs'
    obtain ⟨u, hu, rfl⟩ := List.mem_map.mp h1
    have q : inPane w h l (seenS home u) := by
      by_cases z : inPane w h l (seenS home u)
      · exact z
      · rw [dec_neg z] at h2; cases h2
    obtain ⟨a1, a2, a3, a4, a5⟩ := q
    exact ⟨⟨a1, a2⟩, ⟨a3, a4⟩, a5, (hh.2.1 u hu).2⟩
  · unfold seenL
    have nd : ((hs.map (seenS home)).map plc).Nodup := by
      have e : (hs.map (seenS home)).map plc = (hs.map plc).map (act (bkM home)) := by
        rw [List.map_map, List.map_map]
        rfl
      rw [e, List.nodup_iff_pairwise_ne, List.pairwise_map]
      exact (List.nodup_iff_pairwise_ne.mp hh.2.2).imp fun hab z => hab (back_inj home hm _ _ z)
    rw [List.nodup_iff_pairwise_ne, List.pairwise_map] at nd ⊢
    exact nd.filter _
  · unfold seenL
    refine Nat.le_trans (List.length_filter_le _ _) ?_
    rw [List.length_map]
    exact hh.1
theorem last8 {α : Type} (xs : List α) : cutL xs (some (-8)) none = xs.drop (xs.length - 8) := by
  unfold cutL
  have e : HT.sIx xs.length 0 (some (-8)) = xs.length - 8 := by
    unfold HT.sIx
    simp
    omega
  rw [e, HT.sIx_none, List.take_of_length_le (by simp)]
theorem pane_ok (nm : Str) (hn : NameOk nm) (home : Mo) (hm : okM home) (hs : List Star) (hh : HeavOk hs) (row : List Int) (hr : Drawn 12 row) : ∃ p : Pane, p.n = nm ∧ p.ok ∧ p_l_pane [.str nm, moD home, starsD hs, .lst (row.map .int)] = .ok (paneT p) := by
  obtain ⟨x3, b3, e3⟩ := at_row hr 3 (by decide) (by decide)
  obtain ⟨x4, b4, e4⟩ := at_row hr 4 (by decide) (by decide)
  obtain ⟨x5, b5, e5⟩ := at_row hr 5 (by decide) (by decide)
  obtain ⟨x6, b6, e6⟩ := at_row hr 6 (by decide) (by decide)
  obtain ⟨x10, b10, e10⟩ := at_row hr 10 (by decide) (by decide)
  obtain ⟨x11, b11, e11⟩ := at_row hr 11 (by decide) (by decide)
  have two : ∀ (a b : Int) (c : Prop), ∃ j : Int, (if dec c = true then 1 else 0) = j ∧ ∃ v, (v = a ∨ v = b) ∧ atI [iW a, iW b] j = some (iW v) := fun a b c => by
    by_cases q : c
    · exact ⟨1, by rw [dec_pos q]; rfl, b, .inr rfl, rfl⟩
    · exact ⟨0, by rw [dec_neg q]; rfl, a, .inl rfl, rfl⟩
  obtain ⟨j4, hj4, w, hw, ew⟩ := two (1 + x4 % 4) (1 + x4 / 24 % 8) (x4 / 4 % 6 = 0)
  obtain ⟨j5, hj5, h, hh', eh⟩ := two (1 + x5 % 4) (1 + x5 / 24 % 8) (x5 / 4 % 6 = 0)
  obtain ⟨j6, hj6, l, hl, el⟩ := two (1 + x6 % 3) (1 + x6 / 12 % 9) (x6 / 3 % 4 = 0)
  have w1 : 1 ≤ w ∧ w ≤ 8 := by omega
  have h1 : 1 ≤ h ∧ h ≤ 8 := by omega
  have l1 : 1 ≤ l ∧ l ≤ 9 := by omega
  obtain ⟨sk, snd, sl⟩ := seen_ok home hm w h l hs hh
  obtain ⟨a, b, c, e, f, ee⟩ := pn_loop (.da (.str nm)) home hm hs (.lst (row.map .int)) w h l none hs none none none none none [] (by have := hh.1; simp; omega)
  rw [List.nil_append] at ee
  generalize seenL home w h l hs = sn at sk snd sl ee
  have fin : ∀ ss : List Star, (∀ s ∈ ss, StarOk w h l s) → (ss.map plc).Nodup → ss.length ≤ 9 → ∃ p : Pane, p.n = nm ∧ p.ok ∧ p.w = w ∧ p.h = h ∧ p.l = l ∧ p.ss = sortE stD (ss.drop (ss.length - 8)) := fun ss o n k => by
    refine ⟨⟨nm, w, h, l, sortE stD (ss.drop (ss.length - 8))⟩, rfl, ⟨hn, ⟨w1, h1, l1, ?_, ?_, ?_⟩, sortE_idem _⟩, rfl, rfl, rfl, rfl⟩
    · rw [sortE_len, List.length_drop]; omega
    · intro s hs'
      exact o s (List.mem_of_mem_drop (sortE_mem.mp hs'))
    · refine ((sortE_is _).map plc).nodup_iff.mpr ?_
      rw [List.map_drop]
      exact List.Nodup.sublist (List.drop_sublist _ _) n
  have q4 := fun S => mod_ok x10 w S (by omega)
  have q5 := fun S => mod_ok x11 h S (by omega)
  have q6 := fun S => mod_ok (x10 / 8) (10 - l) S (by omega)
  have sl8 : ∀ (ss : List Star) (S : Sto), slF mkD (.da (starsD ss)) (some (-8)) none S = .ok (.da (starsD (ss.drop (ss.length - 8)))) S := fun ss S => by
    unfold slF slV
    simp only [lstW, last8, List.length_map]
    rw [← List.map_drop, ← List.map_drop]
    simp only [mkD, datC, dats_da, Option.map]
  have so : ∀ (ss : List Star) (S : Sto), sortC [.da (starsD ss)] S = some (.lst ((sortE stD ss).map stW)) := fun ss S => sortC_ok enc_star (by omega) sk_star (lay_star ss) (lstW_da S ss)
  by_cases q : x3 % 6 = 1
  · have a1 := Int.emod_nonneg x10 (show w ≠ 0 by omega)
    have a2 := Int.emod_lt_of_pos x10 (show 0 < w by omega)
    have a3 := Int.emod_nonneg x11 (show h ≠ 0 by omega)
    have a4 := Int.emod_lt_of_pos x11 (show 0 < h by omega)
    have a5 := Int.emod_nonneg (x10 / 8) (show 10 - l ≠ 0 by omega)
    have a6 := Int.emod_lt_of_pos (x10 / 8) (show 0 < 10 - l by omega)
    generalize x10 % w = ox at q4 a1 a2
    generalize x11 % h = oy at q5 a3 a4
    generalize x10 / 8 % (10 - l) = ob at q6 a5 a6
    obtain ⟨F, hF, lc⟩ : ∃ F, F = sn.filter (fun s => !dec (plc s = (ox, oy))) ∧ lcP (fun S => S[0]? = some (.lst (sn.map stW))) (gtName 14) t_l_pane_1 e_l_pane_2 (pnR (.da (.str nm)) home hs (.lst (row.map .int)) w h l (.lo 0) a b c (some (stW (ox, oy, l + ob))) e f) (sn.map stW) [] [.lst (sn.map stW)] = .ok (F.map stW) [.lst (sn.map stW)] := by
      refine ⟨_, rfl, ?_⟩
      refine lcP_filter (P := fun S => S[0]? = some (.lst (sn.map stW))) stW (fun s => !dec (plc s = (ox, oy))) (g := gtName 14) (mt := t_l_pane_1) (me := e_l_pane_2) (ρw := pnR (.da (.str nm)) home hs (.lst (row.map .int)) w h l (.lo 0) a b c (some (stW (ox, oy, l + ob))) e f) (S := [.lst (sn.map stW)]) rfl sn (by omega) fun s _ => ⟨_, rfl, ?_, fun _ => ?_⟩
      · have ne := fun S => ne_e (a := plc s) (b := (ox, oy)) enc_pair (by omega) (lay_pair [plc s] _ (by simp)) (lay_pair [(ox, oy)] _ (by simp)) S
        unfold t_l_pane_1 mSl moS moN
        simp_arith [sl_tup2, ne]
      · unfold e_l_pane_2
        simp_arith []
    have nd2 : ((F ++ [(ox, oy, l + ob)]).map plc).Nodup := by
      refine nodup_snoc ?_ ?_
      · rw [hF]
        rw [List.nodup_iff_pairwise_ne, List.pairwise_map] at snd ⊢
        exact snd.filter _
      · intro z
        obtain ⟨u, hu, e⟩ := List.mem_map.mp z
        rw [hF, List.mem_filter] at hu
        have := hu.2
        rw [dec_pos e] at this
        cases this
    have ok2 : ∀ s ∈ F ++ [(ox, oy, l + ob)], StarOk w h l s := fun s hs' => by
      rcases List.mem_append.mp hs' with z | z
      · rw [hF, List.mem_filter] at z
        exact sk s z.1
      · simp at z; subst z
        exact ⟨⟨a1, a2⟩, ⟨a3, a4⟩, by show l ≤ l + ob; omega, by show l + ob ≤ 9; omega⟩
    have fl : F.length ≤ 8 := by rw [hF]; exact Nat.le_trans (List.length_filter_le _ _) sl
    have dF := dats_stars F
    obtain ⟨p, p1, p2, p3, p4, p5, p6⟩ := fin (F ++ [(ox, oy, l + ob)]) ok2 nd2 (by simp; omega)
    refine ⟨p, p1, p2, ?_⟩
    have ad : ∀ S, addC (.da (starsD F)) (.da (.lst [stD (ox, oy, l + ob)])) S = .ok (.lo S.length) (S ++ [.lst ((F ++ [(ox, oy, l + ob)]).map stW)]) := fun S => by
      unfold addC addF addV
      simp only [tupW, catC, lstW, List.length_map, List.map_cons, List.map_nil, List.length_cons, List.length_nil]
      rw [ifc_pos (sz_le (by omega))]
      simp [mkC, Function.comp_def]
    generalize F ++ [((ox, oy, l + ob) : Star)] = T at p6 ad
    have s8 := sl8 T
    generalize T.drop (T.length - 8) = U at p6 s8
    have so2 := so U
    unfold paneT
    rw [p1, p3, p4, p5, p6]
    generalize sortE stD U = V at so2
    unfold p_l_pane m_l_pane mLc mkLst mSl moS moN
    simp_arith [e3, e4, e5, e6, e10, e11, int_b, hj4, hj5, hj6, ew, eh, el]
    rw [stars_map, show ([Cell.lst []] : Sto) = [.lst (([] : List Star).map stW)] from rfl, ee]
    unfold mFrz
    simp_arith [q, e3, e10, e11, q4, q5, q6, wipeR, lc, dF, ad, datWs_stars, s8, so2, tupleF, dats_stars, stars_map]
  · obtain ⟨p, p1, p2, p3, p4, p5, p6⟩ := fin sn sk snd (by omega)
    refine ⟨p, p1, p2, ?_⟩
    have s8 := sl8 sn
    generalize sn.drop (sn.length - 8) = U at p6 s8
    have so2 := so U
    unfold paneT
    rw [p1, p3, p4, p5, p6]
    generalize sortE stD U = V at so2
    unfold p_l_pane m_l_pane mLc mkLst mSl moS moN
    simp_arith [e3, e4, e5, e6, e10, e11, int_b, hj4, hj5, hj6, ew, eh, el]
    rw [stars_map, show ([Cell.lst []] : Sto) = [.lst (([] : List Star).map stW)] from rfl, ee]
    unfold mFrz
    simp_arith [dec_neg q, e3, datWs_stars, s8, so2, tupleF, dats_stars, stars_map]
/-! ### the very same -/
def kindD : D → Option (Bool × List D)
  | .tup ds => some (true, ds)
  | .wt ds => some (true, ds)
  | .lst ds => some (false, ds)
  | .scr ds => some (false, ds)
  | _ => none
def Sm : Nat → D → D → Prop
  | 0, _, _ => False
  | n + 1, a, b => (a = b ∧ flatD a = true) ∨ ∃ k xs ys, kindD a = some (k, xs) ∧ kindD b = some (k, ys) ∧ xs.length = ys.length ∧ xs.length ≤ 100000 ∧ ∀ (i : Nat) (x y : D), xs[i]? = some x → ys[i]? = some y → Sm n x y
/-- data of some depth, not too long -/
def Gd : Nat → D → Prop
  | 0, _ => False
  | n + 1, a => flatD a = true ∨ ∃ k xs, kindD a = some (k, xs) ∧ xs.length ≤ 100000 ∧ ∀ x ∈ xs, Gd n x
theorem Gd.sm : ∀ {n : Nat} {a : D}, Gd n a → Sm n a a
  | 0, _, h => h.elim
  | n + 1, a, h => by
    rcases h with h | ⟨k, xs, h1, h2, h3⟩
    · exact .inl ⟨rfl, h⟩
    · refine .inr ⟨k, xs, xs, h1, h1, rfl, h2, fun i x y e1 e2 => ?_⟩
      rw [e1] at e2
      cases e2
      exact (h3 x (List.mem_of_getElem? e1)).sm
theorem kind_seq {a : D} {k : Bool} {xs : List D} (S : Sto) (h : kindD a = some (k, xs)) : seqW S (.da a) = some (xs.map .da) ∧ tyD a = some (if k then "tuple" else "list") := by
  cases a <;> simp [kindD] at h <;> obtain ⟨rfl, rfl⟩ := h <;> exact ⟨rfl, rfl⟩
theorem len_seq {a : D} {xs : List D} {S : Sto} (h : seqW S (.da a) = some (xs.map .da)) : vlN lenW [.da a] S = .ok (.da (.int xs.length)) S := by
  simp only [vlN, lenW, h, List.length_map, lift]
/-- the loop over the places -/
theorem same_loop (p : List D → Re D) (a b : D) (xs ys : List D) (ha : seqW [] (.da a) = some (xs.map .da)) (hb : seqW [] (.da b) = some (ys.map .da)) (hl : xs.length = ys.length) (h : ∀ (i : Nat) (x y : D), xs[i]? = some x → ys[i]? = some y → p [x, y] = .ok (.bl true)) :
    ∀ (n k : Nat) (o : Option W), k + n = xs.length → ∃ o', loopM (gtName 2) (b_l_same_0 p) (intsW (k : Int) n) [some (.da a), some (.da b), o] [] = .nx [some (.da a), some (.da b), o'] []
  | 0, k, o, _ => ⟨o, rfl⟩
  | n + 1, k, o, hk => by
    have h1 : k < xs.length := by omega
    have h2 : k < ys.length := by omega
    have e1 : atI (xs.map W.da) (k : Int) = some (.da xs[k]) := by rw [atI_lit]; simp [h1]
    have e2 : atI (ys.map W.da) (k : Int) = some (.da ys[k]) := by rw [atI_lit]; simp [h2]
    have e3 := h k xs[k] ys[k] (by simp [h1]) (by simp [h2])
    obtain ⟨o', e⟩ := same_loop p a b xs ys ha hb hl h n (k + 1) (some (iW k)) (by omega)
    refine ⟨o', ?_⟩
    rw [← e]
    have eb : b_l_same_0 p [some (.da a), some (.da b), some (iW k)] [] = .nx [some (.da a), some (.da b), some (iW k)] [] := by
      unfold b_l_same_0
      simp_arith [ix_ok (k : Int) ha, ix_ok (k : Int) hb, e1, e2, e3]
    show loopM (gtName 2) (b_l_same_0 p) (iW (k : Int) :: intsW ((k : Int) + 1) n) _ _ = _
    conv => lhs; unfold loopM
    simp only [gtName, List.set_cons_succ, List.set_cons_zero, eb]
    rfl
theorem same_flat (p : List D → Re D) (a : D) (h : flatD a = true) : m_l_same p [some (.da a), some (.da a), none] [] = .rt (.da (.bl true)) [] := by
  unfold m_l_same
  cases a <;> simp [flatD] at h <;> simp_arith []
theorem same_seq (p : List D → Re D) (a b : D) (k : Bool) (xs ys : List D) (ha : kindD a = some (k, xs)) (hb : kindD b = some (k, ys)) (hl : xs.length = ys.length) (hz : xs.length ≤ 100000) (h : ∀ (i : Nat) (x y : D), xs[i]? = some x → ys[i]? = some y → p [x, y] = .ok (.bl true)) :
    m_l_same p [some (.da a), some (.da b), none] [] = .rt (.da (.bl true)) [] := by
  obtain ⟨sa, ta⟩ := kind_seq [] ha
  obtain ⟨sb, tb⟩ := kind_seq [] hb
  obtain ⟨o', e⟩ := same_loop p a b xs ys sa sb hl h xs.length 0 none (by omega)
  rw [nc_0] at e
  have r1 : rng1 [iW (ys.length : Int)] = some (0, xs.length) := by
    rw [rng1_ok _ (by omega) (by omega), hl]
    rfl
  have la := len_seq sa
  have lb := len_seq sb
  unfold m_l_same
  generalize hn : (ys.length : Int) = n at *
  have hl' : (xs.length : Int) = n := by omega
  rw [hl'] at la
  cases k <;> simp_arith [ta, tb, la, lb, r1, e]
theorem same_ok : ∀ (n : Nat) (a b : D), Sm n a b → p_l_same n [a, b] = .ok (.bl true)
  | 0, _, _, h => h.elim
  | n + 1, a, b, h => by
    refine runP_ok (S := []) rfl ?_
    rcases h with ⟨rfl, h⟩ | ⟨k, xs, ys, h1, h2, h3, h4, h5⟩
    · exact same_flat _ _ h
    · exact same_seq _ a b k xs ys h1 h2 h3 h4 fun i x y e1 e2 => same_ok n x y (h5 i x y e1 e2)
theorem sm_flat {n : Nat} {a : D} (h : flatD a = true) : Sm (n + 1) a a := .inl ⟨rfl, h⟩
theorem same_refl {a : D} (n : Nat) (h : Gd n a) : p_l_same n [a, a] = .ok (.bl true) := same_ok n a a h.sm
theorem gd_flat {n : Nat} {a : D} (h : flatD a = true) : Gd (n + 1) a := .inl h
theorem gd_lst {n : Nat} {xs : List D} (h : xs.length ≤ 100000) (k : ∀ x ∈ xs, Gd n x) : Gd (n + 1) (.lst xs) := .inr ⟨false, xs, rfl, h, k⟩
theorem gd_tup {n : Nat} {xs : List D} (h : xs.length ≤ 100000) (k : ∀ x ∈ xs, Gd n x) : Gd (n + 1) (.tup xs) := .inr ⟨true, xs, rfl, h, k⟩
theorem sm_tups {n : Nat} {xs ys : List D} (h : xs.length = ys.length) (hz : xs.length ≤ 100000) (k : ∀ (i : Nat) (x y : D), xs[i]? = some x → ys[i]? = some y → Sm n x y) : Sm (n + 1) (.tup xs) (.tup ys) := .inr ⟨true, xs, ys, rfl, rfl, h, hz, k⟩
/-! ### sayings -/
inductive Say where
  | star (v : Int) | under (l : Int) | unseen
def Say.ok : Say → Prop
  | .star v => 1 ≤ v ∧ v ≤ 9
  | .under l => 1 ≤ l ∧ l ≤ 9
  | .unseen => True
def Say.word : Say → Str
  | .star _ => "star"
  | .under _ => "under"
  | .unseen => "unseen"
def Say.num : Say → Int
  | .star v => v
  | .under l => l
  | .unseen => 0
def Say.lo : Say → Int
  | .star v => v
  | .under _ => 0
  | .unseen => 0
def Say.hi : Say → Int
  | .star v => v
  | .under l => l - 1
  | .unseen => 9
abbrev Say.items (s : Say) : List D := [.str s.word, .int s.num]
/-- such a saying, as data -/
def IsSay (d : D) (s : Say) : Prop := d = .tup s.items ∨ d = .wt s.items
theorem ne_su : ¬ (("star" : Str) = "under") := by decide +kernel
theorem ne_us : ¬ (("under" : Str) = "star") := by decide +kernel
theorem ne_ns : ¬ (("unseen" : Str) = "star") := by decide +kernel
theorem ne_nu : ¬ (("unseen" : Str) = "under") := by decide +kernel
def Say.left : Say → List Int
  | .star v => [v]
  | .under l => intsL 0 l.toNat
  | .unseen => intsL 0 10
theorem mem_left (s : Say) (hs : s.ok) (b : Int) : b ∈ s.left ↔ s.lo ≤ b ∧ b ≤ s.hi := by
  cases s with
  | star v => simp [Say.left, Say.lo, Say.hi]; omega
  | under l =>
    have h : 1 ≤ l ∧ l ≤ 9 := hs
    simp only [Say.left, Say.lo, Say.hi, mem_intsL]; omega
  | unseen => simp only [Say.left, Say.lo, Say.hi, mem_intsL]; omega
theorem lrg_ok (n : Int) (h : 0 ≤ n) (h2 : n ≤ 1000000) : lrgC (.da (.int n)) = some (.lst ((intsL 0 n.toNat).map iW)) := by
  unfold lrgC
  simp only [ifc_pos (And.intro h h2), ints_map]
theorem dats_iW (row : List Int) : dats (row.map iW) = some (row.map .int) := dats_ints row
theorem leaves_ok (s : Say) (d : D) (hd : IsSay d s) : p_leaves [d] = .ok (.tup [.int s.lo, .int s.hi]) := by
  unfold p_leaves m_leaves
  cases s with
  | star v => rcases hd with rfl | rfl <;> simp only [Say.items, Say.word, Say.num, Say.lo, Say.hi] <;> simp_arith []
  | under l => rcases hd with rfl | rfl <;> simp only [Say.items, Say.word, Say.num, Say.lo, Say.hi] <;> simp_arith [ne_us]
  | unseen => rcases hd with rfl | rfl <;> simp only [Say.items, Say.word, Say.num, Say.lo, Say.hi] <;> simp_arith [ne_ns, ne_nu]
noncomputable def agreeP (s t : Say) : Bool := dec ((if t.lo > s.lo then t.lo else s.lo) ≤ (if t.hi < s.hi then t.hi else s.hi))
theorem agree_ok (s t : Say) (d e : D) (hd : IsSay d s) (he : IsSay e t) : p_agree [d, e] = .ok (.bl (agreeP s t)) := by
  unfold p_agree m_agree agreeP
  simp_arith [leaves_ok s d hd, leaves_ok t e he]
/-- the joined saying -/
def Say.join : Say → Say → Say
  | .star v, _ => .star v
  | _, .star v => .star v
  | .under a, .under b => .under (if b - 1 < a - 1 then b else a)
  | .under a, .unseen => .under a
  | .unseen, .under b => .under b
  | .unseen, .unseen => .unseen
theorem up_to_ok (g : Int) (h0 : 0 ≤ g) : ∃ d, IsSay d (if g < 9 then .under (g + 1) else .unseen) ∧ p_up_to [.int g] = .ok d := by
  unfold p_up_to m_up_to
  by_cases h : g < 9
  · refine ⟨.tup [.str "under", .int (g + 1)], ?_, by simp_arith [h]⟩
    rw [if_pos h]
    exact .inl rfl
  · refine ⟨.wt [.str "unseen", .int 0], ?_, by simp_arith [h]⟩
    rw [if_neg h]
    exact .inr rfl
theorem join_ok (s t : Say) (hs : s.ok) (ht : t.ok) (h : agreeP s t = true) : (s.join t).ok ∧ (s.join t).lo = (if t.lo > s.lo then t.lo else s.lo) ∧ (s.join t).hi = (if t.hi < s.hi then t.hi else s.hi) := by
  have h' : (if t.lo > s.lo then t.lo else s.lo) ≤ (if t.hi < s.hi then t.hi else s.hi) := by
    by_cases e : (if t.lo > s.lo then t.lo else s.lo) ≤ (if t.hi < s.hi then t.hi else s.hi)
    · exact e
    · unfold agreeP at h; rw [dec_neg e] at h; cases h
  cases s <;> cases t <;> simp only [Say.join, Say.ok, Say.lo, Say.hi] at * <;> (repeat' split at h') <;> (repeat' split) <;> (first | omega | (refine ⟨?_, ?_, ?_⟩ <;> first | omega | trivial))
theorem joined_ok (s t : Say) (d e : D) (hs : s.ok) (ht : t.ok) (hd : IsSay d s) (he : IsSay e t) (h : agreeP s t = true) : ∃ x, IsSay x (s.join t) ∧ p_joined [d, e] = .ok x := by
  have ha := agree_ok s t d e hd he
  rw [h] at ha
  have hl := leaves_ok s d hd
  have hl2 := leaves_ok t e he
  unfold p_joined m_joined
  cases s with
  | star v =>
    refine ⟨d, hd, ?_⟩
    rcases hd with rfl | rfl <;> simp only [Say.items, Say.word, Say.num] at * <;> simp_all_arith [ha, b_joined_0]
  | under a =>
    have hs' : 1 ≤ a ∧ a ≤ 9 := hs
    cases t with
    | star v =>
      refine ⟨e, he, ?_⟩
      rcases hd with rfl | rfl <;> rcases he with rfl | rfl <;> simp only [Say.items, Say.word, Say.num] at * <;> simp_all_arith [ha, b_joined_0, ne_us]
    | under b =>
      have ht' : 1 ≤ b ∧ b ≤ 9 := ht
      obtain ⟨x, hx, e1⟩ := up_to_ok (if b - 1 < a - 1 then b - 1 else a - 1) (by split <;> omega)
      refine ⟨x, ?_, ?_⟩
      · rw [if_pos (by split <;> omega)] at hx
        simp only [Say.join]
        split at hx <;> split <;> first | omega | (simpa using hx)
      · rcases hd with rfl | rfl <;> rcases he with rfl | rfl <;> simp only [Say.items, Say.word, Say.num, Say.lo, Say.hi] at * <;> simp_all_arith [ha, b_joined_0, ne_us, hl, hl2, e1]
    | unseen =>
      obtain ⟨x, hx, e1⟩ := up_to_ok (if 9 < a - 1 then 9 else a - 1) (by split <;> omega)
      refine ⟨x, ?_, ?_⟩
      · rw [if_neg (by omega : ¬ 9 < a - 1), if_pos (by omega)] at hx
        simpa [Say.join] using hx
      · rcases hd with rfl | rfl <;> rcases he with rfl | rfl <;> simp only [Say.items, Say.word, Say.num, Say.lo, Say.hi] at * <;> simp_all_arith [ha, b_joined_0, ne_us, ne_ns, hl, hl2, e1]
  | unseen =>
    cases t with
    | star v =>
      refine ⟨e, he, ?_⟩
      rcases hd with rfl | rfl <;> rcases he with rfl | rfl <;> simp only [Say.items, Say.word, Say.num] at * <;> simp_all_arith [ha, b_joined_0, ne_ns]
    | under b =>
      have ht' : 1 ≤ b ∧ b ≤ 9 := ht
      obtain ⟨x, hx, e1⟩ := up_to_ok (if b - 1 < 9 then b - 1 else 9) (by split <;> omega)
      refine ⟨x, ?_, ?_⟩
      · rw [if_pos (by omega : b - 1 < 9), if_pos (by omega)] at hx
        simpa [Say.join] using hx
      · rcases hd with rfl | rfl <;> rcases he with rfl | rfl <;> simp only [Say.items, Say.word, Say.num, Say.lo, Say.hi] at * <;> simp_all_arith [ha, b_joined_0, ne_us, ne_ns, hl, hl2, e1]
    | unseen =>
      obtain ⟨x, hx, e1⟩ := up_to_ok 9 (by omega)
      refine ⟨x, ?_, ?_⟩
      · simpa [Say.join] using hx
      · rcases hd with rfl | rfl <;> rcases he with rfl | rfl <;> simp only [Say.items, Say.word, Say.num, Say.lo, Say.hi] at * <;> simp_all_arith [ha, b_joined_0, ne_us, ne_ns, hl, hl2, e1]
theorem joined_no (s t : Say) (d e : D) (hd : IsSay d s) (he : IsSay e t) (h : agreeP s t = false) : p_joined [d, e] = .ex ⟨"Denied", [], []⟩ := by
  unfold p_joined m_joined
  simp_arith [agree_ok s t d e hd he, h]
abbrev Sayings (ds : List D) (ss : List Say) : Prop := Paired IsSay ds ss
theorem is_items {d : D} {s : Say} (h : IsSay d s) (S : Sto) : tupW S (.da d) = some [.da (.str s.word), .da (.int s.num)] := by
  rcases h with rfl | rfl <;> rfl
/-! ### many sayings -/
theorem lo_s (v : Int) : (Say.star v).lo = v := rfl
theorem hi_s (v : Int) : (Say.star v).hi = v := rfl
theorem lo_u (v : Int) : (Say.under v).lo = 0 := rfl
theorem hi_u (v : Int) : (Say.under v).hi = v - 1 := rfl
theorem lo_n : Say.unseen.lo = 0 := rfl
theorem hi_n : Say.unseen.hi = 9 := rfl
abbrev inS (b : Int) (s : Say) : Prop := s.lo ≤ b ∧ b ≤ s.hi
theorem say_rng (s : Say) (hs : s.ok) : 0 ≤ s.lo ∧ s.lo ≤ s.hi ∧ s.hi ≤ 9 := by
  cases s with
  | star v => have h : 1 ≤ v ∧ v ≤ 9 := hs; simp only [Say.lo, Say.hi]; omega
  | under v => have h : 1 ≤ v ∧ v ≤ 9 := hs; simp only [Say.lo, Say.hi]; omega
  | unseen => simp only [Say.lo, Say.hi]; omega
theorem say_ext (s t : Say) (hs : s.ok) (ht : t.ok) (h1 : s.lo = t.lo) (h2 : s.hi = t.hi) : s = t := by
  cases s with
  | star v =>
    have h : 1 ≤ v ∧ v ≤ 9 := hs
    cases t with
    | star u => simp only [Say.lo] at h1; rw [h1]
    | under u => simp only [Say.lo] at h1; omega
    | unseen => simp only [Say.lo] at h1; omega
  | under v =>
    have h : 1 ≤ v ∧ v ≤ 9 := hs
    cases t with
    | star u => have h' : 1 ≤ u ∧ u ≤ 9 := ht; simp only [Say.lo] at h1; omega
    | under u => simp only [Say.hi] at h2; rw [show v = u by omega]
    | unseen => simp only [Say.hi] at h2; omega
  | unseen =>
    cases t with
    | star u => have h' : 1 ≤ u ∧ u ≤ 9 := ht; simp only [Say.lo] at h1; omega
    | under u => have h' : 1 ≤ u ∧ u ≤ 9 := ht; simp only [Say.hi] at h2; omega
    | unseen => rfl
theorem say_set (s t : Say) (hs : s.ok) (ht : t.ok) (h : ∀ b, inS b s ↔ inS b t) : s = t := by
  have r1 := say_rng s hs
  have r2 := say_rng t ht
  have a := (h s.lo).mp ⟨by omega, by omega⟩
  have b := (h s.hi).mp ⟨by omega, by omega⟩
  have c := (h t.lo).mpr ⟨by omega, by omega⟩
  have d := (h t.hi).mpr ⟨by omega, by omega⟩
  exact say_ext s t hs ht (by omega) (by omega)
theorem agree_iff (s t : Say) : agreeP s t = true ↔ s.lo ≤ s.hi ∧ t.lo ≤ t.hi ∧ s.lo ≤ t.hi ∧ t.lo ≤ s.hi := by
  unfold agreeP
  constructor
  · intro h
    by_cases e : (if t.lo > s.lo then t.lo else s.lo) ≤ (if t.hi < s.hi then t.hi else s.hi)
    · split at e <;> split at e <;> omega
    · rw [dec_neg e] at h; cases h
  · intro h
    refine dec_pos ?_
    split <;> split <;> omega
theorem join_set (s t : Say) (hs : s.ok) (ht : t.ok) (h : agreeP s t = true) (b : Int) : inS b (s.join t) ↔ inS b s ∧ inS b t := by
  obtain ⟨_, h1, h2⟩ := join_ok s t hs ht h
  rw [show inS b (s.join t) ↔ (s.join t).lo ≤ b ∧ b ≤ (s.join t).hi from Iff.rfl, h1, h2]
  split <;> split <;> constructor <;> intro q <;> omega
noncomputable def poolS (f : Say) : List Say → Option Say
  | [] => some f
  | s :: r => if agreeP f s = true then poolS (f.join s) r else none
theorem pool_some : ∀ (ss : List Say) (f r : Say), f.ok → (∀ s ∈ ss, s.ok) → poolS f ss = some r → r.ok ∧ ∀ b, inS b r ↔ inS b f ∧ ∀ s ∈ ss, inS b s
  | [], f, r, hf, _, h => by cases h; exact ⟨hf, fun b => by simp⟩
  | s :: ss, f, r, hf, hs, h => by
    simp only [poolS] at h
    split at h
    · rename_i ha
      have h0 := hs s (List.mem_cons_self)
      obtain ⟨h1, h2⟩ := pool_some ss (f.join s) r (join_ok f s hf h0 ha).1 (fun t ht => hs t (List.mem_cons_of_mem _ ht)) h
      refine ⟨h1, fun b => ?_⟩
      rw [h2, join_set f s hf h0 ha]
      simp only [List.mem_cons, forall_eq_or_imp]
      constructor
      · exact fun ⟨⟨a, c⟩, d⟩ => ⟨a, c, d⟩
      · exact fun ⟨a, c, d⟩ => ⟨⟨a, c⟩, d⟩
    · cases h
theorem pool_none : ∀ (ss : List Say) (f : Say), f.ok → (∀ s ∈ ss, s.ok) → poolS f ss = none → ∃ a ∈ f :: ss, ∃ b ∈ f :: ss, agreeP a b = false
  | [], f, _, _, h => by cases h
  | s :: ss, f, hf, hs, h => by
    have h0 := hs s (List.mem_cons_self)
    simp only [poolS] at h
    split at h
    · rename_i ha
      obtain ⟨a, ma, b, mb, hab⟩ := pool_none ss (f.join s) (join_ok f s hf h0 ha).1 (fun t ht => hs t (List.mem_cons_of_mem _ ht)) h
      obtain ⟨jo, jl, jh⟩ := join_ok f s hf h0 ha
      have rf := say_rng f hf
      have r0 := say_rng s h0
      -- one that stands for the join
      have pick : ∀ c : Say, c.ok → agreeP (f.join s) c = false → agreeP f c = false ∨ agreeP s c = false := fun c hc hn => by
        cases q1 : agreeP f c with
        | false => exact .inl rfl
        | true =>
          cases q2 : agreeP s c with
          | false => exact .inr rfl
          | true =>
            have a1 := (agree_iff f c).mp q1
            have a2 := (agree_iff s c).mp q2
            have a0 := (agree_iff f s).mp ha
            have : agreeP (f.join s) c = true := (agree_iff _ c).mpr (by rw [jl, jh]; split <;> split <;> omega)
            rw [this] at hn; cases hn
      have okm : ∀ c ∈ f.join s :: ss, c.ok := fun c hc => by
        rcases List.mem_cons.mp hc with rfl | hc
        · exact jo
        · exact hs c (List.mem_cons_of_mem _ hc)
      rcases List.mem_cons.mp ma with rfl | ma'
      · rcases List.mem_cons.mp mb with rfl | mb'
        · have rj := say_rng _ jo
          have : agreeP (f.join s) (f.join s) = true := (agree_iff _ _).mpr (by omega)
          rw [this] at hab; cases hab
        · rcases pick b (okm b mb) hab with q | q
          · exact ⟨f, by simp, b, by simp [mb'], q⟩
          · exact ⟨s, by simp, b, by simp [mb'], q⟩
      · rcases List.mem_cons.mp mb with rfl | mb'
        · have hab' : agreeP (f.join s) a = false := by
            cases q : agreeP (f.join s) a with
            | false => rfl
            | true =>
              have := (agree_iff _ _).mp q
              have : agreeP a (f.join s) = true := (agree_iff _ _).mpr (by omega)
              rw [this] at hab; cases hab
          rcases pick a (okm a ma) hab' with q | q
          · exact ⟨f, by simp, a, by simp [ma'], q⟩
          · exact ⟨s, by simp, a, by simp [ma'], q⟩
        · exact ⟨a, by simp [ma'], b, by simp [mb'], hab⟩
    · rename_i ha
      exact ⟨f, by simp, s, by simp, by simpa using ha⟩
theorem pool_loop (sc : Option W) : ∀ (ds : List D) (ss : List Say), Sayings ds ss → (∀ s ∈ ss, s.ok) → ∀ (f : Say) (x : D) (o : Option W), f.ok → IsSay x f →
    (∃ r z o', poolS f ss = some r ∧ IsSay z r ∧ loopM (gtName 2) b_pool_0 (ds.map .da) [sc, some (.da x), o] [] = .nx [sc, some (.da z), o'] []) ∨
    (poolS f ss = none ∧ ∃ ρ', loopM (gtName 2) b_pool_0 (ds.map .da) [sc, some (.da x), o] [] = .ex ⟨"Denied", [], []⟩ ρ' [])
  | _, _, .nil, _, f, x, o, _, hx => .inl ⟨f, x, o, rfl, hx, rfl⟩
  | d :: ds, s :: ss, .cons h t, hs, f, x, o, hf, hx => by
    have h0 := hs s (List.mem_cons_self)
    simp only [List.map_cons, loopM, poolS]
    cases ha : agreeP f s with
    | true =>
      obtain ⟨y, hy, e⟩ := joined_ok f s x d hf h0 hx h ha
      have e1 : b_pool_0 [sc, some (.da x), some (.da d)] [] = .nx [sc, some (.da y), some (.da d)] [] := by
        unfold b_pool_0
        simp_arith [e]
      simp_arith [e1]
      exact pool_loop sc ds ss t (fun t ht => hs t (List.mem_cons_of_mem _ ht)) (f.join s) y _ (join_ok f s hf h0 ha).1 hy
    | false =>
      have e := joined_no f s x d hx h ha
      have e1 : b_pool_0 [sc, some (.da x), some (.da d)] [] = .ex ⟨"Denied", [], []⟩ [sc, some (.da x), some (.da d)] [] := by
        unfold b_pool_0
        simp_arith [e]
      simp_arith [e1]
      exact .inr ⟨_, rfl⟩
theorem pool_ok (ds : List D) (ss : List Say) (h : Sayings ds ss) (hs : ∀ s ∈ ss, s.ok) : (∃ r z, poolS .unseen ss = some r ∧ IsSay z r ∧ p_pool [.lst ds] = .ok z) ∨ (poolS .unseen ss = none ∧ p_pool [.lst ds] = .ex ⟨"Denied", [], []⟩) := by
  unfold p_pool m_pool
  rcases pool_loop (some (.da (.lst ds))) ds ss h hs .unseen (.wt [.str "unseen", .int 0]) none trivial (.inr rfl) with ⟨r, z, o', e1, e2, e3⟩ | ⟨e1, ρ', e3⟩
  · exact .inl ⟨r, z, e1, e2, by simp_arith [e3]⟩
  · exact .inr ⟨e1, by simp_arith [e3]⟩
/-! ### the law's own agreeing -/
theorem l_agreeing_ok (s t : Say) (hs : s.ok) (ht : t.ok) (d e : D) (hd : IsSay d s) (he : IsSay e t) : p_l_agreeing [d, e] = .ok (.bl (agreeP s t)) := by
  have fin : ∀ b : Bool, p_l_agreeing [d, e] = .ok (.bl b) → (b = true ↔ s.lo ≤ s.hi ∧ t.lo ≤ t.hi ∧ s.lo ≤ t.hi ∧ t.lo ≤ s.hi) → p_l_agreeing [d, e] = .ok (.bl (agreeP s t)) := fun b h1 h2 => by
    rw [h1]
    have e : b = agreeP s t := Bool.eq_iff_iff.mpr (h2.trans (agree_iff s t).symm)
    rw [e]
  cases s with
  | star v =>
    have h1 : 1 ≤ v ∧ v ≤ 9 := hs
    cases t with
    | star u =>
      refine fin (dec (v = u)) ?_ ?_
      · rcases hd with rfl | rfl <;> rcases he with rfl | rfl <;> simp only [Say.items, Say.word, Say.num] <;> unfold p_l_agreeing m_l_agreeing <;> simp_arith []
      · simp only [inS, lo_s, hi_s, lo_u, hi_u, lo_n, hi_n]
        by_cases q : v = u
        · rw [dec_pos q]; simp; omega
        · rw [dec_neg q]; simp; omega
    | under u =>
      have h2 : 1 ≤ u ∧ u ≤ 9 := ht
      refine fin (dec (v < u)) ?_ ?_
      · rcases hd with rfl | rfl <;> rcases he with rfl | rfl <;> simp only [Say.items, Say.word, Say.num] <;> unfold p_l_agreeing m_l_agreeing <;> simp_arith [ne_us]
      · simp only [inS, lo_s, hi_s, lo_u, hi_u, lo_n, hi_n]
        by_cases q : v < u
        · rw [dec_pos q]; simp; omega
        · rw [dec_neg q]; simp; omega
    | unseen =>
      refine fin true ?_ ?_
      · rcases hd with rfl | rfl <;> rcases he with rfl | rfl <;> simp only [Say.items, Say.word, Say.num] <;> unfold p_l_agreeing m_l_agreeing <;> simp_arith [ne_us, ne_ns, ne_nu, ne_su]
      · simp only [inS, lo_s, hi_s, lo_u, hi_u, lo_n, hi_n]; simp; omega
  | under v =>
    have h1 : 1 ≤ v ∧ v ≤ 9 := hs
    cases t with
    | star u =>
      have h2 : 1 ≤ u ∧ u ≤ 9 := ht
      refine fin (dec (u < v)) ?_ ?_
      · rcases hd with rfl | rfl <;> rcases he with rfl | rfl <;> simp only [Say.items, Say.word, Say.num] <;> unfold p_l_agreeing m_l_agreeing <;> simp_arith [ne_us]
      · simp only [inS, lo_s, hi_s, lo_u, hi_u, lo_n, hi_n]
        by_cases q : u < v
        · rw [dec_pos q]; simp; omega
        · rw [dec_neg q]; simp; omega
    | under u =>
      have h2 : 1 ≤ u ∧ u ≤ 9 := ht
      refine fin true ?_ ?_
      · rcases hd with rfl | rfl <;> rcases he with rfl | rfl <;> simp only [Say.items, Say.word, Say.num] <;> unfold p_l_agreeing m_l_agreeing <;> simp_arith [ne_us]
      · simp only [inS, lo_s, hi_s, lo_u, hi_u, lo_n, hi_n]; simp; omega
    | unseen =>
      refine fin true ?_ ?_
      · rcases hd with rfl | rfl <;> rcases he with rfl | rfl <;> simp only [Say.items, Say.word, Say.num] <;> unfold p_l_agreeing m_l_agreeing <;> simp_arith [ne_us, ne_ns, ne_nu]
      · simp only [inS, lo_s, hi_s, lo_u, hi_u, lo_n, hi_n]; simp; omega
  | unseen =>
    have h2 := say_rng t ht
    refine fin true ?_ ?_
    · cases t <;> rcases hd with rfl | rfl <;> rcases he with rfl | rfl <;> simp only [Say.items, Say.word, Say.num] <;> unfold p_l_agreeing m_l_agreeing <;> simp_arith [ne_us, ne_ns, ne_nu]
    · rw [show Say.unseen.lo = 0 from rfl, show Say.unseen.hi = 9 from rfl]; simp; omega
/-! ### panes laid, plates made of them -/
abbrev rwD (r : Pane × Mo) : D := .tup [paneT r.1, moD r.2]
abbrev rwW (r : Pane × Mo) : W := .da (rwD r)
abbrev plD (r : Pane × Mo) : D := .tup [plateD r.1.n r.1.w r.1.h r.1.l r.1.ss, moD r.2]
abbrev plW (r : Pane × Mo) : W := .da (plD r)
def RwOk (r : Pane × Mo) : Prop := r.1.ok ∧ okM r.2
theorem dats_rw (l : List (Pane × Mo)) : dats (l.map rwW) = some (l.map rwD) := by
  rw [show l.map rwW = (l.map rwD).map .da by simp [Function.comp_def], dats_da]
theorem dats_pl (l : List (Pane × Mo)) : dats (l.map plW) = some (l.map plD) := by
  rw [show l.map plW = (l.map plD).map .da by simp [Function.comp_def], dats_da]
theorem home_ok (row : List Int) (hr : Drawn 12 row) : ∃ m : Mo, okM m ∧ p_l_home [.lst (row.map .int)] = .ok (moD m) := by
  obtain ⟨x7, b7, e7⟩ := at_row hr 7 (by decide) (by decide)
  obtain ⟨x8, b8, e8⟩ := at_row hr 8 (by decide) (by decide)
  obtain ⟨x9, b9, e9⟩ := at_row hr 9 (by decide) (by decide)
  refine ⟨(x7 % 8, x8 % 7 - 3, x9 % 7 - 3), ⟨by show 0 ≤ x7 % 8; omega, by show x7 % 8 ≤ 7; omega⟩, ?_⟩
  unfold p_l_home m_l_home
  simp_arith [e7, e8, e9]
abbrev psR (ns : List Int) (at_ : Int) (nms : List Str) (hs : List Star) (whole : Mo) (o6 o7 o8 : Option W) : Rho := [some (.da (.scr (ns.map .int))), some (iW at_), some (.da (.lst (nms.map .str))), some (.da (starsD hs)), some (.da (moD whole)), some (.lo 0), o6, o7, o8]
theorem ps_body (ns : List Int) (hn : ns.length ≤ 63) (at_ : Int) (a0 : 0 ≤ at_) (a1 : at_ ≤ 1000) (nms : List Str) (ok : ∀ s ∈ nms, NameOk s) (hs : List Star) (hh : HeavOk hs) (whole : Mo) (hw : okM whole) (k : Nat) (hk : k < nms.length) (hk2 : k < 100) (o7 o8 : Option W) (rows : List (Pane × Mo)) (hl : rows.length < 1000) :
    ∃ a b, ∃ r : Pane × Mo, RwOk r ∧ nms[k]? = some r.1.n ∧ b_l_panes_0 (psR ns at_ nms hs whole (some (iW k)) o7 o8) [.lst (rows.map rwW)] = .nx (psR ns at_ nms hs whole (some (iW k)) a b) [.lst ((rows ++ [r]).map rwW)] := by
  obtain ⟨row, hr, ed⟩ := draws_ok ns (at_ + k) 12 (by omega) (by omega) (by decide) (by decide) (by omega)
  obtain ⟨m0, hm0, eh⟩ := home_ok row hr
  obtain ⟨x0, b0, e0⟩ := at_row hr 0 (by decide) (by decide)
  obtain ⟨x1, b1, e1⟩ := at_row hr 1 (by decide) (by decide)
  obtain ⟨x2, b2, e2⟩ := at_row hr 2 (by decide) (by decide)
  have hnm : nms[k]? = some nms[k] := List.getElem?_eq_getElem hk
  have en : atI (nms.map (W.da ∘ D.str)) (k : Int) = some (.da (.str nms[k])) := by
    rw [atI_lit, List.getElem?_map, hnm]; rfl
  have p27 := fun S => pow_ok 10 27 S (by decide) (by decide) (by decide)
  simp only [Int.reducePow, Int.reduceToNat] at p27
  have m1 := fun S => mul_l 400 (x1 - 506) S (by decide) (by decide)
  have m2 := fun S => mul_r 1000000000000000000000000000 (x2 % 3) S (by omega) (by omega)
  by_cases q : x0 % 12 = 5
  · obtain ⟨p, p1, p2, ep⟩ := pane_ok nms[k] (ok _ (List.getElem_mem hk)) (m0.1, m0.2.1 + 400 * (x1 - 506), m0.2.2 + 1000000000000000000000000000 * (x2 % 3)) hm0 hs hh row hr
    have eb := l_behind_mo (m0.1, m0.2.1 + 400 * (x1 - 506), m0.2.2 + 1000000000000000000000000000 * (x2 % 3)) whole _ _ (.inl rfl) (.inl rfl) hw
    refine ⟨some (.da (.lst (row.map .int))), some (.da (moD (m0.1, m0.2.1 + 400 * (x1 - 506), m0.2.2 + 1000000000000000000000000000 * (x2 % 3)))), (p, bh (m0.1, m0.2.1 + 400 * (x1 - 506), m0.2.2 + 1000000000000000000000000000 * (x2 % 3)) whole), ⟨p2, ok_bh _ _⟩, by rw [hnm, p1], ?_⟩
    unfold b_l_panes_0 mMt
    simp_arith [ed, eh, e0, q, e1, e2, p27, m1, m2, en, ep, eb, tyM, ifc_pos (sz_lt (show rows.length < 100000 by omega)), List.map_append]
  · obtain ⟨p, p1, p2, ep⟩ := pane_ok nms[k] (ok _ (List.getElem_mem hk)) m0 hm0 hs hh row hr
    have eb := l_behind_mo m0 whole _ _ (.inl rfl) (.inl rfl) hw
    refine ⟨some (.da (.lst (row.map .int))), some (.da (moD m0)), (p, bh m0 whole), ⟨p2, ok_bh _ _⟩, by rw [hnm, p1], ?_⟩
    unfold b_l_panes_0 mMt
    simp_arith [ed, eh, e0, dec_neg q, en, ep, eb, tyM, ifc_pos (sz_lt (show rows.length < 100000 by omega)), List.map_append]
theorem ps_loop (ns : List Int) (hn : ns.length ≤ 63) (at_ : Int) (a0 : 0 ≤ at_) (a1 : at_ ≤ 1000) (nms : List Str) (ok : ∀ s ∈ nms, NameOk s) (hs : List Star) (hh : HeavOk hs) (whole : Mo) (hw : okM whole) : ∀ (j k : Nat) (o6 o7 o8 : Option W) (rows : List (Pane × Mo)), k + j = nms.length → nms.length ≤ 50 → rows.map (·.1.n) = nms.take k → (∀ r ∈ rows, RwOk r) →
    ∃ a b c, ∃ rows' : List (Pane × Mo), loopM (gtName 6) b_l_panes_0 ((intsL k j).map iW) (psR ns at_ nms hs whole o6 o7 o8) [.lst (rows.map rwW)] = .nx (psR ns at_ nms hs whole a b c) [.lst (rows'.map rwW)] ∧ rows'.map (·.1.n) = nms ∧ ∀ r ∈ rows', RwOk r
  | 0, k, o6, o7, o8, rows, hk, hl, hr, hok => ⟨o6, o7, o8, rows, rfl, by rw [hr, List.take_of_length_le (by omega)], hok⟩
  | j + 1, k, o6, o7, o8, rows, hk, hl, hr, hok => by
    have hlen : rows.length = k := by
      have := congrArg List.length hr
      rw [List.length_map, List.length_take] at this
      omega
    obtain ⟨a, b, r, r1, r2, e⟩ := ps_body ns hn at_ a0 a1 nms ok hs hh whole hw k (by omega) (by omega) o7 o8 rows (by omega)
    have ht : (rows ++ [r]).map (·.1.n) = nms.take (k + 1) := by
      rw [List.map_append, hr, List.take_add_one, r2]
      rfl
    obtain ⟨a', b', c', rows', e', k1, k2⟩ := ps_loop ns hn at_ a0 a1 nms ok hs hh whole hw j (k + 1) (some (iW k)) a b (rows ++ [r]) (by omega) hl ht (fun x hx => by
      rcases List.mem_append.mp hx with hx | hx
      · exact hok x hx
      · simp at hx; subst hx; exact r1)
    refine ⟨a', b', c', rows', ?_, k1, k2⟩
    have g : gtName 6 (iW k) (psR ns at_ nms hs whole o6 o7 o8) [.lst (rows.map rwW)] = some (psR ns at_ nms hs whole (some (iW k)) o7 o8) := rfl
    have ec : ((k : Int) + 1) = ((k + 1 : Nat) : Int) := by omega
    simp only [intsL, List.map_cons, loopM, g, e, ec, e']
theorem datWs_rw (k : Nat) (S : Sto) (l : List (Pane × Mo)) : datWs k S (l.map rwW) = some (l.map rwD, S) := by
  rw [show l.map rwW = (l.map rwD).map .da by simp [Function.comp_def]]
  exact datWs_da k S _
theorem panes_ok (ns : List Int) (hn : ns.length ≤ 63) (at_ : Int) (a0 : 0 ≤ at_) (a1 : at_ ≤ 1000) (nms : List Str) (ok : ∀ s ∈ nms, NameOk s) (hnl : nms.length ≤ 50) (hs : List Star) (hh : HeavOk hs) (whole : Mo) (hw : okM whole) :
    ∃ rows : List (Pane × Mo), rows.map (·.1.n) = nms ∧ (∀ r ∈ rows, RwOk r) ∧ p_l_panes [.scr (ns.map .int), .int at_, .lst (nms.map .str), starsD hs, moD whole] = .ok (.lst (rows.map rwD)) := by
  obtain ⟨a, b, c, rows, e, k1, k2⟩ := ps_loop ns hn at_ a0 a1 nms ok hs hh whole hw nms.length 0 none none none [] (by omega) hnl (by simp) (by simp)
  have e : loopM (gtName 6) b_l_panes_0 ((intsL 0 nms.length).map iW) (psR ns at_ nms hs whole none none none) [.lst (([] : List (Pane × Mo)).map rwW)] = .nx (psR ns at_ nms hs whole a b c) [.lst (rows.map rwW)] := e
  rw [← ints_map] at e
  have r : rng1 [.da (.int (nms.length : Int))] = some (0, nms.length) := by
    have := rng1_ok (nms.length : Int) (by omega) (by omega)
    simpa using this
  refine ⟨rows, k1, k2, ?_⟩
  unfold p_l_panes m_l_panes
  simp_arith [r]
  rw [show ([Cell.lst []] : Sto) = [.lst (([] : List (Pane × Mo)).map rwW)] from rfl, e]
  unfold mFz fzW
  simp_arith [datWs_rw]
theorem rw_map (l : List (Pane × Mo)) : List.map (W.da ∘ rwD) l = l.map rwW := rfl
theorem pl_map (l : List (Pane × Mo)) : List.map (W.da ∘ plD) l = l.map plW := rfl
theorem plates_ok (rows : List (Pane × Mo)) (hl : rows.length ≤ 1000) (ok : ∀ r ∈ rows, RwOk r) : p_l_plates [.lst (rows.map rwD)] = .ok (.lst (rows.map plD)) := by
  have lc : ∀ S, lcM (gtTupT 2 (gtCons (gtName 1) (gtCons (gtName 2) gtNil))) mYes e_l_plates_0 [some (.da (.lst (rows.map rwD))), none, none] (rows.map rwW) [] S = .ok (rows.map plW) S := fun S => by
    have := lc_map rwW plW id (g := gtTupT 2 (gtCons (gtName 1) (gtCons (gtName 2) gtNil))) (me := e_l_plates_0) (ρw := [some (.da (.lst (rows.map rwD))), none, none]) (S := S) rows (by omega) fun r hr => ⟨[some (.da (.lst (rows.map rwD))), some (.da (paneT r.1)), some (.da (moD r.2))], by simp_arith [], by
      have pk := plate_ok r.1.n r.1.w r.1.h r.1.l r.1.ss (ok r hr).1.1 (ok r hr).1.2.1
      rw [(ok r hr).1.2.2] at pk
      unfold e_l_plates_0
      simp_arith [stars_map, dats_stars, pk]
      rfl⟩
    simpa using this
  unfold p_l_plates m_l_plates mLc mkLst
  simp_arith [rw_map, wipeR, lc, dats_pl]
/-! what a pane says -/
noncomputable def sayS (p : Pane) (q : Int × Int) : Say := ifc (InW p.w p.h q) (match starAt p.ss q with
  | some b => .star b
  | none => .under p.l) .unseen
theorem sayS_ok (p : Pane) (hp : p.ok) (q : Int × Int) : (sayS p q).ok := by
  obtain ⟨_, ⟨_, _, l1, _, ok, nd⟩, _⟩ := hp
  unfold sayS
  by_cases z : InW p.w p.h q
  · rw [ifc_pos z]
    cases e : starAt p.ss q with
    | none => exact l1
    | some b =>
      have := ok _ ((starAt_iff nd q b).mp e)
      have h1 := this.2.2
      exact ⟨by have := h1.1; simp only at this; omega, h1.2⟩
  · rw [ifc_neg z]; trivial
theorem says_wt (p : Pane) (q : Int × Int) : IsSay (saysD .wt p.w p.h p.l p.ss q) (sayS p q) := by
  unfold saysD sayS
  by_cases z : InW p.w p.h q
  · rw [ifc_pos z, ifc_pos z]
    cases starAt p.ss q <;> exact .inl rfl
  · rw [ifc_neg z, ifc_neg z]; exact .inr rfl
theorem says_tup (p : Pane) (q : Int × Int) : saysD .tup p.w p.h p.l p.ss q = .tup (sayS p q).items := by
  unfold saysD sayS
  by_cases z : InW p.w p.h q
  · rw [ifc_pos z, ifc_pos z]
    cases starAt p.ss q <;> rfl
  · rw [ifc_neg z, ifc_neg z]; rfl
theorem lsays_loop (pn : D) (x y : Int) (S : Sto) : ∀ (ss : List Star) (o2 o3 o4 : Option W), (∃ a b c, starAt ss (x, y) = none ∧ loopM (gtTup 3 (gtCons (gtName 2) (gtCons (gtName 3) (gtCons (gtName 4) gtNil)))) b_l_says_0 (ss.map stW) [some (.da pn), some (.da (.tup [.int x, .int y])), o2, o3, o4] S = .nx [some (.da pn), some (.da (.tup [.int x, .int y])), a, b, c] S) ∨ ∃ b, starAt ss (x, y) = some b ∧ loopM (gtTup 3 (gtCons (gtName 2) (gtCons (gtName 3) (gtCons (gtName 4) gtNil)))) b_l_says_0 (ss.map stW) [some (.da pn), some (.da (.tup [.int x, .int y])), o2, o3, o4] S = .rt (.da (.tup [.str "star", .int b])) S
  | [], o2, o3, o4 => .inl ⟨o2, o3, o4, rfl, rfl⟩
  | s :: ss, o2, o3, o4 => by
    have g : (gtTup 3 (gtCons (gtName 2) (gtCons (gtName 3) (gtCons (gtName 4) gtNil)))) (stW s) [some (.da pn), some (.da (.tup [.int x, .int y])), o2, o3, o4] S = some [some (.da pn), some (.da (.tup [.int x, .int y])), some (iW s.1), some (iW s.2.1), some (iW s.2.2)] := by
      simp_arith []
    simp only [starAt]
    by_cases h : plc s = (x, y)
    · refine .inr ⟨s.2.2, if_pos h, ?_⟩
      simp only [plc, Prod.mk.injEq] at h
      have b : b_l_says_0 [some (.da pn), some (.da (.tup [.int x, .int y])), some (iW s.1), some (iW s.2.1), some (iW s.2.2)] S = .rt (.da (.tup [.str "star", .int s.2.2])) S := by
        unfold b_l_says_0
        simp_arith [dec_pos h.1, dec_pos h.2]
      simp only [List.map_cons, loopM, g, b]
    · rw [if_neg h]
      have b : b_l_says_0 [some (.da pn), some (.da (.tup [.int x, .int y])), some (iW s.1), some (iW s.2.1), some (iW s.2.2)] S = .nx [some (.da pn), some (.da (.tup [.int x, .int y])), some (iW s.1), some (iW s.2.1), some (iW s.2.2)] S := by
        unfold b_l_says_0
        by_cases h1 : s.1 = x
        · have h2 : ¬ s.2.1 = y := fun z => h (by simp [plc, h1, z])
          simp_arith [dec_pos h1, dec_neg h2]
        · simp_arith [dec_neg h1]
      rcases lsays_loop pn x y S ss (some (iW s.1)) (some (iW s.2.1)) (some (iW s.2.2)) with ⟨a', b', c', e1, e2⟩ | ⟨b', e1, e2⟩
      · exact .inl ⟨a', b', c', e1, by simp only [List.map_cons, loopM, g, b, e2]⟩
      · exact .inr ⟨b', e1, by simp only [List.map_cons, loopM, g, b, e2]⟩
theorem lsays_eq (p : Pane) (x y : Int) : p_l_says [paneT p, .tup [.int x, .int y]] = .ok (.tup (sayS p (x, y)).items) := by
  rw [← says_tup]
  unfold saysD p_l_says m_l_says
  by_cases q : InW p.w p.h (x, y)
  · rw [ifc_pos q]
    obtain ⟨⟨a1, a2⟩, a3, a4⟩ := q
    rcases lsays_loop (paneT p) x y [] p.ss none none none with ⟨a, b, c, e1, e2⟩ | ⟨b, e1, e2⟩
    · rw [e1]
      simp_arith [dec_pos a1, dec_pos a2, dec_pos a3, dec_pos a4]
      rw [stars_map, e2]
      simp_arith []
    · rw [e1]
      simp_arith [dec_pos a1, dec_pos a2, dec_pos a3, dec_pos a4]
      rw [stars_map, e2]
      simp_arith []
  · rw [ifc_neg q]
    by_cases a1 : 0 ≤ x
    · by_cases a2 : x < p.w
      · by_cases a3 : 0 ≤ y
        · have a4 : ¬ y < p.h := fun z => q ⟨⟨a1, a2⟩, a3, z⟩
          simp_arith [dec_pos a1, dec_pos a2, dec_pos a3, dec_neg a4]
        · simp_arith [dec_pos a1, dec_pos a2, dec_neg a3]
      · simp_arith [dec_pos a1, dec_neg a2]
    · simp_arith [dec_neg a1]
/-! names and motions kept -/
theorem name_lay {s : Str} (h : NameOk s) : PyData.strOk s = true := by
  unfold PyData.strOk
  rw [Array.all_eq_true']
  intro c hc
  have := h.2.2 c (by simpa using hc)
  have k : ∀ c ∈ azS.cps.toList, decide (c < 0x110000) = true := by decide +kernel
  exact k c this
abbrev nmD (p : Str × Mo) : D := .tup [.str p.1, moD p.2]
theorem enc_mo : Enc moD 1 := EncL.tup (EncL.cons enc_int (EncL.cons enc_int (EncL.one enc_int)))
theorem enc_nm : Enc nmD 2 := EncL.tup (EncL.cons (enc_str.up (by omega)) (EncL.one enc_mo))
theorem enc_nms : Enc (fun l : List (Str × Mo) => .lst (l.map nmD)) 3 := EncL.lst (EncL.many enc_nm)
theorem lay_nms (l : List (Str × Mo)) (h : ∀ p ∈ l, NameOk p.1) : (toPy (.lst (l.map nmD))).canLay0 = true := by
  simp only [toPy, PyData.canLay0]
  refine layAll_of fun p hp => ?_
  simp only [toPy, toPyL, PyData.canLay0, PyData.canLayAll0]
  rw [name_lay (h p hp)]
  rfl
theorem kept_ok (rows : List (Pane × Mo)) (hl : rows.length ≤ 1000) (ok : ∀ r ∈ rows, RwOk r) : p_l_kept [.lst (rows.map plD), .lst (rows.map rwD)] = .ok (.bl true) := by
  obtain ⟨N, hN, l0⟩ : ∃ N, N = rows.map (fun r => (r.1.n, r.2)) ∧ ∀ S, lcM (gtTupT 2 (gtCons (gtName 2) (gtCons (gtName 3) gtNil))) mYes e_l_kept_0 [some (.da (.lst (rows.map plD))), some (.da (.lst (rows.map rwD))), none, none, none] (rows.map plW) [] S = .ok (N.map (fun p => W.da (nmD p))) S := by
    refine ⟨_, rfl, fun S => ?_⟩
    refine lc_map plW (fun p => W.da (nmD p)) (fun r => (r.1.n, r.2)) (g := gtTupT 2 (gtCons (gtName 2) (gtCons (gtName 3) gtNil))) (me := e_l_kept_0) rows (by omega) fun r hr => ⟨[some (.da (.lst (rows.map plD))), some (.da (.lst (rows.map rwD))), some (.da (plateD r.1.n r.1.w r.1.h r.1.l r.1.ss)), some (.da (moD r.2)), none], by simp_arith [], ?_⟩
    unfold e_l_kept_0
    simp_arith [vl1, zp, plne, List.mem_singleton]
  have l1 : ∀ S, lcM (gtTupT 2 (gtCons (gtName 4) (gtCons (gtName 3) gtNil))) mYes e_l_kept_1 [some (.da (.lst (rows.map plD))), some (.da (.lst (rows.map rwD))), none, none, none] (rows.map rwW) [] S = .ok (N.map (fun p => W.da (nmD p))) S := fun S => by
    rw [hN]
    refine lc_map rwW (fun p => W.da (nmD p)) (fun r => (r.1.n, r.2)) (g := gtTupT 2 (gtCons (gtName 4) (gtCons (gtName 3) gtNil))) (me := e_l_kept_1) rows (by omega) fun r hr => ⟨[some (.da (.lst (rows.map plD))), some (.da (.lst (rows.map rwD))), none, some (.da (moD r.2)), some (.da (paneT r.1))], by simp_arith [], ?_⟩
    unfold e_l_kept_1
    simp_arith []
  have dn : dats (N.map (fun p => W.da (nmD p))) = some (N.map nmD) := by
    rw [show N.map (fun p => W.da (nmD p)) = (N.map nmD).map .da by simp [Function.comp_def], dats_da]
  have ly := lay_nms N (fun p hp => by
    rw [hN] at hp
    obtain ⟨r, hr, rfl⟩ := List.mem_map.mp hp
    exact (ok r hr).1.1)
  have eq := fun S => eq_e (a := N) (b := N) enc_nms (by omega) ly ly S
  rw [dec_pos rfl] at eq
  unfold p_l_kept m_l_kept mLc mkLst
  simp_arith [rw_map, pl_map, wipeR, l0, l1, dn, eq]
/-! ### the places of a window, and the first at which two panes clash -/
def plcs (w h : Int) : List (Int × Int) := (intsL 0 w.toNat).flatMap fun x => (intsL 0 h.toNat).map fun y => (x, y)
noncomputable def badZ (p q : Pane) (aw : Mo) (z : Int × Int) : Bool := !agreeP (sayS p z) (sayS q (act aw z))
noncomputable def clashS (p q : Pane) (aw : Mo) : Option (Int × Int) := (plcs p.w p.h).find? (badZ p q aw)
def optZ : Option (Int × Int) → D
  | none => .non
  | some z => pD z
abbrev cxR (p q : Pane) (aw : Mo) (o3 o4 : Option W) : Rho := [some (.da (paneT p)), some (.da (paneT q)), some (.da (moD aw)), o3, o4]
theorem cl_body (p q : Pane) (hp : p.ok) (hq : q.ok) (aw : Mo) (ha : okM aw) (x y : Int) (S : Sto) : b_l_clash_of_two_0 (cxR p q aw (some (iW x)) (some (iW y))) S = if badZ p q aw (x, y) = true then .rt (pW (x, y)) S else .nx (cxR p q aw (some (iW x)) (some (iW y))) S := by
  have e1 := lsays_eq p x y
  have e2 : p_l_moved [moD aw, .tup [.int x, .int y]] = .ok (.tup [.int (act aw (x, y)).1, .int (act aw (x, y)).2]) := l_moved_eq aw ha x y
  have e3 := lsays_eq q (act aw (x, y)).1 (act aw (x, y)).2
  have e4 := l_agreeing_ok (sayS p (x, y)) (sayS q (act aw (x, y))) (sayS_ok p hp _) (sayS_ok q hq _) _ _ (.inl rfl) (.inl rfl)
  unfold badZ
  cases h : agreeP (sayS p (x, y)) (sayS q (act aw (x, y))) with
  | true =>
    rw [h] at e4
    unfold b_l_clash_of_two_0
    simp_arith [e1, e2, e3, e4]
  | false =>
    rw [h] at e4
    unfold b_l_clash_of_two_0
    simp_arith [e1, e2, e3, e4]
theorem cl_in (p q : Pane) (hp : p.ok) (hq : q.ok) (aw : Mo) (ha : okM aw) (x : Int) (S : Sto) : ∀ (ys : List Int) (o4 : Option W),
    (∃ a, (ys.map fun y => (x, y)).find? (badZ p q aw) = none ∧ loopM (gtName 4) b_l_clash_of_two_0 (ys.map iW) (cxR p q aw (some (iW x)) o4) S = .nx (cxR p q aw (some (iW x)) a) S) ∨
    ∃ z, (ys.map fun y => (x, y)).find? (badZ p q aw) = some z ∧ loopM (gtName 4) b_l_clash_of_two_0 (ys.map iW) (cxR p q aw (some (iW x)) o4) S = .rt (pW z) S
  | [], o4 => .inl ⟨o4, rfl, rfl⟩
  | y :: ys, o4 => by
    have g : gtName 4 (iW y) (cxR p q aw (some (iW x)) o4) S = some (cxR p q aw (some (iW x)) (some (iW y))) := rfl
    have b := cl_body p q hp hq aw ha x y S
    simp only [List.map_cons, List.find?_cons]
    cases h : badZ p q aw (x, y) with
    | true =>
      rw [h] at b
      exact .inr ⟨(x, y), rfl, by simp only [loopM, g, b, if_true]⟩
    | false =>
      rw [h] at b
      simp only [Bool.false_eq_true, if_false] at b
      rcases cl_in p q hp hq aw ha x S ys (some (iW y)) with ⟨a, h1, h2⟩ | ⟨z, h1, h2⟩
      · exact .inl ⟨a, h1, by simp only [loopM, g, b, h2]⟩
      · exact .inr ⟨z, h1, by simp only [loopM, g, b, h2]⟩
theorem cl_row (p q : Pane) (hp : p.ok) (hq : q.ok) (aw : Mo) (ha : okM aw) (x : Int) (S : Sto) (o4 : Option W) :
    (∃ a, ((intsL 0 p.h.toNat).map fun y => (x, y)).find? (badZ p q aw) = none ∧ b_l_clash_of_two_1 (cxR p q aw (some (iW x)) o4) S = .nx (cxR p q aw (some (iW x)) a) S) ∨
    ∃ z, ((intsL 0 p.h.toNat).map fun y => (x, y)).find? (badZ p q aw) = some z ∧ b_l_clash_of_two_1 (cxR p q aw (some (iW x)) o4) S = .rt (pW z) S := by
  have hh := hp.2.1.2.1
  have r : rng1 [iW p.h] = some (0, p.h.toNat) := rng1_ok p.h (by omega) (by omega)
  rcases cl_in p q hp hq aw ha x S (intsL 0 p.h.toNat) o4 with ⟨a, h1, h2⟩ | ⟨z, h1, h2⟩
  · refine .inl ⟨a, h1, ?_⟩
    rw [← ints_map] at h2
    unfold b_l_clash_of_two_1
    simp_arith [r, h2]
  · refine .inr ⟨z, h1, ?_⟩
    rw [← ints_map] at h2
    unfold b_l_clash_of_two_1
    simp_arith [r, h2]
theorem cl_out (p q : Pane) (hp : p.ok) (hq : q.ok) (aw : Mo) (ha : okM aw) (S : Sto) : ∀ (xs : List Int) (o3 o4 : Option W),
    (∃ a b, (xs.flatMap fun x => (intsL 0 p.h.toNat).map fun y => (x, y)).find? (badZ p q aw) = none ∧ loopM (gtName 3) b_l_clash_of_two_1 (xs.map iW) (cxR p q aw o3 o4) S = .nx (cxR p q aw a b) S) ∨
    ∃ z, (xs.flatMap fun x => (intsL 0 p.h.toNat).map fun y => (x, y)).find? (badZ p q aw) = some z ∧ loopM (gtName 3) b_l_clash_of_two_1 (xs.map iW) (cxR p q aw o3 o4) S = .rt (pW z) S
  | [], o3, o4 => .inl ⟨o3, o4, rfl, rfl⟩
  | x :: xs, o3, o4 => by
    have g : gtName 3 (iW x) (cxR p q aw o3 o4) S = some (cxR p q aw (some (iW x)) o4) := rfl
    simp only [List.flatMap_cons, List.find?_append, List.map_cons]
    rcases cl_row p q hp hq aw ha x S o4 with ⟨a, h1, h2⟩ | ⟨z, h1, h2⟩
    · rw [h1]
      simp only [Option.none_or]
      rcases cl_out p q hp hq aw ha S xs (some (iW x)) a with ⟨a', b', k1, k2⟩ | ⟨z, k1, k2⟩
      · exact .inl ⟨a', b', k1, by simp only [loopM, g, h2, k2]⟩
      · exact .inr ⟨z, k1, by simp only [loopM, g, h2, k2]⟩
    · rw [h1]
      exact .inr ⟨z, rfl, by simp only [loopM, g, h2]⟩
theorem clash_eq (p q : Pane) (hp : p.ok) (hq : q.ok) (aw : Mo) (ha : okM aw) : p_l_clash_of_two [paneT p, paneT q, moD aw] = .ok (optZ (clashS p q aw)) := by
  have hw := hp.2.1.1
  have r : rng1 [iW p.w] = some (0, p.w.toNat) := rng1_ok p.w (by omega) (by omega)
  unfold clashS plcs
  rcases cl_out p q hp hq aw ha [] (intsL 0 p.w.toNat) none none with ⟨a, b, h1, h2⟩ | ⟨z, h1, h2⟩
  · rw [h1]
    rw [← ints_map] at h2
    unfold p_l_clash_of_two m_l_clash_of_two
    simp_arith [r, h2]
    rfl
  · rw [h1]
    rw [← ints_map] at h2
    unfold p_l_clash_of_two m_l_clash_of_two
    simp_arith [r, h2]
    rfl
/-! ### a plate's places; two plates unlike -/
abbrev pcR (pl : D) (o2 o3 : Option W) : Rho := [some (.da pl), some (.lo 0), o2, o3]
theorem pc_in (pl : D) (x : Int) : ∀ (ys : List Int) (o3 : Option W) (acc : List (Int × Int)), acc.length + ys.length ≤ 1000 →
    ∃ a, loopM (gtName 3) b_Plate_places_0 (ys.map iW) (pcR pl (some (iW x)) o3) [.lst (acc.map pW)] = .nx (pcR pl (some (iW x)) a) [.lst ((acc ++ ys.map fun y => (x, y)).map pW)]
  | [], o3, acc, _ => ⟨o3, by simp [loopM]⟩
  | y :: ys, o3, acc, hl => by
    simp only [List.length_cons] at hl
    have g : gtName 3 (iW y) (pcR pl (some (iW x)) o3) [.lst (acc.map pW)] = some (pcR pl (some (iW x)) (some (iW y))) := rfl
    have b : b_Plate_places_0 (pcR pl (some (iW x)) (some (iW y))) [.lst (acc.map pW)] = .nx (pcR pl (some (iW x)) (some (iW y))) [.lst ((acc ++ [(x, y)]).map pW)] := by
      unfold b_Plate_places_0
      simp_arith [tyM, ifc_pos (sz_lt (show acc.length < 100000 by omega)), List.map_append]
    obtain ⟨a, e⟩ := pc_in pl x ys (some (iW y)) (acc ++ [(x, y)]) (by simp; omega)
    refine ⟨a, ?_⟩
    simp only [List.map_cons, loopM, g, b, e]
    simp
theorem plcs_len (w h : Int) (hw : w ≤ 8) (hh : h ≤ 8) : (plcs w h).length ≤ 64 := by
  have gen : ∀ xs : List Int, (xs.flatMap fun x => (intsL 0 h.toNat).map fun y => (x, y)).length = xs.length * h.toNat := fun xs => by
    induction xs with
    | nil => simp
    | cons x xs ih => simp only [List.flatMap_cons, List.length_append, List.length_map, len_intsL, ih, List.length_cons, Nat.succ_mul]; omega
  unfold plcs
  rw [gen, len_intsL]
  exact Nat.le_trans (Nat.mul_le_mul (show w.toNat ≤ 8 by omega) (show h.toNat ≤ 8 by omega)) (by decide)
theorem pc_out (n : Str) (w h l : Int) (ss : List Star) (h0 : 0 ≤ h) (h8 : h ≤ 8) : ∀ (xs : List Int) (o2 o3 : Option W) (acc : List (Int × Int)), acc.length + 8 * xs.length ≤ 1000 →
    ∃ a b, loopM (gtName 2) b_Plate_places_1 (xs.map iW) (pcR (plateD n w h l ss) o2 o3) [.lst (acc.map pW)] = .nx (pcR (plateD n w h l ss) a b) [.lst ((acc ++ xs.flatMap fun x => (intsL 0 h.toNat).map fun y => (x, y)).map pW)]
  | [], o2, o3, acc, _ => ⟨o2, o3, by simp [loopM]⟩
  | x :: xs, o2, o3, acc, hl => by
    simp only [List.length_cons] at hl
    have g : gtName 2 (iW x) (pcR (plateD n w h l ss) o2 o3) [.lst (acc.map pW)] = some (pcR (plateD n w h l ss) (some (iW x)) o3) := rfl
    have r : rng1 [iW h] = some (0, h.toNat) := rng1_ok h (by omega) (by omega)
    have li : (intsL 0 h.toNat).length = h.toNat := len_intsL _ _
    obtain ⟨a, e⟩ := pc_in (plateD n w h l ss) x (intsL 0 h.toNat) o3 acc (by rw [li]; omega)
    have b : b_Plate_places_1 (pcR (plateD n w h l ss) (some (iW x)) o3) [.lst (acc.map pW)] = .nx (pcR (plateD n w h l ss) (some (iW x)) a) [.lst ((acc ++ (intsL 0 h.toNat).map fun y => (x, y)).map pW)] := by
      rw [← ints_map] at e
      generalize acc.map pW = A at e ⊢
      unfold b_Plate_places_1
      simp_arith [vl1, zp, plne, List.mem_singleton, r, e]
    obtain ⟨a', b', e'⟩ := pc_out n w h l ss h0 h8 xs (some (iW x)) a (acc ++ (intsL 0 h.toNat).map fun y => (x, y)) (by rw [List.length_append, List.length_map, li]; omega)
    refine ⟨a', b', ?_⟩
    simp only [List.map_cons, loopM, g, b, e', List.flatMap_cons, List.append_assoc]
theorem datWs_pairs (k : Nat) (S : Sto) (l : List (Int × Int)) : datWs k S (l.map pW) = some (l.map pD, S) := by
  rw [show l.map pW = (l.map pD).map .da by simp [Function.comp_def]]
  exact datWs_da k S _
theorem places_eq (n : Str) (w h l : Int) (ss : List Star) (w0 : 0 ≤ w) (w8 : w ≤ 8) (h0 : 0 ≤ h) (h8 : h ≤ 8) : p_Plate_places [plateD n w h l ss] = .ok (.lst ((plcs w h).map pD)) := by
  have r : rng1 [iW w] = some (0, w.toNat) := rng1_ok w (by omega) (by omega)
  obtain ⟨a, b, e⟩ := pc_out n w h l ss h0 h8 (intsL 0 w.toNat) none none [] (by rw [len_intsL]; simp; omega)
  rw [← ints_map, List.nil_append] at e
  change loopM _ _ _ _ _ = Out.nx _ [Cell.lst ((plcs w h).map pW)] at e
  unfold p_Plate_places m_Plate_places
  simp_arith [vl1, zp, plne, List.mem_singleton, r]
  rw [show ([Cell.lst []] : Sto) = [.lst (([] : List (Int × Int)).map pW)] from rfl, e]
  unfold mFz fzW
  simp_arith [datWs_pairs]
abbrev plP (p : Pane) : D := plateD p.n p.w p.h p.l p.ss
abbrev u2R (p q : Pane) (m aw : Mo) (o4 : Option W) : Rho := [some (.da (plP p)), some (.da (plP q)), some (.da (moD m)), some (.da (moD aw)), o4]
theorem nosays (p : Pane) : look (plFs.zip [W.da (.str p.n), .da (.int p.w), .da (.int p.h), .da (.int p.l), .da (.dt (p.ss.map plK) (p.ss.map brV))]) "says" = none := by simp_arith [zp, plne]
theorem noplaces (p : Pane) : look (plFs.zip [W.da (.str p.n), .da (.int p.w), .da (.int p.h), .da (.int p.l), .da (.dt (p.ss.map plK) (p.ss.map brV))]) "places" = none := by
  have h1 : ((("name" : Str) = "places") = False) := eq_false (by decide +kernel)
  have h2 : ((("width" : Str) = "places") = False) := eq_false (by decide +kernel)
  have h3 : ((("height" : Str) = "places") = False) := eq_false (by decide +kernel)
  have h4 : ((("limit" : Str) = "places") = False) := eq_false (by decide +kernel)
  have h5 : ((("lights" : Str) = "places") = False) := eq_false (by decide +kernel)
  simp_arith [zp, plne, h1, h2, h3, h4, h5]
theorem u2_loop (p q : Pane) (m aw : Mo) (ha : okM aw) (S : Sto) : ∀ (zs : List (Int × Int)) (o4 : Option W),
    (∃ a, zs.find? (badZ p q aw) = none ∧ loopM (gtName 4) b_unlike_two_0 (zs.map pW) (u2R p q m aw o4) S = .nx (u2R p q m aw a) S) ∨
    ∃ z, zs.find? (badZ p q aw) = some z ∧ loopM (gtName 4) b_unlike_two_0 (zs.map pW) (u2R p q m aw o4) S = .rt (pW z) S
  | [], o4 => .inl ⟨o4, rfl, rfl⟩
  | z :: zs, o4 => by
    have g : gtName 4 (pW z) (u2R p q m aw o4) S = some (u2R p q m aw (some (pW z))) := rfl
    have e1 : p_Plate_says [plP p, .tup [.int z.1, .int z.2]] = .ok (saysD .wt p.w p.h p.l p.ss z) := says_eq p.n p.w p.h p.l p.ss z.1 z.2
    have e2 : p_moved [moD aw, .tup [.int z.1, .int z.2]] = .ok (.tup [.int (act aw z).1, .int (act aw z).2]) := moved_eq aw ha z.1 z.2
    have e3 : p_Plate_says [plP q, .tup [.int (act aw z).1, .int (act aw z).2]] = .ok (saysD .wt q.w q.h q.l q.ss (act aw z)) := says_eq q.n q.w q.h q.l q.ss (act aw z).1 (act aw z).2
    have e4 := agree_ok (sayS p z) (sayS q (act aw z)) _ _ (says_wt p z) (says_wt q (act aw z))
    have n1 := nosays p
    have n2 := nosays q
    generalize saysD .wt p.w p.h p.l p.ss z = d1 at e1 e4
    generalize saysD .wt q.w q.h q.l q.ss (act aw z) = d2 at e3 e4
    simp only [List.map_cons, List.find?_cons]
    cases h : agreeP (sayS p z) (sayS q (act aw z)) with
    | false =>
      rw [h] at e4
      have hb : badZ p q aw z = true := by unfold badZ; rw [h]; rfl
      have b : b_unlike_two_0 (u2R p q m aw (some (pW z))) S = .rt (pW z) S := by
        unfold b_unlike_two_0
        simp_arith [e1, e2, e3, e4, n1, n2]
      rw [hb]
      exact .inr ⟨z, rfl, by simp only [loopM, g, b]⟩
    | true =>
      rw [h] at e4
      have hb : badZ p q aw z = false := by unfold badZ; rw [h]; rfl
      have b : b_unlike_two_0 (u2R p q m aw (some (pW z))) S = .nx (u2R p q m aw (some (pW z))) S := by
        unfold b_unlike_two_0
        simp_arith [e1, e2, e3, e4, n1, n2]
      rw [hb]
      rcases u2_loop p q m aw ha S zs (some (pW z)) with ⟨a, h1, h2⟩ | ⟨z', h1, h2⟩
      · exact .inl ⟨a, h1, by simp only [loopM, g, b, h2]⟩
      · exact .inr ⟨z', h1, by simp only [loopM, g, b, h2]⟩
theorem plcs_map (l : List (Int × Int)) : List.map (W.da ∘ pD) l = l.map pW := rfl
theorem unlike_two_eq (p q : Pane) (hp : p.ok) (m : Mo) (hm : okM m) : p_unlike_two [plP p, plP q, moD m] = .ok (optZ (clashS p q (bkM m))) := by
  obtain ⟨w1, w2⟩ := hp.2.1.1
  obtain ⟨h1, h2⟩ := hp.2.1.2.1
  have e1 : p_Plate_places [plP p] = .ok (.lst ((plcs p.w p.h).map pD)) := places_eq p.n p.w p.h p.l p.ss (by omega) w2 (by omega) h2
  have e2 := back_mo m (moD m) (.inl rfl) hm
  have n1 := noplaces p
  unfold clashS
  rcases u2_loop p q m (bkM m) (ok_bk hm) [] (plcs p.w p.h) none with ⟨a, k1, k2⟩ | ⟨z, k1, k2⟩
  · rw [k1]
    generalize plcs p.w p.h = zs at e1 k2
    unfold p_unlike_two m_unlike_two
    simp_arith [e1, e2, n1, plcs_map, k2]
    rfl
  · rw [k1]
    generalize plcs p.w p.h = zs at e1 k2
    unfold p_unlike_two m_unlike_two
    simp_arith [e1, e2, n1, plcs_map, k2]
    rfl
/-! ### rows that fit -/
noncomputable def clS (a b : Pane × Mo) : Option (Int × Int) := clashS a.1 b.1 (bh a.2 (bkM b.2))
def Fit (rows : List (Pane × Mo)) : Prop := rows.Pairwise fun a b => clS a b = none
theorem loopP_ok {α : Type} (wx : α → W) {P : Sto → Prop} {g : MG} {b : MS} {S : Sto} (hP : P S) : ∀ (xs : List α) (ρ : Rho), loopP P g b (xs.map wx) ρ S = loopM g b (xs.map wx) ρ S ∨ ¬ ∀ x ∈ xs, ∀ ρ, ∃ ρ1 ρ2, g (wx x) ρ S = some ρ1 ∧ b ρ1 S = .nx ρ2 S
  | [], ρ => .inl (by simp only [List.map_nil, loopP, loopM, ifc_pos hP])
  | x :: xs, ρ => by
    by_cases h : ∀ y ∈ x :: xs, ∀ ρ, ∃ ρ1 ρ2, g (wx y) ρ S = some ρ1 ∧ b ρ1 S = .nx ρ2 S
    · obtain ⟨ρ1, ρ2, e1, e2⟩ := h x (by simp) ρ
      rcases loopP_ok wx (g := g) (b := b) hP xs ρ2 with q | q
      · exact .inl (by simp only [List.map_cons, loopP, loopM, ifc_pos hP, e1, e2, q])
      · exact absurd (fun y hy => h y (by simp [hy])) q
    · exact .inr h
abbrev ftR (src : D) (p : Pane) (m : Mo) (o4 o5 o6 : Option W) : Rho := [some (.da src), some (.lo 0), some (.da (paneT p)), some (.da (moD m)), o4, o5, o6]
theorem ft_in (src : D) (r : Pane × Mo) (hr : RwOk r) (P : Sto → Prop) (S : Sto) (hP : P S) : ∀ (ks : List (Pane × Mo)) (g : Bool) (o5 o6 : Option W), (∀ k ∈ ks, RwOk k) →
    ∃ a b, loopP P (gtTup 2 (gtCons (gtName 5) (gtCons (gtName 6) gtNil))) b_l_fitting_0 (ks.map rwW) (ftR src r.1 r.2 (some (.da (.bl g))) o5 o6) S = .nx (ftR src r.1 r.2 (some (.da (.bl (g && ks.all fun k => (clS k r).isNone)))) a b) S
  | [], g, o5, o6, _ => ⟨o5, o6, by simp [loopP, ifc_pos hP]⟩
  | k :: ks, g, o5, o6, ok => by
    have hk := ok k (by simp)
    have gg : (gtTup 2 (gtCons (gtName 5) (gtCons (gtName 6) gtNil))) (rwW k) (ftR src r.1 r.2 (some (.da (.bl g))) o5 o6) S = some (ftR src r.1 r.2 (some (.da (.bl g))) (some (.da (paneT k.1))) (some (.da (moD k.2)))) := by
      simp_arith []
    have e1 := l_back_mo r.2 (moD r.2) (.inl rfl) hr.2
    have e2 := l_behind_mo k.2 (bkM r.2) (moD k.2) (moD (bkM r.2)) (.inl rfl) (.inl rfl) (ok_bk hr.2)
    have e3 := clash_eq k.1 r.1 hk.1 hr.1 (bh k.2 (bkM r.2)) (ok_bh _ _)
    change p_l_clash_of_two _ = .ok (optZ (clS k r)) at e3
    have bb : b_l_fitting_0 (ftR src r.1 r.2 (some (.da (.bl g))) (some (.da (paneT k.1))) (some (.da (moD k.2)))) S = .nx (ftR src r.1 r.2 (some (.da (.bl (g && (clS k r).isNone)))) (some (.da (paneT k.1))) (some (.da (moD k.2)))) S := by
      cases hc : clS k r with
      | none =>
        rw [hc] at e3
        unfold b_l_fitting_0
        simp_arith [e1, e2, e3, optZ]
        simp
      | some z =>
        rw [hc] at e3
        unfold b_l_fitting_0
        simp_arith [e1, e2, e3, optZ]
        simp
    obtain ⟨a, b, e⟩ := ft_in src r hr P S hP ks (g && (clS k r).isNone) (some (.da (paneT k.1))) (some (.da (moD k.2))) (fun x hx => ok x (by simp [hx]))
    refine ⟨a, b, ?_⟩
    simp only [List.map_cons, loopP, ifc_pos hP, gg, bb, e, List.all_cons, Bool.and_assoc]
theorem fit_snoc {ks : List (Pane × Mo)} {r : Pane × Mo} (h : Fit ks) (h2 : (ks.all fun k => (clS k r).isNone) = true) : Fit (ks ++ [r]) := by
  unfold Fit at h ⊢
  rw [List.pairwise_append]
  refine ⟨h, by simp, fun a ha b hb => ?_⟩
  simp only [List.mem_singleton] at hb
  subst hb
  have := List.all_eq_true.mp h2 a ha
  cases e : clS a b with
  | none => rfl
  | some z => rw [e] at this; cases this
abbrev ft0 (src : D) (o2 o3 o4 o5 o6 : Option W) : Rho := [some (.da src), some (.lo 0), o2, o3, o4, o5, o6]
theorem ft_out (src : D) : ∀ (rs ks : List (Pane × Mo)) (o2 o3 o4 o5 o6 : Option W), (∀ r ∈ rs, RwOk r) → (∀ k ∈ ks, RwOk k) → Fit ks → (ks ++ rs).length ≤ 1000 →
    ∃ a b c d e, ∃ ks' : List (Pane × Mo), Fit (ks ++ ks') ∧ ks'.Sublist rs ∧ loopM (gtTup 2 (gtCons (gtName 2) (gtCons (gtName 3) gtNil))) b_l_fitting_1 (rs.map rwW) (ft0 src o2 o3 o4 o5 o6) [.lst (ks.map rwW)] = .nx (ft0 src a b c d e) [.lst ((ks ++ ks').map rwW)]
  | [], ks, o2, o3, o4, o5, o6, _, _, hf, _ => ⟨o2, o3, o4, o5, o6, [], by simpa using hf, List.Sublist.refl _, by simp [loopM]⟩
  | r :: rs, ks, o2, o3, o4, o5, o6, hr, hk, hf, hl => by
    have h0 := hr r (by simp)
    simp only [List.length_append, List.length_cons] at hl
    have gg : (gtTup 2 (gtCons (gtName 2) (gtCons (gtName 3) gtNil))) (rwW r) (ft0 src o2 o3 o4 o5 o6) [.lst (ks.map rwW)] = some (ft0 src (some (.da (paneT r.1))) (some (.da (moD r.2))) o4 o5 o6) := by
      simp_arith []
    obtain ⟨a, b, e⟩ := ft_in src r h0 (fun S => S[0]? = some (.lst (ks.map rwW))) [.lst (ks.map rwW)] rfl ks true o5 o6 hk
    rw [Bool.true_and] at e
    cases hg : (ks.all fun k => (clS k r).isNone) with
    | true =>
      rw [hg] at e
      have bb : b_l_fitting_1 (ft0 src (some (.da (paneT r.1))) (some (.da (moD r.2))) o4 o5 o6) [.lst (ks.map rwW)] = .nx (ft0 src (some (.da (paneT r.1))) (some (.da (moD r.2))) (some (.da (.bl true))) a b) [.lst ((ks ++ [r]).map rwW)] := by
        unfold b_l_fitting_1
        simp_arith [e, tyM, ifc_pos (sz_lt (show ks.length < 100000 by omega)), List.map_append]
      obtain ⟨a', b', c', d', e', ks', k1, k2, k3⟩ := ft_out src rs (ks ++ [r]) (some (.da (paneT r.1))) (some (.da (moD r.2))) (some (.da (.bl true))) a b (fun x hx => hr x (by simp [hx])) (fun x hx => by
        rcases List.mem_append.mp hx with hx | hx
        · exact hk x hx
        · simp at hx; subst hx; exact h0) (fit_snoc hf hg) (by simp; omega)
      refine ⟨a', b', c', d', e', r :: ks', by simpa using k1, k2.cons₂ r, ?_⟩
      simp only [List.map_cons, loopM, gg, bb, k3]
      simp
    | false =>
      rw [hg] at e
      have bb : b_l_fitting_1 (ft0 src (some (.da (paneT r.1))) (some (.da (moD r.2))) o4 o5 o6) [.lst (ks.map rwW)] = .nx (ft0 src (some (.da (paneT r.1))) (some (.da (moD r.2))) (some (.da (.bl false))) a b) [.lst (ks.map rwW)] := by
        unfold b_l_fitting_1
        simp_arith [e]
      obtain ⟨a', b', c', d', e', ks', k1, k2, k3⟩ := ft_out src rs ks (some (.da (paneT r.1))) (some (.da (moD r.2))) (some (.da (.bl false))) a b (fun x hx => hr x (by simp [hx])) hk hf (by simp; omega)
      refine ⟨a', b', c', d', e', ks', k1, k2.cons r, ?_⟩
      simp only [List.map_cons, loopM, gg, bb, k3]
theorem fitting_ok (rows : List (Pane × Mo)) (ok : ∀ r ∈ rows, RwOk r) (hl : rows.length ≤ 1000) : ∃ ks : List (Pane × Mo), Fit ks ∧ ks.Sublist rows ∧ p_l_fitting [.lst (rows.map rwD)] = .ok (.lst (ks.map rwD)) := by
  obtain ⟨a, b, c, d, e, ks, h1, h2, h3⟩ := ft_out (.lst (rows.map rwD)) rows [] none none none none none ok (by simp) List.Pairwise.nil (by simpa using hl)
  rw [List.nil_append] at h1 h3
  refine ⟨ks, h1, h2, ?_⟩
  unfold p_l_fitting m_l_fitting
  simp_arith [rw_map]
  rw [show ([Cell.lst []] : Sto) = [.lst (([] : List (Pane × Mo)).map rwW)] from rfl, h3]
  unfold mFz fzW
  simp_arith [datWs_rw]
/-! ### what fits agrees at each place of the frame -/
theorem mem_plcs (w h : Int) (z : Int × Int) : z ∈ plcs w h ↔ InW w h z := by
  unfold plcs InW
  simp only [List.mem_flatMap, List.mem_map, mem_intsL]
  constructor
  · rintro ⟨x, hx, y, hy, rfl⟩
    exact ⟨⟨by omega, by omega⟩, by omega, by omega⟩
  · rintro ⟨⟨h1, h2⟩, h3, h4⟩
    exact ⟨z.1, ⟨by omega, by omega⟩, z.2, ⟨by omega, by omega⟩, rfl⟩
theorem agree_un (s : Say) (hs : s.ok) : agreeP .unseen s = true ∧ agreeP s .unseen = true := by
  have h := say_rng s hs
  constructor
  · rw [agree_iff, lo_n, hi_n]; omega
  · rw [agree_iff, lo_n, hi_n]; omega
theorem agree_self (s : Say) (hs : s.ok) : agreeP s s = true := by
  have h := say_rng s hs
  rw [agree_iff]; omega
theorem agree_comm (s t : Say) : agreeP s t = agreeP t s := by
  have h1 := agree_iff s t
  have h2 := agree_iff t s
  cases e1 : agreeP s t <;> cases e2 : agreeP t s <;> first | rfl | skip
  · rw [e1] at h1; rw [e2] at h2
    have := h2.mp rfl
    exact absurd (h1.mpr (by omega)) (by simp)
  · rw [e1] at h1; rw [e2] at h2
    have := h1.mp rfl
    exact absurd (h2.mpr (by omega)) (by simp)
/-- what a laid pane says of a place of the frame -/
noncomputable def sayF (r : Pane × Mo) (q : Int × Int) : Say := sayS r.1 (act (bkM r.2) q)
theorem sayF_ok {r : Pane × Mo} (hr : RwOk r) (q : Int × Int) : (sayF r q).ok := sayS_ok r.1 hr.1 _
theorem cl_agree {a b : Pane × Mo} (ha : RwOk a) (hb : RwOk b) (h : clS a b = none) (q : Int × Int) : agreeP (sayF a q) (sayF b q) = true := by
  by_cases hw : InW a.1.w a.1.h (act (bkM a.2) q)
  · unfold clS clashS at h
    have := List.find?_eq_none.mp h _ ((mem_plcs _ _ _).mpr hw)
    unfold badZ at this
    rw [act_bh _ _ _ ha.2 (ok_bk hb.2), act_bk2 _ _ ha.2] at this
    unfold sayF
    simpa using this
  · have : sayF a q = .unseen := by unfold sayF sayS; rw [ifc_neg hw]
    rw [this]
    exact (agree_un _ (sayF_ok hb q)).1
theorem fit_agree {rows : List (Pane × Mo)} (ok : ∀ r ∈ rows, RwOk r) (hf : Fit rows) (q : Int × Int) : ∀ a ∈ rows, ∀ b ∈ rows, agreeP (sayF a q) (sayF b q) = true := by
  intro a ha b hb
  obtain ⟨i, hi, rfl⟩ := List.mem_iff_getElem.mp ha
  obtain ⟨j, hj, rfl⟩ := List.mem_iff_getElem.mp hb
  have hp := List.pairwise_iff_getElem.mp hf
  rcases Nat.lt_trichotomy i j with h | h | h
  · exact cl_agree (ok _ ha) (ok _ hb) (hp i j hi hj h) q
  · subst h; exact agree_self _ (sayF_ok (ok _ ha) q)
  · rw [agree_comm]; exact cl_agree (ok _ hb) (ok _ ha) (hp j i hj hi h) q
/-! ### what is seen: places with the rows that see them -/
abbrev SnE := (Int × Int) × List (Pane × Mo)
abbrev kQ (q : Int × Int) : List Key := [.inl q.1, .inl q.2]
theorem kQ_inj {p q : Int × Int} (h : kQ p = kQ q) : p = q := by
  simp only [List.cons.injEq, Sum.inl.injEq, and_true] at h
  exact Prod.ext h.1 h.2
noncomputable def sdF (r : Pane × Mo) (q : Int × Int) : D := saysD .wt r.1.w r.1.h r.1.l r.1.ss (act (bkM r.2) q)
theorem sdF_is (r : Pane × Mo) (q : Int × Int) : IsSay (sdF r q) (sayF r q) := says_wt r.1 _
noncomputable abbrev sV (q : Int × Int) (rs : List (Pane × Mo)) : D := .lst (rs.map (sdF · q))
noncomputable abbrev sKW (e : SnE) : List Key × W := (kQ e.1, .da (sV e.1 e.2))
def getE : List SnE → Int × Int → Option (List (Pane × Mo))
  | [], _ => none
  | e :: es, q => if e.1 = q then some e.2 else getE es q
noncomputable def insE (q : Int × Int) (r : Pane × Mo) (es : List SnE) : List SnE :=
  if q ∈ es.map (·.1) then es.map (fun e => if e.1 = q then (e.1, (getE es q).getD [] ++ [r]) else e) else es ++ [(q, (getE es q).getD [] ++ [r])]
theorem look_s (q : Int × Int) : ∀ es : List SnE, look (es.map sKW) (kQ q) = (getE es q).map fun rs => .da (sV q rs)
  | [] => rfl
  | e :: es => by
    simp only [List.map_cons, look, getE]
    by_cases h : e.1 = q
    · rw [if_pos (by rw [h]), if_pos h, ← h]; rfl
    · rw [if_neg (fun z => h (kQ_inj z)), if_neg h, look_s q es]
theorem put_s (q : Int × Int) (r : Pane × Mo) (es : List SnE) : putW (es.map sKW) (kQ q) (.da (sV q ((getE es q).getD [] ++ [r]))) = (insE q r es).map sKW := by
  unfold putW insE
  have hany : ((es.map sKW).any fun p => decide (p.1 = kQ q)) = true ↔ q ∈ es.map (·.1) := by
    simp only [List.any_eq_true, List.mem_map, decide_eq_true_eq]
    constructor
    · rintro ⟨p, ⟨e, he, rfl⟩, h⟩
      exact ⟨e, he, kQ_inj h⟩
    · rintro ⟨e, he, rfl⟩
      exact ⟨_, ⟨e, he, rfl⟩, rfl⟩
  by_cases h : q ∈ es.map (·.1)
  · rw [if_pos (hany.mpr h), if_pos h, List.map_map, List.map_map]
    refine List.map_congr_left fun e _ => ?_
    simp only [Function.comp]
    by_cases he : e.1 = q
    · rw [if_pos (by rw [he]), if_pos he, he]
    · rw [if_neg (fun z => he (kQ_inj z)), if_neg he]
  · rw [if_neg (fun z => h (hany.mp z)), if_neg h, List.map_append]
    rfl
structure GS (rows : List (Pane × Mo)) (n : Nat) (es : List SnE) : Prop where
  nd : (es.map (·.1)).Nodup
  mem : ∀ e ∈ es, ∀ r ∈ e.2, r ∈ rows ∧ InW r.1.w r.1.h (act (bkM r.2) e.1)
  few : es.length ≤ n
  len : ∀ e ∈ es, e.2.length ≤ n
def ExtS (es es' : List SnE) : Prop := ∀ e ∈ es, ∃ e' ∈ es', e'.1 = e.1 ∧ ∀ x ∈ e.2, x ∈ e'.2
theorem ExtS.refl (es : List SnE) : ExtS es es := fun e he => ⟨e, he, rfl, fun _ h => h⟩
theorem ExtS.trans {a b c : List SnE} (h : ExtS a b) (k : ExtS b c) : ExtS a c := fun e he => by
  obtain ⟨e1, h1, h2, h3⟩ := h e he
  obtain ⟨e2, k1, k2, k3⟩ := k e1 h1
  exact ⟨e2, k1, k2.trans h2, fun x hx => k3 x (h3 x hx)⟩
theorem getE_mem {q : Int × Int} : ∀ {es : List SnE} {rs : List (Pane × Mo)}, getE es q = some rs → (q, rs) ∈ es
  | [], rs, h => by cases h
  | e :: es, rs, h => by
    simp only [getE] at h
    split at h
    · rename_i he
      cases h
      exact List.mem_cons.mpr (.inl (by rw [← he]))
    · exact List.mem_cons.mpr (.inr (getE_mem h))
theorem getE_of {e : SnE} : ∀ {es : List SnE}, (es.map (·.1)).Nodup → e ∈ es → getE es e.1 = some e.2
  | [], _, h => by cases h
  | x :: es, nd, h => by
    simp only [List.map_cons, List.nodup_cons] at nd
    simp only [getE]
    rcases List.mem_cons.mp h with rfl | h
    · rw [if_pos rfl]
    · rw [if_neg (fun z => nd.1 (by rw [z]; exact List.mem_map.mpr ⟨e, h, rfl⟩))]
      exact getE_of nd.2 h
theorem getD_len {rows : List (Pane × Mo)} {n : Nat} {es : List SnE} (g : GS rows n es) (q : Int × Int) : ((getE es q).getD []).length ≤ n ∧ ∀ r ∈ (getE es q).getD [], r ∈ rows ∧ InW r.1.w r.1.h (act (bkM r.2) q) := by
  cases h : getE es q with
  | none => exact ⟨Nat.zero_le _, by simp⟩
  | some rs => exact ⟨g.len _ (getE_mem h), fun r hr => g.mem _ (getE_mem h) r hr⟩
theorem ins_ok {rows : List (Pane × Mo)} {n : Nat} {es : List SnE} (g : GS rows n es) {q : Int × Int} {r : Pane × Mo} (hr : r ∈ rows) (hw : InW r.1.w r.1.h (act (bkM r.2) q)) : GS rows (n + 1) (insE q r es) ∧ ExtS es (insE q r es) ∧ ∃ e ∈ insE q r es, e.1 = q ∧ r ∈ e.2 := by
  obtain ⟨d1, d2⟩ := getD_len g q
  have new : ∀ x ∈ (getE es q).getD [] ++ [r], x ∈ rows ∧ InW x.1.w x.1.h (act (bkM x.2) q) := fun x hx => by
    rcases List.mem_append.mp hx with hx | hx
    · exact d2 x hx
    · simp only [List.mem_singleton] at hx; subst hx; exact ⟨hr, hw⟩
  unfold insE
  by_cases h : q ∈ es.map (·.1)
  · rw [if_pos h]
    have hk : (es.map (fun e => if e.1 = q then (e.1, (getE es q).getD [] ++ [r]) else e)).map (·.1) = es.map (·.1) := by
      rw [List.map_map]
      refine List.map_congr_left fun e _ => ?_
      simp only [Function.comp]
      split <;> rfl
    refine ⟨⟨by rw [hk]; exact g.nd, fun e he => ?_, by rw [List.length_map]; have := g.few; omega, fun e he => ?_⟩, fun e he => ?_, ?_⟩
    · obtain ⟨x, hx, rfl⟩ := List.mem_map.mp he
      split
      · rename_i z; rw [z]; exact new
      · exact g.mem x hx
    · obtain ⟨x, hx, rfl⟩ := List.mem_map.mp he
      split
      · simp only [List.length_append, List.length_cons, List.length_nil]; omega
      · have := g.len x hx; omega
    · by_cases z : e.1 = q
      · refine ⟨(e.1, (getE es q).getD [] ++ [r]), List.mem_map.mpr ⟨e, he, by rw [if_pos z]⟩, rfl, fun x hx => ?_⟩
        rw [← z, getE_of g.nd he]
        simp [hx]
      · exact ⟨e, List.mem_map.mpr ⟨e, he, by rw [if_neg z]⟩, rfl, fun _ h => h⟩
    · obtain ⟨e, he, z⟩ := List.mem_map.mp h
      exact ⟨(e.1, (getE es q).getD [] ++ [r]), List.mem_map.mpr ⟨e, he, by rw [if_pos z]⟩, z, by simp⟩
  · rw [if_neg h]
    refine ⟨⟨?_, fun e he => ?_, by rw [List.length_append]; have := g.few; simp only [List.length_cons, List.length_nil]; omega, fun e he => ?_⟩, fun e he => ⟨e, List.mem_append_left _ he, rfl, fun _ h => h⟩, (q, (getE es q).getD [] ++ [r]), by simp, rfl, by simp⟩
    · rw [List.map_append, List.nodup_append]
      refine ⟨g.nd, by simp, fun a ha b hb => ?_⟩
      simp only [List.map_cons, List.map_nil, List.mem_singleton] at hb
      subst hb
      exact fun z => h (by rw [← z]; exact ha)
    · rcases List.mem_append.mp he with he | he
      · exact g.mem e he
      · simp only [List.mem_singleton] at he; subst he; exact new
    · rcases List.mem_append.mp he with he | he
      · have := g.len e he; omega
      · simp only [List.mem_singleton] at he; subst he
        simp only [List.length_append, List.length_cons, List.length_nil]; omega
/-! the loops of chart -/
abbrev chR (laid : D) (z1 o3 o4 o5 o7 : Option W) : Rho := [some (.da laid), z1, none, o3, o4, o5, none, o7, none, none]
theorem sn_body (laid : D) (rows : List (Pane × Mo)) (r : Pane × Mo) (hr : RwOk r) (hm : r ∈ rows) (z : Int × Int) (n : Nat) (hn : n ≤ 900) (es : List SnE) (g : GS rows n es) (o7 : Option W) :
    b_chart_0 (chR laid (some (.lo 0)) (some (.da (plP r.1))) (some (.da (moD r.2))) (some (pW z)) o7) [.dt (es.map sKW)] = .nx (chR laid (some (.lo 0)) (some (.da (plP r.1))) (some (.da (moD r.2))) (some (pW z)) (some (pW (act r.2 z)))) [.dt ((insE (act r.2 z) r es).map sKW)] := by
  have e1 : p_moved [moD r.2, .tup [.int z.1, .int z.2]] = .ok (.tup [.int (act r.2 z).1, .int (act r.2 z).2]) := moved_eq r.2 hr.2 z.1 z.2
  have e2 : p_Plate_says [plP r.1, .tup [.int z.1, .int z.2]] = .ok (sdF r (act r.2 z)) := by
    have := says_eq r.1.n r.1.w r.1.h r.1.l r.1.ss z.1 z.2
    unfold sdF
    rw [act_bk _ _ hr.2]
    exact this
  have ns := nosays r.1
  have fw := g.few
  obtain ⟨d1, d2⟩ := getD_len g (act r.2 z)
  have lk := look_s (act r.2 z) es
  have ps := put_s (act r.2 z) r es
  have dg : ∀ x, getF (.lo 0) (.da (.tup [.int (act r.2 z).1, .int (act r.2 z).2])) x [.dt (es.map sKW)] = match (getE es (act r.2 z)) with
      | some rs => .ok (.da (sV (act r.2 z) rs)) [.dt (es.map sKW)]
      | none => .ok x [.dt (es.map sKW)] := fun x => by
    unfold getF dget
    simp only [dkW, dtW, List.getElem?_cons_zero, keysW, keysD, keyD, Option.map, lk]
    cases getE es (act r.2 z) <;> rfl
  have dw : dctW [.dt (es.map sKW)] (.lo 0) = true := rfl
  have kk : keysW (.da (.tup [.int (act r.2 z).1, .int (act r.2 z).2])) = some (kQ (act r.2 z)) := rfl
  generalize act r.2 z = q at *
  cases hg : getE es q with
  | none =>
    rw [hg] at ps dg
    simp only [Option.getD_none, List.nil_append, List.map_cons, List.map_nil, sV] at ps
    have ad := fun S => add_ll [] [sdF r q] S (by rw [sizeLine_eq]; show 0 + 1 ≤ 16777216; decide)
    rw [List.nil_append] at ad
    generalize (insE q r es).map sKW = R at ps ⊢
    unfold b_chart_0 mSetIx mGet2
    simp_arith [e1, e2, ns, dw, dg, ad, kk, ifc_pos (sz_lt (show es.length < 100000 by omega)), ps]
  | some rs =>
    rw [hg] at ps dg d1
    simp only [Option.getD_some] at ps d1
    rw [show sV q (rs ++ [r]) = .lst (rs.map (sdF · q) ++ [sdF r q]) by simp [sV]] at ps
    have ad := fun S => add_ll (rs.map (sdF · q)) [sdF r q] S (Nat.le_trans (show _ ≤ 2000 by simp; omega) (by rw [sizeLine_eq]; decide))
    generalize (insE q r es).map sKW = R at ps ⊢
    simp only [sV] at dg
    generalize rs.map (sdF · q) = VV at ad ps dg
    unfold b_chart_0 mSetIx mGet2
    simp_arith [e1, e2, ns, dw, dg, ad, kk, ifc_pos (sz_lt (show es.length < 100000 by omega)), ps]
theorem sn_in (laid : D) (rows : List (Pane × Mo)) (r : Pane × Mo) (hr : RwOk r) (hm : r ∈ rows) : ∀ (zs : List (Int × Int)) (n : Nat) (es : List SnE) (o5 o7 : Option W), (∀ z ∈ zs, InW r.1.w r.1.h z) → n + zs.length ≤ 900 → GS rows n es →
    ∃ a b, ∃ es' : List SnE, GS rows (n + zs.length) es' ∧ ExtS es es' ∧ (∀ z ∈ zs, ∃ e ∈ es', e.1 = act r.2 z ∧ r ∈ e.2) ∧
      loopM (gtName 5) b_chart_0 (zs.map pW) (chR laid (some (.lo 0)) (some (.da (plP r.1))) (some (.da (moD r.2))) o5 o7) [.dt (es.map sKW)] = .nx (chR laid (some (.lo 0)) (some (.da (plP r.1))) (some (.da (moD r.2))) a b) [.dt (es'.map sKW)]
  | [], n, es, o5, o7, _, _, g => ⟨o5, o7, es, g, ExtS.refl _, by simp, rfl⟩
  | z :: zs, n, es, o5, o7, hz, hn, g => by
    simp only [List.length_cons] at hn
    have gg : gtName 5 (pW z) (chR laid (some (.lo 0)) (some (.da (plP r.1))) (some (.da (moD r.2))) o5 o7) [.dt (es.map sKW)] = some (chR laid (some (.lo 0)) (some (.da (plP r.1))) (some (.da (moD r.2))) (some (pW z)) o7) := rfl
    have b := sn_body laid rows r hr hm z n (by omega) es g o7
    obtain ⟨g1, x1, e1, m1, m2, m3⟩ := ins_ok g (q := act r.2 z) hm (by rw [act_bk _ _ hr.2]; exact hz z (by simp))
    obtain ⟨a, b', es', k1, k2, k3, k4⟩ := sn_in laid rows r hr hm zs (n + 1) (insE (act r.2 z) r es) (some (pW z)) (some (pW (act r.2 z))) (fun y hy => hz y (by simp [hy])) (by omega) g1
    refine ⟨a, b', es', by rw [show n + (z :: zs).length = n + 1 + zs.length by simp only [List.length_cons]; omega]; exact k1, x1.trans k2, fun y hy => ?_, by simp only [List.map_cons, loopM, gg, b, k4]⟩
    rcases List.mem_cons.mp hy with rfl | hy
    · obtain ⟨e2, n1, n2, n3⟩ := k2 e1 m1
      exact ⟨e2, n1, n2.trans m2, n3 _ m3⟩
    · exact k3 y hy
theorem sn_out (laid : D) (rows : List (Pane × Mo)) : ∀ (rs : List (Pane × Mo)) (n : Nat) (es : List SnE) (o3 o4 o5 o7 : Option W), (∀ r ∈ rs, RwOk r ∧ r ∈ rows) → n + 64 * rs.length ≤ 900 → GS rows n es →
    ∃ a b c d, ∃ es' : List SnE, GS rows (n + 64 * rs.length) es' ∧ ExtS es es' ∧ (∀ r ∈ rs, ∀ z, InW r.1.w r.1.h z → ∃ e ∈ es', e.1 = act r.2 z ∧ r ∈ e.2) ∧
      loopM (gtTup 2 (gtCons (gtName 3) (gtCons (gtName 4) gtNil))) b_chart_1 (rs.map plW) (chR laid (some (.lo 0)) o3 o4 o5 o7) [.dt (es.map sKW)] = .nx (chR laid (some (.lo 0)) a b c d) [.dt (es'.map sKW)]
  | [], n, es, o3, o4, o5, o7, _, _, g => ⟨o3, o4, o5, o7, es, g, ExtS.refl _, by simp, rfl⟩
  | r :: rs, n, es, o3, o4, o5, o7, hr, hn, g => by
    simp only [List.length_cons] at hn
    obtain ⟨h0, hm⟩ := hr r (by simp)
    obtain ⟨w1, w2⟩ := h0.1.2.1.1
    obtain ⟨h1, h2⟩ := h0.1.2.1.2.1
    have gg : (gtTup 2 (gtCons (gtName 3) (gtCons (gtName 4) gtNil))) (plW r) (chR laid (some (.lo 0)) o3 o4 o5 o7) [.dt (es.map sKW)] = some (chR laid (some (.lo 0)) (some (.da (plP r.1))) (some (.da (moD r.2))) o5 o7) := by
      simp_arith []
    have pl := plcs_len r.1.w r.1.h w2 h2
    have e1 : p_Plate_places [plP r.1] = .ok (.lst ((plcs r.1.w r.1.h).map pD)) := places_eq r.1.n r.1.w r.1.h r.1.l r.1.ss (by omega) w2 (by omega) h2
    have np := noplaces r.1
    obtain ⟨a, b, es1, k1, k2, k3, k4⟩ := sn_in laid rows r h0 hm (plcs r.1.w r.1.h) n es o5 o7 (fun z hz => (mem_plcs _ _ _).mp hz) (by omega) g
    have bb : b_chart_1 (chR laid (some (.lo 0)) (some (.da (plP r.1))) (some (.da (moD r.2))) o5 o7) [.dt (es.map sKW)] = .nx (chR laid (some (.lo 0)) (some (.da (plP r.1))) (some (.da (moD r.2))) a b) [.dt (es1.map sKW)] := by
      generalize plcs r.1.w r.1.h = zs at e1 k4
      unfold b_chart_1
      simp_arith [e1, np]
      rw [show List.map (W.da ∘ pD) zs = zs.map pW from rfl, k4]
    have g1 : GS rows (n + 64) es1 := ⟨k1.nd, k1.mem, by have := k1.few; omega, fun e he => by have := k1.len e he; omega⟩
    obtain ⟨a', b', c', d', es', l1, l2, l3, l4⟩ := sn_out laid rows rs (n + 64) es1 (some (.da (plP r.1))) (some (.da (moD r.2))) a b (fun x hx => hr x (by simp [hx])) (by omega) g1
    refine ⟨a', b', c', d', es', by rw [show n + 64 * (r :: rs).length = n + 64 + 64 * rs.length by simp only [List.length_cons]; omega]; exact l1, k2.trans l2, fun x hx z hz => ?_, by simp only [List.map_cons, loopM, gg, bb, l4]⟩
    rcases List.mem_cons.mp hx with rfl | hx
    · obtain ⟨e, m1, m2, m3⟩ := k3 z ((mem_plcs _ _ _).mpr hz)
      obtain ⟨e2, n1, n2, n3⟩ := l2 e m1
      exact ⟨e2, n1, n2.trans m2, n3 _ m3⟩
    · exact l3 x hx z hz
/-! ### a chart's rows and a face's stars -/
abbrev C4 := Int × Int × Str × Int
abbrev c4D (t : C4) : D := .tup [.int t.1, .int t.2.1, .str t.2.2.1, .int t.2.2.2]
abbrev c4W (t : C4) : W := .da (c4D t)
theorem enc_c4 : Enc c4D 1 := EncL.tup (EncL.cons enc_int (EncL.cons enc_int (EncL.cons enc_str (EncL.one enc_int))))
theorem sk_c4 : Sk c4D := .inl fun a => ⟨_, _, by simp [toPy, toPyL]; exact ⟨rfl, rfl⟩⟩
noncomputable def poolF (e : SnE) : Say := (poolS .unseen (e.2.map (sayF · e.1))).getD .unseen
noncomputable abbrev crE (e : SnE) : C4 := (e.1.1, e.1.2, (poolF e).word, (poolF e).num)
theorem say_lay (s : Say) : PyData.canLay0 (.str s.word) = true := by
  have h : ∀ w ∈ (["star", "under", "unseen"] : List Str), PyData.canLay0 (.str w) = true := by decide +kernel
  cases s <;> exact h _ (by simp [Say.word])
theorem lay_c4 (es : List SnE) : Lay c4D (es.map crE) := fun a ha => by
  obtain ⟨e, _, rfl⟩ := List.mem_map.mp ha
  have := say_lay (poolF e)
  simp only [PyData.canLay0] at this
  simp only [toPy, toPyL, PyData.canLay0, PyData.canLayAll0, Bool.true_and, this]
theorem sayings_of (q : Int × Int) : ∀ rs : List (Pane × Mo), Sayings (rs.map (sdF · q)) (rs.map (sayF · q))
  | [] => .nil
  | r :: rs => .cons (sdF_is r q) (sayings_of q rs)
/-- what a place's rows say together -/
theorem pool_e {rows : List (Pane × Mo)} (ok : ∀ r ∈ rows, RwOk r) (hf : Fit rows) {n : Nat} {es : List SnE} (g : GS rows n es) {e : SnE} (he : e ∈ es) :
    (poolF e).ok ∧ (∀ b, inS b (poolF e) ↔ (0 ≤ b ∧ b ≤ 9) ∧ ∀ r ∈ e.2, inS b (sayF r e.1)) ∧ ∃ z, IsSay z (poolF e) ∧ p_pool [sV e.1 e.2] = .ok z := by
  have sok : ∀ s ∈ e.2.map (sayF · e.1), s.ok := fun s hs => by
    obtain ⟨r, hr, rfl⟩ := List.mem_map.mp hs
    exact sayF_ok (ok r (g.mem e he r hr).1) _
  have hn : poolS .unseen (e.2.map (sayF · e.1)) ≠ none := fun h => by
    obtain ⟨a, ha, b, hb, hab⟩ := pool_none _ .unseen trivial sok h
    have : agreeP a b = true := by
      rcases List.mem_cons.mp ha with rfl | ha
      · rcases List.mem_cons.mp hb with rfl | hb
        · exact agree_self _ trivial
        · exact (agree_un _ (sok b hb)).1
      · rcases List.mem_cons.mp hb with rfl | hb
        · exact (agree_un _ (sok a ha)).2
        · obtain ⟨x, hx, rfl⟩ := List.mem_map.mp ha
          obtain ⟨y, hy, rfl⟩ := List.mem_map.mp hb
          exact fit_agree ok hf e.1 x (g.mem e he x hx).1 y (g.mem e he y hy).1
    rw [this] at hab
    cases hab
  cases hp : poolS .unseen (e.2.map (sayF · e.1)) with
  | none => exact absurd hp hn
  | some r =>
    have hpf : poolF e = r := by unfold poolF; rw [hp]; rfl
    obtain ⟨k1, k2⟩ := pool_some _ .unseen r trivial sok hp
    rw [hpf]
    refine ⟨k1, fun b => ?_, ?_⟩
    · rw [k2 b]
      simp only [List.mem_map, forall_exists_index, and_imp, forall_apply_eq_imp_iff₂]
      show ((Say.unseen.lo ≤ b ∧ b ≤ Say.unseen.hi) ∧ _) ↔ _
      rw [lo_n, hi_n]
    · rcases pool_ok _ _ (sayings_of e.1 e.2) sok with ⟨r', z, o1, o2, o3⟩ | ⟨o1, _⟩
      · rw [hp] at o1; cases o1; exact ⟨z, o2, o3⟩
      · rw [hp] at o1; cases o1
theorem star_iff {rows : List (Pane × Mo)} (ok : ∀ r ∈ rows, RwOk r) (hf : Fit rows) {n : Nat} {es : List SnE} (g : GS rows n es) {e : SnE} (he : e ∈ es) (b : Int) : poolF e = .star b ↔ ∃ r ∈ e.2, sayF r e.1 = .star b := by
  obtain ⟨k1, k2, _⟩ := pool_e ok hf g he
  have sok : ∀ r ∈ e.2, (sayF r e.1).ok := fun r hr => sayF_ok (ok r (g.mem e he r hr).1) _
  have back : ∀ v, (∃ r ∈ e.2, sayF r e.1 = .star v) → poolF e = .star v := fun v ⟨r, hr, hs⟩ => by
    have hv := sok r hr
    rw [hs] at hv
    have rg := say_rng _ k1
    have := (k2 (poolF e).lo).mp ⟨by omega, by omega⟩
    have h1 := this.2 r hr
    rw [hs] at h1
    have h1 : (Say.star v).lo ≤ (poolF e).lo ∧ (poolF e).lo ≤ (Say.star v).hi := h1
    rw [lo_s, hi_s] at h1
    have e1 : (poolF e).lo = v := by omega
    have := (k2 (poolF e).hi).mp ⟨by omega, by omega⟩
    have h2 := this.2 r hr
    rw [hs] at h2
    have h2 : (Say.star v).lo ≤ (poolF e).hi ∧ (poolF e).hi ≤ (Say.star v).hi := h2
    rw [lo_s, hi_s] at h2
    exact say_ext _ _ k1 hv (by rw [lo_s]; exact e1) (by rw [hi_s]; omega)
  constructor
  · intro h
    by_cases hx : ∃ v, ∃ r ∈ e.2, sayF r e.1 = .star v
    · obtain ⟨v, hv⟩ := hx
      have := back v hv
      rw [h] at this
      cases this
      exact hv
    · exfalso
      rw [h] at k1 k2
      have hb : 1 ≤ b ∧ b ≤ 9 := k1
      have h0 : inS 0 (Say.star b) := (k2 0).mpr ⟨⟨by omega, by omega⟩, fun r hr => by
        have hs := sok r hr
        cases q : sayF r e.1 with
        | star v => exact absurd ⟨v, r, hr, q⟩ hx
        | under v =>
          rw [q] at hs
          have hs : 1 ≤ v ∧ v ≤ 9 := hs
          show (Say.under v).lo ≤ 0 ∧ 0 ≤ (Say.under v).hi
          rw [lo_u, hi_u]; omega
        | unseen =>
          show Say.unseen.lo ≤ 0 ∧ 0 ≤ Say.unseen.hi
          rw [lo_n, hi_n]; omega⟩
      have h0 : (Say.star b).lo ≤ 0 ∧ 0 ≤ (Say.star b).hi := h0
      rw [lo_s, hi_s] at h0
      omega
  · exact back b
/-! the rows -/
noncomputable abbrev itE (e : SnE) : W := .da (.tup [pD e.1, sV e.1 e.2])
abbrev cr2R (laid seen : D) (o3 o4 o5 o6 o7 o8 o9 : Option W) : Rho := [some (.da laid), some (.da seen), some (.lo 1), o3, o4, o5, o6, o7, o8, o9]
theorem cr_loop (laid seen : D) (z3 z4 z7 : Option W) {rows : List (Pane × Mo)} (ok : ∀ r ∈ rows, RwOk r) (hf : Fit rows) {n : Nat} {es0 : List SnE} (g : GS rows n es0) : ∀ (es dn : List SnE) (o5 o6 o8 o9 : Option W), (∀ e ∈ es, e ∈ es0) → (dn ++ es).length ≤ 2000 →
    ∃ a b c d, loopM (gtTup 2 (gtCons (gtName 5) (gtCons (gtName 6) gtNil))) b_chart_2 (es.map itE) (cr2R laid seen z3 z4 o5 o6 z7 o8 o9) [.dead, .lst ((dn.map crE).map c4W)] = .nx (cr2R laid seen z3 z4 a b z7 c d) [.dead, .lst (((dn ++ es).map crE).map c4W)]
  | [], dn, o5, o6, o8, o9, _, _ => ⟨o5, o6, o8, o9, by simp [loopM]⟩
  | e :: es, dn, o5, o6, o8, o9, he, hl => by
    simp only [List.length_append, List.length_cons] at hl
    obtain ⟨_, _, z, iz, ep⟩ := pool_e ok hf g (he e (by simp))
    have gg : (gtTup 2 (gtCons (gtName 5) (gtCons (gtName 6) gtNil))) (itE e) (cr2R laid seen z3 z4 o5 o6 z7 o8 o9) [.dead, .lst ((dn.map crE).map c4W)] = some (cr2R laid seen z3 z4 (some (pW e.1)) (some (.da (sV e.1 e.2))) z7 o8 o9) := by
      simp_arith []
    have tz := fun S => is_items iz S
    have b : b_chart_2 (cr2R laid seen z3 z4 (some (pW e.1)) (some (.da (sV e.1 e.2))) z7 o8 o9) [.dead, .lst ((dn.map crE).map c4W)] = .nx (cr2R laid seen z3 z4 (some (pW e.1)) (some (.da (sV e.1 e.2))) z7 (some (.da (.str (poolF e).word))) (some (.da (.int (poolF e).num)))) [.dead, .lst (((dn ++ [e]).map crE).map c4W)] := by
      have hd : (dn.map crE).length = dn.length := List.length_map ..
      rw [List.map_append, List.map_append]
      generalize dn.map crE = DD at hd ⊢
      have hd2 : DD.length < 100000 := by omega
      generalize sV e.1 e.2 = vv at ep ⊢
      unfold b_chart_2
      simp_arith [ep, tz, tyM, ifc_pos (sz_lt hd2)]
    obtain ⟨x, y, u, v, e'⟩ := cr_loop laid seen z3 z4 z7 ok hf g es (dn ++ [e]) (some (pW e.1)) (some (.da (sV e.1 e.2))) (some (.da (.str (poolF e).word))) (some (.da (.int (poolF e).num))) (fun x hx => he x (by simp [hx])) (by simp; omega)
    refine ⟨x, y, u, v, ?_⟩
    simp only [List.map_cons, loopM, gg, b, e']
    simp
theorem zip_sn (es : List SnE) : ((es.map fun e => kQ e.1).zip (es.map fun e => sV e.1 e.2)).map (fun p : List Key × D => W.da (D.tup [D.tup (List.map kD p.fst), p.snd])) = es.map itE := by
  induction es with
  | nil => rfl
  | cons e es ih => simp only [List.map_cons, List.zip_cons_cons, ih]; rfl
theorem dats_c4 (l : List C4) : dats (l.map c4W) = some (l.map c4D) := by
  rw [show l.map c4W = (l.map c4D).map .da by simp [Function.comp_def], dats_da]
theorem datWs_c4 (k : Nat) (S : Sto) (l : List C4) : datWs k S (l.map c4W) = some (l.map c4D, S) := by
  rw [show l.map c4W = (l.map c4D).map .da by simp [Function.comp_def]]
  exact datWs_da k S _
theorem chart_ok (rows : List (Pane × Mo)) (ok : ∀ r ∈ rows, RwOk r) (hf : Fit rows) (hl : rows.length ≤ 12) : ∃ es : List SnE, GS rows (64 * rows.length) es ∧ (∀ r ∈ rows, ∀ z, InW r.1.w r.1.h z → ∃ e ∈ es, e.1 = act r.2 z ∧ r ∈ e.2) ∧ p_chart [.lst (rows.map plD)] = .ok (.lst ((sortE c4D (es.map crE)).map c4D)) := by
  obtain ⟨a, b, c, d, es, g, _, h, e⟩ := sn_out (.lst (rows.map plD)) rows rows 0 [] none none none none (fun r hr => ⟨ok r hr, hr⟩) (by omega) ⟨by simp, by simp, by simp, by simp⟩
  rw [Nat.zero_add] at g
  refine ⟨es, g, h, ?_⟩
  have fw := g.few
  obtain ⟨a5, a6, a8, a9, e2⟩ := cr_loop (.lst (rows.map plD)) (.dt (es.map fun e => kQ e.1) (es.map fun e => sV e.1 e.2)) a b d ok hf g es [] c none none none (fun e he => he) (by simp; omega)
  rw [List.nil_append] at e2
  have so := fun S => sortC_ok enc_c4 (by omega) sk_c4 (lay_c4 es) (lstW_da S (es.map crE))
  have d1 := dats_c4 (sortE c4D (es.map crE))
  have fz := fun S => datWs_c4 4 S (es.map crE)
  generalize sortE c4D (es.map crE) = sr at so d1 ⊢
  generalize es.map crE = cr at so fz e2
  have zz := zip_sn es
  have kz : List.map ((fun x : List Key × W => x.fst) ∘ sKW) es = es.map fun e => kQ e.1 := rfl
  have fz1 : ∀ S, datWs 4 S (List.map ((fun x : List Key × W => x.snd) ∘ sKW) es) = some (es.map (fun e => sV e.1 e.2), S) := fun S => by
    rw [show List.map ((fun x : List Key × W => x.snd) ∘ sKW) es = (es.map (fun e => sV e.1 e.2)).map .da by simp [Function.comp_def]]
    exact datWs_da 4 S _
  generalize es.map (fun e => kQ e.1) = KK at zz kz e2
  generalize es.map (fun e => sV e.1 e.2) = VV at zz fz1 e2
  unfold p_chart m_chart
  simp_arith [pl_map, newDT]
  rw [show ([Cell.dt []] : Sto) = [.dt (([] : List SnE).map sKW)] from rfl, e]
  simp_arith [fz1, kz, zz]
  rw [show ([Cell.dead, Cell.lst []] : Sto) = [.dead, .lst ((([] : List SnE).map crE).map c4W)] from rfl, e2]
  simp_arith [fz, so, d1]
def starOf (t : C4) : Option Star := if t.2.2.1 = "star" then some (t.1, t.2.1, t.2.2.2) else none
theorem face_lc (src : D) (l : List C4) (hl : l.length ≤ 1000) (S : Sto) : lcM (gtTupT 4 (gtCons (gtName 1) (gtCons (gtName 2) (gtCons (gtName 3) (gtCons (gtName 4) gtNil))))) t_face_0 e_face_1 [some (.da src), none, none, none, none] (l.map c4W) [] S = .ok ((l.filterMap starOf).map stW) S := by
  rw [lc_gen c4W stW starOf l [] (by simp; omega)]
  · rfl
  · intro t _
    refine ⟨[some (.da src), some (iW t.1), some (iW t.2.1), some (.da (.str t.2.2.1)), some (iW t.2.2.2)], by simp_arith [], ?_⟩
    unfold starOf
    by_cases h : t.2.2.1 = "star"
    · rw [if_pos h]
      refine ⟨?_, ?_⟩
      · unfold t_face_0
        simp_arith [dec_pos h]
      · unfold e_face_1
        simp_arith []
    · rw [if_neg h]
      show t_face_0 _ S = _
      unfold t_face_0
      simp_arith [dec_neg h]
theorem word_star (s : Say) : s.word = "star" ↔ ∃ v, s = .star v := by
  cases s with
  | star v => exact ⟨fun _ => ⟨v, rfl⟩, fun _ => rfl⟩
  | under v => exact ⟨fun h => absurd h ne_us, fun ⟨v, h⟩ => by cases h⟩
  | unseen => exact ⟨fun h => absurd h ne_ns, fun ⟨v, h⟩ => by cases h⟩
/-- the stars that rows show, led to the frame -/
def Shows (rows : List (Pane × Mo)) (s : Star) : Prop := ∃ r ∈ rows, ∃ t ∈ r.1.ss, act r.2 (plc t) = plc s ∧ t.2.2 = s.2.2
theorem say_star {p : Pane} (hp : p.ok) (z : Int × Int) (b : Int) : sayS p z = .star b ↔ ((z.1, z.2, b) : Star) ∈ p.ss := by
  obtain ⟨_, ⟨_, _, _, _, ok, nd⟩, _⟩ := hp
  unfold sayS
  by_cases hw : InW p.w p.h z
  · rw [ifc_pos hw, ← starAt_iff nd z b]
    cases starAt p.ss z with
    | none => simp
    | some v => simp
  · rw [ifc_neg hw]
    constructor
    · intro h; cases h
    · intro h
      have := ok _ h
      exact absurd ⟨this.1, this.2.1⟩ hw
theorem sub_fm {l : List C4} : ((l.filterMap starOf).map plc).Sublist (l.map fun t => (t.1, t.2.1)) := by
  induction l with
  | nil => exact List.Sublist.refl _
  | cons t l ih =>
    rw [List.filterMap_cons]
    unfold starOf
    by_cases h : t.2.2.1 = "star"
    · rw [if_pos h]
      simp only [List.map_cons]
      exact ih.cons₂ _
    · rw [if_neg h]
      simp only [List.map_cons]
      exact ih.cons _
theorem face_ok (rows : List (Pane × Mo)) (ok : ∀ r ∈ rows, RwOk r) (hf : Fit rows) (hl : rows.length ≤ 12) : ∃ F : List Star, (F.map plc).Nodup ∧ F.length ≤ 1000 ∧ (∀ s, s ∈ F ↔ Shows rows s) ∧ p_face [.lst (rows.map plD)] = .ok (starsD F) := by
  obtain ⟨es, g, hm, e⟩ := chart_ok rows ok hf hl
  have fw := g.few
  have sl : (sortE c4D (es.map crE)).length ≤ 1000 := by rw [sortE_len, List.length_map]; omega
  refine ⟨(sortE c4D (es.map crE)).filterMap starOf, ?_, ?_, fun s => ?_, ?_⟩
  · refine List.Nodup.sublist sub_fm ?_
    refine ((sortE_is (e := c4D) (es.map crE)).map (fun t : C4 => (t.1, t.2.1))).nodup_iff.mpr ?_
    rw [List.map_map]
    exact g.nd
  · exact Nat.le_trans (List.length_filterMap_le _ _) sl
  · rw [List.mem_filterMap]
    constructor
    · rintro ⟨t, ht, hs⟩
      obtain ⟨x, hx, rfl⟩ := List.mem_map.mp (sortE_mem.mp ht)
      unfold starOf at hs
      split at hs
      · rename_i hw
        cases hs
        obtain ⟨v, hv⟩ := (word_star _).mp hw
        obtain ⟨r, hr, h1⟩ := (star_iff ok hf g hx v).mp hv
        have hrr := (g.mem x hx r hr).1
        have h2 := (say_star (ok r hrr).1 _ v).mp h1
        refine ⟨r, hrr, _, h2, ?_, ?_⟩
        · show act r.2 (act (bkM r.2) x.1) = x.1
          exact act_bk2 _ _ (ok r hrr).2
        · show v = (poolF x).num
          rw [hv]; rfl
      · cases hs
    · rintro ⟨r, hr, t, ht, h1, h2⟩
      have hp := (ok r hr).1
      obtain ⟨_, ⟨_, _, _, _, sok, nd⟩, _⟩ := hp
      have hw := sok t ht
      obtain ⟨x, hx, k1, k2⟩ := hm r hr (plc t) ⟨hw.1, hw.2.1⟩
      have hv : poolF x = .star t.2.2 := (star_iff ok hf g hx _).mpr ⟨r, k2, by
        unfold sayF
        rw [k1, act_bk _ _ (ok r hr).2]
        exact (say_star (ok r hr).1 _ _).mpr ht⟩
      refine ⟨crE x, sortE_mem.mpr (List.mem_map.mpr ⟨x, hx, rfl⟩), ?_⟩
      unfold starOf
      rw [if_pos (by show (poolF x).word = _; rw [hv]; rfl)]
      have hp1 : x.1 = plc s := k1.trans h1
      show some ((x.1.1, x.1.2, (poolF x).num) : Star) = some s
      rw [hv, hp1]
      show some ((s.1, s.2.1, t.2.2) : Star) = some s
      rw [h2]
  · have lc := fun S => face_lc (.lst (rows.map plD)) (sortE c4D (es.map crE)) sl S
    generalize sortE c4D (es.map crE) = sr at e lc ⊢
    have ds := dats_stars (sr.filterMap starOf)
    generalize sr.filterMap starOf = F at lc ds ⊢
    have cm : List.map (W.da ∘ c4D) sr = sr.map c4W := rfl
    unfold p_face m_face mLc mkLst
    simp_arith [e, cm, wipeR, lc, ds]
/-! ### stars led, and how many meet -/
def led (m : Mo) (t : Star) : Star := ((act m (plc t)).1, (act m (plc t)).2, t.2.2)
noncomputable def insS (acc : List Star) (s : Star) : List Star := ifc (s ∈ acc) acc (acc ++ [s])
theorem mem_insS (acc : List Star) (s x : Star) : x ∈ insS acc s ↔ x ∈ acc ∨ x = s := by
  unfold insS
  by_cases h : s ∈ acc
  · rw [ifc_pos h]
    exact ⟨.inl, fun z => z.elim id fun z => by rw [z]; exact h⟩
  · rw [ifc_neg h]; simp
theorem nd_insS {acc : List Star} (h : acc.Nodup) (s : Star) : (insS acc s).Nodup := by
  unfold insS
  by_cases hs : s ∈ acc
  · rw [ifc_pos hs]; exact h
  · rw [ifc_neg hs, List.nodup_append]
    refine ⟨h, by simp, fun a ha b hb => ?_⟩
    simp only [List.mem_singleton] at hb
    subst hb
    exact fun z => hs (by rw [← z]; exact ha)
theorem len_insS (acc : List Star) (s : Star) : (insS acc s).length ≤ acc.length + 1 := by
  unfold insS
  by_cases hs : s ∈ acc
  · rw [ifc_pos hs]; omega
  · rw [ifc_neg hs]; simp
theorem fold_insS : ∀ (l acc : List Star), acc.Nodup → (l.foldl insS acc).Nodup ∧ (l.foldl insS acc).length ≤ acc.length + l.length ∧ ∀ x, x ∈ l.foldl insS acc ↔ x ∈ acc ∨ x ∈ l
  | [], acc, h => ⟨h, by simp, by simp⟩
  | s :: l, acc, h => by
    obtain ⟨h1, h2, h3⟩ := fold_insS l (insS acc s) (nd_insS h s)
    have := len_insS acc s
    refine ⟨h1, by simp only [List.length_cons, List.foldl_cons]; omega, fun x => ?_⟩
    rw [List.foldl_cons, h3 x, mem_insS]
    simp only [List.mem_cons]
    constructor
    · rintro ((h | h) | h)
      · exact .inl h
      · exact .inr (.inl h)
      · exact .inr (.inr h)
    · rintro (h | h | h)
      · exact .inl (.inl h)
      · exact .inl (.inr h)
      · exact .inr h
theorem notin_cell (s : Star) (acc : List Star) : vl2 notinW (.da (stD s)) (.lo 0) [.lst (acc.map stW)] = .ok (.da (.bl (!dec (s ∈ acc)))) [.lst (acc.map stW)] := by
  have h := inB_of enc_star (by omega) (a := s) (l := acc) (lay_star [s] s (by simp)) (lay_star acc) (S := [.lst (acc.map stW)])
  have hd := dats_stars acc
  have e : inB (.da (stD s)) (.lo 0) [.lst (acc.map stW)] = inB (.da (stD s)) (.da (.lst (acc.map stD))) [.lst (acc.map stW)] := by
    unfold inB
    simp only [dget, dkW, dtW, List.getElem?_cons_zero, valW, hd, Option.map]
  unfold vl2 notinW
  rw [e, h]
  rfl
theorem add3 (a b c : D) (S : Sto) : addD (.da (.tup [a, b])) (.da (.tup [c])) S = .ok (.da (.tup [a, b, c])) S := add_tt a c [b] [] S (by rw [sizeLine_eq]; show 1 + 0 + 2 ≤ 16777216; decide)
abbrev lsR (src : D) (o2 o3 o4 o5 o6 o7 : Option W) : Rho := [some (.da src), some (.lo 0), o2, o3, o4, o5, o6, o7]
theorem ls_in (src : D) (r : Pane × Mo) (hr : okM r.2) : ∀ (ts acc : List Star) (o4 o5 o6 o7 : Option W), acc.length + ts.length ≤ 1000 →
    ∃ a b c d, loopM (gtTup 3 (gtCons (gtName 4) (gtCons (gtName 5) (gtCons (gtName 6) gtNil)))) b_l_stars_0 (ts.map stW) (lsR src (some (.da (paneT r.1))) (some (.da (moD r.2))) o4 o5 o6 o7) [.lst (acc.map stW)] = .nx (lsR src (some (.da (paneT r.1))) (some (.da (moD r.2))) a b c d) [.lst (((ts.map (led r.2)).foldl insS acc).map stW)]
  | [], acc, o4, o5, o6, o7, _ => ⟨o4, o5, o6, o7, rfl⟩
  | t :: ts, acc, o4, o5, o6, o7, hl => by
    simp only [List.length_cons] at hl
    have g : (gtTup 3 (gtCons (gtName 4) (gtCons (gtName 5) (gtCons (gtName 6) gtNil)))) (stW t) (lsR src (some (.da (paneT r.1))) (some (.da (moD r.2))) o4 o5 o6 o7) [.lst (acc.map stW)] = some (lsR src (some (.da (paneT r.1))) (some (.da (moD r.2))) (some (iW t.1)) (some (iW t.2.1)) (some (iW t.2.2)) o7) := by
      simp_arith []
    have e1 : p_l_moved [moD r.2, .tup [.int t.1, .int t.2.1]] = .ok (.tup [.int (led r.2 t).1, .int (led r.2 t).2.1]) := l_moved_eq r.2 hr t.1 t.2.1
    have ni := notin_cell (led r.2 t) acc
    have a3 := fun S => add3 (.int (led r.2 t).1) (.int (led r.2 t).2.1) (.int t.2.2) S
    have b : ∃ o, b_l_stars_0 (lsR src (some (.da (paneT r.1))) (some (.da (moD r.2))) (some (iW t.1)) (some (iW t.2.1)) (some (iW t.2.2)) o7) [.lst (acc.map stW)] = .nx (lsR src (some (.da (paneT r.1))) (some (.da (moD r.2))) (some (iW t.1)) (some (iW t.2.1)) (some (iW t.2.2)) o) [.lst ((insS acc (led r.2 t)).map stW)] := by
      refine ⟨some (.da (.tup [.int (led r.2 t).1, .int (led r.2 t).2.1])), ?_⟩
      have ni : vl2 notinW (.da (.tup [.int (led r.2 t).1, .int (led r.2 t).2.1, .int t.2.2])) (.lo 0) [.lst (acc.map stW)] = _ := ni
      unfold insS
      by_cases h : led r.2 t ∈ acc
      · rw [dec_pos h] at ni
        rw [ifc_pos h]
        unfold b_l_stars_0
        simp_arith [e1, a3, ni]
      · rw [dec_neg h] at ni
        rw [ifc_neg h, List.map_append]
        unfold b_l_stars_0
        simp_arith [e1, a3, ni, tyM, ifc_pos (sz_lt (show acc.length < 100000 by omega))]
        rfl
    obtain ⟨o, b⟩ := b
    have := len_insS acc (led r.2 t)
    obtain ⟨x, y, z, w, e⟩ := ls_in src r hr ts (insS acc (led r.2 t)) (some (iW t.1)) (some (iW t.2.1)) (some (iW t.2.2)) o (by omega)
    exact ⟨x, y, z, w, by simp only [List.map_cons, loopM, g, b, e, List.foldl_cons]⟩
theorem ls_out (src : D) : ∀ (rs : List (Pane × Mo)) (acc : List Star) (o2 o3 o4 o5 o6 o7 : Option W), (∀ r ∈ rs, RwOk r) → acc.Nodup → acc.length + 8 * rs.length ≤ 900 →
    ∃ a b c d e f, ∃ acc' : List Star, acc'.Nodup ∧ acc'.length ≤ acc.length + 8 * rs.length ∧ (∀ x, x ∈ acc' ↔ x ∈ acc ∨ ∃ r ∈ rs, ∃ t ∈ r.1.ss, led r.2 t = x) ∧
      loopM (gtTup 2 (gtCons (gtName 2) (gtCons (gtName 3) gtNil))) b_l_stars_1 (rs.map rwW) (lsR src o2 o3 o4 o5 o6 o7) [.lst (acc.map stW)] = .nx (lsR src a b c d e f) [.lst (acc'.map stW)]
  | [], acc, o2, o3, o4, o5, o6, o7, _, nd, _ => ⟨o2, o3, o4, o5, o6, o7, acc, nd, by simp, by simp, rfl⟩
  | r :: rs, acc, o2, o3, o4, o5, o6, o7, hr, nd, hl => by
    simp only [List.length_cons] at hl
    have h0 := hr r (by simp)
    have l8 : r.1.ss.length ≤ 8 := h0.1.2.1.2.2.2.1
    have g : (gtTup 2 (gtCons (gtName 2) (gtCons (gtName 3) gtNil))) (rwW r) (lsR src o2 o3 o4 o5 o6 o7) [.lst (acc.map stW)] = some (lsR src (some (.da (paneT r.1))) (some (.da (moD r.2))) o4 o5 o6 o7) := by
      simp_arith []
    obtain ⟨a, b, c, d, e⟩ := ls_in src r h0.2 r.1.ss acc o4 o5 o6 o7 (by omega)
    obtain ⟨f1, f2, f3⟩ := fold_insS (r.1.ss.map (led r.2)) acc nd
    rw [List.length_map] at f2
    generalize (r.1.ss.map (led r.2)).foldl insS acc = acc1 at e f1 f2 f3
    have bb : b_l_stars_1 (lsR src (some (.da (paneT r.1))) (some (.da (moD r.2))) o4 o5 o6 o7) [.lst (acc.map stW)] = .nx (lsR src (some (.da (paneT r.1))) (some (.da (moD r.2))) a b c d) [.lst (acc1.map stW)] := by
      generalize acc.map stW = A at e ⊢
      unfold b_l_stars_1
      simp_arith []
      rw [stars_map, e]
    obtain ⟨a', b', c', d', e', f', acc', k1, k2, k3, k4⟩ := ls_out src rs acc1 (some (.da (paneT r.1))) (some (.da (moD r.2))) a b c d (fun x hx => hr x (by simp [hx])) f1 (by omega)
    refine ⟨a', b', c', d', e', f', acc', k1, by simp only [List.length_cons]; omega, fun x => ?_, by simp only [List.map_cons, loopM, g, bb, k4]⟩
    rw [k3 x, f3 x]
    simp only [List.mem_map, List.mem_cons]
    constructor
    · rintro ((h | ⟨t, ht, h⟩) | ⟨q, hq, h⟩)
      · exact .inl h
      · exact .inr ⟨r, .inl rfl, t, ht, h⟩
      · exact .inr ⟨q, .inr hq, h⟩
    · rintro (h | ⟨q, rfl | hq, h⟩)
      · exact .inl (.inl h)
      · exact .inl (.inr h)
      · exact .inr ⟨q, hq, h⟩
theorem led_eq (m : Mo) (t s : Star) : led m t = s ↔ act m (plc t) = plc s ∧ t.2.2 = s.2.2 := by
  unfold led plc
  constructor
  · rintro rfl; exact ⟨rfl, rfl⟩
  · rintro ⟨h1, h2⟩
    rw [h2]
    have h1 : act m (t.1, t.2.1) = (s.1, s.2.1) := h1
    rw [h1]
theorem l_stars_ok (rows : List (Pane × Mo)) (ok : ∀ r ∈ rows, RwOk r) (hl : rows.length ≤ 12) : ∃ L : List Star, L.Nodup ∧ L.length ≤ 96 ∧ (∀ s, s ∈ L ↔ Shows rows s) ∧ p_l_stars [.lst (rows.map rwD)] = .ok (starsD L) := by
  obtain ⟨a, b, c, d, e, f, acc, k1, k2, k3, k4⟩ := ls_out (.lst (rows.map rwD)) rows [] none none none none none none ok List.nodup_nil (by simp; omega)
  refine ⟨sortE stD acc, (sortE_is acc).nodup_iff.mpr k1, by rw [sortE_len]; simp only [List.length_nil] at k2; omega, fun s => ?_, ?_⟩
  · rw [sortE_mem, k3 s]
    unfold Shows
    simp only [List.not_mem_nil, false_or, led_eq]
  · have so := fun S => sortC_ok enc_star (by omega) sk_star (lay_star acc) (lstW_da S acc)
    have d1 := dats_stars (sortE stD acc)
    have fz : ∀ S, datWs 4 S (acc.map stW) = some (acc.map stD, S) := fun S => by
      rw [show acc.map stW = (acc.map stD).map .da by simp [Function.comp_def]]
      exact datWs_da 4 S _
    generalize sortE stD acc = sr at so d1 ⊢
    unfold p_l_stars m_l_stars
    simp_arith [rw_map]
    rw [show ([Cell.lst []] : Sto) = [.lst (([] : List Star).map stW)] from rfl, k4]
    simp_arith [fz, so, d1]
noncomputable def metN (L1 L2 : List Star) (m : Mo) : Nat := L2.countP fun s => dec (led m s ∈ L1)
theorem met_same {L1 L2 F1 F2 : List Star} (n2 : L2.Nodup) (k2 : F2.Nodup) (h1 : ∀ s, s ∈ L1 ↔ s ∈ F1) (h2 : ∀ s, s ∈ L2 ↔ s ∈ F2) (m : Mo) : metN L1 L2 m = metN F1 F2 m := by
  unfold metN
  rw [List.Perm.countP_eq _ ((List.perm_ext_iff_of_nodup n2 k2).mpr h2)]
  congr 1
  funext s
  by_cases h : led m s ∈ L1
  · rw [dec_pos h, dec_pos ((h1 _).mp h)]
  · rw [dec_neg h, dec_neg fun z => h ((h1 _).mpr z)]
abbrev lmR (L1 L2 : List Star) (m : Mo) (o3 o4 o5 o6 : Option W) : Rho := [some (.da (starsD L1)), some (.da (starsD L2)), some (.da (moD m)), o3, o4, o5, o6]
theorem lm_loop (L1 L2 : List Star) (m : Mo) (hm : okM m) (S : Sto) : ∀ (ts : List Star) (n : Nat) (o4 o5 o6 : Option W),
    ∃ a b c, loopM (gtTup 3 (gtCons (gtName 4) (gtCons (gtName 5) (gtCons (gtName 6) gtNil)))) b_l_met_0 (ts.map stW) (lmR L1 L2 m (some (iW n)) o4 o5 o6) S = .nx (lmR L1 L2 m (some (iW ((n + metN L1 ts m : Nat) : Int))) a b c) S
  | [], n, o4, o5, o6 => ⟨o4, o5, o6, rfl⟩
  | t :: ts, n, o4, o5, o6 => by
    have g : (gtTup 3 (gtCons (gtName 4) (gtCons (gtName 5) (gtCons (gtName 6) gtNil)))) (stW t) (lmR L1 L2 m (some (iW n)) o4 o5 o6) S = some (lmR L1 L2 m (some (iW n)) (some (iW t.1)) (some (iW t.2.1)) (some (iW t.2.2))) := by
      simp_arith []
    have e1 : p_l_moved [moD m, .tup [.int t.1, .int t.2.1]] = .ok (.tup [.int (led m t).1, .int (led m t).2.1]) := l_moved_eq m hm t.1 t.2.1
    have a3 := fun S => add3 (.int (led m t).1) (.int (led m t).2.1) (.int t.2.2) S
    have ie := fun S => in_e enc_star (by omega) (a := led m t) (l := L1) (lay_star [led m t] _ (by simp)) (lay_star L1) S
    have ie : ∀ S, vl2 inW (.da (.tup [.int (led m t).1, .int (led m t).2.1, .int t.2.2])) (.da (starsD L1)) S = .ok (.da (.bl (dec (led m t ∈ L1)))) S := ie
    have mn : metN L1 (t :: ts) m = (if dec (led m t ∈ L1) = true then 1 else 0) + metN L1 ts m := by
      unfold metN
      rw [List.countP_cons]
      omega
    by_cases h : led m t ∈ L1
    · rw [dec_pos h] at ie mn
      have b : b_l_met_0 (lmR L1 L2 m (some (iW n)) (some (iW t.1)) (some (iW t.2.1)) (some (iW t.2.2))) S = .nx (lmR L1 L2 m (some (iW ((n + 1 : Nat) : Int))) (some (iW t.1)) (some (iW t.2.1)) (some (iW t.2.2))) S := by
        have ec : ((n : Int) + 1) = ((n + 1 : Nat) : Int) := by omega
        unfold b_l_met_0
        simp_arith [e1, a3, ie, ec]
      obtain ⟨x, y, z, e⟩ := lm_loop L1 L2 m hm S ts (n + 1) (some (iW t.1)) (some (iW t.2.1)) (some (iW t.2.2))
      refine ⟨x, y, z, ?_⟩
      rw [mn, if_pos rfl, ← Nat.add_assoc]
      simp only [List.map_cons, loopM, g, b, e]
    · rw [dec_neg h] at ie mn
      have b : b_l_met_0 (lmR L1 L2 m (some (iW n)) (some (iW t.1)) (some (iW t.2.1)) (some (iW t.2.2))) S = .nx (lmR L1 L2 m (some (iW n)) (some (iW t.1)) (some (iW t.2.1)) (some (iW t.2.2))) S := by
        unfold b_l_met_0
        simp_arith [e1, a3, ie]
      obtain ⟨x, y, z, e⟩ := lm_loop L1 L2 m hm S ts n (some (iW t.1)) (some (iW t.2.1)) (some (iW t.2.2))
      refine ⟨x, y, z, ?_⟩
      rw [mn, if_neg (by simp), Nat.zero_add]
      simp only [List.map_cons, loopM, g, b, e]
theorem l_met_eq (L1 L2 : List Star) (m : Mo) (hm : okM m) : p_l_met [starsD L1, starsD L2, moD m] = .ok (.int (metN L1 L2 m)) := by
  obtain ⟨a, b, c, e⟩ := lm_loop L1 L2 m hm [] L2 0 none none none
  rw [Nat.zero_add] at e
  generalize metN L1 L2 m = k at e ⊢
  unfold p_l_met m_l_met
  simp_arith []
  rw [stars_map, show (some (W.da (.int 0))) = some (iW ((0 : Nat) : Int)) from rfl, e]
  simp_arith []
/-! the program's count -/
abbrev smR (L1 L2 : List Star) (m : Mo) (o3 o4 o5 o6 o7 : Option W) : Rho := [some (.da (starsD L1)), some (.da (starsD L2)), some (.da (moD m)), o3, o4, o5, o6, o7]
theorem sm_dict (L1 L2 : List Star) (m : Mo) : ∀ (ts dn : List Star) (o5 o6 o7 : Option W), ((dn ++ ts).map plc).Nodup → (dn ++ ts).length ≤ 2000 →
    ∃ a b c, loopM (gtTup 3 (gtCons (gtName 5) (gtCons (gtName 6) (gtCons (gtName 7) gtNil)))) b_stars_met_0 (ts.map stW) (smR L1 L2 m (some (.lo 0)) none o5 o6 o7) [.dt (dn.map brKW)] = .nx (smR L1 L2 m (some (.lo 0)) none a b c) [.dt ((dn ++ ts).map brKW)]
  | [], dn, o5, o6, o7, _, _ => ⟨o5, o6, o7, by simp [loopM]⟩
  | t :: ts, dn, o5, o6, o7, nd, hl => by
    simp only [List.length_append, List.length_cons] at hl
    have g : (gtTup 3 (gtCons (gtName 5) (gtCons (gtName 6) (gtCons (gtName 7) gtNil)))) (stW t) (smR L1 L2 m (some (.lo 0)) none o5 o6 o7) [.dt (dn.map brKW)] = some (smR L1 L2 m (some (.lo 0)) none (some (iW t.1)) (some (iW t.2.1)) (some (iW t.2.2))) := by
      simp_arith []
    have hn : plc t ∉ dn.map plc := by
      rw [List.map_append, List.nodup_append] at nd
      exact fun z => nd.2.2 _ z _ (List.mem_map.mpr ⟨t, by simp, rfl⟩) rfl
    have ps := put_br t dn hn
    have kk : keysW (.da (.tup [.int t.1, .int t.2.1])) = some (plK t) := rfl
    have b : b_stars_met_0 (smR L1 L2 m (some (.lo 0)) none (some (iW t.1)) (some (iW t.2.1)) (some (iW t.2.2))) [.dt (dn.map brKW)] = .nx (smR L1 L2 m (some (.lo 0)) none (some (iW t.1)) (some (iW t.2.1)) (some (iW t.2.2))) [.dt ((dn ++ [t]).map brKW)] := by
      unfold b_stars_met_0 mSetIx
      simp_arith [kk, ifc_pos (sz_lt (show dn.length < 100000 by omega)), ps]
    obtain ⟨x, y, z, e⟩ := sm_dict L1 L2 m ts (dn ++ [t]) (some (iW t.1)) (some (iW t.2.1)) (some (iW t.2.2)) (by simpa using nd) (by simp; omega)
    refine ⟨x, y, z, ?_⟩
    simp only [List.map_cons, loopM, g, b, e]
    simp
theorem sm_loop (L1 L2 : List Star) (nd : (L1.map plc).Nodup) (m : Mo) (hm : okM m) (S : Sto) : ∀ (ts : List Star) (n : Nat) (o5 o6 o7 : Option W), (∀ t ∈ ts, 1 ≤ t.2.2) →
    ∃ a b c, loopM (gtTup 3 (gtCons (gtName 5) (gtCons (gtName 6) (gtCons (gtName 7) gtNil)))) b_stars_met_1 (ts.map stW) (smR L1 L2 m (some (.da (.dt (L1.map plK) (L1.map brV)))) (some (iW n)) o5 o6 o7) S = .nx (smR L1 L2 m (some (.da (.dt (L1.map plK) (L1.map brV)))) (some (iW ((n + metN L1 ts m : Nat) : Int))) a b c) S
  | [], n, o5, o6, o7, _ => ⟨o5, o6, o7, rfl⟩
  | t :: ts, n, o5, o6, o7, hb => by
    have hb0 := hb t (by simp)
    have g : (gtTup 3 (gtCons (gtName 5) (gtCons (gtName 6) (gtCons (gtName 7) gtNil)))) (stW t) (smR L1 L2 m (some (.da (.dt (L1.map plK) (L1.map brV)))) (some (iW n)) o5 o6 o7) S = some (smR L1 L2 m (some (.da (.dt (L1.map plK) (L1.map brV)))) (some (iW n)) (some (iW t.1)) (some (iW t.2.1)) (some (iW t.2.2))) := by
      simp_arith []
    have e1 : p_moved [moD m, .tup [.int t.1, .int t.2.1]] = .ok (.tup [.int (led m t).1, .int (led m t).2.1]) := moved_eq m hm t.1 t.2.1
    have lk := look_lights (led m t).1 (led m t).2.1 L1
    have dg : ∀ x S, getF (.da (.dt (L1.map plK) (L1.map brV))) (.da (.tup [.int (led m t).1, .int (led m t).2.1])) x S = match starAt L1 ((led m t).1, (led m t).2.1) with
        | some v => .ok (iW v) S
        | none => .ok x S := fun x S => by
      unfold getF dget
      simp only [dkW, dtW, keysW, keysD, keyD, Option.map, lk]
      cases starAt L1 ((led m t).1, (led m t).2.1) <;> rfl
    have dw : ∀ S, dctW S (.da (.dt (L1.map plK) (L1.map brV))) = true := fun _ => rfl
    have hiff : led m t ∈ L1 ↔ starAt L1 ((led m t).1, (led m t).2.1) = some t.2.2 := (starAt_iff nd _ _).symm
    have mn : metN L1 (t :: ts) m = (if dec (led m t ∈ L1) = true then 1 else 0) + metN L1 ts m := by
      unfold metN
      rw [List.countP_cons]
      omega
    have ih := fun k => sm_loop L1 L2 nd m hm S ts k (some (iW t.1)) (some (iW t.2.1)) (some (iW t.2.2)) (fun x hx => hb x (by simp [hx]))
    generalize L1.map plK = KK at dg dw g ih ⊢
    generalize L1.map brV = VV at dg dw g ih ⊢
    by_cases h : led m t ∈ L1
    · rw [dec_pos h] at mn
      rw [hiff.mp h] at dg
      have b : b_stars_met_1 (smR L1 L2 m (some (.da (.dt KK VV))) (some (iW n)) (some (iW t.1)) (some (iW t.2.1)) (some (iW t.2.2))) S = .nx (smR L1 L2 m (some (.da (.dt KK VV))) (some (iW ((n + 1 : Nat) : Int))) (some (iW t.1)) (some (iW t.2.1)) (some (iW t.2.2))) S := by
        have ec : ((n : Int) + 1) = ((n + 1 : Nat) : Int) := by omega
        unfold b_stars_met_1 mGet2
        simp_arith [e1, dw, dg, dec_pos (rfl : t.2.2 = t.2.2), ec]
      obtain ⟨x, y, z, e⟩ := ih (n + 1)
      refine ⟨x, y, z, ?_⟩
      rw [mn, if_pos rfl, ← Nat.add_assoc]
      simp only [List.map_cons, loopM, g, b, e]
    · rw [dec_neg h] at mn
      have b : b_stars_met_1 (smR L1 L2 m (some (.da (.dt KK VV))) (some (iW n)) (some (iW t.1)) (some (iW t.2.1)) (some (iW t.2.2))) S = .nx (smR L1 L2 m (some (.da (.dt KK VV))) (some (iW n)) (some (iW t.1)) (some (iW t.2.1)) (some (iW t.2.2))) S := by
        cases hs : starAt L1 ((led m t).1, (led m t).2.1) with
        | none =>
          rw [hs] at dg
          unfold b_stars_met_1 mGet2
          simp_arith [e1, dw, dg, dec_neg (show ¬ (0 : Int) = t.2.2 by omega)]
        | some v =>
          rw [hs] at dg
          have hv : ¬ v = t.2.2 := fun z => h (hiff.mpr (by rw [hs, z]))
          unfold b_stars_met_1 mGet2
          simp_arith [e1, dw, dg, dec_neg hv]
      obtain ⟨x, y, z, e⟩ := ih n
      refine ⟨x, y, z, ?_⟩
      rw [mn, if_neg (by simp), Nat.zero_add]
      simp only [List.map_cons, loopM, g, b, e]
theorem stars_met_eq (L1 L2 : List Star) (nd : (L1.map plc).Nodup) (hl : L1.length ≤ 2000) (hb : ∀ t ∈ L2, 1 ≤ t.2.2) (m : Mo) (hm : okM m) : p_stars_met [starsD L1, starsD L2, moD m] = .ok (.int (metN L1 L2 m)) := by
  obtain ⟨a, b, c, e⟩ := sm_dict L1 L2 m L1 [] none none none (by simpa using nd) (by simpa using hl)
  rw [List.nil_append] at e
  obtain ⟨x, y, z, e2⟩ := sm_loop L1 L2 nd m hm [.dead] L2 0 a b c hb
  rw [Nat.zero_add] at e2
  have kz : List.map ((fun x : List Key × W => x.fst) ∘ brKW) L1 = L1.map plK := rfl
  have fz := fun S => dats_brs 4 S L1
  generalize metN L1 L2 m = k at e2 ⊢
  unfold p_stars_met m_stars_met
  simp_arith [newDT]
  rw [stars_map, show ([Cell.dt []] : Sto) = [.dt (([] : List Star).map brKW)] from rfl, e]
  simp_arith [fz, kz]
  rw [stars_map, show (some (W.da (.int 0))) = some (iW ((0 : Nat) : Int)) from rfl, e2]
  simp_arith []
theorem shows_bright {rows : List (Pane × Mo)} (ok : ∀ r ∈ rows, RwOk r) {s : Star} (h : Shows rows s) : 1 ≤ s.2.2 := by
  obtain ⟨r, hr, t, ht, _, h2⟩ := h
  obtain ⟨_, ⟨_, _, l1, _, sok, _⟩, _⟩ := (ok r hr).1
  have := (sok t ht).2.2
  rw [← h2]
  omega
/-! ### laid plates by their names -/
abbrev nmE (r : Pane × Mo) : D := .str r.1.n
noncomputable abbrev sortR (rows : List (Pane × Mo)) : List (Pane × Mo) := sortE nmE rows
theorem name_of_eq (r : Pane × Mo) : p_name_of [plD r] = .ok (.str r.1.n) := by
  unfold p_name_of m_name_of
  simp_arith [vl1, zp, plne, List.mem_singleton]
theorem kys_names : ∀ rows : List (Pane × Mo), kysD p_name_of (rows.map plD) = some (rows.map nmE)
  | [] => rfl
  | r :: rows => by simp only [List.map_cons, kysD, name_of_eq, kyD, if_true, kys_names rows, Option.map]
theorem alike_strs {α : Type} (f : α → Str) (l : List α) : PySem.W.AllAlike (l.map fun a => PyData.str (f a)) ∧ PySem.W.Sortable (l.map fun a => PyData.str (f a)) := by
  refine ⟨fun d hd d' hd' => ?_, .inr fun d hd => ?_⟩
  · obtain ⟨a, _, rfl⟩ := List.mem_map.mp hd
    obtain ⟨b, _, rfl⟩ := List.mem_map.mp hd'
    rfl
  · obtain ⟨a, _, rfl⟩ := List.mem_map.mp hd
    exact ⟨by simp, by simp⟩
theorem zip_self2 {α β γ : Type} (f : α → β) (g : α → γ) : ∀ l : List α, (l.map f).zip (l.map g) = l.map fun a => (f a, g a)
  | [] => rfl
  | a :: l => by simp [zip_self2 f g l]
theorem sortZ_rows (rows : List (Pane × Mo)) : sortZ (rows.map plD) (rows.map nmE) = (sortR rows).map plD := by
  unfold sortZ sortR sortE
  rw [zip_self2, ← List.map_mergeSort (r := leE nmE) (s := PySem.W.dataLe false (fun q : D × D => toPy q.2)) (f := fun r => (plD r, nmE r)) (fun a _ b _ => rfl), List.map_map]
  rfl
theorem sortK_rows (rows : List (Pane × Mo)) : sortK p_name_of [.lst (rows.map plD)] = .ok (.lst ((sortR rows).map plW)) := by
  have h := alike_strs (fun r : Pane × Mo => r.1.n) rows
  unfold sortK
  simp only [kys_names]
  rw [ifc_pos, sortZ_rows, List.map_map]
  · rfl
  · rw [List.map_map]
    exact h
/-! ### the first two that are unlike -/
abbrev Due := Option (Str × Str × Int × Int)
def dueD : Due → D
  | none => .non
  | some t => .tup [.str t.1, .str t.2.1, pD t.2.2]
noncomputable def inD (a : Pane × Mo) (B : List (Pane × Mo)) : Due := B.findSome? fun b => (clS a b).map fun z => (a.1.n, b.1.n, z)
noncomputable def outD (A B : List (Pane × Mo)) : Due := A.findSome? (inD · B)
theorem bk_bk (m : Mo) (hm : okM m) : bkM (bkM m) = m := act_inj (ok_bk (ok_bk hm)) hm fun p => by
  have h1 := act_bk (bkM m) (act m p) (ok_bk hm)
  rw [act_bk m p hm] at h1
  exact h1
theorem away_eq (a b : Mo) (ha : okM a) (hb : okM b) : bkM (bh b (bkM a)) = bh a (bkM b) := by
  rw [bk_bh b (bkM a) hb (ok_bk ha), bk_bk a ha]
abbrev ukR (one oth : List (Pane × Mo)) (o2 o3 o4 o5 o6 o7 : Option W) : Rho := [some (.da (.lst (one.map plD))), some (.da (.lst (oth.map plD))), o2, o3, o4, o5, o6, o7]
theorem uk_in (one oth : List (Pane × Mo)) (a : Pane × Mo) (ha : RwOk a) (S : Sto) : ∀ (B : List (Pane × Mo)) (o5 o6 o7 : Option W), (∀ b ∈ B, RwOk b) →
    (∃ x y z, inD a B = none ∧ loopM (gtTup 2 (gtCons (gtName 5) (gtCons (gtName 6) gtNil))) b_unlike_0 (B.map plW) (ukR one oth (some (.da (plP a.1))) (some (.da (moD a.2))) (some (.da (moD (bkM a.2)))) o5 o6 o7) S = .nx (ukR one oth (some (.da (plP a.1))) (some (.da (moD a.2))) (some (.da (moD (bkM a.2)))) x y z) S) ∨
    ∃ t, inD a B = some t ∧ loopM (gtTup 2 (gtCons (gtName 5) (gtCons (gtName 6) gtNil))) b_unlike_0 (B.map plW) (ukR one oth (some (.da (plP a.1))) (some (.da (moD a.2))) (some (.da (moD (bkM a.2)))) o5 o6 o7) S = .rt (.da (dueD (some t))) S
  | [], o5, o6, o7, _ => .inl ⟨o5, o6, o7, rfl, rfl⟩
  | b :: B, o5, o6, o7, ok => by
    have hb := ok b (by simp)
    have g : (gtTup 2 (gtCons (gtName 5) (gtCons (gtName 6) gtNil))) (plW b) (ukR one oth (some (.da (plP a.1))) (some (.da (moD a.2))) (some (.da (moD (bkM a.2)))) o5 o6 o7) S = some (ukR one oth (some (.da (plP a.1))) (some (.da (moD a.2))) (some (.da (moD (bkM a.2)))) (some (.da (plP b.1))) (some (.da (moD b.2))) o7) := by
      simp_arith []
    have e1 := behind_mo b.2 (bkM a.2) (moD b.2) (moD (bkM a.2)) (.inl rfl) (.inl rfl) (ok_bk ha.2)
    have e2 := unlike_two_eq a.1 b.1 ha.1 (bh b.2 (bkM a.2)) (ok_bh _ _)
    rw [away_eq a.2 b.2 ha.2 hb.2] at e2
    have ei : inD a (b :: B) = match (clS a b) with
      | some z => some (a.1.n, b.1.n, z)
      | none => inD a B := by
      unfold inD
      rw [List.findSome?_cons]
      cases clS a b <;> rfl
    rw [ei]
    change p_unlike_two _ = .ok (optZ (clS a b)) at e2
    cases hc : clS a b with
    | some z =>
      rw [hc] at e2
      have bb : b_unlike_0 (ukR one oth (some (.da (plP a.1))) (some (.da (moD a.2))) (some (.da (moD (bkM a.2)))) (some (.da (plP b.1))) (some (.da (moD b.2))) o7) S = .rt (.da (dueD (some (a.1.n, b.1.n, z)))) S := by
        unfold b_unlike_0
        simp_arith [e1, e2, optZ, dueD, vl1, zp, plne, List.mem_singleton]
      exact .inr ⟨_, rfl, by simp only [List.map_cons, loopM, g, bb]⟩
    | none =>
      rw [hc] at e2
      have bb : b_unlike_0 (ukR one oth (some (.da (plP a.1))) (some (.da (moD a.2))) (some (.da (moD (bkM a.2)))) (some (.da (plP b.1))) (some (.da (moD b.2))) o7) S = .nx (ukR one oth (some (.da (plP a.1))) (some (.da (moD a.2))) (some (.da (moD (bkM a.2)))) (some (.da (plP b.1))) (some (.da (moD b.2))) (some (.da .non))) S := by
        unfold b_unlike_0
        simp_arith [e1, e2, optZ]
      rcases uk_in one oth a ha S B (some (.da (plP b.1))) (some (.da (moD b.2))) (some (.da .non)) (fun x hx => ok x (by simp [hx])) with ⟨x, y, z, h1, h2⟩ | ⟨t, h1, h2⟩
      · exact .inl ⟨x, y, z, h1, by simp only [List.map_cons, loopM, g, bb, h2]⟩
      · exact .inr ⟨t, h1, by simp only [List.map_cons, loopM, g, bb, h2]⟩
theorem uk_out (one oth : List (Pane × Mo)) (hoth : ∀ b ∈ oth, RwOk b) (S : Sto) : ∀ (A : List (Pane × Mo)) (o2 o3 o4 o5 o6 o7 : Option W), (∀ a ∈ A, RwOk a) →
    (∃ x2 x3 x4 x5 x6 x7, outD A (sortR oth) = none ∧ loopM (gtTup 2 (gtCons (gtName 2) (gtCons (gtName 3) gtNil))) b_unlike_1 (A.map plW) (ukR one oth o2 o3 o4 o5 o6 o7) S = .nx (ukR one oth x2 x3 x4 x5 x6 x7) S) ∨
    ∃ t, outD A (sortR oth) = some t ∧ loopM (gtTup 2 (gtCons (gtName 2) (gtCons (gtName 3) gtNil))) b_unlike_1 (A.map plW) (ukR one oth o2 o3 o4 o5 o6 o7) S = .rt (.da (dueD (some t))) S
  | [], o2, o3, o4, o5, o6, o7, _ => .inl ⟨o2, o3, o4, o5, o6, o7, rfl, rfl⟩
  | a :: A, o2, o3, o4, o5, o6, o7, ok => by
    have ha := ok a (by simp)
    have g : (gtTup 2 (gtCons (gtName 2) (gtCons (gtName 3) gtNil))) (plW a) (ukR one oth o2 o3 o4 o5 o6 o7) S = some (ukR one oth (some (.da (plP a.1))) (some (.da (moD a.2))) o4 o5 o6 o7) := by
      simp_arith []
    have e1 := back_mo a.2 (moD a.2) (.inl rfl) ha.2
    have sk := sortK_rows oth
    have ei : outD (a :: A) (sortR oth) = match inD a (sortR oth) with
      | some t => some t
      | none => outD A (sortR oth) := by
      unfold outD
      rw [List.findSome?_cons]
      cases inD a (sortR oth) <;> rfl
    rw [ei]
    rcases uk_in one oth a ha S (sortR oth) o5 o6 o7 (fun b hb => hoth b (sortE_mem.mp hb)) with ⟨x, y, z, h1, h2⟩ | ⟨t, h1, h2⟩
    · rw [h1]
      have bb : b_unlike_1 (ukR one oth (some (.da (plP a.1))) (some (.da (moD a.2))) o4 o5 o6 o7) S = .nx (ukR one oth (some (.da (plP a.1))) (some (.da (moD a.2))) (some (.da (moD (bkM a.2)))) x y z) S := by
        generalize sortR oth = so at sk h2
        unfold b_unlike_1
        simp_arith [e1, sk, dats_pl, pl_map, h2]
      rcases uk_out one oth hoth S A (some (.da (plP a.1))) (some (.da (moD a.2))) (some (.da (moD (bkM a.2)))) x y z (fun x hx => ok x (by simp [hx])) with ⟨x2, x3, x4, x5, x6, x7, k1, k2⟩ | ⟨t, k1, k2⟩
      · exact .inl ⟨x2, x3, x4, x5, x6, x7, k1, by simp only [List.map_cons, loopM, g, bb, k2]⟩
      · exact .inr ⟨t, k1, by simp only [List.map_cons, loopM, g, bb, k2]⟩
    · rw [h1]
      have bb : b_unlike_1 (ukR one oth (some (.da (plP a.1))) (some (.da (moD a.2))) o4 o5 o6 o7) S = .rt (.da (dueD (some t))) S := by
        generalize sortR oth = so at sk h2
        unfold b_unlike_1
        simp_arith [e1, sk, dats_pl, pl_map, h2]
      exact .inr ⟨t, rfl, by simp only [List.map_cons, loopM, g, bb]⟩
theorem dueD_noL (t : Due) : noL (dueD t) = true := by cases t <;> rfl
theorem unlike_eq (one oth : List (Pane × Mo)) (h1 : ∀ a ∈ one, RwOk a) (h2 : ∀ b ∈ oth, RwOk b) : p_unlike [.lst (one.map plD), .lst (oth.map plD)] = .ok (dueD (outD (sortR one) (sortR oth))) := by
  have sk := sortK_rows one
  rcases uk_out one oth h2 [] (sortR one) none none none none none none (fun a ha => h1 a (sortE_mem.mp ha)) with ⟨x2, x3, x4, x5, x6, x7, k1, k2⟩ | ⟨t, k1, k2⟩
  · rw [k1]
    generalize sortR one = so at sk k2
    unfold p_unlike m_unlike
    simp_arith [sk, dats_pl, pl_map, k2]
    rfl
  · rw [k1]
    generalize sortR one = so at sk k2
    generalize dueD (some t) = dd at k2 ⊢
    unfold p_unlike m_unlike
    simp_arith [sk, dats_pl, pl_map, k2]
/-! ### layings -/
def ldM (t : Int) (o s : Star) : Mo := (t, s.1 - (turnP t o.1 o.2.1).1, s.2.1 - (turnP t o.1 o.2.1).2)
theorem leading_eq (t : Int) (h0 : 0 ≤ t) (h7 : t ≤ 7) (o s : Star) : p_leading [.int t, .tup [.int o.1, .int o.2.1], .tup [.int s.1, .int s.2.1]] = .ok (moD (ldM t o s)) := by
  have e := turned_eq t o.1 o.2.1 h0 h7
  unfold p_leading m_leading
  simp_arith [e]
  rfl
noncomputable def insM (acc : List Mo) (s : Mo) : List Mo := ifc (s ∈ acc) acc (acc ++ [s])
theorem mem_insM (acc : List Mo) (s x : Mo) : x ∈ insM acc s ↔ x ∈ acc ∨ x = s := by
  unfold insM
  by_cases h : s ∈ acc
  · rw [ifc_pos h]
    exact ⟨.inl, fun z => z.elim id fun z => by rw [z]; exact h⟩
  · rw [ifc_neg h]; simp
theorem nd_insM {acc : List Mo} (h : acc.Nodup) (s : Mo) : (insM acc s).Nodup := by
  unfold insM
  by_cases hs : s ∈ acc
  · rw [ifc_pos hs]; exact h
  · rw [ifc_neg hs, List.nodup_append]
    refine ⟨h, by simp, fun a ha b hb => ?_⟩
    simp only [List.mem_singleton] at hb
    subst hb
    exact fun z => hs (by rw [← z]; exact ha)
theorem len_insM (acc : List Mo) (s : Mo) : (insM acc s).length ≤ acc.length + 1 := by
  unfold insM
  by_cases hs : s ∈ acc
  · rw [ifc_pos hs]; omega
  · rw [ifc_neg hs]; simp
theorem fold_insM : ∀ (l acc : List Mo), acc.Nodup → (l.foldl insM acc).Nodup ∧ (l.foldl insM acc).length ≤ acc.length + l.length ∧ ∀ x, x ∈ l.foldl insM acc ↔ x ∈ acc ∨ x ∈ l
  | [], acc, h => ⟨h, by simp, by simp⟩
  | s :: l, acc, h => by
    obtain ⟨h1, h2, h3⟩ := fold_insM l (insM acc s) (nd_insM h s)
    have := len_insM acc s
    refine ⟨h1, by simp only [List.length_cons, List.foldl_cons]; omega, fun x => ?_⟩
    rw [List.foldl_cons, h3 x, mem_insM]
    simp only [List.mem_cons]
    constructor
    · rintro ((h | h) | h)
      · exact .inl h
      · exact .inr (.inl h)
      · exact .inr (.inr h)
    · rintro (h | h | h)
      · exact .inl (.inl h)
      · exact .inl (.inr h)
      · exact .inr h
noncomputable def cand (s o : Star) : List Mo := if o.2.2 = s.2.2 then (intsL 0 8).map (ldM · o s) else []
noncomputable def cands (A B : List Star) : List Mo := A.flatMap fun s => B.flatMap fun o => cand s o
theorem cand_len (s o : Star) : (cand s o).length ≤ 8 := by
  unfold cand
  split
  · rw [List.length_map, len_intsL]; omega
  · simp
theorem flat_len {α β : Type} (f : α → List β) (k : Nat) (h : ∀ a, (f a).length ≤ k) : ∀ l : List α, (l.flatMap f).length ≤ l.length * k
  | [] => by simp
  | a :: l => by
    have := flat_len f k h l
    have := h a
    simp only [List.flatMap_cons, List.length_append, List.length_cons, Nat.succ_mul]
    omega
theorem cands_len {A B : List Star} (ha : A.length ≤ 96) (hb : B.length ≤ 96) : (cands A B).length ≤ 73728 := by
  unfold cands
  refine Nat.le_trans (flat_len _ (96 * 8) (fun s => Nat.le_trans (flat_len _ 8 (fun o => cand_len s o) B) (Nat.mul_le_mul hb (Nat.le_refl 8))) A) ?_
  exact Nat.le_trans (Nat.mul_le_mul ha (Nat.le_refl _)) (by decide)
theorem mem_cands (A B : List Star) (m : Mo) : m ∈ cands A B ↔ ∃ s ∈ A, ∃ o ∈ B, o.2.2 = s.2.2 ∧ ∃ t, (0 ≤ t ∧ t < 8) ∧ m = ldM t o s := by
  unfold cands
  simp only [List.mem_flatMap]
  constructor
  · rintro ⟨s, hs, o, ho, h⟩
    unfold cand at h
    split at h
    · rename_i e
      obtain ⟨t, ht, rfl⟩ := List.mem_map.mp h
      rw [mem_intsL] at ht
      exact ⟨s, hs, o, ho, e, t, by omega, rfl⟩
    · simp at h
  · rintro ⟨s, hs, o, ho, e, t, ht, rfl⟩
    refine ⟨s, hs, o, ho, ?_⟩
    unfold cand
    rw [if_pos e]
    exact List.mem_map.mpr ⟨t, by rw [mem_intsL]; omega, rfl⟩
theorem cands_ok {A B : List Star} {m : Mo} (h : m ∈ cands A B) : okM m := by
  obtain ⟨s, _, o, _, _, t, ht, rfl⟩ := (mem_cands A B m).mp h
  exact ⟨by show 0 ≤ t; omega, by show t ≤ 7; omega⟩
/-! tried -/
abbrev kM (m : Mo) : List Key := [.inl m.1, .inl m.2.1, .inl m.2.2]
abbrev tKW (m : Mo) : List Key × W := (kM m, .da (.bl true))
theorem kM_inj {a b : Mo} (h : kM a = kM b) : a = b := by
  simp only [List.cons.injEq, Sum.inl.injEq, and_true] at h
  exact Prod.ext h.1 (Prod.ext h.2.1 h.2.2)
theorem put_m (T : List Mo) (m : Mo) : putW (T.map tKW) (kM m) (.da (.bl true)) = (insM T m).map tKW := by
  have hany : ((T.map tKW).any fun p => decide (p.1 = kM m)) = true ↔ m ∈ T := by
    simp only [List.any_eq_true, List.mem_map, decide_eq_true_eq]
    constructor
    · rintro ⟨p, ⟨e, he, rfl⟩, h⟩
      rw [← kM_inj h]; exact he
    · intro h
      exact ⟨_, ⟨m, h, rfl⟩, rfl⟩
  unfold putW insM
  by_cases h : m ∈ T
  · rw [if_pos (hany.mpr h), ifc_pos h, List.map_map]
    refine List.map_congr_left fun e _ => ?_
    simp only [Function.comp]
    split <;> rfl
  · rw [if_neg (fun z => h (hany.mp z)), ifc_neg h, List.map_append]
    rfl
abbrev trR (A B : List Star) (o3 o4 o5 o6 o7 o8 o9 : Option W) : Rho := [some (.da (starsD A)), some (.da (starsD B)), some (.lo 0), o3, o4, o5, o6, o7, o8, o9]
theorem tr_in (A B : List Star) (s o : Star) : ∀ (ts : List Int) (T : List Mo) (o9 : Option W), (∀ t ∈ ts, 0 ≤ t ∧ t ≤ 7) → T.length + ts.length ≤ 90000 →
    ∃ a, loopM (gtName 9) b_tried_0 (ts.map iW) (trR A B (some (iW s.1)) (some (iW s.2.1)) (some (iW s.2.2)) (some (iW o.1)) (some (iW o.2.1)) (some (iW o.2.2)) o9) [.dt (T.map tKW)] = .nx (trR A B (some (iW s.1)) (some (iW s.2.1)) (some (iW s.2.2)) (some (iW o.1)) (some (iW o.2.1)) (some (iW o.2.2)) a) [.dt (((ts.map (ldM · o s)).foldl insM T).map tKW)]
  | [], T, o9, _, _ => ⟨o9, rfl⟩
  | t :: ts, T, o9, ht, hl => by
    simp only [List.length_cons] at hl
    have h0 := ht t (by simp)
    have g : gtName 9 (iW t) (trR A B (some (iW s.1)) (some (iW s.2.1)) (some (iW s.2.2)) (some (iW o.1)) (some (iW o.2.1)) (some (iW o.2.2)) o9) [.dt (T.map tKW)] = some (trR A B (some (iW s.1)) (some (iW s.2.1)) (some (iW s.2.2)) (some (iW o.1)) (some (iW o.2.1)) (some (iW o.2.2)) (some (iW t))) := rfl
    have e1 := leading_eq t h0.1 h0.2 o s
    have ps := put_m T (ldM t o s)
    have kk : keysW (.da (moD (ldM t o s))) = some (kM (ldM t o s)) := rfl
    have b : b_tried_0 (trR A B (some (iW s.1)) (some (iW s.2.1)) (some (iW s.2.2)) (some (iW o.1)) (some (iW o.2.1)) (some (iW o.2.2)) (some (iW t))) [.dt (T.map tKW)] = .nx (trR A B (some (iW s.1)) (some (iW s.2.1)) (some (iW s.2.2)) (some (iW o.1)) (some (iW o.2.1)) (some (iW o.2.2)) (some (iW t))) [.dt ((insM T (ldM t o s)).map tKW)] := by
      generalize ldM t o s = mm at *
      generalize (insM T mm).map tKW = R at ps ⊢
      unfold b_tried_0 mSetIx
      simp_arith [e1, kk, ifc_pos (sz_lt (show T.length < 100000 by omega)), ps]
    have := len_insM T (ldM t o s)
    obtain ⟨a, e⟩ := tr_in A B s o ts (insM T (ldM t o s)) (some (iW t)) (fun x hx => ht x (by simp [hx])) (by omega)
    exact ⟨a, by simp only [List.map_cons, loopM, g, b, e, List.foldl_cons]⟩
theorem tr_mid (A B : List Star) (s : Star) : ∀ (os : List Star) (T : List Mo) (o6 o7 o8 o9 : Option W), T.Nodup → T.length + (os.flatMap (cand s)).length ≤ 80000 →
    ∃ a b c d, loopM (gtTup 3 (gtCons (gtName 6) (gtCons (gtName 7) (gtCons (gtName 8) gtNil)))) b_tried_1 (os.map stW) (trR A B (some (iW s.1)) (some (iW s.2.1)) (some (iW s.2.2)) o6 o7 o8 o9) [.dt (T.map tKW)] = .nx (trR A B (some (iW s.1)) (some (iW s.2.1)) (some (iW s.2.2)) a b c d) [.dt (((os.flatMap (cand s)).foldl insM T).map tKW)]
  | [], T, o6, o7, o8, o9, _, _ => ⟨o6, o7, o8, o9, rfl⟩
  | o :: os, T, o6, o7, o8, o9, nd, hl => by
    simp only [List.flatMap_cons, List.length_append] at hl
    have g : (gtTup 3 (gtCons (gtName 6) (gtCons (gtName 7) (gtCons (gtName 8) gtNil)))) (stW o) (trR A B (some (iW s.1)) (some (iW s.2.1)) (some (iW s.2.2)) o6 o7 o8 o9) [.dt (T.map tKW)] = some (trR A B (some (iW s.1)) (some (iW s.2.1)) (some (iW s.2.2)) (some (iW o.1)) (some (iW o.2.1)) (some (iW o.2.2)) o9) := by
      simp_arith []
    obtain ⟨f1, f2, f3⟩ := fold_insM (cand s o) T nd
    have bb : ∃ z, b_tried_1 (trR A B (some (iW s.1)) (some (iW s.2.1)) (some (iW s.2.2)) (some (iW o.1)) (some (iW o.2.1)) (some (iW o.2.2)) o9) [.dt (T.map tKW)] = .nx (trR A B (some (iW s.1)) (some (iW s.2.1)) (some (iW s.2.2)) (some (iW o.1)) (some (iW o.2.1)) (some (iW o.2.2)) z) [.dt (((cand s o).foldl insM T).map tKW)] := by
      unfold cand
      by_cases h : o.2.2 = s.2.2
      · rw [if_pos h]
        obtain ⟨a, e⟩ := tr_in A B s o (intsL 0 8) T o9 (fun t ht => by rw [mem_intsL] at ht; omega) (by rw [len_intsL]; omega)
        rw [← ints_map] at e
        have r : rng1 [iW 8] = some (0, 8) := rng1_ok 8 (by decide) (by decide)
        refine ⟨a, ?_⟩
        generalize T.map tKW = TT at e ⊢
        unfold b_tried_1
        simp_arith [dec_pos h, r, e]
      · rw [if_neg h]
        refine ⟨o9, ?_⟩
        unfold b_tried_1
        simp_arith [dec_neg h]
        rfl
    obtain ⟨z, bb⟩ := bb
    obtain ⟨a, b, c, d, e⟩ := tr_mid A B s os ((cand s o).foldl insM T) (some (iW o.1)) (some (iW o.2.1)) (some (iW o.2.2)) z f1 (by omega)
    exact ⟨a, b, c, d, by simp only [List.map_cons, loopM, g, bb, e, List.flatMap_cons, List.foldl_append]⟩
theorem tr_out (A B : List Star) : ∀ (ss : List Star) (T : List Mo) (o3 o4 o5 o6 o7 o8 o9 : Option W), T.Nodup → T.length + (cands ss B).length ≤ 80000 →
    ∃ a b c d e f g, loopM (gtTup 3 (gtCons (gtName 3) (gtCons (gtName 4) (gtCons (gtName 5) gtNil)))) b_tried_2 (ss.map stW) (trR A B o3 o4 o5 o6 o7 o8 o9) [.dt (T.map tKW)] = .nx (trR A B a b c d e f g) [.dt (((cands ss B).foldl insM T).map tKW)]
  | [], T, o3, o4, o5, o6, o7, o8, o9, _, _ => ⟨o3, o4, o5, o6, o7, o8, o9, rfl⟩
  | s :: ss, T, o3, o4, o5, o6, o7, o8, o9, nd, hl => by
    have hc : cands (s :: ss) B = B.flatMap (cand s) ++ cands ss B := by unfold cands; rw [List.flatMap_cons]
    rw [hc, List.length_append] at hl
    have g : (gtTup 3 (gtCons (gtName 3) (gtCons (gtName 4) (gtCons (gtName 5) gtNil)))) (stW s) (trR A B o3 o4 o5 o6 o7 o8 o9) [.dt (T.map tKW)] = some (trR A B (some (iW s.1)) (some (iW s.2.1)) (some (iW s.2.2)) o6 o7 o8 o9) := by
      simp_arith []
    obtain ⟨f1, f2, f3⟩ := fold_insM (B.flatMap (cand s)) T nd
    obtain ⟨a, b, c, d, e⟩ := tr_mid A B s B T o6 o7 o8 o9 nd (by omega)
    have bb : b_tried_2 (trR A B (some (iW s.1)) (some (iW s.2.1)) (some (iW s.2.2)) o6 o7 o8 o9) [.dt (T.map tKW)] = .nx (trR A B (some (iW s.1)) (some (iW s.2.1)) (some (iW s.2.2)) a b c d) [.dt (((B.flatMap (cand s)).foldl insM T).map tKW)] := by
      generalize T.map tKW = TT at e ⊢
      unfold b_tried_2
      simp_arith []
      rw [stars_map, e]
    obtain ⟨a', b', c', d', e', f', g', e2⟩ := tr_out A B ss ((B.flatMap (cand s)).foldl insM T) (some (iW s.1)) (some (iW s.2.1)) (some (iW s.2.2)) a b c d f1 (by omega)
    exact ⟨a', b', c', d', e', f', g', by simp only [List.map_cons, loopM, g, bb, e2, hc, List.foldl_append]⟩
abbrev moW (m : Mo) : W := .da (moD m)
theorem dats_mo (l : List Mo) : dats (l.map moW) = some (l.map moD) := by
  rw [show l.map moW = (l.map moD).map .da by simp [Function.comp_def], dats_da]
theorem datWs_mo (k : Nat) (S : Sto) (l : List Mo) : datWs k S (l.map moW) = some (l.map moD, S) := by
  rw [show l.map moW = (l.map moD).map .da by simp [Function.comp_def]]
  exact datWs_da k S _
theorem sortDT_mo (T : List Mo) (f : Mo → D) : sortDT [.dt (T.map kM) (T.map f)] = .ok (.lst ((sortE moD T).map moW)) := by
  unfold sortDT
  simp only
  have em : (T.map kM).mergeSort (PySem.W.dataLe false kPyT) = (sortE moD T).map kM := by
    unfold sortE
    rw [← List.map_mergeSort (r := leE moD) (f := kM) (fun a _ b _ => rfl)]
  rw [ifc_pos, em, List.map_map]
  · rfl
  · refine ⟨fun d hd d' hd' => ?_, .inl fun d hd => ?_, by simp⟩
    · rw [List.map_map] at hd hd'
      obtain ⟨a, _, rfl⟩ := List.mem_map.mp hd
      obtain ⟨b, _, rfl⟩ := List.mem_map.mp hd'
      rfl
    · rw [List.map_map] at hd
      obtain ⟨a, _, rfl⟩ := List.mem_map.mp hd
      exact ⟨_, _, rfl⟩
noncomputable def trM (A B : List Star) : List Mo := (cands A B).foldl insM []
theorem tried_eq (A B : List Star) (ha : A.length ≤ 96) (hb : B.length ≤ 96) : p_tried [starsD A, starsD B] = .ok (.lst ((sortE moD (trM A B)).map moD)) := by
  have cl := cands_len ha hb
  obtain ⟨a, b, c, d, e, f, g, h⟩ := tr_out A B A [] none none none none none none none List.nodup_nil (by simp; omega)
  change loopM _ _ _ _ _ = Out.nx _ [Cell.dt ((trM A B).map tKW)] at h
  have so := sortDT_mo (trM A B) (fun _ => .bl true)
  have d1 := dats_mo (sortE moD (trM A B))
  generalize sortE moD (trM A B) = sr at so d1 ⊢
  generalize trM A B = T at h so
  have kz : List.map ((fun x : List Key × W => x.fst) ∘ tKW) T = T.map kM := rfl
  have fz : ∀ S, datWs 4 S (List.map ((fun x : List Key × W => x.snd) ∘ tKW) T) = some (T.map (fun _ => .bl true), S) := fun S => by
    rw [show List.map ((fun x : List Key × W => x.snd) ∘ tKW) T = (T.map (fun _ => D.bl true)).map .da by simp [Function.comp_def]]
    exact datWs_da 4 S _
  unfold p_tried m_tried
  simp_arith [newDT]
  rw [stars_map, show ([Cell.dt []] : Sto) = [.dt (([] : List Mo).map tKW)] from rfl, h]
  simp_arith [fz, kz, so, d1]
/-! ### what a laying asks -/
def ledR (m : Mo) (r : Pane × Mo) : Pane × Mo := (r.1, bh r.2 m)
theorem led_ok {m : Mo} (hm : okM m) {r : Pane × Mo} (hr : RwOk r) : RwOk (ledR m r) := ⟨hr.1, ok_bh _ _⟩
theorem led_eq2 (rows : List (Pane × Mo)) (ok : ∀ r ∈ rows, RwOk r) (hl : rows.length ≤ 12) (m : Mo) (hm : okM m) : p_led [.lst (rows.map plD), moD m] = .ok (.lst ((rows.map (ledR m)).map plD)) := by
  have lc : ∀ S, lcM (gtTupT 2 (gtCons (gtName 2) (gtCons (gtName 3) gtNil))) mYes e_led_0 [some (.da (.lst (rows.map plD))), some (.da (moD m)), none, none] (rows.map plW) [] S = .ok ((rows.map (ledR m)).map plW) S := fun S => by
    refine lc_map plW plW (ledR m) (g := gtTupT 2 (gtCons (gtName 2) (gtCons (gtName 3) gtNil))) (me := e_led_0) rows (by omega) fun r hr => ⟨[some (.da (.lst (rows.map plD))), some (.da (moD m)), some (.da (plP r.1)), some (.da (moD r.2))], by simp_arith [], ?_⟩
    have e1 := behind_mo r.2 m (moD r.2) (moD m) (.inl rfl) (.inl rfl) hm
    unfold e_led_0
    simp_arith [e1]
    rfl
  have d1 := dats_pl (rows.map (ledR m))
  generalize rows.map (ledR m) = rl at lc d1 ⊢
  unfold p_led m_led mLc mkLst
  simp_arith [pl_map, wipeR, lc, d1]
/-- nothing is unlike -/
def Free (ra rb : List (Pane × Mo)) (m : Mo) : Prop := ∀ a ∈ ra, ∀ b ∈ rb, clS a (ledR m b) = none
theorem out_free (ra rb : List (Pane × Mo)) (m : Mo) : outD (sortR ra) (sortR (rb.map (ledR m))) = none ↔ Free ra rb m := by
  unfold outD inD Free
  rw [List.findSome?_eq_none_iff]
  simp only [List.findSome?_eq_none_iff, Option.map_eq_none_iff]
  constructor
  · intro h a ha b hb
    exact h a (sortE_mem.mpr ha) _ (sortE_mem.mpr (List.mem_map.mpr ⟨b, hb, rfl⟩))
  · intro h a ha b hb
    obtain ⟨c, hc, rfl⟩ := List.mem_map.mp (sortE_mem.mp hb)
    exact h a (sortE_mem.mp ha) c hc
noncomputable def lyP (ra rb : List (Pane × Mo)) (A B : List Star) (least : Int) (m : Mo) : Bool := dec (least ≤ (metN A B m : Int)) && dec (Free ra rb m)
abbrev lyR (ra rb : List (Pane × Mo)) (least : Int) (A B : List Star) (o6 : Option W) : Rho := [some (.da (.lst (ra.map plD))), some (.da (.lst (rb.map plD))), some (iW least), some (.da (starsD A)), some (.da (starsD B)), some (.lo 0), o6]
theorem ly_loop (ra rb : List (Pane × Mo)) (oa : ∀ r ∈ ra, RwOk r) (ob : ∀ r ∈ rb, RwOk r) (lb : rb.length ≤ 12) (least : Int) (A B : List Star) (nd : (A.map plc).Nodup) (al : A.length ≤ 2000) (hb : ∀ t ∈ B, 1 ≤ t.2.2) : ∀ (ms acc : List Mo) (o6 : Option W), (∀ m ∈ ms, okM m) → acc.length + ms.length ≤ 90000 →
    ∃ a, loopM (gtName 6) b_layings_0 (ms.map moW) (lyR ra rb least A B o6) [.lst (acc.map moW)] = .nx (lyR ra rb least A B a) [.lst ((acc ++ ms.filter (lyP ra rb A B least)).map moW)]
  | [], acc, o6, _, _ => ⟨o6, by simp [loopM]⟩
  | m :: ms, acc, o6, hm, hl => by
    simp only [List.length_cons] at hl
    have h0 := hm m (by simp)
    have g : gtName 6 (moW m) (lyR ra rb least A B o6) [.lst (acc.map moW)] = some (lyR ra rb least A B (some (moW m))) := rfl
    have e1 := stars_met_eq A B nd al hb m h0
    have e2 := led_eq2 rb ob lb m h0
    have e3 := unlike_eq ra (rb.map (ledR m)) oa (fun r hr => by
      obtain ⟨c, hc, rfl⟩ := List.mem_map.mp hr
      exact led_ok h0 (ob c hc))
    have of := out_free ra rb m
    generalize outD (sortR ra) (sortR (rb.map (ledR m))) = od at e3 of
    generalize (rb.map (ledR m)).map plD = RL at e2 e3
    have fin : ∀ acc', b_layings_0 (lyR ra rb least A B (some (moW m))) [.lst (acc.map moW)] = .nx (lyR ra rb least A B (some (moW m))) [.lst (acc'.map moW)] → acc'.length ≤ acc.length + 1 → acc' ++ ms.filter (lyP ra rb A B least) = acc ++ (m :: ms).filter (lyP ra rb A B least) →
        ∃ a, loopM (gtName 6) b_layings_0 ((m :: ms).map moW) (lyR ra rb least A B o6) [.lst (acc.map moW)] = .nx (lyR ra rb least A B a) [.lst ((acc ++ (m :: ms).filter (lyP ra rb A B least)).map moW)] := fun acc' b hl' he => by
      obtain ⟨a, e⟩ := ly_loop ra rb oa ob lb least A B nd al hb ms acc' (some (moW m)) (fun x hx => hm x (by simp [hx])) (by omega)
      refine ⟨a, ?_⟩
      rw [← he]
      simp only [List.map_cons, loopM, g, b, e]
    by_cases h1 : least ≤ (metN A B m : Int)
    · by_cases h2 : Free ra rb m
      · refine fin (acc ++ [m]) ?_ (by simp) (by rw [List.filter_cons, if_pos (by unfold lyP; rw [dec_pos h1, dec_pos h2]; rfl)]; simp)
        rw [of.mpr h2] at e3
        simp only [dueD] at e3
        generalize (metN A B m : Int) = k at h1 e1
        rw [List.map_append]
        unfold b_layings_0
        simp_arith [e1, dec_pos h1, e2, e3, tyM, ifc_pos (sz_lt (show acc.length < 100000 by omega))]
      · refine fin acc ?_ (by omega) (by rw [List.filter_cons, if_neg (by unfold lyP; rw [dec_pos h1, dec_neg h2]; simp)])
        obtain ⟨t, ht⟩ : ∃ t, od = some t := by
          cases q : od with
          | none => exact absurd (of.mp q) h2
          | some t => exact ⟨t, rfl⟩
        rw [ht] at e3
        simp only [dueD] at e3
        generalize (metN A B m : Int) = k at h1 e1
        unfold b_layings_0
        simp_arith [e1, dec_pos h1, e2, e3]
    · refine fin acc ?_ (by omega) (by rw [List.filter_cons, if_neg (by unfold lyP; rw [dec_neg h1]; simp)])
      generalize (metN A B m : Int) = k at h1 e1
      unfold b_layings_0
      simp_arith [e1, dec_neg h1]
/-! the law's own -/
abbrev urR (ra rb : List (Pane × Mo)) (m : Mo) (o3 o4 o5 o6 o7 : Option W) : Rho := [some (.da (.lst (ra.map rwD))), some (.da (.lst (rb.map rwD))), some (.da (moD m)), o3, o4, o5, o6, o7]
theorem ur_in (ra rb : List (Pane × Mo)) (m : Mo) (hm : okM m) (a : Pane × Mo) (ha : RwOk a) (S : Sto) : ∀ (bs : List (Pane × Mo)) (o5 o6 o7 : Option W), (∀ b ∈ bs, RwOk b) →
    ((∀ b ∈ bs, clS a (ledR m b) = none) ∧ ∃ x y z, loopM (gtTup 2 (gtCons (gtName 5) (gtCons (gtName 6) gtNil))) b_l_unlike_rows_0 (bs.map rwW) (urR ra rb m (some (.da (paneT a.1))) (some (.da (moD a.2))) o5 o6 o7) S = .nx (urR ra rb m (some (.da (paneT a.1))) (some (.da (moD a.2))) x y z) S) ∨
    ((¬ ∀ b ∈ bs, clS a (ledR m b) = none) ∧ loopM (gtTup 2 (gtCons (gtName 5) (gtCons (gtName 6) gtNil))) b_l_unlike_rows_0 (bs.map rwW) (urR ra rb m (some (.da (paneT a.1))) (some (.da (moD a.2))) o5 o6 o7) S = .rt (.da (.bl true)) S)
  | [], o5, o6, o7, _ => .inl ⟨by simp, o5, o6, o7, rfl⟩
  | b :: bs, o5, o6, o7, ok => by
    have hb := ok b (by simp)
    have g : (gtTup 2 (gtCons (gtName 5) (gtCons (gtName 6) gtNil))) (rwW b) (urR ra rb m (some (.da (paneT a.1))) (some (.da (moD a.2))) o5 o6 o7) S = some (urR ra rb m (some (.da (paneT a.1))) (some (.da (moD a.2))) (some (.da (paneT b.1))) (some (.da (moD b.2))) o7) := by
      simp_arith []
    have e1 := l_behind_mo b.2 m (moD b.2) (moD m) (.inl rfl) (.inl rfl) hm
    have e2 := l_back_mo (bh b.2 m) (moD (bh b.2 m)) (.inl rfl) (ok_bh _ _)
    have e3 := l_behind_mo a.2 (bkM (bh b.2 m)) (moD a.2) (moD (bkM (bh b.2 m))) (.inl rfl) (.inl rfl) (ok_bk (ok_bh _ _))
    have e4 := clash_eq a.1 b.1 ha.1 hb.1 (bh a.2 (bkM (bh b.2 m))) (ok_bh _ _)
    change p_l_clash_of_two _ = .ok (optZ (clS a (ledR m b))) at e4
    cases hc : clS a (ledR m b) with
    | some z =>
      rw [hc] at e4
      refine .inr ⟨(fun h => by have := h b (by simp); rw [hc] at this; cases this), ?_⟩
      have bb : b_l_unlike_rows_0 (urR ra rb m (some (.da (paneT a.1))) (some (.da (moD a.2))) (some (.da (paneT b.1))) (some (.da (moD b.2))) o7) S = .rt (.da (.bl true)) S := by
        unfold b_l_unlike_rows_0
        simp_arith [e1, e2, e3, e4, optZ]
      simp only [List.map_cons, loopM, g, bb]
    | none =>
      rw [hc] at e4
      have bb : b_l_unlike_rows_0 (urR ra rb m (some (.da (paneT a.1))) (some (.da (moD a.2))) (some (.da (paneT b.1))) (some (.da (moD b.2))) o7) S = .nx (urR ra rb m (some (.da (paneT a.1))) (some (.da (moD a.2))) (some (.da (paneT b.1))) (some (.da (moD b.2))) (some (.da (moD (bh a.2 (bkM (bh b.2 m))))))) S := by
        unfold b_l_unlike_rows_0
        simp_arith [e1, e2, e3, e4, optZ]
      rcases ur_in ra rb m hm a ha S bs (some (.da (paneT b.1))) (some (.da (moD b.2))) (some (.da (moD (bh a.2 (bkM (bh b.2 m)))))) (fun x hx => ok x (by simp [hx])) with ⟨h1, x, y, z, h2⟩ | ⟨h1, h2⟩
      · exact .inl ⟨fun c hc' => by rcases List.mem_cons.mp hc' with rfl | hc'; exact hc; exact h1 c hc', x, y, z, by simp only [List.map_cons, loopM, g, bb, h2]⟩
      · exact .inr ⟨fun h => h1 fun c hc' => h c (by simp [hc']), by simp only [List.map_cons, loopM, g, bb, h2]⟩
theorem ur_out (ra rb : List (Pane × Mo)) (ob : ∀ r ∈ rb, RwOk r) (m : Mo) (hm : okM m) (S : Sto) : ∀ (as : List (Pane × Mo)) (o3 o4 o5 o6 o7 : Option W), (∀ a ∈ as, RwOk a) →
    (Free as rb m ∧ ∃ x y z u v, loopM (gtTup 2 (gtCons (gtName 3) (gtCons (gtName 4) gtNil))) b_l_unlike_rows_1 (as.map rwW) (urR ra rb m o3 o4 o5 o6 o7) S = .nx (urR ra rb m x y z u v) S) ∨
    (¬ Free as rb m ∧ loopM (gtTup 2 (gtCons (gtName 3) (gtCons (gtName 4) gtNil))) b_l_unlike_rows_1 (as.map rwW) (urR ra rb m o3 o4 o5 o6 o7) S = .rt (.da (.bl true)) S)
  | [], o3, o4, o5, o6, o7, _ => .inl ⟨(by intro a ha; cases ha), o3, o4, o5, o6, o7, rfl⟩
  | a :: as, o3, o4, o5, o6, o7, ok => by
    have ha := ok a (by simp)
    have g : (gtTup 2 (gtCons (gtName 3) (gtCons (gtName 4) gtNil))) (rwW a) (urR ra rb m o3 o4 o5 o6 o7) S = some (urR ra rb m (some (.da (paneT a.1))) (some (.da (moD a.2))) o5 o6 o7) := by
      simp_arith []
    rcases ur_in ra rb m hm a ha S rb o5 o6 o7 ob with ⟨h1, x, y, z, h2⟩ | ⟨h1, h2⟩
    · have bb : b_l_unlike_rows_1 (urR ra rb m (some (.da (paneT a.1))) (some (.da (moD a.2))) o5 o6 o7) S = .nx (urR ra rb m (some (.da (paneT a.1))) (some (.da (moD a.2))) x y z) S := by
        unfold b_l_unlike_rows_1
        simp_arith [rw_map, h2]
      rcases ur_out ra rb ob m hm S as (some (.da (paneT a.1))) (some (.da (moD a.2))) x y z (fun x hx => ok x (by simp [hx])) with ⟨k1, x', y', z', u', v', k2⟩ | ⟨k1, k2⟩
      · exact .inl ⟨fun c hc => by rcases List.mem_cons.mp hc with rfl | hc; exact h1; exact k1 c hc, x', y', z', u', v', by simp only [List.map_cons, loopM, g, bb, k2]⟩
      · exact .inr ⟨fun h => k1 fun c hc => h c (by simp [hc]), by simp only [List.map_cons, loopM, g, bb, k2]⟩
    · refine .inr ⟨fun h => h1 (h a (by simp)), ?_⟩
      have bb : b_l_unlike_rows_1 (urR ra rb m (some (.da (paneT a.1))) (some (.da (moD a.2))) o5 o6 o7) S = .rt (.da (.bl true)) S := by
        unfold b_l_unlike_rows_1
        simp_arith [rw_map, h2]
      simp only [List.map_cons, loopM, g, bb]
theorem unlike_rows_eq (ra rb : List (Pane × Mo)) (oa : ∀ r ∈ ra, RwOk r) (ob : ∀ r ∈ rb, RwOk r) (m : Mo) (hm : okM m) : p_l_unlike_rows [.lst (ra.map rwD), .lst (rb.map rwD), moD m] = .ok (.bl (!dec (Free ra rb m))) := by
  rcases ur_out ra rb ob m hm [] ra none none none none none oa with ⟨h1, x, y, z, u, v, h2⟩ | ⟨h1, h2⟩
  · rw [dec_pos h1]
    unfold p_l_unlike_rows m_l_unlike_rows
    simp_arith [rw_map, h2]
  · rw [dec_neg h1]
    unfold p_l_unlike_rows m_l_unlike_rows
    simp_arith [rw_map, h2]
/-! ### the law's two lists of rows -/
theorem rev_d (ds : List D) (S : Sto) : revF mkD (.da (.lst ds)) S = .ok (.da (.lst ds.reverse)) S := by
  unfold revF
  simp only [lstW]
  rw [← List.map_reverse]
  simp only [mkD, datC, dats_da, Option.map]
theorem heav_more (hs : List Star) (h : HeavOk hs) (o : Star) (ho : 1 ≤ o.2.2 ∧ o.2.2 ≤ 9) : HeavOk ((hs.drop 1).filter (fun s => !dec (plc s = plc o)) ++ [o]) := by
  obtain ⟨h1, h2, h3⟩ := h
  refine ⟨?_, fun s hs' => ?_, ?_⟩
  · rw [List.length_append]
    have := List.length_filter_le (fun s => !dec (plc s = plc o)) (hs.drop 1)
    rw [List.length_drop] at this
    simp only [List.length_cons, List.length_nil]
    omega
  · rcases List.mem_append.mp hs' with hs' | hs'
    · exact h2 s (List.mem_of_mem_drop (List.mem_filter.mp hs').1)
    · simp only [List.mem_singleton] at hs'
      subst hs'
      exact ho
  · refine nodup_snoc ?_ ?_
    · exact List.Nodup.sublist (List.Sublist.map _ ((List.filter_sublist).trans (List.drop_sublist _ _))) h3
    · intro hm
      obtain ⟨s, hs', e⟩ := List.mem_map.mp hm
      have := (List.mem_filter.mp hs').2
      rw [dec_pos (show plc s = plc o from e)] at this
      cases this
theorem two_lc (o : Star) (z0 z1 z2 z3 z4 z5 z6 z7 z8 : Option W) (hs : List Star) (hl : hs.length ≤ 1000) (S : Sto) : lcM (gtName 10) t_l_two_0 e_l_two_1 [z0, z1, z2, z3, z4, z5, z6, z7, z8, some (stW o), none] (hs.map stW) [] S = .ok ((hs.filter fun s => !dec (plc s = plc o)).map stW) S := by
  refine lc_filter stW (fun s => !dec (plc s = plc o)) (g := gtName 10) (mt := t_l_two_0) (me := e_l_two_1) hs (by omega) fun s _ => ⟨[z0, z1, z2, z3, z4, z5, z6, z7, z8, some (stW o), some (stW s)], rfl, ?_, fun _ => ?_⟩
  · have ne := fun S => ne_e (a := plc s) (b := plc o) enc_pair (by omega) (lay_pair [plc s] _ (by simp)) (lay_pair [plc o] _ (by simp)) S
    have ne : ∀ S, vl2 neW (.da (.tup [.int s.1, .int s.2.1])) (.da (.tup [.int o.1, .int o.2.1])) S = .ok (.da (.bl (!dec (plc s = plc o)))) S := ne
    have s1 := fun S => sl_tup2 (.int s.1) (.int s.2.1) (.int s.2.2) S
    have s2 := fun S => sl_tup2 (.int o.1) (.int o.2.1) (.int o.2.2) S
    unfold t_l_two_0 mSl moS moN
    simp_arith [s1, s2, ne]
  · unfold e_l_two_1
    simp_arith []
structure Rows (rows : List (Pane × Mo)) : Prop where
  ok : ∀ r ∈ rows, RwOk r
  fit : Fit rows
  len : rows.length ≤ 12
theorem two_ok (ns : List Int) (hn : ns.length ≤ 63) : ∃ (ra rb : List (Pane × Mo)) (m : Mo), Rows ra ∧ Rows rb ∧ okM m ∧ p_l_two [.scr (ns.map .int)] = .ok (.tup [.lst (ra.map rwD), .lst (rb.map rwD), moD m]) := by
  obtain ⟨row, hr, ed⟩ := draws_ok ns 0 18 (by decide) (by decide) (by decide) (by decide) (by omega)
  obtain ⟨re, hre, ee⟩ := draws_ok ns 12 14 (by decide) (by decide) (by decide) (by decide) (by omega)
  have hre : Drawn 14 re := hre
  obtain ⟨nms, n1, n2, nok, nnd, en⟩ := names_ok row hr
  obtain ⟨hs, hh, eh⟩ := heaven_ok ns hn
  obtain ⟨x0, b0, e0⟩ := at_row hre 0 (by decide) (by decide)
  obtain ⟨x1, b1, e1⟩ := at_row hre (0 + 1) (by decide) (by decide)
  obtain ⟨x2, b2, e2⟩ := at_row hre (0 + 2) (by decide) (by decide)
  obtain ⟨x3, b3, e3⟩ := at_row hre (0 + 3) (by decide) (by decide)
  obtain ⟨x4, b4, e4⟩ := at_row hre (0 + 4) (by decide) (by decide)
  obtain ⟨x5, b5, e5⟩ := at_row hre 5 (by decide) (by decide)
  obtain ⟨x6, b6, e6⟩ := at_row hre (5 + 1) (by decide) (by decide)
  obtain ⟨x7, b7, e7⟩ := at_row hre (5 + 2) (by decide) (by decide)
  obtain ⟨x8, b8, e8⟩ := at_row hre (5 + 3) (by decide) (by decide)
  obtain ⟨x9, b9, e9⟩ := at_row hre (5 + 4) (by decide) (by decide)
  obtain ⟨x10, b10, e10⟩ := at_row hre 10 (by decide) (by decide)
  obtain ⟨x11, b11, e11⟩ := at_row hre 11 (by decide) (by decide)
  obtain ⟨x12, b12, e12⟩ := at_row hre 12 (by decide) (by decide)
  obtain ⟨x13, b13, e13⟩ := at_row hre 13 (by decide) (by decide)
  have mm : (re.map D.int).map W.da = re.map (W.da ∘ D.int) := by rw [List.map_map]
  obtain ⟨ml, hml, eml⟩ := l_motion_at x0 x1 x2 x3 x4 (re.map .int) 0 (by rw [mm]; exact e0) (by rw [mm]; exact e1) (by rw [mm]; exact e2) (by rw [mm]; exact e3) (by rw [mm]; exact e4) b1 b2 b3 b4
  obtain ⟨mr, hmr, emr⟩ := l_motion_at x5 x6 x7 x8 x9 (re.map .int) 5 (by rw [mm]; exact e5) (by rw [mm]; exact e6) (by rw [mm]; exact e7) (by rw [mm]; exact e8) (by rw [mm]; exact e9) b6 b7 b8 b9
  obtain ⟨k, hk⟩ : ∃ k : Nat, x10 % 4 = (k : Int) := ⟨(x10 % 4).toNat, by omega⟩
  obtain ⟨j, hj⟩ : ∃ j : Nat, x12 % 4 = (j : Int) := ⟨(x12 % 4).toNat, by omega⟩
  have st := fun S => sl_to (nms.map .str) k S
  have st2 := fun S => sl_to (nms.reverse.map .str) j S
  have rv := fun S => rev_d (nms.map .str) S
  rw [← List.map_take] at st st2
  rw [← List.map_reverse] at rv
  obtain ⟨pa, a1, a2, ea⟩ := panes_ok ns hn 2 (by decide) (by decide) (nms.take k) (fun s hs => nok s (List.mem_of_mem_take hs)) (by rw [List.length_take]; omega) hs hh ml hml
  obtain ⟨b, hb⟩ : ∃ b, b = dec (x11 % 4 = 1) := ⟨_, rfl⟩
  obtain ⟨o, ho⟩ : ∃ o : Star, o = (x13 % 5 - 2, 1, 9) := ⟨_, rfl⟩
  obtain ⟨hs', hhs'⟩ : ∃ hs', hs' = (hs.drop 1).filter (fun s => !dec (plc s = plc o)) := ⟨_, rfl⟩
  have hh2 : HeavOk (cond b (hs' ++ [o]) hs) := by
    cases b
    · exact hh
    · rw [hhs']; exact heav_more hs hh o (by rw [ho]; exact ⟨(show (1 : Int) ≤ 9 by decide), (show (9 : Int) ≤ 9 by decide)⟩)
  obtain ⟨pb, c1, c2, eb⟩ := panes_ok ns hn 6 (by decide) (by decide) (nms.reverse.take j) (fun s hs => nok s (List.mem_reverse.mp (List.mem_of_mem_take hs))) (by rw [List.length_take, List.length_reverse]; omega) _ hh2 mr hmr
  have la : pa.length ≤ 12 := by
    have := congrArg List.length a1
    rw [List.length_map, List.length_take] at this
    omega
  have lb : pb.length ≤ 12 := by
    have := congrArg List.length c1
    rw [List.length_map, List.length_take, List.length_reverse] at this
    omega
  obtain ⟨ra, f1, s1, g1⟩ := fitting_ok pa a2 (by omega)
  obtain ⟨rb, f2, s2, g2⟩ := fitting_ok pb c2 (by omega)
  refine ⟨ra, rb, bh (bkM mr) ml, ⟨fun r hr => a2 r (s1.subset hr), f1, Nat.le_trans s1.length_le la⟩, ⟨fun r hr => c2 r (s2.subset hr), f2, Nat.le_trans s2.length_le lb⟩, ok_bh _ _, ?_⟩
  have bk := l_back_mo mr (moD mr) (.inl rfl) hmr
  have be := l_behind_mo (bkM mr) ml (moD (bkM mr)) (moD ml) (.inl rfl) (.inl rfl) hml
  have sf : ∀ S, slF mkD (.da (starsD hs)) (some 1) none S = .ok (.da (starsD (hs.drop 1))) S := fun S => by
    have := sl_from (hs.map stD) 1 S
    rw [← List.map_drop] at this
    exact this
  have hl := hh.1
  have lc := fun z0 z1 z2 z3 z4 z5 z6 z7 z8 S => two_lc o z0 z1 z2 z3 z4 z5 z6 z7 z8 (hs.drop 1) (by rw [List.length_drop]; omega) S
  rw [← hhs'] at lc
  have hl' : hs'.length ≤ 8 := by
    rw [hhs']
    refine Nat.le_trans (List.length_filter_le _ _) ?_
    rw [List.length_drop]; omega
  have al : ∀ S, addD (.da (.lst (hs'.map stD))) (.da (.lst [stD o])) S = .ok (.da (starsD (hs' ++ [o]))) S := fun S => by
    rw [add_ll _ _ _ (Nat.le_trans (show _ ≤ 100 by simp; omega) (by rw [sizeLine_eq]; decide))]
    simp [starsD]
  have sm1 : ∀ l : List Star, List.map (W.da ∘ stD) l = l.map stW := fun _ => rfl
  have dst := dats_stars hs'
  have mi : List.map (W.da ∘ D.int) re = re.map (W.da ∘ D.int) := rfl
  generalize nms.reverse = nmr at st2 rv eb
  generalize nms.take k = nt at st ea
  generalize nmr.take j = nt2 at st2 eb
  cases b with
  | false =>
    simp only [cond] at eb
    unfold p_l_two m_l_two mSl moS moN mRev
    simp_arith [ed, ee, en, eh, eml, emr, e10, hk, st, ea, g1, e11, hb.symm, e12, hj, rv, st2, eb, g2, bk, be]
  | true =>
    simp only [cond] at eb
    subst ho
    have al : ∀ S, addD (.da (.lst (hs'.map stD))) (.da (.lst [.tup [.int (x13 % 5 - 2), .int 1, .int 9]])) S = .ok (.da (starsD (hs' ++ [(x13 % 5 - 2, 1, 9)]))) S := al
    have lc : ∀ z0 z1 z2 z3 z4 z5 z6 z7 z8 S, lcM (gtName 10) t_l_two_0 e_l_two_1 [z0, z1, z2, z3, z4, z5, z6, z7, z8, some (.da (.tup [.int (x13 % 5 - 2), .int 1, .int 9])), none] ((hs.drop 1).map stW) [] S = .ok (hs'.map stW) S := lc
    unfold p_l_two m_l_two mSl moS moN mRev mLc mkLst
    simp_arith [ed, ee, en, eh, eml, emr, e10, hk, st, ea, g1, e11, hb.symm, e13, sf, sm1, wipeR, lc, dst, al, e12, hj, rv, st2, eb, g2, bk, be]
/-! ### a star of another brightness -/
theorem sl_tup4 (a b c d e : D) (S : Sto) : slF mkD (.da (.tup [a, b, c, d, e])) none (some 4) S = .ok (.da (.tup [a, b, c, d])) S := by
  unfold slF slV
  simp only [lstW, tupW, List.map_cons, List.map_nil, List.length_cons, List.length_nil]
  rw [if_neg (by intro h; revert h; decide)]
  have : cutL [W.da a, W.da b, W.da c, W.da d, W.da e] none (some 4) = [.da a, .da b, .da c, .da d] := cut_to [W.da a, W.da b, W.da c, W.da d, W.da e] 4
  simp only [this, mkD, datC, dats, Option.map]
theorem add5 (a b c d e : D) (S : Sto) : addD (.da (.tup [a, b, c, d])) (.da (.tup [e])) S = .ok (.da (.tup [a, b, c, d, e])) S := add_tt a e [b, c, d] [] S (by rw [sizeLine_eq]; show 3 + 0 + 2 ≤ 16777216; decide)
noncomputable def newSs (p : Pane) (s : Star) (b : Int) : List Star := sortE stD (p.ss.filter (fun t => !dec (t = s)) ++ [(s.1, s.2.1, b)])
noncomputable def newP (p : Pane) (s : Star) (b : Int) : Pane := ⟨p.n, p.w, p.h, p.l, newSs p s b⟩
theorem newP_ok {p : Pane} (hp : p.ok) {s : Star} (hs : s ∈ p.ss) {b : Int} (h1 : p.l ≤ b) (h2 : b ≤ 9) : (newP p s b).ok := by
  obtain ⟨k1, ⟨k2, k3, k4, k5, k6, k7⟩, k8⟩ := hp
  have hin : ∀ t, t ∈ newSs p s b ↔ (t ∈ p.ss ∧ t ≠ s) ∨ t = (s.1, s.2.1, b) := fun t => by
    unfold newSs
    rw [sortE_mem, List.mem_append, List.mem_filter]
    simp only [List.mem_singleton]
    constructor
    · rintro (⟨h, h'⟩ | h)
      · refine .inl ⟨h, fun z => ?_⟩
        rw [dec_pos z] at h'
        cases h'
      · exact .inr h
    · rintro (⟨h, h'⟩ | h)
      · exact .inl ⟨h, by rw [dec_neg h']; rfl⟩
      · exact .inr h
  refine ⟨k1, ⟨k2, k3, k4, ?_, fun t ht => ?_, ?_⟩, sortE_idem _⟩
  · show (newSs p s b).length ≤ 8
    unfold newSs
    rw [sortE_len, List.length_append]
    have : (p.ss.filter (fun t => !dec (t = s))).length < p.ss.length := by
      rw [List.length_filter_lt_length_iff_exists]
      exact ⟨s, hs, by rw [dec_pos rfl]; simp⟩
    simp only [List.length_cons, List.length_nil]
    omega
  · rcases (hin t).mp ht with ⟨h, _⟩ | rfl
    · exact k6 t h
    · have := k6 s hs
      exact ⟨this.1, this.2.1, h1, h2⟩
  · show ((newSs p s b).map plc).Nodup
    unfold newSs
    refine ((sortE_is _).map plc).nodup_iff.mpr (nodup_snoc ?_ ?_)
    · exact List.Nodup.sublist (List.Sublist.map _ List.filter_sublist) k7
    · intro hm
      obtain ⟨t, ht, e⟩ := List.mem_map.mp hm
      obtain ⟨ht1, ht2⟩ := List.mem_filter.mp ht
      have hne : t ≠ s := fun z => by rw [dec_pos z] at ht2; cases ht2
      refine hne ?_
      have a1 := (starAt_iff k7 (plc t) t.2.2).mpr ht1
      have a2 := (starAt_iff k7 (plc s) s.2.2).mpr hs
      have e : plc t = plc s := e
      rw [e, a2] at a1
      have e3 : s.2.2 = t.2.2 := Option.some.inj a1
      have e1 : t.1 = s.1 := congrArg (fun p : Int × Int => p.1) e
      have e2 : t.2.1 = s.2.1 := congrArg (fun p : Int × Int => p.2) e
      exact Prod.ext e1 (Prod.ext e2 e3.symm)
abbrev scR (rows : List (Pane × Mo)) (k : Int) (o2 o3 o4 o5 o6 o7 o8 : Option W) : Rho := [some (.da (.lst (rows.map rwD))), some (iW k), o2, o3, o4, o5, o6, o7, o8, none]
theorem ch_lc (rows : List (Pane × Mo)) (k : Int) (o2 o3 o4 o6 o7 o8 : Option W) (s : Star) (ss : List Star) (hl : ss.length ≤ 1000) (S : Sto) : lcM (gtName 9) t_l_star_changed_0 e_l_star_changed_1 (scR rows k o2 o3 o4 (some (stW s)) o6 o7 o8) (ss.map stW) [] S = .ok ((ss.filter fun t => !dec (t = s)).map stW) S := by
  refine lc_filter stW (fun t => !dec (t = s)) (g := gtName 9) (mt := t_l_star_changed_0) (me := e_l_star_changed_1) ss (by omega) fun t _ => ⟨[some (.da (.lst (rows.map rwD))), some (iW k), o2, o3, o4, some (stW s), o6, o7, o8, some (stW t)], rfl, ?_, fun _ => ?_⟩
  · have ne := fun S => ne_e (a := t) (b := s) enc_star (by omega) (lay_star [t] _ (by simp)) (lay_star [s] _ (by simp)) S
    unfold t_l_star_changed_0
    simp_arith [ne]
  · unfold e_l_star_changed_1
    simp_arith []
theorem sc_body (rows : List (Pane × Mo)) (hR : Rows rows) (k : Int) (i : Nat) (r : Pane × Mo) (hi : rows[i]? = some r) (o3 o4 o5 o6 o7 o8 : Option W) :
    (∃ a b c d e f, b_l_star_changed_2 (scR rows k (some (iW i)) o3 o4 o5 o6 o7 o8) [] = .nx (scR rows k (some (iW i)) a b c d e f) []) ∨
    ∃ rows' : List (Pane × Mo), Rows rows' ∧ b_l_star_changed_2 (scR rows k (some (iW i)) o3 o4 o5 o6 o7 o8) [] = .rt (.da (.lst (rows'.map rwD))) [] := by
  have hr := hR.ok r (List.mem_of_getElem? hi)
  have hl := hR.len
  have hil : i < rows.length := (List.getElem?_eq_some_iff.mp hi).1
  have ei : atI (rows.map (W.da ∘ rwD)) (i : Int) = some (rwW r) := by
    rw [atI_lit, List.getElem?_map, hi]; rfl
  by_cases hs : r.1.ss = []
  · refine .inl ⟨some (.da (paneT r.1)), some (.da (moD r.2)), o5, o6, o7, o8, ?_⟩
    have e4 : atI [W.da (.str r.1.n), iW r.1.w, iW r.1.h, iW r.1.l, .da (.tup (r.1.ss.map stD))] 4 = some (.da (.tup [])) := by rw [hs]; rfl
    unfold b_l_star_changed_2
    simp_arith [ei, hs]
  · obtain ⟨_, ⟨_, _, l1, l8, sok, nd⟩, _⟩ := hr.1
    have hlen : 0 < r.1.ss.length := List.length_pos_iff.mpr hs
    have hp : (0 : Int) < (r.1.ss.length : Int) := by omega
    obtain ⟨s, hsm, es⟩ := at_list (W.da ∘ stD) r.1.ss (k % r.1.ss.length) (Int.emod_nonneg _ (by omega)) (Int.emod_lt_of_pos _ hp)
    have es : atI (r.1.ss.map stW) (k % r.1.ss.length) = some (stW s) := es
    have md := fun S => mod_ok k (r.1.ss.length : Int) S hp
    have hb := sok s hsm
    obtain ⟨b, hbb⟩ : ∃ b, b = r.1.l + (s.2.2 - r.1.l + 1) % (10 - r.1.l) := ⟨_, rfl⟩
    have md2 := fun S => mod_ok (s.2.2 - r.1.l + 1) (10 - r.1.l) S (by omega)
    have a5 := Int.emod_nonneg (s.2.2 - r.1.l + 1) (show 10 - r.1.l ≠ 0 by omega)
    have a6 := Int.emod_lt_of_pos (s.2.2 - r.1.l + 1) (show 0 < 10 - r.1.l by omega)
    have nok := newP_ok hr.1 hsm (b := b) (by omega) (by omega)
    have lc := fun o6 o7 o8 S => ch_lc rows k (some (iW i)) (some (.da (paneT r.1))) (some (.da (moD r.2))) o6 o7 o8 s r.1.ss (by omega) S
    obtain ⟨F, hF⟩ : ∃ F, F = r.1.ss.filter (fun t => !dec (t = s)) := ⟨_, rfl⟩
    rw [← hF] at lc
    have fl : F.length ≤ 8 := by rw [hF]; exact Nat.le_trans (List.length_filter_le _ _) l8
    have dF := dats_stars F
    have s2 := fun S => sl_tup2 (.int s.1) (.int s.2.1) (.int s.2.2) S
    have a3 := fun S => add3 (.int s.1) (.int s.2.1) (.int b) S
    have al : ∀ S, addD (.da (.lst (F.map stD))) (.da (.lst [.tup [.int s.1, .int s.2.1, .int b]])) S = .ok (.da (.lst ((F ++ [(s.1, s.2.1, b)]).map stD))) S := fun S => by
      rw [add_ll _ _ _ (Nat.le_trans (show _ ≤ 100 by simp; omega) (by rw [sizeLine_eq]; decide))]
      simp
    have so := fun S => sortC_ok enc_star (by omega) sk_star (lay_star (F ++ [(s.1, s.2.1, b)])) (lstW_da S (F ++ [(s.1, s.2.1, b)]))
    have hns : sortE stD (F ++ [(s.1, s.2.1, b)]) = newSs r.1 s b := by rw [hF]; rfl
    rw [hns] at so
    have d1 := dats_stars (newSs r.1 s b)
    have s4 := fun S => sl_tup4 (.str r.1.n) (.int r.1.w) (.int r.1.h) (.int r.1.l) (.tup (r.1.ss.map stD)) S
    have a55 := fun S => add5 (.str r.1.n) (.int r.1.w) (.int r.1.h) (.int r.1.l) (.tup ((newSs r.1 s b).map stD)) S
    have tk := fun S => sl_to (rows.map rwD) i S
    have dr := fun S => sl_from (rows.map rwD) (i + 1) S
    rw [← List.map_take] at tk
    rw [← List.map_drop] at dr
    have ec : ((i : Int) + 1) = ((i + 1 : Nat) : Int) := by omega
    obtain ⟨made, hmade⟩ : ∃ made, made = rows.take i ++ [(newP r.1 s b, r.2)] ++ rows.drop (i + 1) := ⟨_, rfl⟩
    have mlen : made.length = rows.length := by
      rw [hmade]
      simp only [List.length_append, List.length_take, List.length_cons, List.length_nil, List.length_drop]
      omega
    have mok : ∀ x ∈ made, RwOk x := fun x hx => by
      rw [hmade] at hx
      rcases List.mem_append.mp hx with hx | hx
      · rcases List.mem_append.mp hx with hx | hx
        · exact hR.ok x (List.mem_of_mem_take hx)
        · simp only [List.mem_singleton] at hx; subst hx; exact ⟨nok, hr.2⟩
      · exact hR.ok x (List.mem_of_mem_drop hx)
    have c1 : ∀ S, addD (.da (.lst ((rows.take i).map rwD))) (.da (.lst [.tup [.tup [.str r.1.n, .int r.1.w, .int r.1.h, .int r.1.l, .tup ((newSs r.1 s b).map stD)], moD r.2]])) S = .ok (.da (.lst ((rows.take i ++ [(newP r.1 s b, r.2)]).map rwD))) S := fun S => by
      rw [add_ll _ _ _ (Nat.le_trans (show _ ≤ 100 by simp [List.length_take]; omega) (by rw [sizeLine_eq]; decide))]
      simp [newP]
    have c2 : ∀ S, addD (.da (.lst ((rows.take i ++ [(newP r.1 s b, r.2)]).map rwD))) (.da (.lst ((rows.drop (i + 1)).map rwD))) S = .ok (.da (.lst (made.map rwD))) S := fun S => by
      rw [add_ll _ _ _ (Nat.le_trans (show _ ≤ 100 by simp [List.length_take]; omega) (by rw [sizeLine_eq]; decide)), ← List.map_append, ← hmade]
    obtain ⟨ks, f1, f2, f3⟩ := fitting_ok made mok (by omega)
    have sm1 : List.map (W.da ∘ stD) r.1.ss = r.1.ss.map stW := rfl
    have sm2 : List.map (W.da ∘ stD) (newSs r.1 s b) = (newSs r.1 s b).map stW := rfl
    generalize newSs r.1 s b = NS at so d1 a55 c1 sm2
    generalize (rows.take i).map rwD = TK at tk c1
    generalize (rows.drop (i + 1)).map rwD = DR at dr c2
    generalize (rows.take i ++ [(newP r.1 s b, r.2)]).map rwD = MM at c1 c2
    generalize F ++ [(s.1, s.2.1, b)] = FN at al so
    have emp : (r.1.ss.map stD).isEmpty = false := by cases q : r.1.ss with | nil => exact absurd q hs | cons _ _ => rfl
    by_cases hc : ks.length = rows.length
    · right
      have hks : ks = made := f2.eq_of_length (by omega)
      refine ⟨made, ⟨mok, by rw [← hks]; exact f1, by omega⟩, ?_⟩
      have hc' : (ks.length : Int) = (rows.length : Int) := by omega
      unfold b_l_star_changed_2 mSl moS moN mLc mkLst
      simp_arith [ei, emp, md, es, md2, ← hbb, sm1, wipeR, lc, dF, s2, a3, al, so, d1, tk, s4, tupleF, sm2, a55, c1, ec, dr, c2, f3, dec_pos hc']
    · left
      have hc' : ¬ (ks.length : Int) = (rows.length : Int) := by omega
      refine ⟨some (.da (paneT r.1)), some (.da (moD r.2)), some (stW s), some (iW b), some (.da (.lst (NS.map stD))), some (.da (.lst (made.map rwD))), ?_⟩
      unfold b_l_star_changed_2 mSl moS moN mLc mkLst
      simp_arith [ei, emp, md, es, md2, ← hbb, sm1, wipeR, lc, dF, s2, a3, al, so, d1, tk, s4, tupleF, sm2, a55, c1, ec, dr, c2, f3, dec_neg hc']
theorem sc_loop (rows : List (Pane × Mo)) (hR : Rows rows) (k : Int) : ∀ (j i : Nat) (o2 o3 o4 o5 o6 o7 o8 : Option W), i + j = rows.length →
    (∃ a2 a b c d e f, loopM (gtName 2) b_l_star_changed_2 ((intsL i j).map iW) (scR rows k o2 o3 o4 o5 o6 o7 o8) [] = .nx (scR rows k a2 a b c d e f) []) ∨
    ∃ rows' : List (Pane × Mo), Rows rows' ∧ loopM (gtName 2) b_l_star_changed_2 ((intsL i j).map iW) (scR rows k o2 o3 o4 o5 o6 o7 o8) [] = .rt (.da (.lst (rows'.map rwD))) []
  | 0, i, o2, o3, o4, o5, o6, o7, o8, _ => .inl ⟨o2, o3, o4, o5, o6, o7, o8, rfl⟩
  | j + 1, i, o2, o3, o4, o5, o6, o7, o8, h => by
    have hi : i < rows.length := by omega
    have g : gtName 2 (iW i) (scR rows k o2 o3 o4 o5 o6 o7 o8) [] = some (scR rows k (some (iW i)) o3 o4 o5 o6 o7 o8) := rfl
    have ec : ((i : Int) + 1) = ((i + 1 : Nat) : Int) := by omega
    rcases sc_body rows hR k i rows[i] (List.getElem?_eq_getElem hi) o3 o4 o5 o6 o7 o8 with ⟨a, b, c, d, e, f, b1⟩ | ⟨rows', h1, b1⟩
    · rcases sc_loop rows hR k j (i + 1) (some (iW i)) a b c d e f (by omega) with ⟨a2, a', b', c', d', e', f', e1⟩ | ⟨rows', h1, e1⟩
      · exact .inl ⟨a2, a', b', c', d', e', f', by simp only [intsL, List.map_cons, loopM, g, b1, ec, e1]⟩
      · exact .inr ⟨rows', h1, by simp only [intsL, List.map_cons, loopM, g, b1, ec, e1]⟩
    · exact .inr ⟨rows', h1, by simp only [intsL, List.map_cons, loopM, g, b1]⟩
theorem changed_ok (rows : List (Pane × Mo)) (hR : Rows rows) (k : Int) : ∃ rows' : List (Pane × Mo), Rows rows' ∧ p_l_star_changed [.lst (rows.map rwD), .int k] = .ok (.lst (rows'.map rwD)) := by
  have r : rng1 [iW (rows.length : Int)] = some (0, rows.length) := by
    have := rng1_ok (rows.length : Int) (by omega) (by have := hR.len; omega)
    simpa using this
  rcases sc_loop rows hR k rows.length 0 none none none none none none none (by omega) with ⟨a2, a, b, c, d, e, f, e1⟩ | ⟨rows', h1, e1⟩
  · refine ⟨rows, hR, ?_⟩
    have e1 : loopM (gtName 2) b_l_star_changed_2 ((intsL 0 rows.length).map iW) (scR rows k none none none none none none none) [] = .nx (scR rows k a2 a b c d e f) [] := e1
    rw [← ints_map] at e1
    unfold p_l_star_changed m_l_star_changed
    simp_arith [r, e1]
  · refine ⟨rows', h1, ?_⟩
    have e1 : loopM (gtName 2) b_l_star_changed_2 ((intsL 0 rows.length).map iW) (scR rows k none none none none none none none) [] = .rt (.da (.lst (rows'.map rwD))) [] := e1
    rw [← ints_map] at e1
    unfold p_l_star_changed m_l_star_changed
    simp_arith [r, e1]
/-! ### all layings -/
theorem enc_mo3 : Enc moD 1 := enc_mo
theorem sk_mo : Sk moD := .inl fun a => ⟨_, _, rfl⟩
theorem lay_mo (l : List Mo) : Lay moD l := fun a _ => by simp [toPy, toPyL, PyData.canLay0, PyData.canLayAll0]
theorem notin_mo (m : Mo) (acc : List Mo) : vl2 notinW (.da (moD m)) (.lo 0) [.lst (acc.map moW)] = .ok (.da (.bl (!dec (m ∈ acc)))) [.lst (acc.map moW)] := by
  have h := inB_of enc_mo (by omega) (a := m) (l := acc) (lay_mo [m] m (by simp)) (lay_mo acc) (S := [.lst (acc.map moW)])
  have hd := dats_mo acc
  have e : inB (.da (moD m)) (.lo 0) [.lst (acc.map moW)] = inB (.da (moD m)) (.da (.lst (acc.map moD))) [.lst (acc.map moW)] := by
    unfold inB
    simp only [dget, dkW, dtW, List.getElem?_cons_zero, valW, hd, Option.map]
  unfold vl2 notinW
  rw [e, h]
  rfl
abbrev alR (ra rb : List (Pane × Mo)) (least : Int) (A B : List Star) (o6 o7 o8 o9 o10 o11 : Option W) : Rho := [some (.da (.lst (ra.map rwD))), some (.da (.lst (rb.map rwD))), some (iW least), some (.da (starsD A)), some (.da (starsD B)), some (.lo 0), o6, o7, o8, o9, o10, o11]
noncomputable def ifM (P : Mo → Bool) (acc : List Mo) (m : Mo) : List Mo := if P m = true then insM acc m else acc
theorem fold_ifM (P : Mo → Bool) : ∀ (l acc : List Mo), l.foldl (ifM P) acc = (l.filter P).foldl insM acc
  | [], acc => rfl
  | m :: l, acc => by
    rw [List.foldl_cons, List.filter_cons, fold_ifM P l]
    unfold ifM
    cases P m <;> simp
theorem al_body (ra rb : List (Pane × Mo)) (oa : ∀ r ∈ ra, RwOk r) (ob : ∀ r ∈ rb, RwOk r) (least : Int) (A B : List Star) (s o : Star) (t : Int) (h0 : 0 ≤ t) (h7 : t ≤ 7) (acc : List Mo) (hl : acc.length < 90000) (o9 o10 o11 : Option W) :
    b_l_all_layings_0 (alR ra rb least A B (some (stW s)) (some (stW o)) (some (iW t)) o9 o10 o11) [.lst (acc.map moW)] = .nx (alR ra rb least A B (some (stW s)) (some (stW o)) (some (iW t)) (some (moW (ldM t o s))) (some (iW (turnP t o.1 o.2.1).1)) (some (iW (turnP t o.1 o.2.1).2))) [.lst ((if o.2.2 = s.2.2 then ifM (lyP ra rb A B least) acc (ldM t o s) else acc).map moW)] := by
  have hm : okM (ldM t o s) := ⟨h0, h7⟩
  have e1 := l_turned_eq t o.1 o.2.1 h0 h7
  have ni := notin_mo (ldM t o s) acc
  have e2 := l_met_eq A B (ldM t o s) hm
  have e3 := unlike_rows_eq ra rb oa ob (ldM t o s) hm
  have ni : vl2 notinW (.da (.tup [.int t, .int (s.1 - (turnP t o.1 o.2.1).1), .int (s.2.1 - (turnP t o.1 o.2.1).2)])) (.lo 0) [.lst (acc.map moW)] = _ := ni
  have e2 : p_l_met [starsD A, starsD B, .tup [.int t, .int (s.1 - (turnP t o.1 o.2.1).1), .int (s.2.1 - (turnP t o.1 o.2.1).2)]] = _ := e2
  have e3 : p_l_unlike_rows [.lst (ra.map rwD), .lst (rb.map rwD), .tup [.int t, .int (s.1 - (turnP t o.1 o.2.1).1), .int (s.2.1 - (turnP t o.1 o.2.1).2)]] = _ := e3
  show _ = Out.nx [_, _, _, _, _, _, _, _, _, some (.da (.tup [.int t, .int (s.1 - (turnP t o.1 o.2.1).1), .int (s.2.1 - (turnP t o.1 o.2.1).2)])), _, _] _
  by_cases hb : o.2.2 = s.2.2
  · rw [if_pos hb]
    have hb' : s.2.2 = o.2.2 := hb.symm
    unfold ifM lyP insM
    by_cases hi : ldM t o s ∈ acc
    · rw [dec_pos hi] at ni
      have : (if (dec (least ≤ (metN A B (ldM t o s) : Int)) && dec (Free ra rb (ldM t o s))) = true then ifc (ldM t o s ∈ acc) acc (acc ++ [ldM t o s]) else acc) = acc := by rw [ifc_pos hi]; split <;> rfl
      rw [this]
      unfold b_l_all_layings_0
      simp_arith [e1, dec_pos hb', ni]
    · rw [dec_neg hi] at ni
      rw [ifc_neg hi]
      by_cases h1 : least ≤ (metN A B (ldM t o s) : Int)
      · rw [dec_pos h1]
        by_cases h2 : Free ra rb (ldM t o s)
        · rw [dec_pos h2] at e3 ⊢
          rw [if_pos (show (true && true) = true from rfl), List.map_append]
          generalize (metN A B (ldM t o s) : Int) = k at h1 e2
          unfold b_l_all_layings_0
          simp_arith [e1, dec_pos hb', ni, e2, dec_pos h1, e3, tyM, ifc_pos (sz_lt (show acc.length < 100000 by omega))]
          rfl
        · rw [dec_neg h2] at e3 ⊢
          rw [if_neg (by simp)]
          generalize (metN A B (ldM t o s) : Int) = k at h1 e2
          unfold b_l_all_layings_0
          simp_arith [e1, dec_pos hb', ni, e2, dec_pos h1, e3]
      · rw [dec_neg h1, if_neg (by simp)]
        generalize (metN A B (ldM t o s) : Int) = k at h1 e2
        unfold b_l_all_layings_0
        simp_arith [e1, dec_pos hb', ni, e2, dec_neg h1]
  · rw [if_neg hb]
    have hb' : ¬ s.2.2 = o.2.2 := fun z => hb z.symm
    unfold b_l_all_layings_0
    simp_arith [e1, dec_neg hb']
theorem ifM_len (P : Mo → Bool) (acc : List Mo) (m : Mo) : (ifM P acc m).length ≤ acc.length + 1 := by
  unfold ifM
  split
  · exact len_insM acc m
  · omega
theorem fold_len (P : Mo → Bool) : ∀ (l acc : List Mo), (l.foldl (ifM P) acc).length ≤ acc.length + l.length
  | [], acc => by simp
  | m :: l, acc => by
    have := fold_len P l (ifM P acc m)
    have := ifM_len P acc m
    simp only [List.foldl_cons, List.length_cons]
    omega
theorem al_in (ra rb : List (Pane × Mo)) (oa : ∀ r ∈ ra, RwOk r) (ob : ∀ r ∈ rb, RwOk r) (least : Int) (A B : List Star) (s o : Star) : ∀ (ts : List Int) (acc : List Mo) (o8 o9 o10 o11 : Option W), (∀ t ∈ ts, 0 ≤ t ∧ t ≤ 7) → acc.length + ts.length ≤ 85000 →
    ∃ a b c d, loopM (gtName 8) b_l_all_layings_0 (ts.map iW) (alR ra rb least A B (some (stW s)) (some (stW o)) o8 o9 o10 o11) [.lst (acc.map moW)] = .nx (alR ra rb least A B (some (stW s)) (some (stW o)) a b c d) [.lst ((if o.2.2 = s.2.2 then (ts.map (ldM · o s)).foldl (ifM (lyP ra rb A B least)) acc else acc).map moW)]
  | [], acc, o8, o9, o10, o11, _, _ => ⟨o8, o9, o10, o11, by simp [loopM]⟩
  | t :: ts, acc, o8, o9, o10, o11, ht, hl => by
    simp only [List.length_cons] at hl
    obtain ⟨h0, h7⟩ := ht t (by simp)
    have g : gtName 8 (iW t) (alR ra rb least A B (some (stW s)) (some (stW o)) o8 o9 o10 o11) [.lst (acc.map moW)] = some (alR ra rb least A B (some (stW s)) (some (stW o)) (some (iW t)) o9 o10 o11) := rfl
    have b := al_body ra rb oa ob least A B s o t h0 h7 acc (by omega) o9 o10 o11
    have := ifM_len (lyP ra rb A B least) acc (ldM t o s)
    by_cases hb : o.2.2 = s.2.2
    · rw [if_pos hb] at b
      obtain ⟨x, y, z, w, e⟩ := al_in ra rb oa ob least A B s o ts (ifM (lyP ra rb A B least) acc (ldM t o s)) (some (iW t)) (some (moW (ldM t o s))) (some (iW (turnP t o.1 o.2.1).1)) (some (iW (turnP t o.1 o.2.1).2)) (fun x hx => ht x (by simp [hx])) (by omega)
      rw [if_pos hb] at e ⊢
      exact ⟨x, y, z, w, by simp only [List.map_cons, loopM, g, b, e, List.foldl_cons]⟩
    · rw [if_neg hb] at b
      obtain ⟨x, y, z, w, e⟩ := al_in ra rb oa ob least A B s o ts acc (some (iW t)) (some (moW (ldM t o s))) (some (iW (turnP t o.1 o.2.1).1)) (some (iW (turnP t o.1 o.2.1).2)) (fun x hx => ht x (by simp [hx])) (by omega)
      rw [if_neg hb] at e ⊢
      exact ⟨x, y, z, w, by simp only [List.map_cons, loopM, g, b, e]⟩
theorem al_mid (ra rb : List (Pane × Mo)) (oa : ∀ r ∈ ra, RwOk r) (ob : ∀ r ∈ rb, RwOk r) (least : Int) (A B : List Star) (s : Star) : ∀ (os : List Star) (acc : List Mo) (o7 o8 o9 o10 o11 : Option W), acc.length + (os.flatMap (cand s)).length ≤ 80000 →
    ∃ a b c d e, loopM (gtName 7) b_l_all_layings_1 (os.map stW) (alR ra rb least A B (some (stW s)) o7 o8 o9 o10 o11) [.lst (acc.map moW)] = .nx (alR ra rb least A B (some (stW s)) a b c d e) [.lst (((os.flatMap (cand s)).foldl (ifM (lyP ra rb A B least)) acc).map moW)]
  | [], acc, o7, o8, o9, o10, o11, _ => ⟨o7, o8, o9, o10, o11, rfl⟩
  | o :: os, acc, o7, o8, o9, o10, o11, hl => by
    simp only [List.flatMap_cons, List.length_append] at hl
    have g : gtName 7 (stW o) (alR ra rb least A B (some (stW s)) o7 o8 o9 o10 o11) [.lst (acc.map moW)] = some (alR ra rb least A B (some (stW s)) (some (stW o)) o8 o9 o10 o11) := rfl
    obtain ⟨x, y, z, w, e⟩ := al_in ra rb oa ob least A B s o (intsL 0 8) acc o8 o9 o10 o11 (fun t ht => by rw [mem_intsL] at ht; omega) (by rw [len_intsL]; omega)
    have hc : (if o.2.2 = s.2.2 then ((intsL 0 8).map (ldM · o s)).foldl (ifM (lyP ra rb A B least)) acc else acc) = (cand s o).foldl (ifM (lyP ra rb A B least)) acc := by
      unfold cand
      split <;> rfl
    rw [hc, ← ints_map] at e
    have r : rng1 [iW 8] = some (0, 8) := rng1_ok 8 (by decide) (by decide)
    have fl := fold_len (lyP ra rb A B least) (cand s o) acc
    have bb : b_l_all_layings_1 (alR ra rb least A B (some (stW s)) (some (stW o)) o8 o9 o10 o11) [.lst (acc.map moW)] = .nx (alR ra rb least A B (some (stW s)) (some (stW o)) x y z w) [.lst (((cand s o).foldl (ifM (lyP ra rb A B least)) acc).map moW)] := by
      generalize acc.map moW = AA at e ⊢
      unfold b_l_all_layings_1
      simp_arith [r, e]
    obtain ⟨a', b', c', d', e', h⟩ := al_mid ra rb oa ob least A B s os ((cand s o).foldl (ifM (lyP ra rb A B least)) acc) (some (stW o)) x y z w (by omega)
    exact ⟨a', b', c', d', e', by simp only [List.map_cons, loopM, g, bb, h, List.flatMap_cons, List.foldl_append]⟩
theorem al_out (ra rb : List (Pane × Mo)) (oa : ∀ r ∈ ra, RwOk r) (ob : ∀ r ∈ rb, RwOk r) (least : Int) (A B : List Star) : ∀ (ss : List Star) (acc : List Mo) (o6 o7 o8 o9 o10 o11 : Option W), acc.length + (cands ss B).length ≤ 80000 →
    ∃ a b c d e f, loopM (gtName 6) b_l_all_layings_2 (ss.map stW) (alR ra rb least A B o6 o7 o8 o9 o10 o11) [.lst (acc.map moW)] = .nx (alR ra rb least A B a b c d e f) [.lst (((cands ss B).foldl (ifM (lyP ra rb A B least)) acc).map moW)]
  | [], acc, o6, o7, o8, o9, o10, o11, _ => ⟨o6, o7, o8, o9, o10, o11, rfl⟩
  | s :: ss, acc, o6, o7, o8, o9, o10, o11, hl => by
    have hc : cands (s :: ss) B = B.flatMap (cand s) ++ cands ss B := by unfold cands; rw [List.flatMap_cons]
    rw [hc, List.length_append] at hl
    have g : gtName 6 (stW s) (alR ra rb least A B o6 o7 o8 o9 o10 o11) [.lst (acc.map moW)] = some (alR ra rb least A B (some (stW s)) o7 o8 o9 o10 o11) := rfl
    obtain ⟨x, y, z, w, u, e⟩ := al_mid ra rb oa ob least A B s B acc o7 o8 o9 o10 o11 (by omega)
    have fl := fold_len (lyP ra rb A B least) (B.flatMap (cand s)) acc
    have bb : b_l_all_layings_2 (alR ra rb least A B (some (stW s)) o7 o8 o9 o10 o11) [.lst (acc.map moW)] = .nx (alR ra rb least A B (some (stW s)) x y z w u) [.lst (((B.flatMap (cand s)).foldl (ifM (lyP ra rb A B least)) acc).map moW)] := by
      generalize acc.map moW = AA at e ⊢
      unfold b_l_all_layings_2
      simp_arith []
      rw [stars_map, e]
    obtain ⟨a', b', c', d', e', f', h⟩ := al_out ra rb oa ob least A B ss ((B.flatMap (cand s)).foldl (ifM (lyP ra rb A B least)) acc) (some (stW s)) x y z w u (by omega)
    exact ⟨a', b', c', d', e', f', by simp only [List.map_cons, loopM, g, bb, h, hc, List.foldl_append]⟩
theorem l_layings_eq (ra rb : List (Pane × Mo)) (oa : ∀ r ∈ ra, RwOk r) (ob : ∀ r ∈ rb, RwOk r) (least : Int) (A B : List Star) (la : A.length ≤ 96) (lb : B.length ≤ 96) (ea : p_l_stars [.lst (ra.map rwD)] = .ok (starsD A)) (eb : p_l_stars [.lst (rb.map rwD)] = .ok (starsD B)) :
    p_l_all_layings [.lst (ra.map rwD), .lst (rb.map rwD), .int least] = .ok (.lst ((sortE moD (((cands A B).filter (lyP ra rb A B least)).foldl insM [])).map moD)) := by
  have cl := cands_len la lb
  obtain ⟨a, b, c, d, e, f, h⟩ := al_out ra rb oa ob least A B A [] none none none none none none (by simp; omega)
  rw [fold_ifM] at h
  generalize ((cands A B).filter (lyP ra rb A B least)).foldl insM [] = T at h ⊢
  have so := fun S => sortC_ok enc_mo (by omega) sk_mo (lay_mo T) (lstW_da S T)
  have d1 := dats_mo (sortE moD T)
  have fz := fun S => datWs_mo 4 S T
  generalize sortE moD T = sr at so d1 ⊢
  unfold p_l_all_layings m_l_all_layings
  simp_arith [ea, eb]
  rw [stars_map, show ([Cell.lst []] : Sto) = [.lst (([] : List Mo).map moW)] from rfl, h]
  simp_arith [fz, so, d1]
theorem sort_filter (P : Mo → Bool) (T U : List Mo) (nt : T.Nodup) (nu : U.Nodup) (h : ∀ m, m ∈ U ↔ m ∈ T ∧ P m = true) : (sortE moD T).filter P = sortE moD U := by
  have p : U.Perm ((sortE moD T).filter P) := (List.perm_ext_iff_of_nodup nu (List.Nodup.sublist List.filter_sublist ((sortE_is T).nodup_iff.mpr nt))).mpr fun m => by
    rw [List.mem_filter, sortE_mem]; exact h m
  rw [sortE_perm enc_mo p]
  exact (sortE_self (List.Pairwise.sublist List.filter_sublist (sortE_sorted T))).symm
theorem layings_ok (ra rb : List (Pane × Mo)) (hA : Rows ra) (hB : Rows rb) (least : Int) (hl : 1 ≤ least) : ∃ ms : List Mo, ms.length ≤ 90000 ∧ p_layings [.lst (ra.map plD), .lst (rb.map plD), .int least] = .ok (.lst (ms.map moD)) ∧ p_l_all_layings [.lst (ra.map rwD), .lst (rb.map rwD), .int least] = .ok (.lst (ms.map moD)) := by
  obtain ⟨F1, n1, _, m1, e1⟩ := face_ok ra hA.ok hA.fit hA.len
  obtain ⟨F2, n2, _, m2, e2⟩ := face_ok rb hB.ok hB.fit hB.len
  obtain ⟨L1, k1, l1, j1, d1⟩ := l_stars_ok ra hA.ok hA.len
  obtain ⟨L2, k2, l2, j2, d2⟩ := l_stars_ok rb hB.ok hB.len
  have ndp : ∀ {F : List Star}, (F.map plc).Nodup → F.Nodup := fun {F} n => by
    rw [List.Nodup, List.pairwise_map] at n
    exact n.imp fun h z => h (by rw [z])
  have s1 : ∀ s, s ∈ L1 ↔ s ∈ F1 := fun s => (j1 s).trans (m1 s).symm
  have s2 : ∀ s, s ∈ L2 ↔ s ∈ F2 := fun s => (j2 s).trans (m2 s).symm
  have f1 : F1.length ≤ 96 := by rw [← ((List.perm_ext_iff_of_nodup k1 (ndp n1)).mpr s1).length_eq]; exact l1
  have f2 : F2.length ≤ 96 := by rw [← ((List.perm_ext_iff_of_nodup k2 (ndp n2)).mpr s2).length_eq]; exact l2
  have et := tried_eq F1 F2 f1 f2
  obtain ⟨t1, t2, t3⟩ := fold_insM (cands F1 F2) [] List.nodup_nil
  have cl := cands_len f1 f2
  have el := l_layings_eq ra rb hA.ok hB.ok least L1 L2 l1 l2 d1 d2
  obtain ⟨u1, u2, u3⟩ := fold_insM ((cands L1 L2).filter (lyP ra rb L1 L2 least)) [] List.nodup_nil
  have hP : lyP ra rb L1 L2 least = lyP ra rb F1 F2 least := by
    funext m
    unfold lyP
    rw [met_same k2 (ndp n2) s1 s2 m]
  have sf := sort_filter (lyP ra rb F1 F2 least) (trM F1 F2) _ t1 u1 fun m => by
    unfold trM
    rw [u3 m, t3 m, List.mem_filter, mem_cands, mem_cands, hP]
    simp only [List.not_mem_nil, false_or]
    constructor
    · rintro ⟨⟨s, hs, o, ho, h⟩, hp⟩
      exact ⟨⟨s, (s1 s).mp hs, o, (s2 o).mp ho, h⟩, hp⟩
    · rintro ⟨⟨s, hs, o, ho, h⟩, hp⟩
      exact ⟨⟨s, (s1 s).mpr hs, o, (s2 o).mpr ho, h⟩, hp⟩
  have sl : (sortE moD (trM F1 F2)).length ≤ 73728 := by rw [sortE_len]; unfold trM; simp only [List.length_nil] at t2; omega
  obtain ⟨a, e⟩ := ly_loop ra rb hA.ok hB.ok hB.len least F1 F2 n1 (by omega) (fun t ht => shows_bright hB.ok ((m2 t).mp ht)) (sortE moD (trM F1 F2)) [] none (fun m hm => by
    have := sortE_mem.mp hm
    unfold trM at this
    rw [t3 m] at this
    rcases this with h | h
    · cases h
    · exact cands_ok h) (by simp; omega)
  rw [List.nil_append] at e
  refine ⟨(sortE moD (trM F1 F2)).filter (lyP ra rb F1 F2 least), Nat.le_trans (List.length_filter_le _ _) (by omega), ?_, by rw [el, sf]⟩
  generalize (sortE moD (trM F1 F2)).filter (lyP ra rb F1 F2 least) = R at e ⊢
  have fz := fun S => datWs_mo 4 S R
  generalize sortE moD (trM F1 F2) = sr at et e
  have mm : List.map (W.da ∘ moD) sr = sr.map moW := rfl
  have hn : ¬ least < 1 := by omega
  unfold p_layings m_layings
  simp_arith [dec_neg hn, e1, e2, et, mm]
  rw [show ([Cell.lst []] : Sto) = [.lst (([] : List Mo).map moW)] from rfl, e]
  unfold mFz fzW
  simp_arith [fz]
/-! ### law k21 -/
theorem layings_bad (a b : D) (least : Int) (h : least < 1) : p_layings [a, b, .int least] = .ex ⟨"BadCount", [], []⟩ := by
  unfold p_layings m_layings
  simp_arith [dec_pos h]
theorem gd_mos (ms : List Mo) (hl : ms.length ≤ 90000) : Gd 6 (.lst (ms.map moD)) := by
  refine gd_lst (by rw [List.length_map]; omega) fun x hx => ?_
  obtain ⟨m, _, rfl⟩ := List.mem_map.mp hx
  refine gd_tup (by simp) fun x hx => ?_
  simp only [List.mem_cons, List.not_mem_nil, or_false] at hx
  rcases hx with rfl | rfl | rfl <;> exact gd_flat rfl
theorem law_true : ∀ ns : List Int, ns.length ≤ 63 → p_law [.scr (ns.map .int)] = .ok (.bl true) := by
  intro ns hn
  obtain ⟨ra, rb, mt, hA, hB, hmt, et⟩ := two_ok ns hn
  obtain ⟨d, hd, ed⟩ := draws_ok ns 11 2 (by decide) (by decide) (by decide) (by decide) (by omega)
  have hd : Drawn 2 d := hd
  obtain ⟨x0, b0, e0⟩ := at_row hd 0 (by decide) (by decide)
  obtain ⟨x1, b1, e1⟩ := at_row hd 1 (by decide) (by decide)
  have p30 := fun S => pow_ok 10 30 S (by decide) (by decide) (by decide)
  simp only [Int.reducePow, Int.reduceToNat] at p30
  obtain ⟨L, hL, eL⟩ := at_list iW [1, 2, 3, 1, 2, 1, 4, 0, -1, -2, 1000000000000000000000000000000, -1000000000000000000000000000000] (x0 % 12) (by omega) (by simp; omega)
  simp only [List.map_cons, List.map_nil] at eL
  have p1 := plates_ok ra (by have := hA.len; omega) hA.ok
  have p2 := plates_ok rb (by have := hB.len; omega) hB.ok
  have k1 := kept_ok ra (by have := hA.len; omega) hA.ok
  have k2 := kept_ok rb (by have := hB.len; omega) hB.ok
  obtain ⟨rc, hC, ec⟩ := changed_ok ra hA x1
  obtain ⟨rd, hD, ecd⟩ := changed_ok rb hB (x1 / 8)
  have p3 := plates_ok rc (by have := hC.len; omega) hC.ok
  have p4 := plates_ok rd (by have := hD.len; omega) hD.ok
  by_cases h : L < 1
  · have lb := layings_bad (.lst (ra.map plD)) (.lst (rb.map plD)) L h
    have dn1 : ((("BadCount" : Str) = "BadName") = False) := eq_false (by decide +kernel)
    have dn2 : ((("BadCount" : Str) = "BadPlate") = False) := eq_false (by decide +kernel)
    have dn3 : ((("BadCount" : Str) = "GlassError") = False) := eq_false (by decide +kernel)
    have dn4 : ((("BadCount" : Str) = "Denied") = False) := eq_false (by decide +kernel)
    unfold p_law m_law mTryAs y_law_0
    simp_arith [et, ed, e0, p30, eL, p1, p2, lb, x_law_1, mIsE, outOff, dn1, dn2, dn3, dn4, k1, k2, dec_pos h]
  · obtain ⟨ms, ml, l1, l2⟩ := layings_ok ra rb hA hB L (by omega)
    obtain ⟨ms', ml', l3, l4⟩ := layings_ok rc rd hC hD L (by omega)
    have s1 := same_refl 6 (gd_mos ms ml)
    have s2 := same_refl 6 (gd_mos ms' ml')
    generalize ms.map moD = MS at l1 l2 s1
    generalize ms'.map moD = MS' at l3 l4 s2
    unfold p_law m_law mTryAs y_law_0
    simp_arith [et, ed, e0, e1, p30, eL, p1, p2, l1, k1, k2, dec_neg h, l2, s1, ec, ecd, p3, p4, l3, l4, s2]
end Ng
open PySem PySem.W PyProof.Rows
set_option maxRecDepth 100000 in
set_option maxHeartbeats 0 in
theorem PySem.Challenge.cw_nightglass_k21_whole_layings_holds : PySem.Challenge.rw_nightglass_k21_whole_layings.Holds := by
  w_on; o_law; k_head; (case hw => w_witness2)
  k_fill
  refine Ng.walk_ng (l := PySem.Challenge.rw_nightglass_k21_whole_layings) (k := 8) (x := "_law_script") (p := Ng.p_law) rfl rfl ⟨rfl, by decide, by decide⟩ (fun w h Y => PySem.W.kIn_of Y) ?F Ng.law_true
  case F =>
    intro w mg fa h KX G hmg
    refine' Ng.all_mk KX G hmg ?ka41 ?kpg41 ?khd41 ?kpo41 ?ksa41 ?kmk41 ?kkp41 ?kn41_name ?kn41_width ?kn41_height ?kn41_limit ?kn41_lights ?a7 ?l7 ?c7 ?k7 ?a8 ?l8 ?c8 ?k8 ?a9 ?l9 ?c9 ?k9 ?a10 ?l10 ?c10 ?k10 ?a11 ?l11 ?c11 ?k11 ?a12 ?l12 ?c12 ?k12 ?a13 ?l13 ?c13 ?k13 ?a17 ?l17 ?c17 ?k17 ?a18 ?l18 ?c18 ?k18 ?a19 ?l19 ?c19 ?k19 ?a20 ?l20 ?c20 ?k20 ?a21 ?l21 ?c21 ?k21 ?a23 ?l23 ?c23 ?k23 ?a14104 ?i14104 ?l14104 ?c14104 ?k_14104 ?a14102 ?i14102 ?l14102 ?c14102 ?k_14102 ?a14103 ?i14103 ?l14103 ?c14103 ?k_14103 ?a24 ?l24 ?c24 ?k24 ?a25 ?l25 ?c25 ?k25 ?a26 ?l26 ?c26 ?k26 ?a27 ?l27 ?c27 ?k27 ?a29 ?l29 ?c29 ?k29 ?a30 ?l30 ?c30 ?k30 ?a31 ?l31 ?c31 ?k31 ?a32 ?l32 ?c32 ?k32 ?a39 ?l39 ?c39 ?k39 ?a40 ?l40 ?c40 ?k40 ?a14100 ?i14100 ?l14100 ?c14100 ?k_14100 ?a14101 ?i14101 ?l14101 ?c14101 ?k_14101 ?a43 ?l43 ?c43 ?k43 ?a44 ?l44 ?c44 ?k44 ?a45 ?l45 ?c45 ?k45 ?a46 ?l46 ?c46 ?k46 ?a47 ?l47 ?c47 ?k47 ?a48 ?l48 ?c48 ?k48 ?a49 ?l49 ?c49 ?k49 ?a50 ?l50 ?c50 ?k50 ?a51 ?l51 ?c51 ?k51 ?a52 ?l52 ?c52 ?k52 ?a53 ?l53 ?c53 ?k53 ?a54 ?l54 ?c54 ?k54 ?a55 ?l55 ?c55 ?k55 ?a56 ?l56 ?c56 ?k56 ?a57 ?l57 ?c57 ?k57 ?a58 ?l58 ?c58 ?k58 ?a59 ?l59 ?c59 ?k59 ?a60 ?l60 ?c60 ?k60 ?a61 ?l61 ?c61 ?k61 ?a62 ?l62 ?c62 ?k62 ?a63 ?l63 ?c63 ?k63 ?a64 ?l64 ?c64 ?k64 ?a65 ?l65 ?c65 ?k65 ?a66 ?l66 ?c66 ?k66 ?a67 ?l67 ?c67 ?k67 ?a68 ?l68 ?c68 ?k68 ?oc_n ?oc_t ?ka1 ?kx1 ?kk1 ?kt1 ?khg1 ?khk1 ?khs1 ?khd1 ?kha1 ?khm1 ?ka2 ?kx2 ?kk2 ?kt2 ?khg2 ?khk2 ?khs2 ?khd2 ?kha2 ?khm2 ?ka3 ?kx3 ?kk3 ?kt3 ?khg3 ?khk3 ?khs3 ?khd3 ?kha3 ?khm3 ?ka4 ?kx4 ?kk4 ?kt4 ?khg4 ?khk4 ?khs4 ?khd4 ?kha4 ?khm4 ?ka5 ?kx5 ?kk5 ?kt5 ?khg5 ?khk5 ?khs5 ?khd5 ?kha5 ?khm5 ?kh_5_1 ?kh_4_1 ?kh_3_1 ?kh_2_1 ?kh_1_1 ?ki_5_BadCount ?ki_4_BadCount ?ki_3_BadCount ?ki_2_BadCount ?ki_1_BadCount ?ki_5_ValueError ?ki_4_ValueError ?ki_3_ValueError ?ki_2_ValueError ?ki_1_ValueError ?z_ValueError ?z_bool ?z_int ?z_isinstance ?z_len ?z_list ?z_max ?z_min ?z_range ?z_sorted ?z_str ?z_tuple ?y_BRIGHT_MOST ?y_LETTERS ?y_MOST ?y_NAME_MOST ?y_SIDE_MOST ?y_STARS_MOST ?y_UNSEEN ?x_UNSEEN
    (case ka41 => k_is); (case kpg41 => k_is); (case khd41 => k_is); (case kpo41 => k_is); (case ksa41 => k_is); (case kmk41 => k_is); (case kkp41 => k_is); (case kn41_name => k_is); (case kn41_width => k_is); (case kn41_height => k_is); (case kn41_limit => k_is); (case kn41_lights => k_is); (case a7 => k_is); (case l7 => k_is); (case c7 => k_is); (case k7 => k_is); (case a8 => k_is); (case l8 => k_is); (case c8 => k_is); (case k8 => k_is); (case a9 => k_is); (case l9 => k_is); (case c9 => k_is); (case k9 => k_is); (case a10 => k_is); (case l10 => k_is); (case c10 => k_is); (case k10 => k_is); (case a11 => k_is); (case l11 => k_is); (case c11 => k_is); (case k11 => k_is); (case a12 => k_is); (case l12 => k_is); (case c12 => k_is); (case k12 => k_is); (case a13 => k_is); (case l13 => k_is); (case c13 => k_is); (case k13 => k_is); (case a17 => k_is); (case l17 => k_is); (case c17 => k_is); (case k17 => k_is); (case a18 => k_is); (case l18 => k_is); (case c18 => k_is); (case k18 => k_is); (case a19 => k_is); (case l19 => k_is); (case c19 => k_is); (case k19 => k_is); (case a20 => k_is); (case l20 => k_is); (case c20 => k_is); (case k20 => k_is); (case a21 => k_is); (case l21 => k_is); (case c21 => k_is); (case k21 => k_is); (case a23 => k_is); (case l23 => k_is); (case c23 => k_is); (case k23 => k_is); (case a14104 => k_is); (case i14104 => k_is); (case l14104 => k_is); (case c14104 => k_is); (case k_14104 => k_is); (case a14102 => k_is); (case i14102 => k_is); (case l14102 => k_is); (case c14102 => k_is); (case k_14102 => k_is); (case a14103 => k_is); (case i14103 => k_is); (case l14103 => k_is); (case c14103 => k_is); (case k_14103 => k_is); (case a24 => k_is); (case l24 => k_is); (case c24 => k_is); (case k24 => k_is); (case a25 => k_is); (case l25 => k_is); (case c25 => k_is); (case k25 => k_is); (case a26 => k_is); (case l26 => k_is); (case c26 => k_is); (case k26 => k_is); (case a27 => k_is); (case l27 => k_is); (case c27 => k_is); (case k27 => k_is); (case a29 => k_is); (case l29 => k_is); (case c29 => k_is); (case k29 => k_is); (case a30 => k_is); (case l30 => k_is); (case c30 => k_is); (case k30 => k_is); (case a31 => k_is); (case l31 => k_is); (case c31 => k_is); (case k31 => k_is); (case a32 => k_is); (case l32 => k_is); (case c32 => k_is); (case k32 => k_is); (case a39 => k_is); (case l39 => k_is); (case c39 => k_is); (case k39 => k_is); (case a40 => k_is); (case l40 => k_is); (case c40 => k_is); (case k40 => k_is); (case a14100 => k_is); (case i14100 => k_is); (case l14100 => k_is); (case c14100 => k_is); (case k_14100 => k_is); (case a14101 => k_is); (case i14101 => k_is); (case l14101 => k_is); (case c14101 => k_is); (case k_14101 => k_is); (case a43 => k_is); (case l43 => k_is); (case c43 => k_is); (case k43 => k_is); (case a44 => k_is); (case l44 => k_is); (case c44 => k_is); (case k44 => k_is); (case a45 => k_is); (case l45 => k_is); (case c45 => k_is); (case k45 => k_is); (case a46 => k_is); (case l46 => k_is); (case c46 => k_is); (case k46 => k_is); (case a47 => k_is); (case l47 => k_is); (case c47 => k_is); (case k47 => k_is); (case a48 => k_is); (case l48 => k_is); (case c48 => k_is); (case k48 => k_is); (case a49 => k_is); (case l49 => k_is); (case c49 => k_is); (case k49 => k_is); (case a50 => k_is); (case l50 => k_is); (case c50 => k_is); (case k50 => k_is); (case a51 => k_is); (case l51 => k_is); (case c51 => k_is); (case k51 => k_is); (case a52 => k_is); (case l52 => k_is); (case c52 => k_is); (case k52 => k_is); (case a53 => k_is); (case l53 => k_is); (case c53 => k_is); (case k53 => k_is); (case a54 => k_is); (case l54 => k_is); (case c54 => k_is); (case k54 => k_is); (case a55 => k_is); (case l55 => k_is); (case c55 => k_is); (case k55 => k_is); (case a56 => k_is); (case l56 => k_is); (case c56 => k_is); (case k56 => k_is); (case a57 => k_is); (case l57 => k_is); (case c57 => k_is); (case k57 => k_is); (case a58 => k_is); (case l58 => k_is); (case c58 => k_is); (case k58 => k_is); (case a59 => k_is); (case l59 => k_is); (case c59 => k_is); (case k59 => k_is); (case a60 => k_is); (case l60 => k_is); (case c60 => k_is); (case k60 => k_is); (case a61 => k_is); (case l61 => k_is); (case c61 => k_is); (case k61 => k_is); (case a62 => k_is); (case l62 => k_is); (case c62 => k_is); (case k62 => k_is); (case a63 => k_is); (case l63 => k_is); (case c63 => k_is); (case k63 => k_is); (case a64 => k_is); (case l64 => k_is); (case c64 => k_is); (case k64 => k_is); (case a65 => k_is); (case l65 => k_is); (case c65 => k_is); (case k65 => k_is); (case a66 => k_is); (case l66 => k_is); (case c66 => k_is); (case k66 => k_is); (case a67 => k_is); (case l67 => k_is); (case c67 => k_is); (case k67 => k_is); (case a68 => k_is); (case l68 => k_is); (case c68 => k_is); (case k68 => k_is); (case oc_n => k_is); (case oc_t => k_is); (case ka1 => k_is); (case kx1 => k_exc); (case kk1 => k_is); (case kt1 => k_is); (case khg1 => k_is); (case khk1 => k_is); (case khs1 => k_is); (case khd1 => k_is); (case kha1 => k_is); (case khm1 => k_is); (case ka2 => k_is); (case kx2 => k_exc); (case kk2 => k_is); (case kt2 => k_is); (case khg2 => k_is); (case khk2 => k_is); (case khs2 => k_is); (case khd2 => k_is); (case kha2 => k_is); (case khm2 => k_is); (case ka3 => k_is); (case kx3 => k_exc); (case kk3 => k_is); (case kt3 => k_is); (case khg3 => k_is); (case khk3 => k_is); (case khs3 => k_is); (case khd3 => k_is); (case kha3 => k_is); (case khm3 => k_is); (case ka4 => k_is); (case kx4 => k_exc); (case kk4 => k_is); (case kt4 => k_is); (case khg4 => k_is); (case khk4 => k_is); (case khs4 => k_is); (case khd4 => k_is); (case kha4 => k_is); (case khm4 => k_is); (case ka5 => k_is); (case kx5 => k_exc); (case kk5 => k_is); (case kt5 => k_is); (case khg5 => k_is); (case khk5 => k_is); (case khs5 => k_is); (case khd5 => k_is); (case kha5 => k_is); (case khm5 => k_is); (case kh_5_1 => kts_exm); (case kh_4_1 => kts_exm); (case kh_3_1 => kts_exm); (case kh_2_1 => kts_exm); (case kh_1_1 => kts_exm); (case ki_5_BadCount => kit_is); (case ki_4_BadCount => kit_is); (case ki_3_BadCount => kit_is); (case ki_2_BadCount => kit_is); (case ki_1_BadCount => kit_is); (case ki_5_ValueError => kit_is); (case ki_4_ValueError => kit_is); (case ki_3_ValueError => kit_is); (case ki_2_ValueError => kit_is); (case ki_1_ValueError => kit_is); (case z_ValueError => k_is); (case z_bool => k_is); (case z_int => k_is); (case z_isinstance => k_is); (case z_len => k_is); (case z_list => k_is); (case z_max => k_is); (case z_min => k_is); (case z_range => k_is); (case z_sorted => k_is); (case z_str => k_is); (case z_tuple => k_is); (case y_BRIGHT_MOST => k_is); (case y_LETTERS => k_is); (case y_MOST => k_is); (case y_NAME_MOST => k_is); (case y_SIDE_MOST => k_is); (case y_STARS_MOST => k_is); (case y_UNSEEN => k_is); (case x_UNSEEN => k_is)
