import PyProof.Rows.All
import Wide.All
import OpenK.AllK
import Wide.FinOn
import HandS.ForMost
import HandS.ForExc
import HandS.Flow
import HandS.IsInst
import HandS.Conv
import HandS.Wide
import HandS.Deep
import HandS.Small
import HandS.TupAny
import HandS.Iter
import HandS.Walk
import HandS.NoneIn
import HandS.TupLen
import HandS.More
import HandS.Exc
import HandS.ExcOwn
import HandS.ExcIs
import HandS.Text
import KE.SortKeyHeap
import HandS.FStr
import HandS.RaiseMore
import KE.DataMinMax
import KE.KDictExact
import HandS.SortKw
import HandS.Style
import KE.KDictSum
import HandS.DictEq
import KE.KDictLaw
import PySem.Challenge.RW_nightglass_k14_whole_frames_of_a_web
set_option Elab.async false
set_option linter.all false
set_option maxRecDepth 100000
set_option maxHeartbeats 4000000
/-! The simulation layer (second making): plain data D, cells, and what it means that a heap bears them. -/
namespace Ng
open PySem L2

/-- tests that nothing computes -/
noncomputable def ifc {a : Type} (c : Prop) (x y : a) : a := @ite a c (Classical.propDecidable c) x y
noncomputable def dec (c : Prop) : Bool := @decide c (Classical.propDecidable c)
theorem ifc_pos {a : Type} {c : Prop} {x y : a} (h : c) : ifc c x y = x := by unfold ifc; exact if_pos h
theorem ifc_neg {a : Type} {c : Prop} {x y : a} (h : ¬ c) : ifc c x y = y := by unfold ifc; exact if_neg h
theorem ifc_true {a : Type} {x y : a} : ifc True x y = x := ifc_pos trivial
theorem ifc_false {a : Type} {x y : a} : ifc False x y = y := ifc_neg (fun h => h)
theorem dec_true : dec True = true := by unfold dec; simp
theorem dec_false : dec False = false := by unfold dec; simp
theorem dec_pos {c : Prop} (h : c) : dec c = true := by unfold dec; simp [h]
theorem dec_neg {c : Prop} (h : ¬ c) : dec c = false := by unfold dec; simp [h]
theorem dec_eq (c : Prop) [i : Decidable c] : dec c = decide c := by
  by_cases h : c
  · rw [dec_pos h, decide_eq_true h]
  · rw [dec_neg h, decide_eq_false h]
theorem ifc_some {a : Type} {c : Prop} {x : a} {y : a} (h : ifc c (some x) none = some y) : c ∧ x = y := by
  by_cases e : c
  · rw [ifc_pos e] at h; cases h; exact ⟨e, rfl⟩
  · rw [ifc_neg e] at h; cases h
theorem ifc_cases {a : Type} {c : Prop} {x y : a} {P : a → Prop} (h : P (ifc c x y)) : (c ∧ P x) ∨ (¬ c ∧ P y) := by
  by_cases e : c
  · rw [ifc_pos e] at h; exact .inl ⟨e, h⟩
  · rw [ifc_neg e] at h; exact .inr ⟨e, h⟩

/-- plain data, frozen -/
inductive D where
  | non | bl (b : Bool) | int (i : Int) | str (x : Str)
  | tup (ds : List D) | wt (ds : List D) | lst (ds : List D) | scr (ds : List D)
  | dk (ks : List Key) (ds : List D) | dt (ks : List (List Key)) (ds : List D)
  | obj (c : Str) (fs : List Str) (ds : List D)

/-- what a slot holds: data, or the place of a cell -/
inductive W where
  | da (d : D) | lo (n : Nat) | xc

/-- a cell: a thing that may be changed -/
inductive Cell where
  | lst (ws : List W) | tup (ws : List W) | dk (kws : List (Key × W)) | dt (kws : List (List Key × W))
  | ins (c : Str) (fws : List (Str × W)) | dead

abbrev Rho := List (Option W)
abbrev Sto := List Cell

structure Exn where
  c : Str
  fs : List Str
  ws : List W

inductive Rs (a : Type) where
  | ok (x : a) (S : Sto) | ex (x : Exn) (S : Sto) | stuck
def Rs.bind {a b : Type} (r : Rs a) (f : a → Sto → Rs b) : Rs b := match r with
  | .ok x S => f x S
  | .ex x S => .ex x S
  | .stuck => .stuck
/-- what a plain function gives -/
inductive Re (a : Type) where
  | ok (x : a) | ex (x : Exn) | stuck
inductive Out where
  | nx (r : Rho) (s : Sto) | rt (w : W) (s : Sto) | bk (r : Rho) (s : Sto) | ct (r : Rho) (s : Sto) | ex (x : Exn) (r : Rho) (s : Sto) | stuck
abbrev ME := Rho → Sto → Rs W
abbrev MA := Rho → Sto → Rs (List W)
abbrev MT := Rho → Sto → Rs Bool
abbrev MS := Rho → Sto → Out

/-! ### heaps that grow -/
def Ex (H H' : Hp) : Prop := ∀ b o, H b = some o → H' b = some o
theorem Ex.refl (H : Hp) : Ex H H := fun _ _ h => h
theorem Ex.trans {A B C : Hp} (x : Ex A B) (y : Ex B C) : Ex A C := fun b o h => y b o (x b o h)
theorem Ex.no {F H : Hp} (x : Ex F H) {p : Addr} (h : H p = none) : F p = none := by
  cases e : F p with
  | none => rfl
  | some o => rw [x p o e] at h; cases h
theorem Ex.put {F H : Hp} {p : Addr} {o : HO} (x : Ex F H) (h : H p = some o) : Ex F (upd F p o) := fun b u e => by
  by_cases z : b = p
  · subst z; rw [x b u e] at h; cases h; exact upd_same
  · rw [upd_ne z]; exact e
theorem Ex.new {H : Hp} {p : Addr} {o : HO} (h : H p = none) : Ex H (upd H p o) := fun a u e => by
  rw [upd_ne (ne_of_none e h)]
  exact e
theorem Rd.xt {F H : Hp} (x : Ex F H) {a : Addr} {o : HO} (h : Rd F a o) : Rd H a o := by
  rcases h with h | ⟨u, h⟩
  · exact .inl (x a o h)
  · exact .inr ⟨u, x a _ h⟩
theorem sqL_xt {K : PySem.W.Frag} {F H : Hp} (x : Ex F H) {a : Addr} {vs : List V} (h : SqL K F a vs) : SqL K H a vs := h.imp (Rd.xt x) id
theorem sqT_xt {K : PySem.W.Frag} {F H : Hp} (x : Ex F H) {a : Addr} {vs : List V} (h : SqT K F a vs) : SqT K H a vs := h.imp (Rd.xt x) id

/-! ### what a heap bears -/
section
variable (K : PySem.W.Frag) (cl : Str → Option Addr) (F : Hp)
mutual
def Rp : D → V → Prop
  | .non, v => v = .non
  | .bl b, v => v = .bl b
  | .int i, v => v = .int i
  | .str x, v => v = .str x
  | .tup ds, v => ∃ a vs, v = .ref a ∧ F a = some (.tup vs) ∧ RpL ds vs
  | .wt ds, v => ∃ a vs, v = .ref a ∧ SqT K F a vs ∧ RpL ds vs
  | .lst ds, v => ∃ a vs, v = .ref a ∧ F a = some (.lst vs) ∧ RpL ds vs
  | .scr ds, v => ∃ a vs, v = .ref a ∧ SqL K F a vs ∧ RpL ds vs
  | .dk ks ds, v => ∃ a vs, v = .ref a ∧ (∃ o, F a = some (.frz o (.dK (ks.zip vs)))) ∧ ks.length = vs.length ∧ RpL ds vs
  | .dt ks ds, v => ∃ a vs, v = .ref a ∧ (∃ o, F a = some (.frz o (.dT (ks.zip vs)))) ∧ ks.length = vs.length ∧ RpL ds vs
  | .obj c fs ds, v => ∃ a C dx vs, v = .ref a ∧ cl c = some C ∧ F a = some (.ins C dx (fs.zip vs)) ∧ fs.length = vs.length ∧ RpL ds vs
def RpL : List D → List V → Prop
  | [], vs => vs = []
  | d :: ds, vs => ∃ v r, vs = v :: r ∧ Rp d v ∧ RpL ds r
end
end
section
variable {K : PySem.W.Frag} {cl : Str → Option Addr} {F H : Hp}
mutual
theorem Rp.xt (x : Ex F H) : ∀ (d : D) (v : V), Rp K cl F d v → Rp K cl H d v
  | .non, v, h => h
  | .bl b, v, h => h
  | .int i, v, h => h
  | .str s, v, h => h
  | .tup ds, v, h => by
    obtain ⟨a, vs, e, q, r⟩ := h
    exact ⟨a, vs, e, x a _ q, RpL.xt x ds vs r⟩
  | .wt ds, v, h => by
    obtain ⟨a, vs, e, q, r⟩ := h
    exact ⟨a, vs, e, sqT_xt x q, RpL.xt x ds vs r⟩
  | .lst ds, v, h => by
    obtain ⟨a, vs, e, q, r⟩ := h
    exact ⟨a, vs, e, x a _ q, RpL.xt x ds vs r⟩
  | .scr ds, v, h => by
    obtain ⟨a, vs, e, q, r⟩ := h
    exact ⟨a, vs, e, sqL_xt x q, RpL.xt x ds vs r⟩
  | .dk ks ds, v, h => by
    obtain ⟨a, vs, e, ⟨o, q⟩, l, r⟩ := h
    exact ⟨a, vs, e, ⟨o, x a _ q⟩, l, RpL.xt x ds vs r⟩
  | .dt ks ds, v, h => by
    obtain ⟨a, vs, e, ⟨o, q⟩, l, r⟩ := h
    exact ⟨a, vs, e, ⟨o, x a _ q⟩, l, RpL.xt x ds vs r⟩
  | .obj c fs ds, v, h => by
    obtain ⟨a, C, dx, vs, e, q, l, n, r⟩ := h
    exact ⟨a, C, dx, vs, e, q, x a _ l, n, RpL.xt x ds vs r⟩
theorem RpL.xt (x : Ex F H) : ∀ (ds : List D) (vs : List V), RpL K cl F ds vs → RpL K cl H ds vs
  | [], vs, h => h
  | d :: ds, vs, h => by
    obtain ⟨v, r, e, q, t⟩ := h
    exact ⟨v, r, e, Rp.xt x d v q, RpL.xt x ds r t⟩
end
theorem RpL.length : ∀ {ds : List D} {vs : List V}, RpL K cl F ds vs → ds.length = vs.length
  | [], vs, h => by cases (show vs = [] from h); rfl
  | d :: ds, vs, h => by
    obtain ⟨v, r, e, q, t⟩ := h
    subst e
    simp [RpL.length t]
theorem RpL.get : ∀ {ds : List D} {vs : List V} {i : Nat} {d : D}, RpL K cl F ds vs → ds[i]? = some d → ∃ v, vs[i]? = some v ∧ Rp K cl F d v
  | [], _, _, _, _, e => by simp at e
  | d :: ds, vs, 0, _, h, e => by
    obtain ⟨v, r, rfl, q, t⟩ := h
    simp at e
    subst e
    exact ⟨v, rfl, q⟩
  | d :: ds, vs, i + 1, _, h, e => by
    obtain ⟨v, r, rfl, q, t⟩ := h
    obtain ⟨u, e1, e2⟩ := RpL.get (i := i) t (by simpa using e)
    exact ⟨u, by simpa using e1, e2⟩
theorem RpL.append : ∀ {ds es : List D} {vs us : List V}, RpL K cl F ds vs → RpL K cl F es us → RpL K cl F (ds ++ es) (vs ++ us)
  | [], _, vs, _, h, k => by cases (show vs = [] from h); exact k
  | d :: ds, _, vs, _, h, k => by
    obtain ⟨v, r, rfl, q, t⟩ := h
    exact ⟨v, _, rfl, q, RpL.append t k⟩
theorem RpL.of_get : ∀ {ds : List D} {vs : List V}, ds.length = vs.length → (∀ (i : Nat) (d : D) (v : V), ds[i]? = some d → vs[i]? = some v → Rp K cl F d v) → RpL K cl F ds vs
  | [], [], _, _ => rfl
  | [], _ :: _, h, _ => by simp at h
  | _ :: _, [], h, _ => by simp at h
  | d :: ds, v :: vs, h, k => ⟨v, vs, rfl, k 0 d v rfl rfl, RpL.of_get (by simpa using h) fun i a b e1 e2 => k (i + 1) a b (by simpa using e1) (by simpa using e2)⟩
end

/-- the heap's side: what is frozen, the heap, the cells' places -/
structure Y where
  F : Hp
  H : Hp
  m : List Addr
/-- things may be frozen and cells made -/
structure Gr (y z : Y) : Prop where
  f : Ex y.F z.F
  m : y.m <+: z.m
theorem Gr.refl (y : Y) : Gr y y := ⟨Ex.refl _, List.prefix_refl _⟩
theorem Gr.trans {a b c : Y} (x : Gr a b) (y : Gr b c) : Gr a c := ⟨x.f.trans y.f, x.m.trans y.m⟩

/-- a slot's value -/
def RW (K : PySem.W.Frag) (cl : Str → Option Addr) (y : Y) : W → V → Prop
  | .da d, v => Rp K cl y.F d v
  | .lo n, v => ∃ a, y.m[n]? = some a ∧ v = .ref a
  | .xc, _ => False
abbrev RWL (K : PySem.W.Frag) (cl : Str → Option Addr) (y : Y) (ws : List W) (vs : List V) : Prop := Paired (RW K cl y) ws vs
abbrev RWP {κ : Type} (K : PySem.W.Frag) (cl : Str → Option Addr) (y : Y) (kws : List (κ × W)) (kvs : List (κ × V)) : Prop := Paired (fun p q => p.1 = q.1 ∧ RW K cl y p.2 q.2) kws kvs
theorem pre_get {ms ms' : List Addr} {n : Nat} {a : Addr} (p : ms <+: ms') (e : ms[n]? = some a) : ms'[n]? = some a := by
  obtain ⟨t, rfl⟩ := p
  rw [List.getElem?_append_left (List.getElem?_eq_some_iff.mp e).1]; exact e
theorem RW.grow {K : PySem.W.Frag} {cl : Str → Option Addr} {y z : Y} (g : Gr y z) : ∀ {w : W} {v : V}, RW K cl y w v → RW K cl z w v
  | .da d, v, h => Rp.xt g.f d v h
  | .lo n, v, h => by
    obtain ⟨a, e, rfl⟩ := h
    exact ⟨a, pre_get g.m e, rfl⟩
  | .xc, _, h => h.elim
theorem RWL.grow {K : PySem.W.Frag} {cl : Str → Option Addr} {y z : Y} (g : Gr y z) {ws : List W} {vs : List V} (h : RWL K cl y ws vs) : RWL K cl z ws vs :=
  Paired.mapP h fun _ _ q => q.grow g
theorem RWP.grow {κ : Type} {K : PySem.W.Frag} {cl : Str → Option Addr} {y z : Y} (g : Gr y z) {ws : List (κ × W)} {vs : List (κ × V)} (h : RWP K cl y ws vs) : RWP K cl z ws vs :=
  Paired.mapP h fun _ _ q => ⟨q.1, q.2.grow g⟩

def CellR (K : PySem.W.Frag) (cl : Str → Option Addr) (y : Y) (a : Addr) : Cell → Prop
  | .lst ws => ∃ vs, y.H a = some (.lst vs) ∧ RWL K cl y ws vs
  | .tup ws => ∃ vs, y.H a = some (.tup vs) ∧ RWL K cl y ws vs
  | .dk kws => ∃ kvs, y.H a = some (.dK kvs) ∧ RWP K cl y kws kvs
  | .dt kws => ∃ kvs, y.H a = some (.dT kvs) ∧ RWP K cl y kws kvs
  | .ins c fws => ∃ C dx fvs, cl c = some C ∧ y.H a = some (.ins C dx fvs) ∧ RWP K cl y fws fvs
  | .dead => True
theorem CellR.there {K : PySem.W.Frag} {cl : Str → Option Addr} {y : Y} {a : Addr} : ∀ {c : Cell}, c ≠ .dead → CellR K cl y a c → ∃ o, y.H a = some o
  | .lst _, _, ⟨_, e, _⟩ => ⟨_, e⟩
  | .tup _, _, ⟨_, e, _⟩ => ⟨_, e⟩
  | .dk _, _, ⟨_, e, _⟩ => ⟨_, e⟩
  | .dt _, _, ⟨_, e, _⟩ => ⟨_, e⟩
  | .ins _ _, _, ⟨_, _, _, _, e, _⟩ => ⟨_, e⟩
  | .dead, h, _ => absurd rfl h
theorem CellR.grow {K : PySem.W.Frag} {cl : Str → Option Addr} {y z : Y} {a : Addr} (g : Gr y z) (e : ∀ o, y.H a = some o → z.H a = some o) : ∀ {c : Cell}, CellR K cl y a c → CellR K cl z a c
  | .lst _, ⟨vs, h, r⟩ => ⟨vs, e _ h, RWL.grow g r⟩
  | .tup _, ⟨vs, h, r⟩ => ⟨vs, e _ h, RWL.grow g r⟩
  | .dk _, ⟨vs, h, r⟩ => ⟨vs, e _ h, RWP.grow g r⟩
  | .dt _, ⟨vs, h, r⟩ => ⟨vs, e _ h, RWP.grow g r⟩
  | .ins _ _, ⟨C, dx, vs, k, h, r⟩ => ⟨C, dx, vs, k, e _ h, RWP.grow g r⟩
  | .dead, _ => trivial

/-- a tuple: it never changes -/
def IsT (o : HO) : Prop := ∃ xs, o = .tup xs
theorem CellR.tup_of {K : PySem.W.Frag} {cl : Str → Option Addr} {y : Y} {a : Addr} {o : HO} (h : y.H a = some o) (t : IsT o) : ∀ {c : Cell}, c ≠ .dead → CellR K cl y a c → ∃ ws, c = .tup ws
  | .tup ws, _, _ => ⟨ws, rfl⟩
  | .lst _, _, ⟨_, e, _⟩ => by obtain ⟨xs, rfl⟩ := t; rw [h] at e; cases e
  | .dk _, _, ⟨_, e, _⟩ => by obtain ⟨xs, rfl⟩ := t; rw [h] at e; cases e
  | .dt _, _, ⟨_, e, _⟩ => by obtain ⟨xs, rfl⟩ := t; rw [h] at e; cases e
  | .ins _ _, _, ⟨_, _, _, _, e, _⟩ => by obtain ⟨xs, rfl⟩ := t; rw [h] at e; cases e
  | .dead, hd, _ => absurd rfl hd

/-- the heap bears the store -/
structure Bs (K : PySem.W.Frag) (cl : Str → Option Addr) (y : Y) (S : Sto) : Prop where
  fz : Ex y.F y.H
  len : y.m.length = S.length
  nd : y.m.Nodup
  has : ∀ a ∈ y.m, y.H a ≠ none
  cell : ∀ (n : Nat) (c : Cell), S[n]? = some c → c ≠ .dead → ∃ a, y.m[n]? = some a ∧ (y.F a = none ∨ ∃ ws, c = .tup ws) ∧ CellR K cl y a c

/-- what stood at the entry -/
structure Cn where
  H0 : Hp
  F0 : Hp
  m0 : List Addr
structure Fm (C : Cn) (y : Y) : Prop where
  hf : Ex C.F0 y.F
  keep : ∀ b o, C.H0 b = some o → b ∉ C.m0 → y.H b = some o
  dom : ∀ b, y.H b = none → C.H0 b = none
  newF : ∀ b o, y.F b = some o → C.F0 b = some o ∨ C.H0 b = none ∨ b ∈ C.m0 ∨ IsT o
  newC : ∀ a ∈ y.m, a ∈ C.m0 ∨ C.H0 a = none
  pre : C.m0 <+: y.m
def Y.cn (y : Y) : Cn := ⟨y.H, y.F, y.m⟩
/-- behind a part that ran by itself -/
theorem Fm.trans {C : Cn} {y z : Y} (a : Fm C y) (b : Fm y.cn z) : Fm C z := by
  have nm : ∀ c o, C.H0 c = some o → c ∉ C.m0 → c ∉ y.m := fun c o e n h => by
    rcases a.newC c h with q | q
    · exact n q
    · rw [q] at e; cases e
  refine ⟨a.hf.trans b.hf, fun c o e n => ?_, fun c e => a.dom c (b.dom c e), fun c o e => ?_, fun c h => ?_, a.pre.trans b.pre⟩
  · exact b.keep c o (a.keep c o e n) (nm c o e n)
  · rcases b.newF c o e with q | q | q | q
    · exact a.newF c o q
    · exact .inr (.inl (a.dom c q))
    · rcases a.newC c q with z | z
      · exact .inr (.inr (.inl z))
      · exact .inr (.inl z)
    · exact .inr (.inr (.inr q))
  · rcases b.newC c h with q | q
    · exact a.newC c q
    · exact .inr (a.dom c q)
theorem Fm.gr {y z : Y} (b : Fm y.cn z) : Gr y z := ⟨b.hf, b.pre⟩
theorem Fm.start (y : Y) : Fm y.cn y := ⟨Ex.refl _, fun _ _ e _ => e, fun _ e => e, fun _ _ e => .inl e, fun _ h => .inl h, List.prefix_refl _⟩
/-- what a slot holds: also the error that a suite has caught -/
def RS (K : PySem.W.Frag) (cl : Str → Option Addr) (y : Y) (xa : Option (Nat × Addr)) (i : Nat) : W → V → Prop
  | .da d, v => Rp K cl y.F d v
  | .lo n, v => ∃ a, y.m[n]? = some a ∧ v = .ref a
  | .xc, v => ∃ a, xa = some (i, a) ∧ v = .ref a
theorem RW.rs {K : PySem.W.Frag} {cl : Str → Option Addr} {y : Y} {xa : Option (Nat × Addr)} {i : Nat} : ∀ {w : W} {v : V}, RW K cl y w v → RS K cl y xa i w v
  | .da _, _, h => h
  | .lo _, _, h => h
  | .xc, _, h => h.elim
theorem RS.grow {K : PySem.W.Frag} {cl : Str → Option Addr} {y z : Y} {xa : Option (Nat × Addr)} {i : Nat} (g : Gr y z) : ∀ {w : W} {v : V}, RS K cl y xa i w v → RS K cl z xa i w v
  | .da d, v, h => RW.grow (K := K) (cl := cl) (w := .da d) g h
  | .lo n, v, h => RW.grow (K := K) (cl := cl) (w := .lo n) g h
  | .xc, _, h => h
structure Sim (K : PySem.W.Frag) (cl : Str → Option Addr) (xa : Option (Nat × Addr)) (C : Cn) (y : Y) (σ : St) (ρ : Rho) (S : Sto) : Prop where
  bs : Bs K cl y S
  fm : Fm C y
  len : σ.length = ρ.length
  slot : ∀ (i : Nat) (w : W), ρ[i]? = some (some w) → ∃ v, σ[i]? = some (some v) ∧ RS K cl y xa i w v

/-- new frozen things alone -/
structure Al (F H F' H' : Hp) : Prop where
  f : Ex F F'
  h : Ex H H'
  x : Ex F' H'
  n : ∀ b o, F' b = some o → F b = some o ∨ H b = none ∨ IsT o
theorem Al.refl {F H : Hp} (x : Ex F H) : Al F H F H := ⟨Ex.refl _, Ex.refl _, x, fun _ _ e => .inl e⟩
theorem Al.trans {F H F' H' G I : Hp} (a : Al F H F' H') (b : Al F' H' G I) : Al F H G I :=
  ⟨a.f.trans b.f, a.h.trans b.h, b.x, fun c o e => by
    rcases b.n c o e with z | z | z
    · exact a.n c o z
    · refine .inr (.inl ?_)
      cases q : H c with
      | none => rfl
      | some u => rw [a.h c u q] at z; cases z
    · exact .inr (.inr z)⟩
theorem Al.new {F H : Hp} {p : Addr} {o : HO} (x : Ex F H) (h : H p = none) : Al F H (upd F p o) (upd H p o) :=
  ⟨Ex.new (x.no h), Ex.new h, fun b u e => by
    by_cases z : b = p
    · subst z; rw [upd_same] at e ⊢; exact e
    · rw [upd_ne z] at e ⊢; exact x b u e, fun b u e => by
    by_cases z : b = p
    · subst z; exact .inr (.inl h)
    · rw [upd_ne z] at e; exact .inl e⟩
/-- an old tuple is taken in -/
theorem Al.tup {F H : Hp} {p : Addr} {xs : List V} (x : Ex F H) (h : H p = some (.tup xs)) : Al F H (upd F p (.tup xs)) H :=
  ⟨fun b u e => by
    by_cases z : b = p
    · subst z; rw [x b u e] at h; cases h; exact upd_same
    · rw [upd_ne z]; exact e, Ex.refl _, fun b u e => by
    by_cases z : b = p
    · subst z; rw [upd_same] at e; cases e; exact h
    · rw [upd_ne z] at e; exact x b u e, fun b u e => by
    by_cases z : b = p
    · subst z; rw [upd_same] at e; cases e; exact .inr (.inr ⟨xs, rfl⟩)
    · rw [upd_ne z] at e; exact .inl e⟩
/-- a new thing that is not frozen -/
theorem Al.own {F H : Hp} {p : Addr} {o : HO} (x : Ex F H) (h : H p = none) : Al F H F (upd H p o) :=
  ⟨Ex.refl _, Ex.new h, x.trans (Ex.new h), fun b u e => .inl e⟩
theorem Al.gr {y : Y} {F' H' : Hp} (a : Al y.F y.H F' H') : Gr y ⟨F', H', y.m⟩ := ⟨a.f, List.prefix_refl _⟩

section
variable {K : PySem.W.Frag} {cl : Str → Option Addr} {xa : Option (Nat × Addr)} {C : Cn} {F' H' : Hp} {y z : Y} {σ : St} {ρ : Rho} {S S' : Sto}
theorem Bs.al (b : Bs K cl y S) (a : Al y.F y.H F' H') : Bs K cl ⟨F', H', y.m⟩ S :=
  ⟨a.x, b.len, b.nd, (fun q hq e => b.has q hq (by
    cases z : y.H q with
    | none => rfl
    | some u => rw [show (⟨F', H', y.m⟩ : Y).H q = some u from a.h q u z] at e; cases e)), fun n c e d => by
    obtain ⟨q, e1, e2, e3⟩ := b.cell n c e d
    refine ⟨q, e1, ?_, CellR.grow a.gr (fun o z => a.h q o z) e3⟩
    show F' q = none ∨ _
    rcases e2 with e2 | e2
    · cases z : F' q with
      | none => exact .inl rfl
      | some o =>
        obtain ⟨u, hu⟩ := CellR.there d e3
        rcases a.n q o z with t | t | t
        · rw [e2] at t; cases t
        · rw [hu] at t; cases t
        · have := a.h q u hu
          rw [a.x q o z] at this
          cases this
          exact .inr (CellR.tup_of hu t d e3)
    · exact .inr e2⟩
theorem Fm.al (f : Fm C y) (a : Al y.F y.H F' H') : Fm C ⟨F', H', y.m⟩ :=
  ⟨f.hf.trans a.f, fun b o e n => a.h b o (f.keep b o e n), (fun b e => f.dom b (by
    cases q : y.H b with
    | none => rfl
    | some u => rw [show (⟨F', H', y.m⟩ : Y).H b = some u from a.h b u q] at e; cases e)),
   (fun b o e => by
    rcases a.n b o e with z | z | z
    · exact f.newF b o z
    · exact .inr (.inl (f.dom b z))
    · exact .inr (.inr (.inr z))), f.newC, f.pre⟩
theorem Sim.al (s : Sim K cl xa C y σ ρ S) (a : Al y.F y.H F' H') : Sim K cl xa C ⟨F', H', y.m⟩ σ ρ S :=
  ⟨s.bs.al a, s.fm.al a, s.len, fun i w e => by
    obtain ⟨v, h1, h2⟩ := s.slot i w e
    exact ⟨v, h1, h2.grow a.gr⟩⟩
/-- a part that ran by itself -/
theorem Sim.after (s : Sim K cl xa C y σ ρ S) (b : Bs K cl z S') (f : Fm y.cn z) : Sim K cl xa C z σ ρ S' :=
  ⟨b, s.fm.trans f, s.len, fun i w e => by
    obtain ⟨v, h1, h2⟩ := s.slot i w e
    exact ⟨v, h1, h2.grow f.gr⟩⟩
theorem Bs.rebase (b : Bs K cl y S) (len : σ.length = ρ.length) (slot : ∀ (i : Nat) (w : W), ρ[i]? = some (some w) → ∃ v, σ[i]? = some (some v) ∧ RS K cl y xa i w v) : Sim K cl xa y.cn y σ ρ S := ⟨b, Fm.start y, len, slot⟩
theorem Sim.rebase (s : Sim K cl xa C y σ ρ S) : Sim K cl xa y.cn y σ ρ S := ⟨s.bs, Fm.start y, s.len, s.slot⟩
end

/-! ### exceptions -/
def XR (K : PySem.W.Frag) (cl : Str → Option Addr) (y : Y) (x : Exn) (cls : Value) (dd : Option Addr) : Prop :=
  ∃ C, cl x.c = some C ∧ cls = .ref C ∧ ((x.fs = [] ∧ dd = none) ∨ (x.fs ≠ [] ∧ ∃ d vs, dd = some d ∧ y.F d = some (.xd (x.fs.zip vs)) ∧ x.fs.length = vs.length ∧ RWL K cl y x.ws vs))
theorem XR.grow {K : PySem.W.Frag} {cl : Str → Option Addr} {y z : Y} {x : Exn} {cls : Value} {dd : Option Addr} (g : Gr y z) (h : XR K cl y x cls dd) : XR K cl z x cls dd := by
  obtain ⟨C, h1, h2, h3⟩ := h
  refine ⟨C, h1, h2, h3.imp id ?_⟩
  rintro ⟨h4, d, vs, h5, h6, h7, h8⟩
  exact ⟨h4, d, vs, h5, g.f d _ h6, h7, RWL.grow g h8⟩

/-! ### the judgements over readings -/
def Post {a : Type} (K : PySem.W.Frag) (cl : Str → Option Addr) (xa : Option (Nat × Addr)) (C : Cn) (Wx : WX) (y : Y) (σ : St) (ρ : Rho) (r : Rs a) (P : a → Sto → Prop) : Prop := match r with
  | .ok w S => P w S
  | .ex x S => ∀ cls dd z, Sim K cl xa C z σ ρ S → Gr y z → XR K cl z x cls dd → Wx cls dd σ z.H
  | .stuck => False
section
variable {a b : Type} {K : PySem.W.Frag} {cl : Str → Option Addr} {xa : Option (Nat × Addr)} {C : Cn} {Wx : WX} {y z : Y} {σ : St} {ρ : Rho} {r : Rs a} {P P' : a → Sto → Prop}
theorem Post.bind {k : a → Sto → Rs b} {P : b → Sto → Prop} (h : Post K cl xa C Wx y σ ρ (r.bind k) P) : Post K cl xa C Wx y σ ρ r (fun w S => Post K cl xa C Wx y σ ρ (k w S) P) := by
  cases r <;> exact h
theorem Post.imp (h : Post K cl xa C Wx y σ ρ r P) (k : ∀ w S, P w S → P' w S) : Post K cl xa C Wx y σ ρ r P' := by
  cases r with
  | ok w S => exact k w S h
  | ex x S => exact h
  | stuck => exact h
theorem Post.mono (x : Gr y z) (h : Post K cl xa C Wx y σ ρ r P) : Post K cl xa C Wx z σ ρ r P := by
  cases r with
  | ok w S => exact h
  | ex e S => exact fun cls dd z2 s g q => h cls dd z2 s (x.trans g) q
  | stuck => exact h
/-- on: with what is known behind -/
theorem Post.go {k : a → Sto → Rs b} {P : b → Sto → Prop} (h : Post K cl xa C Wx y σ ρ (r.bind k) P) (f : ∀ w S, (∀ z, Gr y z → Post K cl xa C Wx z σ ρ (k w S) P) → P' w S) : Post K cl xa C Wx y σ ρ r P' :=
  Post.imp (Post.bind h) fun w S q => f w S fun _ g => q.mono g
end
abbrev OkE (K : PySem.W.Frag) (cl : Str → Option Addr) (xa : Option (Nat × Addr)) (C : Cn) (y : Y) (σ : St) (ρ : Rho) (Q : VK) : W → Sto → Prop := fun w S => ∀ v z, Sim K cl xa C z σ ρ S → Gr y z → RW K cl z w v → Q v z.H
abbrev OkA (K : PySem.W.Frag) (cl : Str → Option Addr) (xa : Option (Nat × Addr)) (C : Cn) (y : Y) (σ : St) (ρ : Rho) (Q : List V → Hp → Prop) : List W → Sto → Prop := fun ws S => ∀ vs z, Sim K cl xa C z σ ρ S → Gr y z → RWL K cl z ws vs → Q vs z.H
abbrev OkT (K : PySem.W.Frag) (cl : Str → Option Addr) (xa : Option (Nat × Addr)) (C : Cn) (y : Y) (σ : St) (ρ : Rho) (Q : Bool → Hp → Prop) : Bool → Sto → Prop := fun b S => ∀ z, Sim K cl xa C z σ ρ S → Gr y z → Q b z.H
def SE (K : PySem.W.Frag) (cl : Str → Option Addr) (xa : Option (Nat × Addr)) (Wx : WX) (te : TE) (m : ME) : Prop := ∀ C y σ ρ S, Sim K cl xa C y σ ρ S → ∀ Q, Post K cl xa C Wx y σ ρ (m ρ S) (OkE K cl xa C y σ ρ Q) → te σ y.H Q
def SA (K : PySem.W.Frag) (cl : Str → Option Addr) (xa : Option (Nat × Addr)) (Wx : WX) (ta : TA) (m : MA) : Prop := ∀ C y σ ρ S, Sim K cl xa C y σ ρ S → ∀ Q, Post K cl xa C Wx y σ ρ (m ρ S) (OkA K cl xa C y σ ρ Q) → ta σ y.H Q
def ST (K : PySem.W.Frag) (cl : Str → Option Addr) (xa : Option (Nat × Addr)) (Wx : WX) (tt : TT) (m : MT) : Prop := ∀ C y σ ρ S, Sim K cl xa C y σ ρ S → ∀ Q, Post K cl xa C Wx y σ ρ (m ρ S) (OkT K cl xa C y σ ρ Q) → tt σ y.H Q
def PostS (K : PySem.W.Frag) (cl : Str → Option Addr) (xa : Option (Nat × Addr)) (C : Cn) (Wx : WX) (y : Y) (r : Out) (Z : Ends) : Prop := match r with
  | .nx ρ S => ∀ σ' z, Sim K cl xa C z σ' ρ S → Gr y z → Z.nx σ' z.H
  | .rt w S => ∀ v σ' ρ' z, Sim K cl xa C z σ' ρ' S → Gr y z → RW K cl z w v → Z.rt v z.H
  | .bk ρ S => ∀ σ' z, Sim K cl xa C z σ' ρ S → Gr y z → Z.bk σ' z.H
  | .ct ρ S => ∀ σ' z, Sim K cl xa C z σ' ρ S → Gr y z → Z.ct σ' z.H
  | .ex x ρ S => ∀ cls dd σ' z, Sim K cl xa C z σ' ρ S → Gr y z → XR K cl z x cls dd → Wx cls dd σ' z.H
  | .stuck => False
theorem PostS.mono {K : PySem.W.Frag} {cl : Str → Option Addr} {xa : Option (Nat × Addr)} {C : Cn} {Wx : WX} {y z : Y} {r : Out} {Z : Ends} (x : Gr y z) (h : PostS K cl xa C Wx y r Z) : PostS K cl xa C Wx z r Z := by
  cases r with
  | nx ρ S => exact fun a b c d => h a b c (x.trans d)
  | rt w S => exact fun v a r b c d e => h v a r b c (x.trans d) e
  | bk ρ S => exact fun a b c d => h a b c (x.trans d)
  | ct ρ S => exact fun a b c d => h a b c (x.trans d)
  | ex e ρ S => exact fun c1 c2 a b c d k => h c1 c2 a b c (x.trans d) k
  | stuck => exact h
def Rs.out {a : Type} (r : Rs a) (ρ : Rho) (k : a → Sto → Out) : Out := match r with
  | .ok w S => k w S
  | .ex x S => .ex x ρ S
  | .stuck => .stuck
theorem PostS.go {a : Type} {K : PySem.W.Frag} {cl : Str → Option Addr} {xa : Option (Nat × Addr)} {C : Cn} {Wx : WX} {y : Y} {σ : St} {ρ : Rho} {r : Rs a} {k : a → Sto → Out} {Z : Ends} {P : a → Sto → Prop}
    (h : PostS K cl xa C Wx y (r.out ρ k) Z) (f : ∀ w S, (∀ z, Gr y z → PostS K cl xa C Wx z (k w S) Z) → P w S) : Post K cl xa C Wx y σ ρ r P := by
  cases r with
  | ok w S => exact f w S fun z x => PostS.mono x h
  | ex x S => exact fun cls dd z s g q => h cls dd σ z s g q
  | stuck => exact h
def SS (K : PySem.W.Frag) (cl : Str → Option Addr) (xa : Option (Nat × Addr)) (Wx : WX) (ts : TS) (m : MS) : Prop := ∀ C y σ ρ S, Sim K cl xa C y σ ρ S → ∀ Z, PostS K cl xa C Wx y (m ρ S) Z → ts Z σ y.H

/-! ### fused: a piece of syntax and its plain meaning -/
def QE (X : Cx) (cl : Str → Option Addr) (xa : Option (Nat × Addr)) (Wx : WX) (e : Expr) (m : ME) : Prop := ∃ te, PE X e te ∧ SE X.K cl xa Wx te m
def QA (X : Cx) (cl : Str → Option Addr) (xa : Option (Nat × Addr)) (Wx : WX) (es : List Expr) (m : MA) : Prop := ∃ ta, PA X es ta ∧ SA X.K cl xa Wx ta m
def QT (X : Cx) (cl : Str → Option Addr) (xa : Option (Nat × Addr)) (Wx : WX) (e : Expr) (m : MT) : Prop := ∃ tt, PT X e tt ∧ ST X.K cl xa Wx tt m
def QW (X : Cx) (cl : Str → Option Addr) (xa : Option (Nat × Addr)) (Wx : WX) (e : Expr) (m : MT) : Prop := ∃ tt, PW X e tt ∧ ST X.K cl xa Wx tt m
def QS (X : Cx) (cl : Str → Option Addr) (xa : Option (Nat × Addr)) (Wx : WX) (st : Stmt) (m : MS) : Prop := ∃ ts, PS X st ts ∧ SS X.K cl xa Wx ts m
def QB (X : Cx) (cl : Str → Option Addr) (xa : Option (Nat × Addr)) (Wx : WX) (st : List Stmt) (m : MS) : Prop := ∃ ts, PSs X st ts ∧ SS X.K cl xa Wx ts m

/-! ### cells made, changed, frozen -/
section
variable {K : PySem.W.Frag} {cl : Str → Option Addr} {xa : Option (Nat × Addr)} {C : Cn} {y : Y} {σ : St} {ρ : Rho} {S : Sto}
theorem nd_ix {ms : List Addr} (h : ms.Nodup) {i j : Nat} {a : Addr} (e1 : ms[i]? = some a) (e2 : ms[j]? = some a) : i = j := by
  obtain ⟨h1, q1⟩ := List.getElem?_eq_some_iff.mp e1
  obtain ⟨h2, q2⟩ := List.getElem?_eq_some_iff.mp e2
  exact (List.getElem_inj h).mp (q1.trans q2.symm)
def Y.new (y : Y) (p : Addr) (o : HO) : Y := ⟨y.F, upd y.H p o, y.m ++ [p]⟩
def Y.up (y : Y) (p : Addr) (o : HO) : Y := ⟨y.F, upd y.H p o, y.m⟩
def Y.fz (y : Y) (p : Addr) (o : HO) : Y := ⟨upd y.F p o, y.H, y.m⟩
theorem Y.gr_new (y : Y) (p : Addr) (o : HO) : Gr y (y.new p o) := ⟨Ex.refl _, List.prefix_append _ _⟩
theorem Sim.newCell (s : Sim K cl xa C y σ ρ S) {p : Addr} {o : HO} {c : Cell} (hp : y.H p = none) (hc : CellR K cl (y.new p o) p c) : Sim K cl xa C (y.new p o) σ ρ (S ++ [c]) := by
  have ne : ∀ a ∈ y.m, a ≠ p := fun a ha e => s.bs.has a ha (by rw [e]; exact hp)
  have ex : Ex y.H (upd y.H p o) := Ex.new hp
  have g := y.gr_new p o
  refine ⟨⟨s.bs.fz.trans ex, by simp [Y.new, s.bs.len], ?_, ?_, ?_⟩, ⟨s.fm.hf, fun b u e n => ex b u (s.fm.keep b u e n), fun b e => ?_, s.fm.newF, fun a ha => ?_, s.fm.pre.trans g.m⟩, s.len, fun i w e => ?_⟩
  · show (y.m ++ [p]).Nodup
    rw [List.nodup_append]
    exact ⟨s.bs.nd, by simp, fun a ha b hb => by simp at hb; subst hb; exact ne a ha⟩
  · intro a ha
    show upd y.H p o a ≠ none
    rcases List.mem_append.mp ha with h | h
    · rw [upd_ne (ne a h)]; exact s.bs.has a h
    · simp at h; subst h; rw [upd_same]; simp
  · intro n c' e d
    by_cases hn : n < S.length
    · rw [List.getElem?_append_left hn] at e
      obtain ⟨a, e1, e2, e3⟩ := s.bs.cell n c' e d
      exact ⟨a, pre_get g.m e1, e2, CellR.grow g (fun u z => ex a u z) e3⟩
    · have hl : n = S.length := by
        have := (List.getElem?_eq_some_iff.mp e).1
        simp at this; omega
      subst hl
      rw [List.getElem?_append_right (Nat.le_refl _)] at e
      simp at e
      subst e
      exact ⟨p, by show (y.m ++ [p])[S.length]? = some p; rw [← s.bs.len, List.getElem?_append_right (Nat.le_refl _)]; simp, .inl (s.bs.fz.no hp), hc⟩
  · refine s.fm.dom b ?_
    cases z : y.H b with
    | none => rfl
    | some u => rw [show (y.new p o).H b = some u from ex b u z] at e; cases e
  · rcases List.mem_append.mp ha with h | h
    · exact s.fm.newC a h
    · simp at h; subst h; exact .inr (s.fm.dom a hp)
  · obtain ⟨v, e1, e2⟩ := s.slot i w e
    exact ⟨v, e1, e2.grow g⟩
theorem Sim.upCell (s : Sim K cl xa C y σ ρ S) {n : Nat} {a : Addr} {o : HO} {c c' : Cell} (e : S[n]? = some c) (hl : c ≠ .dead) (ea : y.m[n]? = some a) (hc : CellR K cl (y.up a o) a c') (hnt : ∀ ws, c ≠ .tup ws := by intro ws z; cases z) : Sim K cl xa C (y.up a o) σ ρ (S.set n c') := by
  obtain ⟨a', e1, e2, e3⟩ := s.bs.cell n c e hl
  have e2 : y.F a' = none := e2.elim id fun ⟨ws, z⟩ => absurd z (hnt ws)
  rw [ea] at e1; cases e1
  have ham : a ∈ y.m := List.mem_of_getElem? ea
  have neF : ∀ b o, y.F b = some o → b ≠ a := fun b o h z => by rw [z, e2] at h; cases h
  have hn : n < S.length := (List.getElem?_eq_some_iff.mp e).1
  have g : Gr y (y.up a o) := ⟨Ex.refl _, List.prefix_refl _⟩
  refine ⟨⟨fun b u h => ?_, by simp [Y.up, s.bs.len], s.bs.nd, fun b hb => ?_, fun k d ek hd => ?_⟩, ⟨s.fm.hf, fun b u h1 h2 => ?_, fun b h => ?_, s.fm.newF, s.fm.newC, s.fm.pre⟩, s.len, fun i w e => ?_⟩
  · show upd y.H a o b = some u
    rw [upd_ne (neF b u h)]; exact s.bs.fz b u h
  · show upd y.H a o b ≠ none
    by_cases z : b = a
    · subst z; rw [upd_same]; simp
    · rw [upd_ne z]; exact s.bs.has b hb
  · by_cases z : n = k
    · subst z
      rw [List.getElem?_set_self hn] at ek
      cases ek
      exact ⟨a, ea, .inl e2, hc⟩
    · rw [List.getElem?_set_ne z] at ek
      obtain ⟨b, f1, f2, f3⟩ := s.bs.cell k d ek hd
      have nb : b ≠ a := fun q => z (nd_ix s.bs.nd ea (by rw [← q]; exact f1))
      exact ⟨b, f1, f2, CellR.grow g (fun u q => by show upd y.H a o b = some u; rw [upd_ne nb]; exact q) f3⟩
  · have nb : b ≠ a := fun q => by
      subst q
      rcases s.fm.newC b ham with z | z
      · exact h2 z
      · rw [z] at h1; cases h1
    show upd y.H a o b = some u
    rw [upd_ne nb]; exact s.fm.keep b u h1 h2
  · have h' : upd y.H a o b = none := h
    by_cases z : b = a
    · subst z; rw [upd_same] at h'; cases h'
    · rw [upd_ne z] at h'; exact s.fm.dom b h'
  · obtain ⟨v, e1, e2⟩ := s.slot i w e
    exact ⟨v, e1, e2.grow g⟩
/-- a cell is frozen: its object joins the frozen part -/
theorem Sim.frz (s : Sim K cl xa C y σ ρ S) {n : Nat} {a : Addr} {o : HO} {c : Cell} (e : S[n]? = some c) (hl : c ≠ .dead) (ea : y.m[n]? = some a) (ho : y.H a = some o) : Sim K cl xa C (y.fz a o) σ ρ (S.set n .dead) ∧ Gr y (y.fz a o) := by
  obtain ⟨a', e1, e2, e3⟩ := s.bs.cell n c e hl
  rw [ea] at e1; cases e1
  have ham : a ∈ y.m := List.mem_of_getElem? ea
  have ex : Ex y.F (upd y.F a o) := Ex.put s.bs.fz ho
  have g : Gr y (y.fz a o) := ⟨ex, List.prefix_refl _⟩
  have hn : n < S.length := (List.getElem?_eq_some_iff.mp e).1
  refine ⟨⟨⟨fun b u h => ?_, by simp [Y.fz, s.bs.len], s.bs.nd, s.bs.has, fun k d ek hd => ?_⟩, ⟨s.fm.hf.trans ex, s.fm.keep, s.fm.dom, fun b u h => ?_, s.fm.newC, s.fm.pre⟩, s.len, fun i w h => ?_⟩, g⟩
  · have h' : upd y.F a o b = some u := h
    by_cases z : b = a
    · subst z; rw [upd_same] at h'; cases h'; exact ho
    · rw [upd_ne z] at h'; exact s.bs.fz b u h'
  · by_cases z : n = k
    · subst z
      rw [List.getElem?_set_self hn] at ek
      cases ek
      exact absurd rfl hd
    · rw [List.getElem?_set_ne z] at ek
      obtain ⟨b, f1, f2, f3⟩ := s.bs.cell k d ek hd
      have nb : b ≠ a := fun q => z (nd_ix s.bs.nd ea (by rw [← q]; exact f1))
      exact ⟨b, f1, f2.imp (fun q => by show upd y.F a o b = none; rw [upd_ne nb]; exact q) id, CellR.grow g (fun u q => q) f3⟩
  · have h' : upd y.F a o b = some u := h
    by_cases z : b = a
    · subst z
      rcases s.fm.newC b ham with q | q
      · exact .inr (.inr (.inl q))
      · exact .inr (.inl q)
    · rw [upd_ne z] at h'; exact s.fm.newF b u h'
  · obtain ⟨v, h1, h2⟩ := s.slot i w h
    exact ⟨v, h1, h2.grow g⟩
theorem Sim.set (s : Sim K cl xa C y σ ρ S) {w : W} {v : V} (i : Nat) (r : RW K cl y w v) : Sim K cl xa C y (σ.set i (some v)) (ρ.set i (some w)) S :=
  ⟨s.bs, s.fm, by rw [List.length_set, List.length_set]; exact s.len, fun j u e => by
    by_cases h : i = j
    · subst h
      by_cases hl : i < ρ.length
      · rw [List.getElem?_set_self hl] at e
        cases e
        exact ⟨v, List.getElem?_set_self (by rw [s.len]; exact hl), r.rs⟩
      · rw [List.getElem?_eq_none (by rw [List.length_set]; omega)] at e
        cases e
    · rw [List.getElem?_set_ne h] at e
      obtain ⟨u', e1, e2⟩ := s.slot j u e
      exact ⟨u', by rw [List.getElem?_set_ne h]; exact e1, e2⟩⟩
theorem Bs.at (b : Bs K cl y S) {n : Nat} {c : Cell} {a : Addr} (e : S[n]? = some c) (hl : c ≠ .dead) (ea : y.m[n]? = some a) : (y.F a = none ∨ ∃ ws, c = .tup ws) ∧ CellR K cl y a c := by
  obtain ⟨a', e1, e2, e3⟩ := b.cell n c e hl
  rw [ea] at e1; cases e1
  exact ⟨e2, e3⟩
end

/-! ### cells as data -/
def dat : W → Option D
  | .da d => some d
  | _ => none
def dats : List W → Option (List D)
  | [] => some []
  | .da d :: ws => match dats ws with
    | some ds => some (d :: ds)
    | none => none
  | _ :: _ => none
/-- what a cell is worth when it is frozen -/
def datC : Cell → Option D
  | .lst ws => (dats ws).map .lst
  | .tup ws => (dats ws).map .tup
  | .ins c fws => (dats (fws.map (·.2))).map (.obj c (fws.map (·.1)))
  | _ => none
section
variable {K : PySem.W.Frag} {cl : Str → Option Addr} {y : Y}
theorem dats_ok : ∀ {ws : List W} {vs : List V} {ds : List D}, RWL K cl y ws vs → dats ws = some ds → RpL K cl y.F ds vs
  | [], _, ds, .nil, h => by cases h; exact rfl
  | .da d :: ws, _, ds, .cons r1 r2, h => by
    simp only [dats] at h
    split at h
    · rename_i ds' e
      cases h
      exact ⟨_, _, rfl, r1, dats_ok r2 e⟩
    · cases h
  | .lo n :: ws, _, ds, .cons r1 r2, h => by simp [dats] at h
  | .xc :: ws, _, ds, .cons r1 r2, h => by simp [dats] at h
theorem rwl_da : ∀ {ds : List D} {vs : List V}, RpL K cl y.F ds vs → RWL K cl y (ds.map .da) vs
  | [], vs, h => by cases (show vs = [] from h); exact .nil
  | d :: ds, vs, h => by
    obtain ⟨v, r, rfl, q, t⟩ := h
    exact .cons q (rwl_da t)
theorem dats_da : ∀ ds : List D, dats (ds.map .da) = some ds
  | [] => rfl
  | d :: ds => by simp [dats, dats_da ds]
theorem rwp_zip {κ : Type} : ∀ {kws : List (κ × W)} {kvs : List (κ × V)}, RWP K cl y kws kvs → RWL K cl y (kws.map (·.2)) (kvs.map (·.2)) ∧ kvs = (kws.map (·.1)).zip (kvs.map (·.2))
  | _, _, .nil => ⟨.nil, rfl⟩
  | (k, w) :: kws, (k', v) :: kvs, .cons h t => by
    obtain ⟨h1, h2⟩ := rwp_zip t
    obtain ⟨e, r⟩ := h
    cases (show k = k' from e)
    refine ⟨.cons r h1, ?_⟩
    simp only [List.map_cons, List.zip_cons_cons]
    rw [← h2]
theorem datC_ok {a : Addr} {c : Cell} {d : D} (h : CellR K cl y a c) (e : datC c = some d) : ∃ o, y.H a = some o ∧ c ≠ .dead ∧ ∀ F', Ex y.F F' → F' a = some o → Rp K cl F' d (.ref a) := by
  cases c with
  | lst ws =>
    obtain ⟨vs, h1, h2⟩ := h
    simp only [datC, Option.map_eq_some_iff] at e
    obtain ⟨ds, q, rfl⟩ := e
    exact ⟨_, h1, (by intro z; cases z), fun F' x e => ⟨a, vs, rfl, e, RpL.xt x _ _ (dats_ok h2 q)⟩⟩
  | tup ws =>
    obtain ⟨vs, h1, h2⟩ := h
    simp only [datC, Option.map_eq_some_iff] at e
    obtain ⟨ds, q, rfl⟩ := e
    exact ⟨_, h1, (by intro z; cases z), fun F' x e => ⟨a, vs, rfl, e, RpL.xt x _ _ (dats_ok h2 q)⟩⟩
  | dk kws => cases e
  | dt kws => cases e
  | ins c fws =>
    obtain ⟨C, dx, fvs, h0, h1, h2⟩ := h
    simp only [datC, Option.map_eq_some_iff] at e
    obtain ⟨ds, q, rfl⟩ := e
    obtain ⟨z1, z2⟩ := rwp_zip h2
    refine ⟨_, h1, (by intro z; cases z), fun F' x e => ⟨a, C, dx, fvs.map (·.2), rfl, h0, ?_, ?_, RpL.xt x _ _ (dats_ok z1 q)⟩⟩
    · rw [← z2]; exact e
    · rw [List.length_map, List.length_map]; exact Paired.length h2
  | dead => cases e
end
/-! ### dicts that are locked for good -/
inductive Lks (Q : Hp → Prop) : Hp → Prop
  | now {H : Hp} : Q H → Lks Q H
  | lock {H : Hp} (d : Addr) (u : HO) : H d = some u → Mut (some u) → (∀ od, Lks Q (upd H d (.frz od u))) → Lks Q H
theorem Lks.run {X : Cx} {pins : List (Addr × Obj)} {σ : St} {s : Shared} {Q : Hp → Prop} : ∀ {H : Hp}, Lks Q H → Inv X pins σ H s → ∃ H', Inv X pins σ H' s ∧ Q H' := by
  intro H h
  induction h with
  | now q => exact fun I => ⟨_, I, q⟩
  | lock d u hd mu _ ih =>
    intro I
    obtain ⟨od, I1⟩ := I.lock hd mu
    exact ih od I1
/-- things are locked behind an expression -/
def tLk (t : TE) : TE := fun σ H Q => t σ H fun v H1 => Lks (Q v) H1
theorem pe_lk {X : Cx} {e : Expr} {t : TE} (h : PE X e t) : PE X e (tLk t) := by
  refine ⟨fun pins s σ H Q I hw => ?_⟩
  refine thn (h.run pins s σ _ _ I hw) fun v s1 ⟨x, H1, I1, r, q⟩ => ?_
  obtain ⟨H2, I2, q2⟩ := q.run I1
  exact ⟨x, H2, I2, r, q2⟩
section
variable {K : PySem.W.Frag} {cl : Str → Option Addr} {xa : Option (Nat × Addr)} {C : Cn} {y : Y} {σ : St} {ρ : Rho} {S : Sto}
def Y.lk (y : Y) (p : Addr) (o : HO) : Y := ⟨upd y.F p o, upd y.H p o, y.m⟩
/-- a cell is locked and frozen -/
theorem Sim.lkd (s : Sim K cl xa C y σ ρ S) {n : Nat} {a : Addr} {o : HO} {c : Cell} (e : S[n]? = some c) (hl : c ≠ .dead) (ea : y.m[n]? = some a) (hnt : ∀ ws, c ≠ .tup ws := by intro ws z; cases z) : Sim K cl xa C (y.lk a o) σ ρ (S.set n .dead) ∧ Gr y (y.lk a o) := by
  obtain ⟨a', e1, e2, e3⟩ := s.bs.cell n c e hl
  rw [ea] at e1; cases e1
  have e2 : y.F a = none := e2.elim id fun ⟨ws, z⟩ => absurd z (hnt ws)
  have ham : a ∈ y.m := List.mem_of_getElem? ea
  have ex : Ex y.F (upd y.F a o) := Ex.new e2
  have g : Gr y (y.lk a o) := ⟨ex, List.prefix_refl _⟩
  have neF : ∀ b o, y.F b = some o → b ≠ a := fun b o h z => by rw [z, e2] at h; cases h
  have hn : n < S.length := (List.getElem?_eq_some_iff.mp e).1
  refine ⟨⟨⟨fun b u h => ?_, by simp [Y.lk, s.bs.len], s.bs.nd, fun b hb => ?_, fun k d ek hd => ?_⟩, ⟨s.fm.hf.trans ex, fun b u h1 h2 => ?_, fun b h => ?_, fun b u h => ?_, s.fm.newC, s.fm.pre⟩, s.len, fun i w h => ?_⟩, g⟩
  · have h' : upd y.F a o b = some u := h
    show upd y.H a o b = some u
    by_cases z : b = a
    · subst z; rw [upd_same] at h' ⊢; exact h'
    · rw [upd_ne z] at h' ⊢; exact s.bs.fz b u h'
  · show upd y.H a o b ≠ none
    by_cases z : b = a
    · subst z; rw [upd_same]; simp
    · rw [upd_ne z]; exact s.bs.has b hb
  · by_cases z : n = k
    · subst z
      rw [List.getElem?_set_self hn] at ek
      cases ek
      exact absurd rfl hd
    · rw [List.getElem?_set_ne z] at ek
      obtain ⟨b, f1, f2, f3⟩ := s.bs.cell k d ek hd
      have nb : b ≠ a := fun q => z (nd_ix s.bs.nd ea (by rw [← q]; exact f1))
      exact ⟨b, f1, f2.imp (fun q => by show upd y.F a o b = none; rw [upd_ne nb]; exact q) id, CellR.grow g (fun u q => by show upd y.H a o b = some u; rw [upd_ne nb]; exact q) f3⟩
  · have nb : b ≠ a := fun q => by
      subst q
      rcases s.fm.newC b ham with z | z
      · exact h2 z
      · rw [z] at h1; cases h1
    show upd y.H a o b = some u
    rw [upd_ne nb]; exact s.fm.keep b u h1 h2
  · have h' : upd y.H a o b = none := h
    by_cases z : b = a
    · subst z; rw [upd_same] at h'; cases h'
    · rw [upd_ne z] at h'; exact s.fm.dom b h'
  · have h' : upd y.F a o b = some u := h
    by_cases z : b = a
    · subst z
      rcases s.fm.newC b ham with q | q
      · exact .inr (.inr (.inl q))
      · exact .inr (.inl q)
    · rw [upd_ne z] at h'; exact s.fm.newF b u h'
  · obtain ⟨v, h1, h2⟩ := s.slot i w h
    exact ⟨v, h1, h2.grow g⟩
end
/-! ### all that hangs at a place, frozen -/
mutual
def datW : Nat → Sto → W → Option (D × Sto)
  | _, S, .da d => some (d, S)
  | 0, _, _ => none
  | _ + 1, _, .xc => none
  | k + 1, S, .lo n => match S[n]? with
    | some (.lst ws) => match datWs k (S.set n .dead) ws with
      | some (ds, S') => some (.lst ds, S')
      | none => none
    | some (.tup ws) => match datWs k (S.set n .dead) ws with
      | some (ds, S') => some (.tup ds, S')
      | none => none
    | some (.dk kws) => match datWs k (S.set n .dead) (kws.map (·.2)) with
      | some (ds, S') => some (.dk (kws.map (·.1)) ds, S')
      | none => none
    | some (.dt kws) => match datWs k (S.set n .dead) (kws.map (·.2)) with
      | some (ds, S') => some (.dt (kws.map (·.1)) ds, S')
      | none => none
    | some (.ins c fws) => match datWs k (S.set n .dead) (fws.map (·.2)) with
      | some (ds, S') => some (.obj c (fws.map (·.1)) ds, S')
      | none => none
    | _ => none
def datWs : Nat → Sto → List W → Option (List D × Sto)
  | _, S, [] => some ([], S)
  | k, S, w :: ws => match datW k S w with
    | some (d, S') => match datWs k S' ws with
      | some (ds, S'') => some (d :: ds, S'')
      | none => none
    | none => none
end
section
variable {K : PySem.W.Frag} {cl : Str → Option Addr} {xa : Option (Nat × Addr)} {C : Cn} {σ : St} {ρ : Rho}
/-- what freezing promises -/
abbrev FzG (K : PySem.W.Frag) (cl : Str → Option Addr) (xa : Option (Nat × Addr)) (C : Cn) (σ : St) (ρ : Rho) (y : Y) (S' : Sto) (R : Hp → Prop) : Prop := ∀ Q : Hp → Prop, (∀ z, Sim K cl xa C z σ ρ S' → Gr y z → R z.F → Lks Q z.H) → Lks Q y.H
theorem datWs_of {k : Nat} (ih : ∀ (y : Y) (S : Sto) (w : W) (v : V) (d : D) (S' : Sto), Sim K cl xa C y σ ρ S → RW K cl y w v → datW k S w = some (d, S') → FzG K cl xa C σ ρ y S' fun F => Rp K cl F d v) :
    ∀ (ws : List W) (vs : List V) (y : Y) (S : Sto) (ds : List D) (S' : Sto), Sim K cl xa C y σ ρ S → RWL K cl y ws vs → datWs k S ws = some (ds, S') → FzG K cl xa C σ ρ y S' fun F => RpL K cl F ds vs
  | [], _, y, S, ds, S', s, .nil, e => by
    unfold datWs at e
    cases e
    exact fun Q q => q y s (Gr.refl _) rfl
  | w :: ws, _, y, S, ds, S', s, .cons r rs, e => by
    unfold datWs at e
    split at e
    · rename_i d S1 e1
      split at e
      · rename_i ds1 S2 e2
        cases e
        refine fun Q q => ih y S w _ d S1 s r e1 Q fun z s1 g1 r1 => ?_
        refine datWs_of ih ws _ z S1 ds1 S' s1 (RWL.grow g1 rs) e2 Q fun z2 s2 g2 r2 => ?_
        exact q z2 s2 (g1.trans g2) ⟨_, _, rfl, Rp.xt g2.f _ _ r1, r2⟩
      · cases e
    · cases e
/-- the cell itself is frozen first, then all that hangs at it -/
theorem datW_ok : ∀ (k : Nat) (y : Y) (S : Sto) (w : W) (v : V) (d : D) (S' : Sto), Sim K cl xa C y σ ρ S → RW K cl y w v → datW k S w = some (d, S') → FzG K cl xa C σ ρ y S' fun F => Rp K cl F d v := by
  intro k
  induction k with
  | zero =>
    intro y S w v d S' s r e
    cases w with
    | da d' => simp only [datW] at e; cases e; exact fun Q q => q y s (Gr.refl _) r
    | lo n => simp [datW] at e
    | xc => simp [datW] at e
  | succ k ih =>
    intro y S w v d S' s r e
    cases w with
    | da d' => simp only [datW] at e; cases e; exact fun Q q => q y s (Gr.refl _) r
    | xc => simp [datW] at e
    | lo n =>
      obtain ⟨a, ea, rfl⟩ := r
      unfold datW at e
      split at e
      · rename_i ws hc
        split at e
        · rename_i ds S1 e1
          cases e
          obtain ⟨_, vs, ho, hr⟩ := s.bs.at hc (by intro z; cases z) ea
          obtain ⟨s1, g1⟩ := s.frz hc (by intro z; cases z) ea ho
          refine fun Q q => datWs_of ih ws vs _ _ ds S' s1 (RWL.grow g1 hr) e1 Q fun z s2 g2 r2 => ?_
          exact q z s2 (g1.trans g2) ⟨a, vs, rfl, g2.f a _ upd_same, r2⟩
        · cases e
      · rename_i ws hc
        split at e
        · rename_i ds S1 e1
          cases e
          obtain ⟨_, vs, ho, hr⟩ := s.bs.at hc (by intro z; cases z) ea
          obtain ⟨s1, g1⟩ := s.frz hc (by intro z; cases z) ea ho
          refine fun Q q => datWs_of ih ws vs _ _ ds S' s1 (RWL.grow g1 hr) e1 Q fun z s2 g2 r2 => ?_
          exact q z s2 (g1.trans g2) ⟨a, vs, rfl, g2.f a _ upd_same, r2⟩
        · cases e
      · rename_i kws hc
        split at e
        · rename_i ds S1 e1
          cases e
          obtain ⟨_, kvs, ho, hr⟩ := s.bs.at hc (by intro z; cases z) ea
          refine fun Q q => .lock a _ ho trivial fun od => ?_
          obtain ⟨s1, g1⟩ := s.lkd (o := .frz od (.dK kvs)) hc (by intro z; cases z) ea
          obtain ⟨z1, z2⟩ := rwp_zip (RWP.grow g1 hr)
          refine datWs_of ih _ _ _ _ ds S' s1 z1 e1 Q fun z s2 g2 r2 => ?_
          refine q z s2 (g1.trans g2) ⟨a, kvs.map (·.2), rfl, ⟨od, ?_⟩, ?_, r2⟩
          · rw [← z2]; exact g2.f a _ upd_same
          · rw [List.length_map, List.length_map]; exact Paired.length hr
        · cases e
      · rename_i kws hc
        split at e
        · rename_i ds S1 e1
          cases e
          obtain ⟨_, kvs, ho, hr⟩ := s.bs.at hc (by intro z; cases z) ea
          refine fun Q q => .lock a _ ho trivial fun od => ?_
          obtain ⟨s1, g1⟩ := s.lkd (o := .frz od (.dT kvs)) hc (by intro z; cases z) ea
          obtain ⟨z1, z2⟩ := rwp_zip (RWP.grow g1 hr)
          refine datWs_of ih _ _ _ _ ds S' s1 z1 e1 Q fun z s2 g2 r2 => ?_
          refine q z s2 (g1.trans g2) ⟨a, kvs.map (·.2), rfl, ⟨od, ?_⟩, ?_, r2⟩
          · rw [← z2]; exact g2.f a _ upd_same
          · rw [List.length_map, List.length_map]; exact Paired.length hr
        · cases e
      · rename_i c fws hc
        split at e
        · rename_i ds S1 e1
          cases e
          obtain ⟨_, CC, dx, kvs, h0, ho, hr⟩ := s.bs.at hc (by intro z; cases z) ea
          obtain ⟨s1, g1⟩ := s.frz hc (by intro z; cases z) ea ho
          obtain ⟨z1, z2⟩ := rwp_zip (RWP.grow g1 hr)
          refine fun Q q => datWs_of ih _ _ _ _ ds S' s1 z1 e1 Q fun z s2 g2 r2 => ?_
          refine q z s2 (g1.trans g2) ⟨a, CC, dx, kvs.map (·.2), rfl, h0, ?_, ?_, r2⟩
          · rw [← z2]; exact g2.f a _ upd_same
          · rw [List.length_map, List.length_map]; exact Paired.length hr
        · cases e
      · cases e
end
end Ng
namespace Ng
open PySem L2

/-! ### plain meanings -/
def lift (o : Option W) (S : Sto) : Rs W := match o with
  | some w => .ok w S
  | none => .stuck
def mkC (o : Option Cell) (S : Sto) : Rs W := match o with
  | some c => .ok (.lo S.length) (S ++ [c])
  | none => .stuck
def mkD (o : Option Cell) (S : Sto) : Rs W := match o with
  | some c => match datC c with
    | some d => .ok (.da d) S
    | none => .stuck
  | none => .stuck
def vl1 (f : W → Sto → Option W) : W → Sto → Rs W := fun x S => lift (f x S) S
def vl2 (f : W → W → Sto → Option W) : W → W → Sto → Rs W := fun x y S => lift (f x y S) S
def vlN (f : List W → Sto → Option W) : List W → Sto → Rs W := fun xs S => lift (f xs S) S
def nc2 (f : W → W → Sto → Option Cell) : W → W → Sto → Rs W := fun x y S => mkC (f x y S) S
def nd2 (f : W → W → Sto → Option Cell) : W → W → Sto → Rs W := fun x y S => mkD (f x y S) S
def ncN (f : List W → Sto → Option Cell) : List W → Sto → Rs W := fun xs S => mkC (f xs S) S
def ndN (f : List W → Sto → Option Cell) : List W → Sto → Rs W := fun xs S => mkD (f xs S) S
def mVar (i : Nat) : ME := fun ρ S => match ρ[i]? with
  | some (some .xc) => .stuck
  | some (some w) => .ok w S
  | _ => .stuck
def mC (d : D) : ME := fun _ S => .ok (.da d) S
def mOp (f : W → W → Sto → Rs W) (ma mb : ME) : ME := fun ρ S => (ma ρ S).bind fun x S => (mb ρ S).bind fun y S => f x y S
def mUn (f : W → Sto → Rs W) (ma : ME) : ME := fun ρ S => (ma ρ S).bind fun x S => f x S
def mNil : MA := fun _ S => .ok [] S
def mCons (ma : ME) (mr : MA) : MA := fun ρ S => (ma ρ S).bind fun x S => (mr ρ S).bind fun xs S => .ok (x :: xs) S
def mCall (f : List W → Sto → Rs W) (ma : MA) : ME := fun ρ S => (ma ρ S).bind fun ws S => f ws S
/-- truth -/
noncomputable def truW (S : Sto) : W → Option Bool
  | .da .non => some false
  | .da (.bl b) => some b
  | .da (.int i) => some (i != 0)
  | .da (.str x) => ifc (x.length ≤ sizeLine) (some ((x.length : Int) != 0)) none
  | .da (.tup ds) => some (!ds.isEmpty)
  | .da (.wt ds) => some (!ds.isEmpty)
  | .da (.lst ds) => some (!ds.isEmpty)
  | .da (.scr ds) => some (!ds.isEmpty)
  | .da _ => none
  | .lo n => match S[n]? with
    | some (.lst ws) => some (!ws.isEmpty)
    | some (.tup ws) => some (!ws.isEmpty)
    | some (.dk kws) => some (!kws.isEmpty)
    | _ => none
  | .xc => none
def liftB (o : Option Bool) (S : Sto) : Rs Bool := match o with
  | some b => .ok b S
  | none => .stuck
noncomputable def mTru (me : ME) : MT := fun ρ S => (me ρ S).bind fun w S => liftB (truW S w) S
def boolOf (w : W) (S : Sto) : Rs Bool := match w with
  | .da (.bl b) => .ok b S
  | _ => .stuck
def mTst (me : ME) : MT := fun ρ S => (me ρ S).bind boolOf
def mAnd (a b : MT) : MT := fun ρ S => (a ρ S).bind fun c S => if c = true then b ρ S else .ok false S
def mOr (a b : MT) : MT := fun ρ S => (a ρ S).bind fun c S => if c = true then .ok true S else b ρ S
def mNot (a : MT) : MT := fun ρ S => (a ρ S).bind fun c S => .ok (!c) S
def mAndV (a b : ME) : ME := fun ρ S => (a ρ S).bind fun x S => (boolOf x S).bind fun c S => if c = true then b ρ S else .ok (.da (.bl false)) S
def mOrV (a b : ME) : ME := fun ρ S => (a ρ S).bind fun x S => (boolOf x S).bind fun c S => if c = true then .ok (.da (.bl true)) S else b ρ S
def mNotV (a : ME) : ME := fun ρ S => (a ρ S).bind fun x S => (boolOf x S).bind fun c S => .ok (.da (.bl (!c))) S
noncomputable def mNotT (a : ME) : ME := fun ρ S => (a ρ S).bind fun x S => match truW S x with
  | some b => .ok (.da (.bl (!b))) S
  | none => .stuck
def mChain (f g : W → W → Sto → Rs W) (ma mb mc : ME) : ME := fun ρ S => (ma ρ S).bind fun x S => (mb ρ S).bind fun y S => (f x y S).bind fun z S => (boolOf z S).bind fun k S =>
  if k = true then (mc ρ S).bind fun w S => g y w S else .ok (.da (.bl false)) S
/-! statements -/
def mSkip : MS := fun ρ S => .nx ρ S
def seqK (o : Out) (b : MS) : Out := match o with
  | .nx ρ S => b ρ S
  | .rt w S => .rt w S
  | .bk ρ S => .bk ρ S
  | .ct ρ S => .ct ρ S
  | .ex x ρ S => .ex x ρ S
  | .stuck => .stuck
def mSeq (a b : MS) : MS := fun ρ S => seqK (a ρ S) b
def mSet (i : Nat) (e : ME) : MS := fun ρ S => (e ρ S).out ρ fun w S => .nx (ρ.set i (some w)) S
def mRet (e : ME) : MS := fun ρ S => (e ρ S).out ρ fun w S => .rt w S
def mRetN : MS := fun _ S => .rt (.da .non) S
def mDrop (e : ME) : MS := fun ρ S => (e ρ S).out ρ fun _ S => .nx ρ S
def mIf (t : MT) (a b : MS) : MS := fun ρ S => (t ρ S).out ρ fun c S => if c = true then a ρ S else b ρ S
def mBreak : MS := fun ρ S => .bk ρ S
def mContinue : MS := fun ρ S => .ct ρ S
/-- the value is frozen with all that hangs at it -/
def fzW (w : W) (S : Sto) : Rs W := match datW 5 S w with
  | some (d, S') => .ok (.da d) S'
  | none => .stuck
def mFz (m : ME) : ME := fun ρ S => (m ρ S).bind fzW

/-! ### any rule of an operation -/
def rAny (X : Cx) (g : Value → Value → Sem Value) : R2 := fun x y H Q => ∃ r, OpR X g r ∧ r x y H Q
theorem op_any {X : Cx} {g : Value → Value → Sem Value} : OpR X g (rAny X g) := fun pins s σ H x y v u Q I rx ry ⟨_, o, h⟩ => o pins s σ H x y v u Q I rx ry h
def uAny (X : Cx) (g : Value → Sem Value) : V → Hp → VK → Prop := fun x H Q => ∃ r, UnR X g r ∧ r x H Q
theorem un_any {X : Cx} {g : Value → Sem Value} : UnR X g (uAny X g) := fun pins s σ H x v Q I rx ⟨_, o, h⟩ => o pins s σ H x v Q I rx h
def cAny (X : Cx) (f : Value) : List V → Hp → VK → Prop := fun xs H Q => ∃ r, CallR X f r ∧ r xs H Q
theorem call_any {X : Cx} {f : Value} : CallR X f (cAny X f) := fun pins s σ H xs us Q I r ⟨_, o, h⟩ => o pins s σ H xs us Q I r h
def xAny (X : Cx) : R2 := fun x y H Q => ∃ r, IxR X r ∧ r x y H Q
theorem ix_any {X : Cx} : IxR X (xAny X) := fun value slice pins s σ H x y v u Q I rx ry ⟨_, o, h⟩ e => o value slice pins s σ H x y v u Q I rx ry h e
def mtAny (X : Cx) (id : String) : V → List V → Hp → VK → Prop := fun x xs H Q => ∃ r, MtR X id r ∧ r x xs H Q
theorem mt_any {X : Cx} {id : String} : MtR X id (mtAny X id) := fun pins s σ H x xs v us Q I rx r ⟨_, o, h⟩ => o pins s σ H x xs v us Q I rx r h

/-! ### operations by values: what is promised of their plain meaning -/
/-- any: F on the values, r on what the heap holds -/
abbrev H1 (X : Cx) (cl : Str → Option Addr) (r : V → Hp → VK → Prop) (F : W → Sto → Rs W) : Prop := ∀ xa C Wx y σ ρ S, Sim X.K cl xa C y σ ρ S → ∀ w v, RW X.K cl y w v → ∀ Q, Post X.K cl xa C Wx y σ ρ (F w S) (OkE X.K cl xa C y σ ρ Q) → r v y.H Q
abbrev H2 (X : Cx) (cl : Str → Option Addr) (r : R2) (F : W → W → Sto → Rs W) : Prop := ∀ xa C Wx y σ ρ S, Sim X.K cl xa C y σ ρ S → ∀ w w' v v', RW X.K cl y w v → RW X.K cl y w' v' → ∀ Q, Post X.K cl xa C Wx y σ ρ (F w w' S) (OkE X.K cl xa C y σ ρ Q) → r v v' y.H Q
abbrev HN (X : Cx) (cl : Str → Option Addr) (r : List V → Hp → VK → Prop) (F : List W → Sto → Rs W) : Prop := ∀ xa C Wx y σ ρ S, Sim X.K cl xa C y σ ρ S → ∀ ws vs, RWL X.K cl y ws vs → ∀ Q, Post X.K cl xa C Wx y σ ρ (F ws S) (OkE X.K cl xa C y σ ρ Q) → r vs y.H Q
def HOp (X : Cx) (cl : Str → Option Addr) (g : Value → Value → Sem Value) (F : W → W → Sto → Rs W) : Prop := H2 X cl (rAny X g) F
def HUn (X : Cx) (cl : Str → Option Addr) (g : Value → Sem Value) (F : W → Sto → Rs W) : Prop := H1 X cl (uAny X g) F
def HIx (X : Cx) (cl : Str → Option Addr) (F : W → W → Sto → Rs W) : Prop := H2 X cl (xAny X) F
def HCall (X : Cx) (cl : Str → Option Addr) (g : Value) (F : List W → Sto → Rs W) : Prop := HN X cl (cAny X g) F
/-- a value comes: new frozen things alone -/
abbrev Gv (K : PySem.W.Frag) (cl : Str → Option Addr) (y : Y) (w : W) (Q : VK) : Prop := ∀ v F' H', Al y.F y.H F' H' → RW K cl ⟨F', H', y.m⟩ w v → Q v H'
/-- a new thing comes -/
abbrev Gn (K : PySem.W.Frag) (cl : Str → Option Addr) (y : Y) (c : Cell) (Q : VK) : Prop := ∀ p o, y.H p = none → CellR K cl (y.new p o) p c → Q (.ref p) (upd y.H p o)
def V1 (X : Cx) (cl : Str → Option Addr) (r : V → Hp → VK → Prop) (f : W → Sto → Option W) : Prop := ∀ y S, Bs X.K cl y S → ∀ w v, RW X.K cl y w v → ∀ u, f w S = some u → ∀ Q, Gv X.K cl y u Q → r v y.H Q
def V2 (X : Cx) (cl : Str → Option Addr) (r : R2) (f : W → W → Sto → Option W) : Prop := ∀ y S, Bs X.K cl y S → ∀ w w' v v', RW X.K cl y w v → RW X.K cl y w' v' → ∀ u, f w w' S = some u → ∀ Q, Gv X.K cl y u Q → r v v' y.H Q
def VN (X : Cx) (cl : Str → Option Addr) (r : List V → Hp → VK → Prop) (f : List W → Sto → Option W) : Prop := ∀ y S, Bs X.K cl y S → ∀ ws vs, RWL X.K cl y ws vs → ∀ u, f ws S = some u → ∀ Q, Gv X.K cl y u Q → r vs y.H Q
def C2 (X : Cx) (cl : Str → Option Addr) (r : R2) (f : W → W → Sto → Option Cell) : Prop := ∀ y S, Bs X.K cl y S → ∀ w w' v v', RW X.K cl y w v → RW X.K cl y w' v' → ∀ c, f w w' S = some c → ∀ Q, Gn X.K cl y c Q → r v v' y.H Q
def CN (X : Cx) (cl : Str → Option Addr) (r : List V → Hp → VK → Prop) (f : List W → Sto → Option Cell) : Prop := ∀ y S, Bs X.K cl y S → ∀ ws vs, RWL X.K cl y ws vs → ∀ c, f ws S = some c → ∀ Q, Gn X.K cl y c Q → r vs y.H Q
section
variable {X : Cx} {cl : Str → Option Addr} {xa : Option (Nat × Addr)} {C : Cn} {Wx : WX} {y : Y} {σ : St} {ρ : Rho} {S : Sto} {Q : VK}
theorem post_val {K : PySem.W.Frag} {o : Option W} (s : Sim K cl xa C y σ ρ S) (h : Post K cl xa C Wx y σ ρ (lift o S) (OkE K cl xa C y σ ρ Q)) : ∃ u, o = some u ∧ Gv K cl y u Q := by
  unfold lift at h
  split at h
  · exact ⟨_, rfl, fun v F' H' a r => h v _ (s.al a) a.gr r⟩
  · exact h.elim
theorem post_newC {K : PySem.W.Frag} {o : Option Cell} (s : Sim K cl xa C y σ ρ S) (h : Post K cl xa C Wx y σ ρ (mkC o S) (OkE K cl xa C y σ ρ Q)) : ∃ c, o = some c ∧ Gn K cl y c Q := by
  unfold mkC at h
  split at h
  · exact ⟨_, rfl, fun p o hp hc => h (.ref p) (y.new p o) (s.newCell hp hc) (y.gr_new p o) ⟨p, by rw [← s.bs.len]; simp [Y.new], rfl⟩⟩
  · exact h.elim
theorem post_newD {K : PySem.W.Frag} {o : Option Cell} (s : Sim K cl xa C y σ ρ S) (h : Post K cl xa C Wx y σ ρ (mkD o S) (OkE K cl xa C y σ ρ Q)) : ∃ c, o = some c ∧ Gn K cl y c Q := by
  unfold mkD at h
  split at h
  · rename_i c
    split at h
    · rename_i d hd
      refine ⟨_, rfl, fun p o hp hc => ?_⟩
      obtain ⟨o', ho, _, hr⟩ := datC_ok hc hd
      have eo : some o' = some o := ho.symm.trans (upd_same)
      cases eo
      have al := Al.new (o := o) s.bs.fz hp
      exact h (.ref p) _ (s.al al) al.gr (hr _ al.f upd_same)
    · exact h.elim
  · exact h.elim
theorem V1.h {r : V → Hp → VK → Prop} {f : W → Sto → Option W} (v : V1 X cl r f) : H1 X cl r (vl1 f) := fun xa C Wx y σ ρ S s w x rx Q h => by
  obtain ⟨u, e, g⟩ := post_val s h
  exact v y S s.bs w x rx u e Q g
theorem V2.h {r : R2} {f : W → W → Sto → Option W} (v : V2 X cl r f) : H2 X cl r (vl2 f) := fun xa C Wx y σ ρ S s w w' x x' rx rx' Q h => by
  obtain ⟨u, e, g⟩ := post_val s h
  exact v y S s.bs w w' x x' rx rx' u e Q g
theorem VN.h {r : List V → Hp → VK → Prop} {f : List W → Sto → Option W} (v : VN X cl r f) : HN X cl r (vlN f) := fun xa C Wx y σ ρ S s w x rx Q h => by
  obtain ⟨u, e, g⟩ := post_val s h
  exact v y S s.bs w x rx u e Q g
theorem C2.c {r : R2} {f : W → W → Sto → Option Cell} (v : C2 X cl r f) : H2 X cl r (nc2 f) := fun xa C Wx y σ ρ S s w w' x x' rx rx' Q h => by
  obtain ⟨u, e, g⟩ := post_newC s h
  exact v y S s.bs w w' x x' rx rx' u e Q g
theorem C2.d {r : R2} {f : W → W → Sto → Option Cell} (v : C2 X cl r f) : H2 X cl r (nd2 f) := fun xa C Wx y σ ρ S s w w' x x' rx rx' Q h => by
  obtain ⟨u, e, g⟩ := post_newD s h
  exact v y S s.bs w w' x x' rx rx' u e Q g
theorem CN.c {r : List V → Hp → VK → Prop} {f : List W → Sto → Option Cell} (v : CN X cl r f) : HN X cl r (ncN f) := fun xa C Wx y σ ρ S s w x rx Q h => by
  obtain ⟨u, e, g⟩ := post_newC s h
  exact v y S s.bs w x rx u e Q g
theorem CN.d {r : List V → Hp → VK → Prop} {f : List W → Sto → Option Cell} (v : CN X cl r f) : HN X cl r (ndN f) := fun xa C Wx y σ ρ S s w x rx Q h => by
  obtain ⟨u, e, g⟩ := post_newD s h
  exact v y S s.bs w x rx u e Q g
end

section
variable {X : Cx} {cl : Str → Option Addr} {xa : Option (Nat × Addr)} {Wx : WX} {pos : Pos} {a b c e : Expr} {es : List Expr} {ma mb mc me : ME} {mr : MA} {ta tb tc : MT}
/-! ### composition -/
theorem OkE.mono {K : PySem.W.Frag} {C : Cn} {y z : Y} {σ : St} {ρ : Rho} {Q : VK} (g : Gr y z) {w : W} {S : Sto} (h : OkE K cl xa C y σ ρ Q w S) : OkE K cl xa C z σ ρ Q w S := fun v u s k r => h v u s (g.trans k) r
theorem Post.re {K : PySem.W.Frag} {C : Cn} {y z : Y} {σ : St} {ρ : Rho} {Q : VK} {r : Rs W} (h : Post K cl xa C Wx z σ ρ r (OkE K cl xa C y σ ρ Q)) (g : Gr y z) : Post K cl xa C Wx z σ ρ r (OkE K cl xa C z σ ρ Q) := Post.imp h fun _ _ k => OkE.mono g k
theorem se_op {r : R2} {t u : TE} {F : W → W → Sto → Rs W} (ho : H2 X cl r F) (ha : SE X.K cl xa Wx t ma) (hb : SE X.K cl xa Wx u mb) : SE X.K cl xa Wx (tOp r t u) (mOp F ma mb) := by
  intro C y σ ρ S s Q h
  refine ha C y σ ρ S s _ (Post.go h fun w S1 h1 v z s1 g1 r1 => ?_)
  refine hb C z σ ρ S1 s1 _ (Post.go (h1 z g1) fun w2 S2 h2 v2 z2 s2 g2 r2 => ?_)
  exact ho xa C Wx z2 σ ρ S2 s2 w w2 v v2 (r1.grow g2) r2 Q (Post.re (h2 z2 g2) (g1.trans g2))
theorem se_un {r : V → Hp → VK → Prop} {t : TE} {F : W → Sto → Rs W} (ho : H1 X cl r F) (ha : SE X.K cl xa Wx t ma) : SE X.K cl xa Wx (tUn r t) (mUn F ma) := by
  intro C y σ ρ S s Q h
  refine ha C y σ ρ S s _ (Post.go h fun w S1 h1 v z s1 g1 r1 => ?_)
  exact ho xa C Wx z σ ρ S1 s1 w v r1 Q (Post.re (h1 z g1) g1)
theorem sa_nil {K : PySem.W.Frag} : SA K cl xa Wx tNil mNil := fun C y σ ρ S s Q h => h [] y s (Gr.refl _) .nil
theorem sa_cons {K : PySem.W.Frag} {t : TE} {u : TA} (ha : SE K cl xa Wx t ma) (hr : SA K cl xa Wx u mr) : SA K cl xa Wx (tCons t u) (mCons ma mr) := by
  intro C y σ ρ S s Q h
  refine ha C y σ ρ S s _ (Post.go h fun w S1 h1 v z s1 g1 r1 => ?_)
  refine hr C z σ ρ S1 s1 _ (Post.go (h1 z g1) fun ws S2 h2 vs z2 s2 g2 r2 => ?_)
  exact h2 z2 g2 (v :: vs) z2 s2 (g1.trans g2) (.cons (r1.grow g2) r2)
theorem se_call {r : List V → Hp → VK → Prop} {t : TA} {F : List W → Sto → Rs W} (ho : HN X cl r F) (ha : SA X.K cl xa Wx t mr) : SE X.K cl xa Wx (tCB r t) (mCall F mr) := by
  intro C y σ ρ S s Q h
  refine ha C y σ ρ S s _ (Post.go h fun w S1 h1 v z s1 g1 r1 => ?_)
  exact ho xa C Wx z σ ρ S1 s1 w v r1 Q (Post.re (h1 z g1) g1)
/-- frozen -/
theorem qe_fz (h : QE X cl xa Wx e me) : QE X cl xa Wx e (mFz me) := by
  obtain ⟨t, p, q⟩ := h
  refine ⟨_, pe_lk p, fun C y σ ρ S s Q h => ?_⟩
  refine q C y σ ρ S s _ (Post.go h fun w S1 h1 v z s1 g1 r1 => ?_)
  have h2 := h1 z g1
  unfold fzW at h2
  split at h2
  · rename_i d S' hd
    refine datW_ok 5 z S1 w v d S' s1 r1 hd (Q v) fun z2 s2 g2 r2 => ?_
    exact .now (h2 v z2 s2 (g1.trans g2) r2)
  · exact h2.elim

/-! ### names, constants -/
theorem qe_var (i : Nat) {x : Str} (hN : X.N[i]? = some x := by rfl) (hv : Vis X.env.scope x := by first | exact Or.inl rfl | exact Or.inr (Or.inl rfl) | exact Or.inr (Or.inr rfl)) (hd : (x == ("__debug__" : Str)) = false := by decide)
    (hcd : (x == ("__classdict__" : Str)) = false := by decide) : QE X cl xa Wx (.Name x pos) (mVar i) :=
  ⟨_, pe_var hN hv hd hcd, fun C y σ ρ S s Q h => by
    unfold mVar at h
    cases e : ρ[i]? with
    | none => rw [e] at h; exact h.elim
    | some o =>
      cases o with
      | none => rw [e] at h; exact h.elim
      | some w =>
        rw [e] at h
        obtain ⟨v, e1, e2⟩ := s.slot i w e
        cases w with
        | xc => exact h.elim
        | da d => exact ⟨v, e1, h v y s (Gr.refl _) e2⟩
        | lo n => exact ⟨v, e1, h v y s (Gr.refl _) e2⟩⟩
theorem se_c {K : PySem.W.Frag} {d : D} {v : V} (h : ∀ F, Rp K cl F d v) : SE K cl xa Wx (tC v) (mC d) := fun C y σ ρ S s Q q => q v y s (Gr.refl _) (h y.F)
theorem qe_int {i : Int} {j} : QE X cl xa Wx (.Constant (.int i) j pos) (mC (.int i)) := ⟨_, pe_int, se_c fun _ => rfl⟩
theorem qe_str {x : Str} {j} : QE X cl xa Wx (.Constant (.str x) j pos) (mC (.str x)) := ⟨_, pe_str, se_c fun _ => rfl⟩
theorem qe_bl {x : Bool} {j} : QE X cl xa Wx (.Constant (.bool x) j pos) (mC (.bl x)) := ⟨_, pe_bl, se_c fun _ => rfl⟩
theorem qe_non {j} : QE X cl xa Wx (.Constant .none j pos) (mC .non) := ⟨_, pe_non, se_c fun _ => rfl⟩
theorem qe_glob {x : Str} {v : V} {u : Value} {d : D} (hg : Gl X x) (hm : X.mg x = some u) (r : RelV v u) (h : ∀ F, Rp X.K cl F d v) (hd : (x == ("__debug__" : Str)) = false := by decide) : QE X cl xa Wx (.Name x pos) (mC d) :=
  ⟨_, pe_glob hg hm r hd, se_c h⟩

/-! ### operations -/
theorem qe_bin {op : Operator} {F : W → W → Sto → Rs W} (ho : HOp X cl (binaryOp op) F) (ha : QE X cl xa Wx a ma) (hb : QE X cl xa Wx b mb) : QE X cl xa Wx (.BinOp a op b pos) (mOp F ma mb) := by
  obtain ⟨t, p, q⟩ := ha
  obtain ⟨t2, p2, q2⟩ := hb
  exact ⟨_, pe_op op_any p p2, se_op ho q q2⟩
theorem qe_un {op : UnaryOp} {F : W → Sto → Rs W} (ho : HUn X cl (unaryOp op) F) (ha : QE X cl xa Wx a ma) : QE X cl xa Wx (.UnaryOp op a pos) (mUn F ma) := by
  obtain ⟨t, p, q⟩ := ha
  exact ⟨_, pe_un un_any p, se_un ho q⟩
theorem qe_cmp {op : CmpOp} {F : W → W → Sto → Rs W} (ho : HOp X cl (compareOp op) F) (ha : QE X cl xa Wx a ma) (hb : QE X cl xa Wx b mb) (hm : behindInMarks op b = false) : QE X cl xa Wx (.Compare a [op] [b] pos) (mOp F ma mb) := by
  obtain ⟨t, p, q⟩ := ha
  obtain ⟨t2, p2, q2⟩ := hb
  exact ⟨_, pe_cmpR op_any p p2 hm, se_op ho q q2⟩
theorem st_test {K : PySem.W.Frag} {t : TE} (h : SE K cl xa Wx t me) : ST K cl xa Wx (tTest t) (mTst me) := by
  intro C y σ ρ S s Q q
  refine h C y σ ρ S s _ (Post.go q fun w S1 h1 v z s1 g1 r1 => ?_)
  have h2 := h1 z g1
  unfold boolOf at h2
  split at h2
  · rename_i k
    cases (show v = .bl k from r1)
    exact ⟨k, rfl, h2 z s1 g1⟩
  · exact h2.elim
theorem qt_cmp {op : CmpOp} {F : W → W → Sto → Rs W} (ho : HOp X cl (compareOp op) F) (ha : QE X cl xa Wx a ma) (hb : QE X cl xa Wx b mb) (hm : behindInMarks op b = false) : QT X cl xa Wx (.Compare a [op] [b] pos) (mTst (mOp F ma mb)) := by
  obtain ⟨t, p, q⟩ := ha
  obtain ⟨t2, p2, q2⟩ := hb
  exact ⟨_, pt_cmpR op_any p p2 hm, st_test (se_op ho q q2)⟩
theorem bool_ok {K : PySem.W.Frag} {C : Cn} {y : Y} {σ : St} {ρ : Rho} {S : Sto} {w : W} {v : V} {α : Type} {k : Bool → Sto → Rs α} {P : α → Sto → Prop} (r : RW K cl y w v) (h : Post K cl xa C Wx y σ ρ ((boolOf w S).bind k) P) :
    ∃ c, v = .bl c ∧ w = .da (.bl c) ∧ Post K cl xa C Wx y σ ρ (k c S) P := by
  unfold boolOf at h
  split at h
  · rename_i c; exact ⟨c, r, rfl, h⟩
  · exact h.elim
theorem se_chain {r r' : R2} {t u v : TE} {F G : W → W → Sto → Rs W} (ho : H2 X cl r F) (ho' : H2 X cl r' G)
    (ha : SE X.K cl xa Wx t ma) (hb : SE X.K cl xa Wx u mb) (hc : SE X.K cl xa Wx v mc) : SE X.K cl xa Wx (tChain r r' t u v) (mChain F G ma mb mc) := by
  intro C y σ ρ S s Q h
  refine ha C y σ ρ S s _ (Post.go h fun w S1 h1 v z s1 g1 r1 => ?_)
  refine hb C z σ ρ S1 s1 _ (Post.go (h1 z g1) fun w2 S2 h2 v2 z2 s2 g2 r2 => ?_)
  refine ho xa C Wx z2 σ ρ S2 s2 w w2 v v2 (r1.grow g2) r2 _ (Post.go (h2 z2 g2) fun w3 S3 h3 v3 z3 s3 g3 r3 => ?_)
  obtain ⟨k, rfl, _, h4⟩ := bool_ok r3 (h3 z3 g3)
  have g13 := (g1.trans g2).trans g3
  refine ⟨k, rfl, ?_⟩
  cases k with
  | false => exact h4 _ z3 s3 g13 rfl
  | true =>
    refine hc C z3 σ ρ S3 s3 _ (Post.go h4 fun w4 S4 h5 v4 z4 s4 g4 r4 => ?_)
    exact ho' xa C Wx z4 σ ρ S4 s4 w2 w4 v2 v4 (r2.grow (g3.trans g4)) r4 Q (Post.re (h5 z4 g4) (g13.trans g4))
theorem qe_chain {op op' : CmpOp} {F G : W → W → Sto → Rs W} (ho : HOp X cl (compareOp op) F) (ho' : HOp X cl (compareOp op') G) (ha : QE X cl xa Wx a ma) (hb : QE X cl xa Wx b mb) (hc : QE X cl xa Wx c mc)
    (hm : lastMarks [op, op'] [b, c] = false := by with_unfolding_all rfl) : QE X cl xa Wx (.Compare a [op, op'] [b, c] pos) (mChain F G ma mb mc) := by
  obtain ⟨t, p, q⟩ := ha
  obtain ⟨t2, p2, q2⟩ := hb
  obtain ⟨t3, p3, q3⟩ := hc
  exact ⟨_, pe_chain op_any op_any p p2 p3 hm, se_chain ho ho' q q2 q3⟩
theorem qt_chain {op op' : CmpOp} {F G : W → W → Sto → Rs W} (ho : HOp X cl (compareOp op) F) (ho' : HOp X cl (compareOp op') G) (ha : QE X cl xa Wx a ma) (hb : QE X cl xa Wx b mb) (hc : QE X cl xa Wx c mc)
    (hm : lastMarks [op, op'] [b, c] = false := by with_unfolding_all rfl) : QT X cl xa Wx (.Compare a [op, op'] [b, c] pos) (mTst (mChain F G ma mb mc)) := by
  obtain ⟨t, p, q⟩ := ha
  obtain ⟨t2, p2, q2⟩ := hb
  obtain ⟨t3, p3, q3⟩ := hc
  exact ⟨_, pt_chain op_any op_any p p2 p3 hm, st_test (se_chain ho ho' q q2 q3)⟩

/-! ### truth -/
theorem tru_ok {K : PySem.W.Frag} {y : Y} {S : Sto} (s : Bs K cl y S) {w : W} {v : V} {k : Bool} (r : RW K cl y w v) (h : truW S w = some k) : TruV K v y.H k := by
  unfold truW at h
  split at h
  · cases h; cases (show v = .non from r); exact rfl
  · rename_i b; cases h; cases (show v = .bl _ from r); exact rfl
  · rename_i i; cases h; cases (show v = .int i from r); exact rfl
  · rename_i x
    obtain ⟨hc, rfl⟩ := ifc_some h
    cases (show v = .str x from r)
    exact ⟨hc, rfl⟩
  · rename_i ds
    cases h
    obtain ⟨p, vs, rfl, t, l⟩ := r
    refine .inr (.inl ⟨vs, .inl (.inl (s.fz p _ t)), ?_⟩)
    have := l.length
    cases ds <;> cases vs <;> simp_all
  · rename_i ds
    cases h
    obtain ⟨p, vs, rfl, t, l⟩ := r
    refine .inr (.inl ⟨vs, sqT_xt s.fz t, ?_⟩)
    have := l.length
    cases ds <;> cases vs <;> simp_all
  · rename_i ds
    cases h
    obtain ⟨p, vs, rfl, t, l⟩ := r
    refine .inl ⟨vs, .inl (.inl (s.fz p _ t)), ?_⟩
    have := l.length
    cases ds <;> cases vs <;> simp_all
  · rename_i ds
    cases h
    obtain ⟨p, vs, rfl, t, l⟩ := r
    refine .inl ⟨vs, sqL_xt s.fz t, ?_⟩
    have := l.length
    cases ds <;> cases vs <;> simp_all
  · cases h
  · rename_i n
    obtain ⟨p, e, rfl⟩ := r
    split at h
    · rename_i ws hc
      cases h
      obtain ⟨_, vs, e2, l⟩ := s.at hc (by intro z; cases z) e
      refine .inl ⟨vs, .inl (.inl e2), ?_⟩
      cases l <;> rfl
    · rename_i ws hc
      cases h
      obtain ⟨_, vs, e2, l⟩ := s.at hc (by intro z; cases z) e
      refine .inr (.inl ⟨vs, .inl (.inl e2), ?_⟩)
      cases l <;> rfl
    · rename_i ws hc
      cases h
      obtain ⟨_, vs, e2, l⟩ := s.at hc (by intro z; cases z) e
      refine .inr (.inr ⟨vs, e2, ?_⟩)
      cases l <;> rfl
    · cases h
  · cases h
theorem qt_truth (ha : QE X cl xa Wx a ma) (he : ∀ whole, isTrue a X.env whole = (do let v ← whole; standAt a.pos; holding [v] (truthy v)) := by intro _; rfl) : QT X cl xa Wx a (mTru ma) := by
  obtain ⟨t, p, q⟩ := ha
  refine ⟨_, pt_truth p he, fun C y σ ρ S s Q h => ?_⟩
  refine q C y σ ρ S s _ (Post.go h fun w S1 h1 v z s1 g1 r1 => ?_)
  have h2 := h1 z g1
  unfold liftB at h2
  split at h2
  · rename_i k e
    exact ⟨k, tru_ok s1.bs r1 e, h2 z s1 g1⟩
  · exact h2.elim
theorem qe_notT (ha : QE X cl xa Wx a ma) : QE X cl xa Wx (.UnaryOp .Not a pos) (mNotT ma) := by
  obtain ⟨t, p, q⟩ := ha
  refine ⟨_, pe_notT p, fun C y σ ρ S s Q h => ?_⟩
  refine q C y σ ρ S s _ (Post.go h fun w S1 h1 v z s1 g1 r1 => ?_)
  have h2 := h1 z g1
  split at h2
  · rename_i k e
    exact ⟨k, tru_ok s1.bs r1 e, h2 _ z s1 g1 rfl⟩
  · exact h2.elim
theorem qt_not (ha : QT X cl xa Wx a ta) : QT X cl xa Wx (.UnaryOp .Not a pos) (mNot ta) := by
  obtain ⟨t, p, q⟩ := ha
  exact ⟨_, pt_not p, fun C y σ ρ S s Q h => q C y σ ρ S s _ (Post.go h fun w S1 h1 z s1 g1 => h1 z g1 z s1 g1)⟩
theorem st_and {K : PySem.W.Frag} {t u : TT} (ha : ST K cl xa Wx t ta) (hb : ST K cl xa Wx u tb) : ST K cl xa Wx (tAnd t u) (mAnd ta tb) := by
  intro C y σ ρ S s Q h
  refine ha C y σ ρ S s _ (Post.go h fun w S1 h1 z s1 g1 => ?_)
  cases w with
  | true => exact hb C z σ ρ S1 s1 _ (Post.imp (h1 z g1) fun w2 S2 h2 z2 s2 g2 => h2 z2 s2 (g1.trans g2))
  | false => exact h1 z g1 z s1 g1
theorem st_or {K : PySem.W.Frag} {t u : TT} (ha : ST K cl xa Wx t ta) (hb : ST K cl xa Wx u tb) : ST K cl xa Wx (tOr t u) (mOr ta tb) := by
  intro C y σ ρ S s Q h
  refine ha C y σ ρ S s _ (Post.go h fun w S1 h1 z s1 g1 => ?_)
  cases w with
  | false => exact hb C z σ ρ S1 s1 _ (Post.imp (h1 z g1) fun w2 S2 h2 z2 s2 g2 => h2 z2 s2 (g1.trans g2))
  | true => exact h1 z g1 z s1 g1
theorem qw_and {rest : List Expr} (ha : QT X cl xa Wx a ta) (hb : QW X cl xa Wx (.BoolOp .And (b :: rest) pos) tb) : QW X cl xa Wx (.BoolOp .And (a :: b :: rest) pos) (mAnd ta tb) := by
  obtain ⟨t, p, q⟩ := ha
  obtain ⟨t2, p2, q2⟩ := hb
  exact ⟨_, pw_and p p2, st_and q q2⟩
theorem qw_or {rest : List Expr} (ha : QT X cl xa Wx a ta) (hb : QW X cl xa Wx (.BoolOp .Or (b :: rest) pos) tb) : QW X cl xa Wx (.BoolOp .Or (a :: b :: rest) pos) (mOr ta tb) := by
  obtain ⟨t, p, q⟩ := ha
  obtain ⟨t2, p2, q2⟩ := hb
  exact ⟨_, pw_or p p2, st_or q q2⟩
theorem qw_and1 (ha : QT X cl xa Wx a ta) : QW X cl xa Wx (.BoolOp .And [a] pos) ta := by
  obtain ⟨t, p, q⟩ := ha
  exact ⟨_, pw_and1 p, q⟩
theorem qw_or1 (ha : QT X cl xa Wx a ta) : QW X cl xa Wx (.BoolOp .Or [a] pos) ta := by
  obtain ⟨t, p, q⟩ := ha
  exact ⟨_, pw_or1 p, q⟩
theorem QW.qt {m : MT} (h : QW X cl xa Wx e m) : QT X cl xa Wx e m := by
  obtain ⟨t, p, q⟩ := h
  exact ⟨_, p.pt, q⟩
theorem qe_and {rest : List Expr} (ha : QE X cl xa Wx a ma) (hb : QE X cl xa Wx (.BoolOp .And (b :: rest) pos) mb) : QE X cl xa Wx (.BoolOp .And (a :: b :: rest) pos) (mAndV ma mb) := by
  obtain ⟨t, p, q⟩ := ha
  obtain ⟨t2, p2, q2⟩ := hb
  refine ⟨_, pe_and p p2, fun C y σ ρ S s Q h => ?_⟩
  refine q C y σ ρ S s _ (Post.go h fun w S1 h1 v z s1 g1 r1 => ?_)
  obtain ⟨c, rfl, _, h2⟩ := bool_ok r1 (h1 z g1)
  refine ⟨c, rfl, ?_⟩
  cases c with
  | true => exact q2 C z σ ρ S1 s1 _ (Post.imp h2 fun w2 S2 h2 v2 z2 s2 g2 => h2 v2 z2 s2 (g1.trans g2))
  | false => exact h2 _ z s1 g1 rfl
theorem qe_or {rest : List Expr} (ha : QE X cl xa Wx a ma) (hb : QE X cl xa Wx (.BoolOp .Or (b :: rest) pos) mb) : QE X cl xa Wx (.BoolOp .Or (a :: b :: rest) pos) (mOrV ma mb) := by
  obtain ⟨t, p, q⟩ := ha
  obtain ⟨t2, p2, q2⟩ := hb
  refine ⟨_, pe_or p p2, fun C y σ ρ S s Q h => ?_⟩
  refine q C y σ ρ S s _ (Post.go h fun w S1 h1 v z s1 g1 r1 => ?_)
  obtain ⟨c, rfl, _, h2⟩ := bool_ok r1 (h1 z g1)
  refine ⟨c, rfl, ?_⟩
  cases c with
  | false => exact q2 C z σ ρ S1 s1 _ (Post.imp h2 fun w2 S2 h2 v2 z2 s2 g2 => h2 v2 z2 s2 (g1.trans g2))
  | true => exact h2 _ z s1 g1 rfl
theorem qe_one {op} (ha : QE X cl xa Wx a ma) : QE X cl xa Wx (.BoolOp op [a] pos) ma := by
  obtain ⟨t, p, q⟩ := ha
  exact ⟨_, pe_one p, q⟩
theorem qe_not (ha : QE X cl xa Wx a ma) : QE X cl xa Wx (.UnaryOp .Not a pos) (mNotV ma) := by
  obtain ⟨t, p, q⟩ := ha
  refine ⟨_, pe_not p, fun C y σ ρ S s Q h => ?_⟩
  refine q C y σ ρ S s _ (Post.go h fun w S1 h1 v z s1 g1 r1 => ?_)
  obtain ⟨c, rfl, _, h2⟩ := bool_ok r1 (h1 z g1)
  exact ⟨c, rfl, h2 _ z s1 g1 rfl⟩

/-! ### arguments, displays -/
theorem qa_nil : QA X cl xa Wx [] mNil := ⟨_, pa_nil, sa_nil⟩
theorem qa_cons (ha : QE X cl xa Wx e me) (hr : QA X cl xa Wx es mr) (hs : starEach (e :: es) X.env = (false, eval e X.env) :: starEach es X.env := by rfl) : QA X cl xa Wx (e :: es) (mCons me mr) := by
  obtain ⟨t, p, q⟩ := ha
  obtain ⟨t2, p2, q2⟩ := hr
  exact ⟨_, pa_cons p p2 hs, sa_cons q q2⟩
noncomputable def tupC (ws : List W) (_ : Sto) : Option Cell := ifc (ws.length ≤ sizeLine) (some (.tup ws)) none
noncomputable def lstC (ws : List W) (_ : Sto) : Option Cell := ifc (ws.length ≤ sizeLine) (some (.lst ws)) none
theorem upd_rw {K : PySem.W.Frag} {y : Y} {p : Addr} {o : HO} {ws : List W} {vs : List V} (h : RWL K cl y ws vs) : RWL K cl (y.new p o) ws vs := RWL.grow (y.gr_new p o) h
theorem cn_tup : CN X cl (fun vs H Q => vs.length ≤ sizeLine ∧ ∀ p, H p = none → Q (.ref p) (upd H p (.tup vs))) tupC := fun y S b ws vs r c e Q g => by
  obtain ⟨hl, rfl⟩ := ifc_some e
  refine ⟨by rw [← Paired.length r]; exact hl, fun p hp => g p _ hp ⟨vs, upd_same, upd_rw r⟩⟩
theorem cn_lst : CN X cl (fun vs H Q => vs.length ≤ sizeLine ∧ ∀ p, H p = none → Q (.ref p) (upd H p (.lst vs))) lstC := fun y S b ws vs r c e Q g => by
  obtain ⟨hl, rfl⟩ := ifc_some e
  refine ⟨by rw [← Paired.length r]; exact hl, fun p hp => g p _ hp ⟨vs, upd_same, upd_rw r⟩⟩
theorem qe_tupC {x1} (h : QA X cl xa Wx es mr) : QE X cl xa Wx (.Tuple es x1 pos) (mCall (ncN tupC) mr) := by
  obtain ⟨t, p, q⟩ := h
  exact ⟨_, pe_tup p, se_call cn_tup.c q⟩
theorem qe_tup {x1} (h : QA X cl xa Wx es mr) : QE X cl xa Wx (.Tuple es x1 pos) (mCall (ndN tupC) mr) := by
  obtain ⟨t, p, q⟩ := h
  exact ⟨_, pe_tup p, se_call cn_tup.d q⟩
theorem qe_lstC (h : QA X cl xa Wx es mr) : QE X cl xa Wx (.List es pos) (mCall (ncN lstC) mr) := by
  obtain ⟨t, p, q⟩ := h
  exact ⟨_, pe_lst p, se_call cn_lst.c q⟩
theorem qe_lst (h : QA X cl xa Wx es mr) : QE X cl xa Wx (.List es pos) (mCall (ndN lstC) mr) := by
  obtain ⟨t, p, q⟩ := h
  exact ⟨_, pe_lst p, se_call cn_lst.d q⟩
end
end Ng
namespace Ng
open PySem L2

/-! ### whole numbers -/
def wI (f : Int → Int → D) : W → W → Sto → Option W
  | .da (.int i), .da (.int j), _ => some (.da (f i j))
  | _, _, _ => none
noncomputable def wIg (c : Int → Int → Prop) (f : Int → Int → D) : W → W → Sto → Option W
  | .da (.int i), .da (.int j), _ => ifc (c i j) (some (.da (f i j))) none
  | _, _, _ => none
def subW := wI fun i j => .int (i - j)
noncomputable def gtW := wI fun i j => .bl (dec (j < i))
noncomputable def geW := wI fun i j => .bl (dec (j ≤ i))
noncomputable def mulW := wIg (fun i j => (-(2 ^ 64) < i ∧ i < 2 ^ 64) ∨ (-(2 ^ 64) < j ∧ j < 2 ^ 64)) fun i j => .int (i * j)
noncomputable def modW := wIg (fun _ j => 0 < j) fun i j => .int (i % j)
noncomputable def divW := wIg (fun _ j => 0 < j ∧ j < 1073741824) fun i j => .int (i / j)
noncomputable def powW := wIg (fun i j => 0 ≤ j ∧ j ≤ 1000000 ∧ i.natAbs < 2 ^ 64) fun i j => .int (i ^ j.toNat)
noncomputable def ltW : W → W → Sto → Option W
  | .da (.int i), .da (.int j), _ => some (.da (.bl (dec (i < j))))
  | .da (.str i), .da (.str j), _ => some (.da (.bl (dec (i.cps.toList < j.cps.toList))))
  | _, _, _ => none
noncomputable def leW := wI fun i j => .bl (dec (i ≤ j))
def negW : W → Sto → Option W
  | .da (.int i), _ => some (.da (.int (-i)))
  | _, _ => none
/-- the items of a tuple; of a list; of either -/
def tupW (S : Sto) : W → Option (List W)
  | .da (.tup ds) => some (ds.map .da)
  | .da (.wt ds) => some (ds.map .da)
  | .lo n => match S[n]? with
    | some (.tup ws) => some ws
    | _ => none
  | _ => none
def lstW (S : Sto) : W → Option (List W)
  | .da (.lst ds) => some (ds.map .da)
  | .lo n => match S[n]? with
    | some (.lst ws) => some ws
    | _ => none
  | _ => none
def seqW (S : Sto) : W → Option (List W)
  | .da (.tup ds) => some (ds.map .da)
  | .da (.wt ds) => some (ds.map .da)
  | .da (.lst ds) => some (ds.map .da)
  | .da (.scr ds) => some (ds.map .da)
  | .lo n => match S[n]? with
    | some (.lst ws) => some ws
    | some (.tup ws) => some ws
    | _ => none
  | _ => none
/-- x + y: numbers, texts, tuples of data; two lists -/
noncomputable def addV : W → W → Sto → Option W
  | .da (.int i), .da (.int j), _ => some (.da (.int (i + j)))
  | .da (.str x), .da (.str y), _ => ifc (x.length + y.length ≤ sizeLine) (some (.da (.str (x ++ y)))) none
  | x, y, S => match tupW S x, tupW S y with
    | some a, some b => ifc (a.isEmpty = false ∧ b.isEmpty = false ∧ a.length + b.length ≤ sizeLine) (match dats a, dats b with
      | some p, some q => some (.da (.tup (p ++ q)))
      | _, _ => none) none
    | _, _ => none
noncomputable def catC : W → W → Sto → Option Cell := fun x y S => match lstW S x, lstW S y with
  | some a, some b => ifc (a.length + b.length ≤ sizeLine) (some (.lst (a ++ b))) none
  | _, _ => none
/-- the choice: numbers, texts, tuples by values, else lists -/
noncomputable def addF (mk : Option Cell → Sto → Rs W) : W → W → Sto → Rs W := fun x y S => match addV x y S with
  | some w => .ok w S
  | none => mk (catC x y S) S
noncomputable def addD := addF mkD
noncomputable def addC := addF mkC

section
variable {X : Cx} {cl : Str → Option Addr}
theorem gv_da {K : PySem.W.Frag} {y : Y} {S : Sto} {d : D} {v : V} {Q : VK} (b : Bs K cl y S) (g : Gv K cl y (.da d) Q) (r : Rp K cl y.F d v) : Q v y.H := g v y.F y.H (Al.refl b.fz) r
theorem gv_w {K : PySem.W.Frag} {y : Y} {S : Sto} {w : W} {v : V} {Q : VK} (b : Bs K cl y S) (g : Gv K cl y w Q) (r : RW K cl y w v) : Q v y.H := g v y.F y.H (Al.refl b.fz) r
theorem opw_I {g : Value → Value → Sem Value} {f : Int → Int → D} {fv : Int → Int → V} (ho : OpR X g (rI0 fv)) (hf : ∀ i j K F, Rp K cl F (f i j) (fv i j)) : V2 X cl (rAny X g) (wI f) := fun y S b w w' v v' r r' u e Q g => by
  unfold wI at e
  split at e
  · rename_i i j
    cases e
    exact ⟨_, ho, i, j, r, r', gv_da b g (hf i j X.K y.F)⟩
  · cases e
theorem opw_Ig {g : Value → Value → Sem Value} {c P : Int → Int → Prop} {f : Int → Int → D} {fv : Int → Int → V} (ho : OpR X g (rI P fv)) (hc : ∀ i j, c i j → P i j) (hf : ∀ i j K F, Rp K cl F (f i j) (fv i j)) : V2 X cl (rAny X g) (wIg c f) := fun y S b w w' v v' r r' u e Q g => by
  unfold wIg at e
  split at e
  · rename_i i j
    obtain ⟨h, rfl⟩ := ifc_some e
    exact ⟨_, ho, i, j, r, r', hc i j h, gv_da b g (hf i j X.K y.F)⟩
  · cases e
theorem ow_sub : HOp X cl (binaryOp .Sub) (vl2 subW) := V2.h (f := subW) (opw_I op_sub fun _ _ _ _ => rfl)
theorem ow_lt : HOp X cl (compareOp .Lt) (vl2 ltW) := V2.h fun y S b w w' v v' r r' u e Q g => by
  unfold ltW at e
  split at e
  · rename_i i j
    cases e
    refine ⟨_, op_lt, i, j, r, r', gv_da b g ?_⟩
    simp only [dec_eq]; exact rfl
  · rename_i i j
    cases e
    refine ⟨_, op_lt_str, i, j, r, r', gv_da b g ?_⟩
    simp only [dec_eq]; exact rfl
  · cases e
theorem ow_le : HOp X cl (compareOp .LtE) (vl2 leW) := V2.h (f := leW) (opw_I op_le fun _ _ _ _ => by simp only [dec_eq]; exact rfl)
theorem ow_gt : HOp X cl (compareOp .Gt) (vl2 gtW) := V2.h (f := gtW) (opw_I op_gt fun _ _ _ _ => by simp only [dec_eq]; exact rfl)
theorem ow_ge : HOp X cl (compareOp .GtE) (vl2 geW) := V2.h (f := geW) (opw_I op_ge fun _ _ _ _ => by simp only [dec_eq]; exact rfl)
theorem ow_mul : HOp X cl (binaryOp .Mult) (vl2 mulW) := V2.h (f := mulW) (opw_Ig op_mul (fun _ _ e => e) fun _ _ _ _ => rfl)
theorem ow_mod : HOp X cl (binaryOp .Mod) (vl2 modW) := V2.h (f := modW) (opw_Ig op_mod (fun _ _ e => e) fun _ _ _ _ => rfl)
theorem ow_div : HOp X cl (binaryOp .FloorDiv) (vl2 divW) := V2.h (f := divW) (opw_Ig op_fdiv (fun _ _ e => e) fun _ _ _ _ => rfl)
theorem ow_pow : HOp X cl (binaryOp .Pow) (vl2 powW) := V2.h (f := powW) (opw_Ig op_pow (fun _ _ e => e) fun _ _ _ _ => rfl)
theorem uw_neg : HUn X cl (unaryOp .USub) (vl1 negW) := V1.h fun y S b w v r u e Q g => by
  unfold negW at e
  split at e
  · rename_i i
    cases e
    exact ⟨_, un_neg, i, r, gv_da b g rfl⟩
  · cases e
theorem tupW_ok {K : PySem.W.Frag} {y : Y} {S : Sto} (b : Bs K cl y S) {w : W} {v : V} {ws : List W} (r : RW K cl y w v) (h : tupW S w = some ws) : ∃ a vs, v = .ref a ∧ SqT K y.H a vs ∧ RWL K cl y ws vs := by
  unfold tupW at h
  split at h
  · cases h
    obtain ⟨a, vs, e, t, l⟩ := r
    exact ⟨a, vs, e, .inl (.inl (b.fz _ _ t)), rwl_da l⟩
  · cases h
    obtain ⟨a, vs, e, t, l⟩ := r
    exact ⟨a, vs, e, sqT_xt b.fz t, rwl_da l⟩
  · rename_i n
    obtain ⟨a, e, rfl⟩ := r
    split at h
    · rename_i ws' hc
      cases h
      obtain ⟨_, vs, e2, l⟩ := b.at hc (by intro z; cases z) e
      exact ⟨a, vs, rfl, .inl (.inl e2), l⟩
    · cases h
  · cases h
theorem lstW_ok {K : PySem.W.Frag} {y : Y} {S : Sto} (b : Bs K cl y S) {w : W} {v : V} {ws : List W} (r : RW K cl y w v) (h : lstW S w = some ws) : ∃ a vs, v = .ref a ∧ y.H a = some (.lst vs) ∧ RWL K cl y ws vs := by
  unfold lstW at h
  split at h
  · cases h
    obtain ⟨a, vs, e, t, l⟩ := r
    exact ⟨a, vs, e, b.fz _ _ t, rwl_da l⟩
  · rename_i n
    obtain ⟨a, e, rfl⟩ := r
    split at h
    · rename_i ws' hc
      cases h
      obtain ⟨_, vs, e2, l⟩ := b.at hc (by intro z; cases z) e
      exact ⟨a, vs, rfl, e2, l⟩
    · cases h
  · cases h
theorem seqW_ok {K : PySem.W.Frag} {y : Y} {S : Sto} (b : Bs K cl y S) {w : W} {v : V} {ws : List W} (r : RW K cl y w v) (h : seqW S w = some ws) : ∃ a vs, v = .ref a ∧ (SqL K y.H a vs ∨ SqT K y.H a vs) ∧ RWL K cl y ws vs := by
  unfold seqW at h
  split at h
  · cases h
    obtain ⟨a, vs, e, t, l⟩ := r
    exact ⟨a, vs, e, .inr (.inl (.inl (b.fz _ _ t))), rwl_da l⟩
  · cases h
    obtain ⟨a, vs, e, t, l⟩ := r
    exact ⟨a, vs, e, .inr (sqT_xt b.fz t), rwl_da l⟩
  · cases h
    obtain ⟨a, vs, e, t, l⟩ := r
    exact ⟨a, vs, e, .inl (.inl (.inl (b.fz _ _ t))), rwl_da l⟩
  · cases h
    obtain ⟨a, vs, e, t, l⟩ := r
    exact ⟨a, vs, e, .inl (sqL_xt b.fz t), rwl_da l⟩
  · rename_i n
    obtain ⟨a, e, rfl⟩ := r
    split at h
    · rename_i ws' hc
      cases h
      obtain ⟨_, vs, e2, l⟩ := b.at hc (by intro z; cases z) e
      exact ⟨a, vs, rfl, .inl (.inl (.inl e2)), l⟩
    · rename_i ws' hc
      cases h
      obtain ⟨_, vs, e2, l⟩ := b.at hc (by intro z; cases z) e
      exact ⟨a, vs, rfl, .inr (.inl (.inl e2)), l⟩
    · cases h
  · cases h
theorem v2_add : V2 X cl (rAny X (binaryOp .Add)) addV := fun y S b w w' v v' r r' u e Q g => by
  unfold addV at e
  split at e
  · rename_i i j
    cases e
    exact ⟨_, op_add, i, j, r, r', gv_da b g rfl⟩
  · rename_i x z
    obtain ⟨h, rfl⟩ := ifc_some e
    exact ⟨_, op_add_str, x, z, r, r', h, gv_da b g rfl⟩
  · split at e
    · rename_i p q h1 h2
      obtain ⟨a, vs, rfl, t1, l1⟩ := tupW_ok b r h1
      obtain ⟨a', vs', rfl, t2, l2⟩ := tupW_ok b r' h2
      rcases ifc_cases (P := fun r => r = some u) e with ⟨hc, e⟩ | ⟨_, e⟩
      · split at e
        · rename_i ds ds' e1 e2
          cases e
          have n1 := Paired.length l1
          have n2 := Paired.length l2
          refine ⟨_, op_catT, a, a', vs, vs', rfl, rfl, t1, t2, ?_, by rw [← n1, ← n2]; exact hc.2.2, fun z => ?_, fun _ pp hp => ?_⟩
          · intro z; subst z
            have := hc.1
            cases p <;> simp_all
          · subst z
            have := hc.2.1
            cases q <;> simp_all
          · have al := Al.new (o := .tup (vs ++ vs')) b.fz hp
            exact g _ _ _ al ⟨pp, _, rfl, upd_same, RpL.append (RpL.xt al.f _ _ (dats_ok l1 e1)) (RpL.xt al.f _ _ (dats_ok l2 e2))⟩
        · cases e
      · cases e
    · cases e
theorem paired_append {α β : Type} {R : α → β → Prop} : ∀ {a c : List α} {b d : List β}, Paired R a b → Paired R c d → Paired R (a ++ c) (b ++ d)
  | _, _, _, _, .nil, h => h
  | _, _, _, _, .cons r t, h => .cons r (paired_append t h)
theorem c2_cat : C2 X cl (rAny X (binaryOp .Add)) catC := fun y S b w w' v v' r r' c e Q g => by
  unfold catC at e
  split at e
  · rename_i p q h1 h2
    obtain ⟨a, vs, rfl, t1, l1⟩ := lstW_ok b r h1
    obtain ⟨a', vs', rfl, t2, l2⟩ := lstW_ok b r' h2
    obtain ⟨hc, rfl⟩ := ifc_some e
    refine ⟨_, op_cat, a, a', vs, vs', rfl, rfl, t1, t2, by rw [← Paired.length l1, ← Paired.length l2]; exact hc, fun pp hp => ?_⟩
    exact g pp _ hp ⟨_, upd_same, upd_rw (paired_append l1 l2)⟩
  · cases e
theorem ow_addD : HOp X cl (binaryOp .Add) addD := fun xa C Wx y σ ρ S s w w' v v' r r' Q h => by
  unfold addD addF at h
  split at h
  · rename_i u e
    exact v2_add.h xa C Wx y σ ρ S s w w' v v' r r' Q (by unfold vl2 lift; rw [e]; exact h)
  · exact c2_cat.d xa C Wx y σ ρ S s w w' v v' r r' Q h
theorem ow_addC : HOp X cl (binaryOp .Add) addC := fun xa C Wx y σ ρ S s w w' v v' r r' Q h => by
  unfold addC addF at h
  split at h
  · rename_i u e
    exact v2_add.h xa C Wx y σ ρ S s w w' v v' r r' Q (by unfold vl2 lift; rw [e]; exact h)
  · exact c2_cat.c xa C Wx y σ ρ S s w w' v v' r r' Q h
end

/-! ### data compared -/
mutual
def toPy : D → PyData
  | .non => .none
  | .bl b => .bool b
  | .int i => .int i
  | .str x => .str x
  | .tup ds => .tuple (toPyL ds)
  | .wt ds => .tuple (toPyL ds)
  | .lst ds => .list (toPyL ds)
  | .scr ds => .list (toPyL ds)
  | .dk _ _ => .dict []
  | .dt _ _ => .dict []
  | .obj _ _ _ => .dict []
def toPyL : List D → List PyData
  | [] => []
  | d :: ds => toPy d :: toPyL ds
end
theorem toPyL_map : ∀ ds : List D, toPyL ds = ds.map toPy
  | [] => rfl
  | d :: ds => by simp [toPyL, toPyL_map ds]
mutual
theorem toPy_ok {K : PySem.W.Frag} {cl : Str → Option Addr} {H : Hp} : ∀ (d : D) (v : V), (toPy d).canLay0 = true → Rp K cl H d v → Dp K H v (toPy d)
  | .non, v, _, r => by cases (show v = .non from r); exact .non
  | .bl b, v, _, r => by cases (show v = .bl b from r); exact .bl b
  | .int i, v, _, r => by cases (show v = .int i from r); exact .int i
  | .str x, v, _, r => by cases (show v = .str x from r); exact .str x
  | .tup ds, v, h, r => by
    obtain ⟨a, vs, rfl, t, l⟩ := r
    exact .tup (.inl (.inl t)) (toPyL_ok ds vs (by simpa [toPy, PyData.canLay0] using h) l)
  | .wt ds, v, h, r => by
    obtain ⟨a, vs, rfl, t, l⟩ := r
    exact .tup t (toPyL_ok ds vs (by simpa [toPy, PyData.canLay0] using h) l)
  | .lst ds, v, h, r => by
    obtain ⟨a, vs, rfl, t, l⟩ := r
    exact .lst (.inl (.inl t)) (toPyL_ok ds vs (by simpa [toPy, PyData.canLay0] using h) l)
  | .scr ds, v, h, r => by
    obtain ⟨a, vs, rfl, t, l⟩ := r
    exact .lst t (toPyL_ok ds vs (by simpa [toPy, PyData.canLay0] using h) l)
  | .dk _ _, v, h, r => by simp [toPy, PyData.canLay0] at h
  | .dt _ _, v, h, r => by simp [toPy, PyData.canLay0] at h
  | .obj _ _ _, v, h, r => by simp [toPy, PyData.canLay0] at h
theorem toPyL_ok {K : PySem.W.Frag} {cl : Str → Option Addr} {H : Hp} : ∀ (ds : List D) (vs : List V), PyData.canLayAll0 (toPyL ds) = true → RpL K cl H ds vs → DpAll K H vs (toPyL ds)
  | [], vs, _, r => by cases (show vs = [] from r); exact .nil
  | d :: ds, vs, h, r => by
    obtain ⟨v, t, rfl, r1, r2⟩ := r
    have h' : (toPy d).canLay0 = true ∧ PyData.canLayAll0 (toPyL ds) = true := by simpa [toPyL, PyData.canLayAll0] using h
    exact .cons (toPy_ok d v h'.1 r1) (toPyL_ok ds t h'.2 r2)
end
/-- the data that a value is worth -/
def valW (S : Sto) : W → Option D
  | .da d => some d
  | .lo n => match S[n]? with
    | some (.lst ws) => (dats ws).map .lst
    | some (.tup ws) => (dats ws).map .tup
    | _ => none
  | .xc => none
/-- the very same by plain ways, or by the data's own == -/
noncomputable def eqD : D → D → Option Bool
  | .int i, .int j => some (dec (i = j))
  | .str x, .str y => some (dec (x = y))
  | .bl a, .bl b => some (dec (a = b))
  | a, b => ifc (SeqAt.shaped (toPy a) = true ∧ SeqAt.shaped (toPy b) = true) (some (PyData.eqv (toPy a) (toPy b))) none
noncomputable def eqB (x y : W) (S : Sto) : Option Bool := match valW S x, valW S y with
  | some a, some b => eqD a b
  | _, _ => none
noncomputable def eqW (x y : W) (S : Sto) : Option W := (eqB x y S).map fun b => .da (.bl b)
noncomputable def neW (x y : W) (S : Sto) : Option W := (eqB x y S).map fun b => .da (.bl (!b))
/-- room for nested data -/
abbrev Hu (X : Cx) : Prop := X.A.units + 200 < cLine
section
variable {X : Cx} {cl : Str → Option Addr}
theorem valW_ok {K : PySem.W.Frag} {y : Y} {S : Sto} (b : Bs K cl y S) {w : W} {v : V} {d : D} (r : RW K cl y w v) (h : valW S w = some d) : Rp K cl y.H d v := by
  unfold valW at h
  split at h
  · cases h; exact Rp.xt b.fz _ _ r
  · obtain ⟨a, e, rfl⟩ := r
    split at h
    · rename_i ws hc
      obtain ⟨_, vs, e2, l⟩ := b.at hc (by intro z; cases z) e
      obtain ⟨ds, q, rfl⟩ := Option.map_eq_some_iff.mp h
      exact ⟨a, vs, rfl, e2, RpL.xt b.fz _ _ (dats_ok l q)⟩
    · rename_i ws hc
      obtain ⟨_, vs, e2, l⟩ := b.at hc (by intro z; cases z) e
      obtain ⟨ds, q, rfl⟩ := Option.map_eq_some_iff.mp h
      exact ⟨a, vs, rfl, e2, RpL.xt b.fz _ _ (dats_ok l q)⟩
    · cases h
  · cases h
/-- what == gives -/
theorem eqB_ok {K : PySem.W.Frag} {y : Y} {S : Sto} (b : Bs K cl y S) {wx wy : W} {x z : V} {k : Bool} (rx : RW K cl y wx x) (rz : RW K cl y wy z) (h : eqB wx wy S = some k) :
    (scal x z = true ∧ k = decide (x = z)) ∨ ∃ d e, Dp K y.H x d ∧ Dp K y.H z e ∧ SeqAt.shaped d = true ∧ SeqAt.shaped e = true ∧ k = PyData.eqv d e := by
  unfold eqB at h
  split at h
  · rename_i p q hp hq
    have r1 := valW_ok b rx hp
    have r2 := valW_ok b rz hq
    unfold eqD at h
    split at h
    · rename_i i j
      cases h
      cases (show x = .int i from r1); cases (show z = .int j from r2)
      exact .inl ⟨rfl, by rw [dec_eq]; by_cases e : i = j <;> simp [e]⟩
    · rename_i i j
      cases h
      cases (show x = .str i from r1); cases (show z = .str j from r2)
      exact .inl ⟨rfl, by rw [dec_eq]; by_cases e : i = j <;> simp [e]⟩
    · rename_i i j
      cases h
      cases (show x = .bl i from r1); cases (show z = .bl j from r2)
      exact .inl ⟨rfl, by rw [dec_eq]; by_cases e : i = j <;> simp [e]⟩
    · obtain ⟨hs, rfl⟩ := ifc_some h
      exact .inr ⟨_, _, toPy_ok _ _ (SeqAt.canLay_of_shaped hs.1) r1, toPy_ok _ _ (SeqAt.canLay_of_shaped hs.2) r2, hs.1, hs.2, rfl⟩
  · cases h
theorem ow_eq (hu : Hu X) : HOp X cl (compareOp .Eq) (vl2 eqW) := V2.h fun y S b w w' v v' r r' u e Q g => by
  obtain ⟨k, e0, rfl⟩ := Option.map_eq_some_iff.mp e
  have q := gv_da (v := .bl k) b g rfl
  rcases eqB_ok b r r' e0 with ⟨h, rfl⟩ | ⟨d, e', h1, h2, h3, h4, rfl⟩
  · exact ⟨_, op_eq, h, q⟩
  · exact ⟨_, op_eqD (by have : X.A.units + 200 < cLine := hu; omega), d, e', h1, h2, h3, h4, q⟩
theorem ow_ne (hu : Hu X) : HOp X cl (compareOp .NotEq) (vl2 neW) := V2.h fun y S b w w' v v' r r' u e Q g => by
  obtain ⟨k, e0, rfl⟩ := Option.map_eq_some_iff.mp e
  have q := gv_da (v := .bl (!k)) b g rfl
  rcases eqB_ok b r r' e0 with ⟨h, rfl⟩ | ⟨d, e', h1, h2, h3, h4, rfl⟩
  · exact ⟨_, op_ne, h, q⟩
  · exact ⟨_, op_neD (by have : X.A.units + 200 < cLine := hu; omega), d, e', h1, h2, h3, h4, q⟩
/-- x is None -/
def isN : W → Option Bool
  | .da .non => some true
  | .da _ => some false
  | .lo _ => some false
  | .xc => none
def isNW (x y : W) (_ : Sto) : Option W := match y with
  | .da .non => (isN x).map fun b => .da (.bl b)
  | _ => none
def notNW (x y : W) (_ : Sto) : Option W := match y with
  | .da .non => (isN x).map fun b => .da (.bl (!b))
  | _ => none
theorem isN_ok {K : PySem.W.Frag} {y : Y} {w : W} {v : V} {k : Bool} (r : RW K cl y w v) (h : isN w = some k) : k = decide (v = .non) := by
  cases w with
  | xc => cases h
  | lo n => obtain ⟨a, _, rfl⟩ := r; cases h; exact (decide_eq_false (by intro z; cases z)).symm
  | da d =>
    cases d with
    | non => cases h; cases (show v = .non from r); simp
    | bl b => cases h; cases (show v = .bl b from r); exact (decide_eq_false (by intro z; cases z)).symm
    | int b => cases h; cases (show v = .int b from r); exact (decide_eq_false (by intro z; cases z)).symm
    | str b => cases h; cases (show v = .str b from r); exact (decide_eq_false (by intro z; cases z)).symm
    | tup ds => cases h; obtain ⟨_, _, rfl, _⟩ := r; exact (decide_eq_false (by intro z; cases z)).symm
    | wt ds => cases h; obtain ⟨_, _, rfl, _⟩ := r; exact (decide_eq_false (by intro z; cases z)).symm
    | lst ds => cases h; obtain ⟨_, _, rfl, _⟩ := r; exact (decide_eq_false (by intro z; cases z)).symm
    | scr ds => cases h; obtain ⟨_, _, rfl, _⟩ := r; exact (decide_eq_false (by intro z; cases z)).symm
    | dk g ds => cases h; obtain ⟨_, _, rfl, _⟩ := r; exact (decide_eq_false (by intro z; cases z)).symm
    | dt g ds => cases h; obtain ⟨_, _, rfl, _⟩ := r; exact (decide_eq_false (by intro z; cases z)).symm
    | obj c g ds => cases h; obtain ⟨_, _, _, _, rfl, _⟩ := r; exact (decide_eq_false (by intro z; cases z)).symm
theorem ow_is : HOp X cl (compareOp .Is) (vl2 isNW) := V2.h fun y S b w w' v v' r r' u e Q g => by
  unfold isNW at e
  split at e
  · obtain ⟨k, e0, rfl⟩ := Option.map_eq_some_iff.mp e
    have q := gv_da (v := .bl k) b g rfl
    rw [isN_ok r e0] at q
    exact ⟨_, op_isN, r', q⟩
  · cases e
theorem ow_isnot : HOp X cl (compareOp .IsNot) (vl2 notNW) := V2.h fun y S b w w' v v' r r' u e Q g => by
  unfold notNW at e
  split at e
  · obtain ⟨k, e0, rfl⟩ := Option.map_eq_some_iff.mp e
    have q := gv_da (v := .bl (!k)) b g rfl
    rw [isN_ok r e0] at q
    exact ⟨_, op_notN, r', q⟩
  · cases e
end

/-! ### items -/
theorem RWL.get {K : PySem.W.Frag} {cl : Str → Option Addr} {y : Y} : ∀ {ws : List W} {vs : List V} {i : Nat} {w : W}, RWL K cl y ws vs → ws[i]? = some w → ∃ v, vs[i]? = some v ∧ RW K cl y w v
  | _, _, _, _, .nil, e => by simp at e
  | _, _, 0, _, .cons r _, e => by simp at e; subst e; exact ⟨_, rfl, r⟩
  | _, _, i + 1, w, .cons _ t, e => by
    obtain ⟨u, h1, h2⟩ := RWL.get (i := i) (w := w) t (by simpa using e)
    exact ⟨u, by simpa using h1, h2⟩
theorem RWL.at {K : PySem.W.Frag} {cl : Str → Option Addr} {y : Y} {ws : List W} {vs : List V} {i : Int} {w : W} (h : RWL K cl y ws vs) (e : atI ws i = some w) : ∃ v, atI vs i = some v ∧ RW K cl y w v := by
  unfold atI at e ⊢
  rw [← Paired.length h]
  cases q : ixN ws.length i with
  | none => rw [q] at e; cases e
  | some j =>
    rw [q] at e
    exact RWL.get h e
/-! ### keys -/
def keyD : D → Option Key
  | .int i => some (.inl i)
  | .str x => some (.inr x)
  | _ => none
def keysD : List D → Option (List Key)
  | [] => some []
  | d :: ds => match keyD d, keysD ds with
    | some k, some ks => some (k :: ks)
    | _, _ => none
theorem keyD_ok {K : PySem.W.Frag} {cl : Str → Option Addr} {F : Hp} {d : D} {v : V} {k : Key} (r : Rp K cl F d v) (e : keyD d = some k) : v = kV k := by
  unfold keyD at e
  split at e
  · cases e; exact r
  · cases e; exact r
  · cases e
theorem keysD_ok {K : PySem.W.Frag} {cl : Str → Option Addr} {F : Hp} : ∀ {ds : List D} {vs : List V} {ks : List Key}, RpL K cl F ds vs → keysD ds = some ks → vs = ks.map kV
  | [], vs, ks, r, e => by cases e; exact r
  | d :: ds, vs, ks, r, e => by
    obtain ⟨v, t, rfl, r1, r2⟩ := r
    simp only [keysD] at e
    split at e
    · rename_i k ks' e1 e2
      cases e
      rw [keyD_ok r1 e1, keysD_ok r2 e2]
      rfl
    · cases e
/-- a dict's pairs: by keys that are numbers or texts, by tuples of them -/
def dkW (S : Sto) : W → Option (List (Key × W))
  | .da (.dk ks ds) => some (ks.zip (ds.map .da))
  | .lo n => match S[n]? with
    | some (.dk kws) => some kws
    | _ => none
  | _ => none
def dtW (S : Sto) : W → Option (List (List Key × W))
  | .da (.dt ks ds) => some (ks.zip (ds.map .da))
  | .lo n => match S[n]? with
    | some (.dt kws) => some kws
    | _ => none
  | _ => none
def keyW : W → Option Key
  | .da d => keyD d
  | _ => none
/-- a tuple of keys that is tracked -/
def keysW : W → Option (List Key)
  | .da (.tup ds) => keysD ds
  | _ => none
def look {κ : Type} [DecidableEq κ] : List (κ × W) → κ → Option W
  | [], _ => none
  | (k, w) :: r, j => if k = j then some w else look r j
/-- what stands in a dict at y: none where y is no key or x no dict -/
def dget (x y : W) (S : Sto) : Option (Option W) := match dkW S x with
  | some kws => (keyW y).map (look kws)
  | none => match dtW S x with
    | some kws => (keysW y).map (look kws)
    | none => none
section
variable {X : Cx} {cl : Str → Option Addr}
theorem look_ok {κ : Type} [DecidableEq κ] {K : PySem.W.Frag} {y : Y} {k : κ} : ∀ {kws : List (κ × W)} {kvs : List (κ × V)}, RWP K cl y kws kvs → (∀ w, look kws k = some w → ∃ v, valV kvs k = some v ∧ RW K cl y w v) ∧ (look kws k = none → valV kvs k = none)
  | _, _, .nil => ⟨(fun w e => by cases e), fun _ => valV_nil⟩
  | (j, w) :: kws, (j', v) :: kvs, .cons ⟨e, r⟩ t => by
    cases (show j = j' from e)
    simp only [look]
    by_cases h : j = k
    · rw [if_pos h]
      refine ⟨fun u e => ?_, fun e => by cases e⟩
      cases e
      exact ⟨v, valV_pos h, r⟩
    · rw [if_neg h, valV_neg h]
      exact look_ok t
theorem rwp_of {κ : Type} {K : PySem.W.Frag} {y : Y} : ∀ {ks : List κ} {ws : List W} {vs : List V}, RWL K cl y ws vs → ks.length = vs.length → RWP K cl y (ks.zip ws) (ks.zip vs)
  | [], _, _, .nil, _ => .nil
  | [], _, _, .cons _ _, h => by simp at h
  | k :: ks, _, _, .nil, h => by simp at h
  | k :: ks, _, _, .cons r t, h => .cons ⟨rfl, r⟩ (rwp_of t (by simpa using h))
theorem dkW_ok {K : PySem.W.Frag} {y : Y} {S : Sto} (b : Bs K cl y S) {w : W} {v : V} {kws : List (Key × W)} (r : RW K cl y w v) (h : dkW S w = some kws) : ∃ a kvs, v = .ref a ∧ Rd y.H a (.dK kvs) ∧ RWP K cl y kws kvs := by
  unfold dkW at h
  split at h
  · cases h
    obtain ⟨a, vs, e, ⟨o, t⟩, n, l⟩ := r
    exact ⟨a, _, e, .inr ⟨o, b.fz _ _ t⟩, rwp_of (rwl_da l) n⟩
  · obtain ⟨a, e, rfl⟩ := r
    split at h
    · rename_i kws' hc
      cases h
      obtain ⟨_, kvs, e2, l⟩ := b.at hc (by intro z; cases z) e
      exact ⟨a, kvs, rfl, .inl e2, l⟩
    · cases h
  · cases h
theorem dtW_ok {K : PySem.W.Frag} {y : Y} {S : Sto} (b : Bs K cl y S) {w : W} {v : V} {kws : List (List Key × W)} (r : RW K cl y w v) (h : dtW S w = some kws) : ∃ a kvs, v = .ref a ∧ Rd y.H a (.dT kvs) ∧ RWP K cl y kws kvs := by
  unfold dtW at h
  split at h
  · cases h
    obtain ⟨a, vs, e, ⟨o, t⟩, n, l⟩ := r
    exact ⟨a, _, e, .inr ⟨o, b.fz _ _ t⟩, rwp_of (rwl_da l) n⟩
  · obtain ⟨a, e, rfl⟩ := r
    split at h
    · rename_i kws' hc
      cases h
      obtain ⟨_, kvs, e2, l⟩ := b.at hc (by intro z; cases z) e
      exact ⟨a, kvs, rfl, .inl e2, l⟩
    · cases h
  · cases h
theorem keyW_ok {K : PySem.W.Frag} {y : Y} {w : W} {v : V} {k : Key} (r : RW K cl y w v) (e : keyW w = some k) : v = kV k := by
  unfold keyW at e
  split at e
  · exact keyD_ok r e
  · cases e
theorem keysW_ok {K : PySem.W.Frag} {y : Y} {S : Sto} (b : Bs K cl y S) {w : W} {v : V} {k : List Key} (r : RW K cl y w v) (e : keysW w = some k) : ∃ p, v = .ref p ∧ y.H p = some (.tup (k.map kV)) := by
  unfold keysW at e
  split at e
  · obtain ⟨p, vs, e1, t, l⟩ := r
    rw [← keysD_ok l e]
    exact ⟨p, e1, b.fz _ _ t⟩
  · cases e
/-- the heap's side of dget -/
theorem dget_ok {K : PySem.W.Frag} {y : Y} {S : Sto} (b : Bs K cl y S) {wd wk : W} {d k : V} {o : Option W} (rd : RW K cl y wd d) (rk : RW K cl y wk k) (h : dget wd wk S = some o) :
    ∃ a ov, d = .ref a ∧ DGet y.H a k ov ∧ (∀ w, o = some w → ∃ v, ov = some v ∧ RW K cl y w v) ∧ (o = none → ov = none) := by
  unfold dget at h
  split at h
  · rename_i kws hk
    obtain ⟨a, kvs, e, t, l⟩ := dkW_ok b rd hk
    obtain ⟨kk, hkk, rfl⟩ := Option.map_eq_some_iff.mp h
    have ek := keyW_ok rk hkk
    obtain ⟨q1, q2⟩ := look_ok (k := kk) l
    exact ⟨a, valV kvs kk, e, .inl ⟨kvs, kk, t, ek, rfl⟩, q1, q2⟩
  · split at h
    · rename_i kws hk
      obtain ⟨a, kvs, e, t, l⟩ := dtW_ok b rd hk
      obtain ⟨kk, hkk, rfl⟩ := Option.map_eq_some_iff.mp h
      obtain ⟨p, ek, hp⟩ := keysW_ok b rk hkk
      obtain ⟨q1, q2⟩ := look_ok (k := kk) l
      exact ⟨a, valV kvs kk, e, .inr ⟨kvs, kk, p, t, ek, hp, rfl⟩, q1, q2⟩
    · cases h
open PySem.Spec PyProof.Rows in
theorem ix_dict (hu : X.A.units + 1 < cLine) : IxR X (fun x y H Q => ∃ a v, x = .ref a ∧ DGet H a y (some v) ∧ Q v H) := by
  intro value slice pins s σ H x y v u Q I rx ry h hs
  obtain ⟨a, w, rfl, g, q⟩ := h
  obtain rfl : v = Value.ref a := rx
  have hT := dict_typeIs I g
  unfold subscriptTail
  refine wpAny_bind ?_
  rw [getitemInPython_of_ne hT.not_modules]
  refine wpAny_bind (wpAny_specialOf hT PySem.F.slot_dict_getitem.lookup ?_)
  have fin : wpAny (model X.prog X.w) X.A (subscripted slice false (.ref a) u) (fun r s₃ => wpAny (model X.prog X.w) X.A (letTemporaryGo value (.ref a) r >>= fun _ => pure r) (EP X pins σ Q) X.xe s₃) X.xe s := by
    rw [hs]
    refine wpAny_operating (d_getItem hu I g ry fun w' s3 I3 rw' => ?_)
    exact wpAny_bind (wpAny_letTemporaryGo (wpAny_pure ⟨w, H, I3, rw', q⟩))
  first
    | exact wpAny_pure (wpAny_bind fin)
    | exact wpAny_bind (wpAny_pure (wpAny_bind fin))
    | exact wpAny_bind fin
theorem op_in_dict (hu : X.A.units + 1 < cLine) : OpR X (compareOp .In) (fun x y H Q => ∃ a o, y = .ref a ∧ DGet H a x o ∧ Q (.bl o.isSome) H) := by
  intro pins s σ H x y v u Q I rx ry h
  obtain ⟨a, o, rfl, g, q⟩ := h
  obtain rfl : u = Value.ref a := ry
  exact d_in hu I g rx fun s3 I3 => ⟨.bl o.isSome, H, I3, rfl, q⟩
theorem op_notin_dict (hu : X.A.units + 1 < cLine) : OpR X (compareOp .NotIn) (fun x y H Q => ∃ a o, y = .ref a ∧ DGet H a x o ∧ Q (.bl (!o.isSome)) H) := by
  intro pins s σ H x y v u Q I rx ry h
  obtain ⟨a, o, rfl, g, q⟩ := h
  obtain rfl : u = Value.ref a := ry
  exact d_notIn hu I g rx fun s3 I3 => ⟨.bl (!o.isSome), H, I3, rfl, q⟩
/-- x[i]: a sequence's item, a text's sign, a dict's value -/
noncomputable def ixW (x i : W) (S : Sto) : Option W := match seqW S x with
  | some ws => match i with
    | .da (.int k) => atI ws k
    | _ => none
  | none => match x, i with
    | .da (.str z), .da (.int k) => ifc (z.length ≤ sizeLine) ((atI z.cps.toList k).map fun c => .da (.str ⟨#[c]⟩)) none
    | _, _ => match dget x i S with
      | some o => o
      | none => none
theorem xw_ix (hu : Hu X) : HIx X cl (vl2 ixW) := V2.h fun y S b w w' v v' r r' u e Q g => by
  unfold ixW at e
  split at e
  · rename_i ws hs
    obtain ⟨a, vs, rfl, t, l⟩ := seqW_ok b r hs
    split at e
    · rename_i k
      cases (show v' = .int k from r')
      obtain ⟨z, e1, e2⟩ := RWL.at l e
      have q := gv_w b g e2
      rcases t with t | t
      · exact ⟨_, ix_list, a, vs, k, z, rfl, rfl, t, e1, q⟩
      · exact ⟨_, ix_tup, a, vs, k, z, rfl, rfl, t, e1, q⟩
    · cases e
  · split at e
    · rename_i z k _
      rcases ifc_cases (P := fun r => r = some u) e with ⟨hl, e⟩ | ⟨_, e⟩
      · obtain ⟨c, ec, rfl⟩ := Option.map_eq_some_iff.mp e
        exact ⟨_, ix_str, z, k, c, r, r', hl, ec, gv_da b g rfl⟩
      · cases e
    · split at e
      · rename_i o hd
        subst e
        obtain ⟨a, ov, rfl, dg, h1, _⟩ := dget_ok b r r' hd
        obtain ⟨z, rfl, rz⟩ := h1 u rfl
        exact ⟨_, ix_dict (by have : X.A.units + 200 < cLine := hu; omega), a, z, rfl, dg, gv_w b g rz⟩
      · cases e
theorem qe_ix {xa : Option (Nat × Addr)} {Wx : WX} {pos : Pos} {a b : Expr} {ma mb : ME} {F : W → W → Sto → Rs W} (ho : HIx X cl F) (ha : QE X cl xa Wx a ma) (hb : QE X cl xa Wx b mb) (hs : PlainIx b) : QE X cl xa Wx (.Subscript a b pos) (mOp F ma mb) := by
  obtain ⟨t, p, q⟩ := ha
  obtain ⟨t2, p2, q2⟩ := hb
  exact ⟨_, pe_ix ix_any p p2 hs, se_op ho q q2⟩
/-- x in y: a dict, a sign of a text, a list, a tuple of flat things -/
def flatD : D → Bool
  | .non => true
  | .bl _ => true
  | .int _ => true
  | .str _ => true
  | _ => false
def flV : D → V
  | .bl b => .bl b
  | .int i => .int i
  | .str x => .str x
  | _ => .non
noncomputable def inB (x y : W) (S : Sto) : Option Bool := match dget y x S with
  | some o => some o.isSome
  | none => match x, y with
    | .da (.str a), .da (.str z) => (match a with
      | ⟨⟨[c]⟩⟩ => some (dec (c ∈ z.cps.toList))
      | _ => none)
    | _, _ => match valW S x, valW S y with
      | some a, some (.lst ds) => ifc (SeqAt.shaped (toPy a) = true ∧ SeqAt.shaped (.list (toPyL ds)) = true) (some (ds.any fun z => PyData.eqv (toPy z) (toPy a))) none
      | some a, some (.scr ds) => ifc (SeqAt.shaped (toPy a) = true ∧ SeqAt.shaped (.list (toPyL ds)) = true) (some (ds.any fun z => PyData.eqv (toPy z) (toPy a))) none
      | some a, some (.tup ds) => ifc (flatD a = true ∧ ds.all flatD = true) (some (ds.any fun z => eqV (flV z) (flV a))) none
      | some a, some (.wt ds) => ifc (flatD a = true ∧ ds.all flatD = true) (some (ds.any fun z => eqV (flV z) (flV a))) none
      | _, _ => none
noncomputable def inW (x y : W) (S : Sto) : Option W := (inB x y S).map fun b => .da (.bl b)
noncomputable def notinW (x y : W) (S : Sto) : Option W := (inB x y S).map fun b => .da (.bl (!b))
theorem flat_ok {K : PySem.W.Frag} {F : Hp} {d : D} {v : V} (r : Rp K cl F d v) (h : flatD d = true) : v = flV d ∧ flatV v = true := by
  cases d <;> simp [flatD] at h
  · cases (show v = .non from r); exact ⟨rfl, rfl⟩
  · cases r; exact ⟨rfl, rfl⟩
  · cases r; exact ⟨rfl, rfl⟩
  · cases r; exact ⟨rfl, rfl⟩
theorem flats_ok {K : PySem.W.Frag} {F : Hp} {x : V} : ∀ {ds : List D} {vs : List V}, RpL K cl F ds vs → ds.all flatD = true → vs.all flatV = true ∧ inV x vs = ds.any fun z => eqV (flV z) x
  | [], vs, r, _ => by cases (show vs = [] from r); exact ⟨rfl, rfl⟩
  | d :: ds, vs, r, h => by
    obtain ⟨v, t, rfl, r1, r2⟩ := r
    simp only [List.all_cons, Bool.and_eq_true] at h
    obtain ⟨e1, e2⟩ := flat_ok r1 h.1
    obtain ⟨f1, f2⟩ := flats_ok (x := x) r2 h.2
    refine ⟨by simp [e2, f1], ?_⟩
    have : inV x (v :: t) = (eqV v x || inV x t) := rfl
    rw [this, f2, e1]
    rfl
theorem inB_ok {K : PySem.W.Frag} {y : Y} {S : Sto} (b : Bs K cl y S) {wx wy : W} {x z : V} {k : Bool} (rx : RW K cl y wx x) (rz : RW K cl y wy z) (h : inB wx wy S = some k) :
    (∃ a o, z = .ref a ∧ DGet y.H a x o ∧ k = o.isSome) ∨ (∃ (c : Nat) (t : Str), x = .str ⟨#[c]⟩ ∧ z = .str t ∧ k = decide (c ∈ t.cps.toList)) ∨
    (∃ d ds, Dp K y.H x d ∧ Dp K y.H z (.list ds) ∧ SeqAt.shaped d = true ∧ SeqAt.shaped (.list ds) = true ∧ k = ds.any fun z => PyData.eqv z d) ∨
    ∃ p xs, z = .ref p ∧ (SqL K y.H p xs ∨ SqT K y.H p xs) ∧ flatV x = true ∧ xs.all flatV = true ∧ k = inV x xs := by
  have pyl : ∀ (ds : List D) (p : PyData), (toPyL ds).any (fun z => PyData.eqv z p) = ds.any fun z => PyData.eqv (toPy z) p := fun ds p => by
    rw [toPyL_map, List.any_map]; rfl
  unfold inB at h
  split at h
  · rename_i o hd
    cases h
    obtain ⟨a, ov, e, g, h1, h2⟩ := dget_ok b rz rx hd
    refine .inl ⟨a, ov, e, g, ?_⟩
    cases o with
    | none => rw [h2 rfl]; rfl
    | some w => obtain ⟨v, rfl, _⟩ := h1 w rfl; rfl
  · split at h
    · rename_i a t _
      split at h
      · rename_i c _
        cases h
        exact .inr (.inl ⟨c, t, rx, rz, dec_eq _⟩)
      · cases h
    · split at h
      · rename_i a ds h1 h2
        have r1 := valW_ok b rx h1
        have r2 := valW_ok b rz h2
        obtain ⟨hs, rfl⟩ := ifc_some h
        exact .inr (.inr (.inl ⟨_, _, toPy_ok _ _ (SeqAt.canLay_of_shaped hs.1) r1, toPy_ok (.lst ds) _ (SeqAt.canLay_of_shaped hs.2) r2, hs.1, hs.2, (pyl _ _).symm⟩))
      · rename_i a ds h1 h2
        have r1 := valW_ok b rx h1
        have r2 := valW_ok b rz h2
        obtain ⟨hs, rfl⟩ := ifc_some h
        exact .inr (.inr (.inl ⟨_, _, toPy_ok _ _ (SeqAt.canLay_of_shaped hs.1) r1, toPy_ok (.scr ds) _ (SeqAt.canLay_of_shaped hs.2) r2, hs.1, hs.2, (pyl _ _).symm⟩))
      · rename_i a ds h1 h2
        have r1 := valW_ok b rx h1
        obtain ⟨p, xs, e, t, l⟩ := valW_ok b rz h2
        obtain ⟨hs, rfl⟩ := ifc_some h
        obtain ⟨e1, e2⟩ := flat_ok r1 hs.1
        obtain ⟨f1, f2⟩ := flats_ok (x := x) l hs.2
        refine .inr (.inr (.inr ⟨p, xs, e, .inr (.inl (.inl t)), e2, f1, ?_⟩))
        rw [f2, e1]
      · rename_i a ds h1 h2
        have r1 := valW_ok b rx h1
        obtain ⟨p, xs, e, t, l⟩ := valW_ok b rz h2
        obtain ⟨hs, rfl⟩ := ifc_some h
        obtain ⟨e1, e2⟩ := flat_ok r1 hs.1
        obtain ⟨f1, f2⟩ := flats_ok (x := x) l hs.2
        refine .inr (.inr (.inr ⟨p, xs, e, .inr t, e2, f1, ?_⟩))
        rw [f2, e1]
      · cases h
theorem ow_in (hu : Hu X) : HOp X cl (compareOp .In) (vl2 inW) := V2.h fun y S b w w' v v' r r' u e Q g => by
  obtain ⟨k, e0, rfl⟩ := Option.map_eq_some_iff.mp e
  have q := gv_da (v := .bl k) b g rfl
  have h1 : X.A.units + 200 < cLine := hu
  rcases inB_ok b r r' e0 with ⟨a, o, rfl, dg, rfl⟩ | ⟨c, t, rfl, rfl, rfl⟩ | ⟨d, ds, e1, e2, e3, e4, rfl⟩ | ⟨p, xs, rfl, e1, e2, e3, rfl⟩
  · exact ⟨_, op_in_dict (by omega), a, o, rfl, dg, q⟩
  · exact ⟨_, op_in_sign, c, t, rfl, rfl, q⟩
  · exact ⟨_, op_inD (by omega), d, ds, e1, e2, e3, e4, q⟩
  · exact ⟨_, op_in_seq, p, xs, rfl, e1, e2, e3, q⟩
theorem ow_notin (hu : Hu X) : HOp X cl (compareOp .NotIn) (vl2 notinW) := V2.h fun y S b w w' v v' r r' u e Q g => by
  obtain ⟨k, e0, rfl⟩ := Option.map_eq_some_iff.mp e
  have q := gv_da (v := .bl (!k)) b g rfl
  have h1 : X.A.units + 200 < cLine := hu
  rcases inB_ok b r r' e0 with ⟨a, o, rfl, dg, rfl⟩ | ⟨c, t, rfl, rfl, rfl⟩ | ⟨d, ds, e1, e2, e3, e4, rfl⟩ | ⟨p, xs, rfl, e1, e2, e3, rfl⟩
  · exact ⟨_, op_notin_dict (by omega), a, o, rfl, dg, q⟩
  · exact ⟨_, op_notIn_sign, c, t, rfl, rfl, q⟩
  · exact ⟨_, op_notInD (by omega), d, ds, e1, e2, e3, e4, q⟩
  · exact ⟨_, op_notIn_seq, p, xs, rfl, e1, e2, e3, q⟩
end
end Ng
namespace Ng
open PySem L2

/-! ### locked for good: dicts as data -/
def datL : Cell → Option D
  | .dk kws => (dats (kws.map (·.2))).map (.dk (kws.map (·.1)))
  | .dt kws => (dats (kws.map (·.2))).map (.dt (kws.map (·.1)))
  | _ => none
def mkL (o : Option Cell) (S : Sto) : Rs W := match o with
  | some c => match datL c with
    | some d => .ok (.da d) S
    | none => .stuck
  | none => .stuck
def lkN (f : List W → Sto → Option Cell) : List W → Sto → Rs W := fun xs S => mkL (f xs S) S
def rLk (r : List V → Hp → VK → Prop) : List V → Hp → VK → Prop := fun vs H Q => r vs H fun v H1 => Lks (Q v) H1
section
variable {X : Cx} {cl : Str → Option Addr} {xa : Option (Nat × Addr)} {C : Cn} {Wx : WX} {y : Y} {σ : St} {ρ : Rho} {S : Sto} {Q : VK}
theorem datL_ok {K : PySem.W.Frag} {p : Addr} {o : HO} {c : Cell} {d : D} (hc : CellR K cl (y.new p o) p c) (e : datL c = some d) : Mut (some o) ∧ ∀ (od : Obj) (F' : Hp), Ex y.F F' → F' p = some (.frz od o) → Rp K cl F' d (.ref p) := by
  cases c with
  | dk kws =>
    obtain ⟨kvs, h1, h2⟩ := hc
    have e1 : some o = some (.dK kvs) := upd_same.symm.trans h1
    cases e1
    obtain ⟨ds, q, rfl⟩ := Option.map_eq_some_iff.mp e
    obtain ⟨z1, z2⟩ := rwp_zip h2
    refine ⟨trivial, fun od F' x e => ⟨p, kvs.map (·.2), rfl, ⟨od, ?_⟩, ?_, RpL.xt x _ _ (dats_ok (y := y.new p _) z1 q)⟩⟩
    · rw [← z2]; exact e
    · rw [List.length_map, List.length_map]; exact Paired.length h2
  | dt kws =>
    obtain ⟨kvs, h1, h2⟩ := hc
    have e1 : some o = some (.dT kvs) := upd_same.symm.trans h1
    cases e1
    obtain ⟨ds, q, rfl⟩ := Option.map_eq_some_iff.mp e
    obtain ⟨z1, z2⟩ := rwp_zip h2
    refine ⟨trivial, fun od F' x e => ⟨p, kvs.map (·.2), rfl, ⟨od, ?_⟩, ?_, RpL.xt x _ _ (dats_ok (y := y.new p _) z1 q)⟩⟩
    · rw [← z2]; exact e
    · rw [List.length_map, List.length_map]; exact Paired.length h2
  | lst _ => cases e
  | tup _ => cases e
  | ins _ _ => cases e
  | dead => cases e
theorem upd_upd {H : Hp} {p : Addr} {o o' : HO} : upd (upd H p o) p o' = upd H p o' := by
  funext b
  by_cases h : b = p
  · subst h; rw [upd_same, upd_same]
  · rw [upd_ne h, upd_ne h, upd_ne h]
theorem post_newL {K : PySem.W.Frag} {o : Option Cell} (s : Sim K cl xa C y σ ρ S) (h : Post K cl xa C Wx y σ ρ (mkL o S) (OkE K cl xa C y σ ρ Q)) : ∃ c, o = some c ∧ Gn K cl y c (fun v H1 => Lks (Q v) H1) := by
  unfold mkL at h
  split at h
  · rename_i c
    split at h
    · rename_i d hd
      refine ⟨_, rfl, fun p o hp hc => ?_⟩
      obtain ⟨mu, hr⟩ := datL_ok hc hd
      refine .lock p o upd_same mu fun od => .now ?_
      rw [upd_upd]
      have al := Al.new (o := .frz od o) s.bs.fz hp
      exact h (.ref p) _ (s.al al) al.gr (hr od _ al.f upd_same)
    · exact h.elim
  · exact h.elim
theorem CN.l {r : List V → Hp → VK → Prop} {f : List W → Sto → Option Cell} (v : CN X cl r f) : HN X cl (rLk r) (lkN f) := fun xa C Wx y σ ρ S s w x rx Q h => by
  obtain ⟨u, e, g⟩ := post_newL s h
  exact v y S s.bs w x rx u e _ g
end

/-! ### built-ins by name -/
section
variable {X : Cx} {cl : Str → Option Addr} {xa : Option (Nat × Addr)} {Wx : WX} {pos : Pos} {a b c e : Expr} {es : List Expr} {ma mb mc me : ME} {mr : MA} {ta tb tc : MT}
theorem qe_callB {x : Str} {id : String} {p : Pos} {F : List W → Sto → Rs W} (ho : HCall X cl (.builtin id) F) (hg : Gl X x) (hm : X.mg x = none) (hv : bootBuiltins x = some (.builtin id)) (ha : QA X cl xa Wx (e :: es) mr) (hn : x ≠ "__name__" := by decide) (hdb : (x == ("__debug__" : Str)) = false := by decide)
    (he : starEach (e :: es) X.env = (false, eval e X.env) :: starEach es X.env := by rfl) (hpl : (backTo pos (starEach es X.env)).any (·.1) = false := by rfl) : QE X cl xa Wx (.Call (.Name x p) (e :: es) [] pos) (mCall F mr) := by
  obtain ⟨t, p, q⟩ := ha
  exact ⟨_, pe_callB call_any hg hm hv p hn hdb he hpl, se_call ho q⟩
theorem qe_callTy {x : Str} {T : String} {p : Pos} {F : List W → Sto → Rs W} (ho : HCall X cl (.type T) F) (hg : Gl X x) (hm : X.mg x = none) (hv : bootBuiltins x = some (.type T)) (ha : QA X cl xa Wx (e :: es) mr) (hn : x ≠ "__name__" := by decide) (hdb : (x == ("__debug__" : Str)) = false := by decide)
    (he : starEach (e :: es) X.env = (false, eval e X.env) :: starEach es X.env := by rfl) (hpl : (backTo pos (starEach es X.env)).any (·.1) = false := by rfl) : QE X cl xa Wx (.Call (.Name x p) (e :: es) [] pos) (mCall F mr) := by
  obtain ⟨t, p, q⟩ := ha
  exact ⟨_, pe_callTy call_any hg hm hv p hn hdb he hpl, se_call ho q⟩
/-- .. what is made is locked for good -/
theorem qe_callTyL {x : Str} {T : String} {p : Pos} {F : List W → Sto → Rs W} (ho : HN X cl (rLk (cAny X (.type T))) F) (hg : Gl X x) (hm : X.mg x = none) (hv : bootBuiltins x = some (.type T)) (ha : QA X cl xa Wx (e :: es) mr) (hn : x ≠ "__name__" := by decide) (hdb : (x == ("__debug__" : Str)) = false := by decide)
    (he : starEach (e :: es) X.env = (false, eval e X.env) :: starEach es X.env := by rfl) (hpl : (backTo pos (starEach es X.env)).any (·.1) = false := by rfl) : QE X cl xa Wx (.Call (.Name x p) (e :: es) [] pos) (mCall F mr) := by
  obtain ⟨t, p, q⟩ := ha
  exact ⟨_, pe_lk (pe_callTy call_any hg hm hv p hn hdb he hpl), se_call ho q⟩
theorem rwl1 {K : PySem.W.Frag} {y : Y} {w : W} {vs : List V} (h : RWL K cl y [w] vs) : ∃ v, vs = [v] ∧ RW K cl y w v := by
  cases h with
  | cons r t => cases t; exact ⟨_, rfl, r⟩
theorem rwl2 {K : PySem.W.Frag} {y : Y} {w u : W} {vs : List V} (h : RWL K cl y [w, u] vs) : ∃ v z, vs = [v, z] ∧ RW K cl y w v ∧ RW K cl y u z := by
  cases h with
  | cons r t =>
    cases t with
    | cons r2 t2 => cases t2; exact ⟨_, _, rfl, r, r2⟩
theorem call_lenR : CallR X (.builtin "len") (fun xs H Q => ∃ a kvs, xs = [V.ref a] ∧ Rd H a (.dK kvs) ∧ Q (.int kvs.length) H) := by
  intro pins s σ H xs us Q I r h
  obtain ⟨a, kvs, rfl, e, q⟩ := h
  cases r with
  | cons r1 t =>
    cases t
    cases r1
    exact d_len I e fun t s' I' => ⟨.int kvs.length, H, I', ⟨t, rfl⟩, q⟩
/-- len -/
noncomputable def lenW : List W → Sto → Option W
  | [w], S => match seqW S w with
    | some ws => some (.da (.int ws.length))
    | none => match w with
      | .da (.str z) => ifc (z.length ≤ sizeLine) (some (.da (.int z.length))) none
      | _ => match dkW S w with
        | some kws => some (.da (.int kws.length))
        | none => none
  | _, _ => none
theorem cw_len : HCall X cl (.builtin "len") (vlN lenW) := VN.h fun y S b ws vs rs u e Q g => by
  unfold lenW at e
  split at e
  · rename_i w
    obtain ⟨v, rfl, r⟩ := rwl1 rs
    split at e
    · rename_i us q
      cases e
      obtain ⟨p, vs, rfl, t, l⟩ := seqW_ok b r q
      refine ⟨_, call_len_seq, p, vs, rfl, t, ?_⟩
      rw [← Paired.length l]
      exact gv_da b g rfl
    · split at e
      · rename_i z _
        obtain ⟨hl, rfl⟩ := ifc_some e
        cases (show v = .str z from r)
        exact ⟨_, call_len, _, z.length, rfl, ⟨hl, rfl⟩, gv_da b g rfl⟩
      · split at e
        · rename_i kws q
          cases e
          obtain ⟨a, kvs, rfl, t, l⟩ := dkW_ok b r q
          refine ⟨_, call_lenR, a, kvs, rfl, t, ?_⟩
          rw [← Paired.length l]
          exact gv_da b g rfl
        · cases e
  · cases e
def min2W : List W → Sto → Option W
  | [.da (.int i), .da (.int j)], _ => some (.da (.int (if j < i then j else i)))
  | _, _ => none
def max2W : List W → Sto → Option W
  | [.da (.int i), .da (.int j)], _ => some (.da (.int (if j > i then j else i)))
  | _, _ => none
theorem cw_min2 (hc : X.calm = true) : HCall X cl (.builtin "min") (vlN min2W) := VN.h fun y S b ws vs rs u e Q g => by
  unfold min2W at e
  split at e
  · rename_i i j
    cases e
    obtain ⟨v, z, rfl, r1, r2⟩ := rwl2 rs
    cases (show v = .int i from r1); cases (show z = .int j from r2)
    exact ⟨_, call_min2 hc, i, j, rfl, gv_da b g rfl⟩
  · cases e
theorem cw_max2 (hc : X.calm = true) : HCall X cl (.builtin "max") (vlN max2W) := VN.h fun y S b ws vs rs u e Q g => by
  unfold max2W at e
  split at e
  · rename_i i j
    cases e
    obtain ⟨v, z, rfl, r1, r2⟩ := rwl2 rs
    cases (show v = .int i from r1); cases (show z = .int j from r2)
    exact ⟨_, call_max2 hc, i, j, rfl, gv_da b g rfl⟩
  · cases e
def intW : List W → Sto → Option W
  | [.da (.int i)], _ => some (.da (.int i))
  | [.da (.bl b)], _ => some (.da (.int (if b then 1 else 0)))
  | _, _ => none
theorem cw_int : HCall X cl (.type "int") (vlN intW) := VN.h fun y S b ws vs rs u e Q g => by
  unfold intW at e
  split at e
  · cases e
    obtain ⟨v, rfl, r⟩ := rwl1 rs
    cases r
    exact ⟨_, call_int1, .inl ⟨_, rfl, gv_da b g rfl⟩⟩
  · cases e
    obtain ⟨v, rfl, r⟩ := rwl1 rs
    cases r
    exact ⟨_, call_int1, .inr ⟨_, rfl, gv_da b g rfl⟩⟩
  · cases e
/-- list(x): of a list, a tuple, a dict's keys -/
def kD : Key → D
  | .inl i => .int i
  | .inr x => .str x
theorem kD_ok {K : PySem.W.Frag} {F : Hp} (k : Key) : Rp K cl F (kD k) (kV k) := by cases k <;> rfl
def listC : List W → Sto → Option Cell
  | [w], S => match seqW S w with
    | some ws => some (.lst ws)
    | none => match dkW S w with
      | some kws => some (.lst (kws.map fun kw => .da (kD kw.1)))
      | none => none
  | _, _ => none
theorem rwl_keys {K : PySem.W.Frag} {y : Y} : ∀ {kws : List (Key × W)} {kvs : List (Key × V)}, RWP K cl y kws kvs → RWL K cl y (kws.map fun kw => .da (kD kw.1)) (kvs.map fun kv => kV kv.1)
  | _, _, .nil => .nil
  | (k, w) :: kws, (k', v) :: kvs, .cons h t => by
    cases (show k = k' from h.1)
    exact .cons (kD_ok k) (rwl_keys t)
open PySem.Spec PyProof.Rows in
theorem call_list_dR (hc : X.calm = true) : CallR X (.type "list") (fun xs H Q => ∃ p kvs, xs = [V.ref p] ∧ Rd H p (.dK kvs) ∧ ∀ q, H q = none → Q (.ref q) (upd H q (.lst (kvs.map fun kv => kV kv.1)))) := by
  intro pins s σ H xs us Q I r ⟨p, kvs, e, hk, q⟩
  subst e
  obtain ⟨u, rfl, rx⟩ := vals1 r
  cases (show u = Value.ref p from rx)
  obtain ⟨z, lo, vs, rk, hd⟩ := dk_rd I.hok hk
  obtain ⟨ep, hat⟩ := hd.dictAt
  have hl : kvs.length = vs.length := Paired.length rk
  refine PySem.W.kdl_call (PySem.W.kdl_dict (knd := mixKind X.prog X.w) (kvs := vs) (ep := ep) lo) (I.ok.hd hc) hat (by omega) fun h' tk ac c' hkeep hS hacc => ?_
  have ok : ObjOk X.prog X.w (upd H s.heap.objs.size (.lst (kvs.map fun kv => kV kv.1))) h' s.heap.objs.size (.lst (kvs.map fun kv => kV kv.1)) := by
    refine ⟨by rw [List.length_map]; exact z, ac.toList, c', vals_of_at (by have q1 := hacc.1; simp only [List.length_map]; rw [show ac.toList.length = ac.size by simp, q1, hl]) fun j x w h1 h2 => ?_, by rw [Array.toArray_toList]; exact hS⟩
    obtain ⟨k, y, hky, hi⟩ := hacc.2 j w (by rw [← Array.getElem?_toList]; exact h2)
    have e1 : (kvs.map (·.1))[j]? = some k := by
      rw [KV.keys rk, List.getElem?_map, hky]; rfl
    have e2 : (kvs.map fun kv => kV kv.1) = (kvs.map (·.1)).map kV := by rw [List.map_map]; rfl
    rw [e2, List.getElem?_map, e1] at h1
    cases h1
    exact keyIs_rel hi
  exact ⟨.ref s.heap.objs.size, _, I.laid hkeep (Nat.le_refl _) ok, rfl, q _ (I.hok.fresh (Nat.le_refl _))⟩
theorem cn_list (hc : X.calm = true) : CN X cl (cAny X (.type "list")) listC := fun y S b ws vs rs c e Q g => by
  unfold listC at e
  split at e
  · rename_i w
    obtain ⟨v, rfl, r⟩ := rwl1 rs
    split at e
    · rename_i us q
      cases e
      obtain ⟨p, vs, rfl, t, l⟩ := seqW_ok b r q
      exact ⟨_, call_list_of, p, vs, rfl, t, fun q hq => g q _ hq ⟨_, upd_same, upd_rw l⟩⟩
    · split at e
      · rename_i kws q
        cases e
        obtain ⟨a, kvs, rfl, t, l⟩ := dkW_ok b r q
        refine ⟨_, call_list_dR hc, ?_⟩
        exact ⟨a, kvs, rfl, t, fun p hp => g p _ hp ⟨_, upd_same, upd_rw (rwl_keys l)⟩⟩
      · cases e
  · cases e
/-- dict(d) -/
def dictC : List W → Sto → Option Cell
  | [w], S => (dkW S w).map .dk
  | _, _ => none
theorem call_dict_of : CallR X (.type "dict") (fun xs H Q => ∃ a kvs, xs = [V.ref a] ∧ Rd H a (.dK kvs) ∧ ∀ p, H p = none → Q (.ref p) (upd H p (.dK kvs))) := by
  intro pins s σ H xs us Q I r h
  obtain ⟨a, kvs, rfl, e, q⟩ := h
  cases r with
  | cons r1 t =>
    cases t
    cases r1
    exact d_copyOf I e fun p s' hp I' => ⟨.ref p, _, I', rfl, q p hp⟩
theorem rwp_new {κ : Type} {K : PySem.W.Frag} {y : Y} {p : Addr} {o : HO} {ws : List (κ × W)} {vs : List (κ × V)} (h : RWP K cl y ws vs) : RWP K cl (y.new p o) ws vs := RWP.grow (y.gr_new p o) h
theorem cn_dict : CN X cl (cAny X (.type "dict")) dictC := fun y S b ws vs rs c e Q g => by
  unfold dictC at e
  split at e
  · rename_i w
    obtain ⟨v, rfl, r⟩ := rwl1 rs
    obtain ⟨kws, q, rfl⟩ := Option.map_eq_some_iff.mp e
    obtain ⟨a, kvs, rfl, t, l⟩ := dkW_ok b r q
    exact ⟨_, call_dict_of, a, kvs, rfl, t, fun p hp => g p _ hp ⟨_, upd_same, rwp_new l⟩⟩
  · cases e
/-- list(range(n)) -/
def intsW (lo : Int) : Nat → List W
  | 0 => []
  | n + 1 => .da (.int lo) :: intsW (lo + 1) n
theorem intsW_get : ∀ (n : Nat) (lo : Int) (i : Nat), i < n → (intsW lo n)[i]? = some (.da (.int (lo + i)))
  | 0, _, _, h => by omega
  | n + 1, lo, 0, _ => by simp [intsW]
  | n + 1, lo, i + 1, h => by
    simp only [intsW, List.getElem?_cons_succ]
    rw [intsW_get n (lo + 1) i (by omega)]
    congr 3
    omega
theorem intsW_len : ∀ (n : Nat) (lo : Int), (intsW lo n).length = n
  | 0, _ => rfl
  | n + 1, lo => by simp [intsW, intsW_len n]
theorem RWL.of_get {K : PySem.W.Frag} {y : Y} : ∀ {ds : List W} {vs : List V}, ds.length = vs.length → (∀ (i : Nat) (d : W) (v : V), ds[i]? = some d → vs[i]? = some v → RW K cl y d v) → RWL K cl y ds vs
  | [], [], _, _ => .nil
  | [], _ :: _, h, _ => by simp at h
  | _ :: _, [], h, _ => by simp at h
  | d :: ds, v :: vs, h, k => .cons (k 0 d v rfl rfl) (RWL.of_get (by simpa using h) fun i a b e1 e2 => k (i + 1) a b (by simpa using e1) (by simpa using e2))
theorem rwl_rg {K : PySem.W.Frag} {y : Y} (n : Int) : RWL K cl y (intsW 0 n.toNat) (rgV 0 n) := by
  refine RWL.of_get ?_ fun i d v e1 e2 => ?_
  · rw [intsW_len]; unfold rgV; simp
  · have hi : i < n.toNat := by
      have := (List.getElem?_eq_some_iff.mp e1).1
      rw [intsW_len] at this; exact this
    rw [intsW_get _ _ _ hi] at e1
    unfold rgV at e2
    rw [List.getElem?_map, List.getElem?_range (by simpa using hi)] at e2
    cases e1
    cases e2
    exact rfl
noncomputable def lrgC : W → Option Cell
  | .da (.int n) => ifc (0 ≤ n ∧ n ≤ 1000000) (some (.lst (intsW 0 n.toNat))) none
  | _ => none
theorem se_lrg {t : TE} {mk : Option Cell → Sto → Rs W} (hmk : ∀ (C : Cn) (y : Y) (σ : St) (ρ : Rho) (S : Sto) (o : Option Cell) (Q : VK), Sim X.K cl xa C y σ ρ S → Post X.K cl xa C Wx y σ ρ (mk o S) (OkE X.K cl xa C y σ ρ Q) → ∃ c, o = some c ∧ Gn X.K cl y c Q)
    (q : SE X.K cl xa Wx t me) : SE X.K cl xa Wx (tLstRg (tRg1 t)) (fun ρ S => (me ρ S).bind fun w S => mk (lrgC w) S) := by
  intro C y σ ρ S s Q h
  refine q C y σ ρ S s _ (Post.go h fun w S1 h1 v z s1 g1 r1 => ?_)
  obtain ⟨c, e, g⟩ := hmk C z σ ρ S1 _ Q s1 (Post.re (h1 z g1) g1)
  unfold lrgC at e
  split at e
  · rename_i n
    obtain ⟨hn, rfl⟩ := ifc_some e
    cases (show v = .int n from r1)
    refine ⟨n, rfl, ?_, fun p hp => g p _ hp ⟨_, upd_same, rwl_rg n⟩⟩
    unfold RgOk
    omega
  · cases e
noncomputable def mListRg (mk : Option Cell → Sto → Rs W) (me : ME) : ME := fun ρ S => (me ρ S).bind fun w S => mk (lrgC w) S
theorem qe_listRg {p p2 pos2 : Pos} (hc : X.calm = true) (hg : Gl X "list") (hm : X.mg "list" = none) (hg2 : Gl X "range") (hm2 : X.mg "range" = none) (ha : QE X cl xa Wx a me)
    (na : starEach [a] X.env = (false, eval a X.env) :: starEach [] X.env := by rfl) (nb : starEach [.Call (.Name "range" p2) [a] [] pos2] X.env = (false, eval (.Call (.Name "range" p2) [a] [] pos2) X.env) :: starEach [] X.env := by rfl) :
    QE X cl xa Wx (.Call (.Name "list" p) [.Call (.Name "range" p2) [a] [] pos2] [] pos) (mListRg mkD me) := by
  obtain ⟨t, pe, q⟩ := ha
  exact ⟨_, pe_listRg hc hg hm (prg_1 hg2 hm2 pe na) nb, se_lrg (fun C y σ ρ S o Q s h => post_newD s h) q⟩
/-! ### isinstance -/
def tyD : D → Option String
  | .non => some "NoneType"
  | .bl _ => some "bool"
  | .int _ => some "int"
  | .str _ => some "str"
  | .tup _ => some "tuple"
  | .wt _ => some "tuple"
  | .lst _ => some "list"
  | .scr _ => some "list"
  | .dk _ _ => some "dict"
  | .dt _ _ => none
  | .obj _ _ _ => none
def tyW (S : Sto) : W → Option String
  | .da d => tyD d
  | .lo n => match S[n]? with
    | some (.lst _) => some "list"
    | some (.tup _) => some "tuple"
    | some (.dk _) => some "dict"
    | some (.dt _) => some "dict"
    | _ => none
  | .xc => none
theorem tyX_rdL {K : PySem.W.Frag} {H : Hp} {a : Addr} {vs : List V} (h : SqL K H a vs) : TyX K H (.ref a) (.type "list") := by
  rcases h with (h | ⟨o, h⟩) | ⟨o, _, _, h, c, _⟩
  · exact .base (.lst h)
  · exact .base (.frz h)
  · exact .kList h c
theorem tyX_rdT {K : PySem.W.Frag} {H : Hp} {a : Addr} {vs : List V} (h : SqT K H a vs) : TyX K H (.ref a) (.type "tuple") := by
  rcases h with (h | ⟨o, h⟩) | ⟨o, _, _, h, c, _⟩
  · exact .base (.tup h)
  · exact .fTuple h
  · exact .kTuple h c
theorem tyW_ok {K : PySem.W.Frag} {y : Y} {S : Sto} (s : Bs K cl y S) {w : W} {v : V} {n : String} (r : RW K cl y w v) (h : tyW S w = some n) : TyX K y.H v (.type n) := by
  cases w with
  | xc => cases h
  | da d =>
    cases d with
    | non => cases h; cases (show v = .non from r); exact .base .non
    | bl b => cases h; cases (show v = .bl b from r); exact .base (.bl b)
    | int b => cases h; cases (show v = .int b from r); exact .base (.int b)
    | str b => cases h; cases (show v = .str b from r); exact .base (.str b)
    | tup ds => cases h; obtain ⟨a, vs, rfl, t, l⟩ := r; exact .base (.tup (s.fz _ _ t))
    | wt ds => cases h; obtain ⟨a, vs, rfl, t, l⟩ := r; exact tyX_rdT (sqT_xt s.fz t)
    | lst ds => cases h; obtain ⟨a, vs, rfl, t, l⟩ := r; exact .base (.lst (s.fz _ _ t))
    | scr ds => cases h; obtain ⟨a, vs, rfl, t, l⟩ := r; exact tyX_rdL (sqL_xt s.fz t)
    | dk ks ds => cases h; obtain ⟨a, vs, rfl, ⟨o, t⟩, _, l⟩ := r; exact .fDict (s.fz _ _ t)
    | dt ks ds => cases h
    | obj c fs ds => cases h
  | lo m =>
    obtain ⟨a, e, rfl⟩ := r
    simp only [tyW] at h
    split at h
    · rename_i ws q
      cases h
      obtain ⟨_, vs, e2, l⟩ := s.at q (by intro z; cases z) e
      exact .base (.lst e2)
    · rename_i ws q
      cases h
      obtain ⟨_, vs, e2, l⟩ := s.at q (by intro z; cases z) e
      exact .base (.tup e2)
    · rename_i ws q
      cases h
      obtain ⟨_, vs, e2, l⟩ := s.at q (by intro z; cases z) e
      exact .base (.dK e2)
    · rename_i ws q
      cases h
      obtain ⟨_, vs, e2, l⟩ := s.at q (by intro z; cases z) e
      exact .base (.dT e2)
    · cases h
/-- isinstance(x, T) and isinstance(x, (T, U)): built-in classes by their names -/
def isiB (ns : List String) (w : W) (S : Sto) : Option Bool := match tyW S w with
  | some t => match ns with
    | [n] => kitB t n
    | [n, k] => match kitB t n, kitB t k with
      | some b, some c => some (b || c)
      | _, _ => none
    | _ => none
  | none => none
def isiW (ns : List String) (w : W) (S : Sto) : Rs W := match isiB ns w S with
  | some b => .ok (.da (.bl b)) S
  | none => .stuck
theorem qe_isi {x : Str} {n : String} {p p2 : Pos} (hg : Gl X "isinstance") (hm : X.mg "isinstance" = none) (hg2 : Gl X x) (hm2 : X.mg x = none) (hb2 : bootBuiltins x = some (.type n)) (ha : QE X cl xa Wx e me)
    (hs : starEach [e, .Name x p2] X.env = (false, eval e X.env) :: starEach [.Name x p2] X.env := by rfl) (hs2 : starEach [.Name x p2] X.env = (false, eval (.Name x p2) X.env) :: starEach [] X.env := by rfl)
    (hpl : (backTo pos (starEach [.Name x p2] X.env)).any (·.1) = false := by rfl) (hn : x ≠ "__name__" := by decide) (hdb : (x == ("__debug__" : Str)) = false := by decide) (hv : bootBuiltins "isinstance" = some (.builtin "isinstance") := by decide +kernel) :
    QE X cl xa Wx (.Call (.Name "isinstance" p) [e, .Name x p2] [] pos) (mUn (isiW [n]) me) := by
  obtain ⟨t, pe, q⟩ := ha
  refine ⟨_, pe_callB call_isi hg hm hv (pa_cons pe (pa_cons (pe_bltn hg2 hm2 hb2 (v := .ty n) rfl hn hdb) pa_nil hs2) hs) (by decide) (by decide) hs hpl, fun C y σ ρ S s Q h => ?_⟩
  refine q C y σ ρ S s _ (Post.go h fun w S1 h1 v z s1 g1 r1 => ?_)
  have h2 := h1 z g1
  unfold isiW isiB at h2
  split at h2
  · rename_i b hb
    split at hb
    · rename_i ty ht
      simp only at hb
      exact ⟨v, .ty n, .type ty, .type n, b, rfl, .ty n, tyW_ok s1.bs r1 ht, kit_ty hb, h2 (.bl b) z s1 g1 rfl⟩
    · cases hb
  · exact h2.elim
theorem qe_isi2 {x y' : Str} {n k : String} {p p2 p3 p4 : Pos} {x1} (hg : Gl X "isinstance") (hm : X.mg "isinstance" = none) (hg2 : Gl X x) (hm2 : X.mg x = none) (hb2 : bootBuiltins x = some (.type n)) (hg3 : Gl X y') (hm3 : X.mg y' = none) (hb3 : bootBuiltins y' = some (.type k)) (ha : QE X cl xa Wx e me)
    (hs : starEach [e, .Tuple [.Name x p2, .Name y' p3] x1 p4] X.env = (false, eval e X.env) :: starEach [.Tuple [.Name x p2, .Name y' p3] x1 p4] X.env := by rfl) (hs2 : starEach [.Tuple [.Name x p2, .Name y' p3] x1 p4] X.env = (false, eval (.Tuple [.Name x p2, .Name y' p3] x1 p4) X.env) :: starEach [] X.env := by rfl)
    (hs3 : starEach [.Name x p2, .Name y' p3] X.env = (false, eval (.Name x p2) X.env) :: starEach [.Name y' p3] X.env := by rfl) (hs4 : starEach [.Name y' p3] X.env = (false, eval (.Name y' p3) X.env) :: starEach [] X.env := by rfl)
    (hpl : (backTo pos (starEach [.Tuple [.Name x p2, .Name y' p3] x1 p4] X.env)).any (·.1) = false := by rfl) (hn : x ≠ "__name__" := by decide) (hdb : (x == ("__debug__" : Str)) = false := by decide) (hn2 : y' ≠ "__name__" := by decide) (hdb2 : (y' == ("__debug__" : Str)) = false := by decide) (hv : bootBuiltins "isinstance" = some (.builtin "isinstance") := by decide +kernel) :
    QE X cl xa Wx (.Call (.Name "isinstance" p) [e, .Tuple [.Name x p2, .Name y' p3] x1 p4] [] pos) (mUn (isiW [n, k]) me) := by
  obtain ⟨t, pe, q⟩ := ha
  refine ⟨_, pe_callB call_isiT hg hm hv (pa_cons pe (pa_cons (pe_tup (pa_cons (pe_bltn hg2 hm2 hb2 (v := .ty n) rfl hn hdb) (pa_cons (pe_bltn hg3 hm3 hb3 (v := .ty k) rfl hn2 hdb2) pa_nil hs4) hs3)) pa_nil hs2) hs) (by decide) (by decide) hs hpl, fun C y σ ρ S s Q h => ?_⟩
  refine q C y σ ρ S s _ (Post.go h fun w S1 h1 v z s1 g1 r1 => ?_)
  have h2 := h1 z g1
  refine ⟨by show 2 ≤ sizeLine; decide, fun tp htp => ?_⟩
  have al := Al.new (o := .tup [.ty n, .ty k]) s1.bs.fz htp
  have s2 := s1.al al
  unfold isiW isiB at h2
  split at h2
  · rename_i b hb
    split at hb
    · rename_i ty ht
      simp only at hb
      split at hb
      · rename_i b c h3 h4
        cases hb
        refine ⟨v, tp, [.ty n, .ty k], .type ty, [.type n, .type k], (b || c), rfl, upd_same, .cons (.ty n) (.cons (.ty k) .nil), tyW_ok s2.bs (r1.grow al.gr) ht, ?_, h2 (.bl (b || c)) _ s2 (g1.trans al.gr) rfl⟩
        refine kitAny_cons (kit_ty h3) (fun e => kitAny_cons (kit_ty h4) (fun e2 => ?_) (fun e2 => ?_)) (fun e => by rw [e]; rfl)
        · rw [e, e2]; exact kitAny_nil
        · rw [e, e2]; rfl
      · cases hb
    · cases hb
  · exact h2.elim
end
end Ng
namespace Ng
open PySem L2

/-! ### targets -/
abbrev MG := W → Rho → Sto → Option Rho
abbrev MGs := List W → Rho → Sto → Option Rho
def SG (K : PySem.W.Frag) (cl : Str → Option Addr) (xa : Option (Nat × Addr)) (tg : TG) (m : MG) : Prop := ∀ C y σ ρ S, Sim K cl xa C y σ ρ S → ∀ w v, RW K cl y w v → ∀ Q : St → Hp → Prop,
  (∃ ρ', m w ρ S = some ρ' ∧ ∀ σ', Sim K cl xa C y σ' ρ' S → Q σ' y.H) → tg v σ y.H Q
def SGs (K : PySem.W.Frag) (cl : Str → Option Addr) (xa : Option (Nat × Addr)) (tg : TGs) (m : MGs) : Prop := ∀ C y σ ρ S, Sim K cl xa C y σ ρ S → ∀ ws vs, RWL K cl y ws vs → ∀ Q : St → Hp → Prop,
  (∃ ρ', m ws ρ S = some ρ' ∧ ∀ σ', Sim K cl xa C y σ' ρ' S → Q σ' y.H) → tg vs σ y.H Q
def QG (X : Cx) (cl : Str → Option Addr) (xa : Option (Nat × Addr)) (e : Expr) (m : MG) : Prop := ∃ t, PG X e t ∧ SG X.K cl xa t m
def QGs (X : Cx) (cl : Str → Option Addr) (xa : Option (Nat × Addr)) (es : List Expr) (m : MGs) : Prop := ∃ t, PGs X es t ∧ SGs X.K cl xa t m
def gtName (i : Nat) : MG := fun w ρ _ => some (ρ.set i (some w))
def gtNil : MGs := fun ws ρ _ => match ws with
  | [] => some ρ
  | _ => none
def gtCons (m : MG) (n : MGs) : MGs := fun ws ρ S => match ws with
  | w :: r => (m w ρ S).bind fun ρ' => n r ρ' S
  | _ => none
/-- a tuple unpacked; a list -/
def gtTup (n : Nat) (m : MGs) : MG := fun w ρ S => match tupW S w with
  | some ws => if ws.length = n then m ws ρ S else none
  | none => match lstW S w with
    | some ws => if ws.length = n then m ws ρ S else none
    | none => none
def mAsg (g : MG) (e : ME) : MS := fun ρ S => (e ρ S).out ρ fun w S => match g w ρ S with
  | some ρ' => .nx ρ' S
  | none => .stuck
section
variable {X : Cx} {cl : Str → Option Addr} {xa : Option (Nat × Addr)} {Wx : WX} {pos : Pos} {a b c e : Expr} {es : List Expr} {ma mb mc me : ME} {mr : MA} {ta tb tc : MT} {st : Stmt} {rest body : List Stmt} {m n : MS}
theorem qg_name {i : Nat} {x : Str} (hN : X.N.Nodup) (hi : X.N[i]? = some x) (hx : Loc X.env.scope x) (hf : X.fn x = true ∨ X.env.scope.names.lookup x = some .local := by first | exact .inl rfl | exact .inr rfl | assumption) : QG X cl xa (.Name x pos) (gtName i) :=
  ⟨_, pg_name hN hi hx hf, fun C y σ ρ S s w v r Q ⟨ρ', e, k⟩ => by
    cases e
    exact k _ (s.set i r)⟩
theorem qgs_nil : QGs X cl xa [] gtNil := ⟨_, pgs_nil, fun C y σ ρ S s ws vs r Q ⟨ρ', e, k⟩ => by
  unfold gtNil at e
  split at e
  · cases e
    cases r
    exact ⟨rfl, k _ s⟩
  · cases e⟩
theorem qgs_cons {g : MG} {gs : MGs} (h1 : QG X cl xa e g) (h2 : QGs X cl xa es gs) (hs : (assignEach (e :: es) X.env).map (·.2) = assign e X.env :: (assignEach es X.env).map (·.2) := by rfl) : QGs X cl xa (e :: es) (gtCons g gs) := by
  obtain ⟨t, p, q⟩ := h1
  obtain ⟨t2, p2, q2⟩ := h2
  refine ⟨_, pgs_cons p p2 hs, fun C y σ ρ S s ws vs r Q ⟨ρ', e, k⟩ => ?_⟩
  unfold gtCons at e
  split at e
  · rename_i w rs _
    cases r with
    | cons r1 r2 =>
      obtain ⟨ρ1, e1, e2⟩ := Option.bind_eq_some_iff.mp e
      refine ⟨_, _, rfl, ?_⟩
      exact q C y σ ρ S s w _ r1 _ ⟨ρ1, e1, fun σ1 s1 => q2 C y σ1 ρ1 S s1 rs _ r2 Q ⟨ρ', e2, k⟩⟩
  · cases e
/-- any rule of a target -/
def gAny (X : Cx) (e : Expr) : TG := fun v σ H Q => ∃ t, PG X e t ∧ t v σ H Q
theorem pg_any : PG X e (gAny X e) := by
  constructor
  intro pins s σ H v u Q I r ⟨t, p, h⟩
  exact p.run pins s σ H v u Q I r h
theorem qg_tup {k : Nat} {nn : Nat} {gs : MGs} (hc : X.calm = true) (h : QGs X cl xa es gs) (hn : (assignEach es X.env).length = nn := by rfl) (hst : (assignEach es X.env).findIdx? (·.1) = none := by rfl) : QG X cl xa (.Tuple es k pos) (gtTup nn gs) := by
  obtain ⟨t, p, q⟩ := h
  refine ⟨_, pg_any, fun C y σ ρ S s w v r Q ⟨ρ', e, k⟩ => ?_⟩
  unfold gtTup at e
  split at e
  · rename_i ws hw
    split at e
    · rename_i hl
      obtain ⟨a, vs, rfl, t, l⟩ := tupW_ok s.bs r hw
      exact ⟨_, pg_tup hc p hn hst, a, vs, rfl, t, by rw [← Paired.length l]; exact hl, q C y σ ρ S s _ vs l Q ⟨ρ', e, k⟩⟩
    · cases e
  · split at e
    · rename_i ws hw
      split at e
      · rename_i hl
        obtain ⟨a, vs, rfl, t, l⟩ := lstW_ok s.bs r hw
        exact ⟨_, pg_unl hc p hn hst, a, vs, rfl, .inl (.inl t), by rw [← Paired.length l]; exact hl, q C y σ ρ S s _ vs l Q ⟨ρ', e, k⟩⟩
      · cases e
    · cases e

/-! ### statements -/
theorem qb_nil : QB X cl xa Wx [] mSkip := ⟨_, pss_nil, fun C y σ ρ S s Z h => h σ y s (Gr.refl _)⟩
theorem ss_seq {K : PySem.W.Frag} {t u : TS} (h1 : SS K cl xa Wx t m) (h2 : SS K cl xa Wx u n) : SS K cl xa Wx (tSeq t u) (mSeq m n) := by
  intro C y σ ρ S s Z h
  refine h1 C y σ ρ S s _ ?_
  unfold mSeq at h
  cases e : m ρ S with
  | nx ρ1 S1 =>
    rw [e] at h
    exact fun σ1 z s1 g1 => h2 C z σ1 ρ1 S1 s1 Z (PostS.mono g1 h)
  | rt w S1 => rw [e] at h; exact h
  | bk ρ1 S1 => rw [e] at h; exact h
  | ct ρ1 S1 => rw [e] at h; exact h
  | ex x ρ1 S1 => rw [e] at h; exact h
  | stuck => rw [e] at h; exact h
theorem qb_cons (h1 : QS X cl xa Wx st m) (h2 : QB X cl xa Wx rest n) : QB X cl xa Wx (st :: rest) (mSeq m n) := by
  obtain ⟨t, p, q⟩ := h1
  obtain ⟨t2, p2, q2⟩ := h2
  exact ⟨_, pss_cons p p2, ss_seq q q2⟩
theorem qb_one (h1 : QS X cl xa Wx st m) : QB X cl xa Wx [st] m := by
  obtain ⟨t, p, q⟩ := h1
  exact ⟨_, pss_one p, q⟩
theorem qs_set {i : Nat} {x : Str} {pos' : Pos} (hN : X.N.Nodup) (hi : X.N[i]? = some x) (hx : Loc X.env.scope x) (he : QE X cl xa Wx e me) (hs : swapsWith e (some (.Name x pos')) pos.line X.env = pure false := by rfl)
    (hf : X.fn x = true ∨ X.env.scope.names.lookup x = some .local := by first | exact .inl rfl | exact .inr rfl | assumption) : QS X cl xa Wx (.Assign [.Name x pos'] e pos) (mSet i me) := by
  obtain ⟨t, p, q⟩ := he
  refine ⟨_, ps_set hN hi hx p hs hf, fun C y σ ρ S s Z h => ?_⟩
  refine q C y σ ρ S s _ (PostS.go h fun w S1 h1 v z s1 g1 r1 => ?_)
  exact h1 y (Gr.refl _) _ z (s1.set i r1) g1
theorem qs_asg {tg : Expr} {g : MG} (he : QE X cl xa Wx e me) (hg : QG X cl xa tg g) (hs : swapsWithSole [tg] e pos.line X.env = pure false := by rfl) (hw : swappedStores [tg] e X.env = pure none := by rfl)
    (h1 : (assignEach [tg] X.env).map (·.2) = [assign tg X.env] := by rfl) : QS X cl xa Wx (.Assign [tg] e pos) (mAsg g me) := by
  obtain ⟨t, p, q⟩ := he
  obtain ⟨t2, p2, q2⟩ := hg
  refine ⟨_, ps_asg p p2 hs hw h1, fun C y σ ρ S s Z h => ?_⟩
  refine q C y σ ρ S s _ (PostS.go h fun w S1 h1 v z s1 g1 r1 => ?_)
  have h2 := h1 y (Gr.refl _)
  split at h2
  · rename_i ρ' e2
    exact q2 C z σ ρ S1 s1 w v r1 _ ⟨ρ', e2, fun σ' s' => h2 σ' z s' g1⟩
  · exact h2.elim
theorem qs_ret (he : QE X cl xa Wx e me) : QS X cl xa Wx (.Return (some e) pos) (mRet me) := by
  obtain ⟨t, p, q⟩ := he
  refine ⟨_, ps_ret p, fun C y σ ρ S s Z h => ?_⟩
  refine q C y σ ρ S s _ (PostS.go h fun w S1 h1 v z s1 g1 r1 => ?_)
  exact h1 y (Gr.refl _) v σ ρ z s1 g1 r1
theorem qs_expr (he : QE X cl xa Wx e me) (hs : swapsWith e none pos.line X.env = pure false := by rfl) : QS X cl xa Wx (.Expr e pos) (mDrop me) := by
  obtain ⟨t, p, q⟩ := he
  refine ⟨_, ps_expr p hs, fun C y σ ρ S s Z h => ?_⟩
  refine q C y σ ρ S s _ (PostS.go h fun w S1 h1 v z s1 g1 r1 => ?_)
  exact h1 y (Gr.refl _) σ z s1 g1
theorem qs_if {sa sb : List Stmt} (hc : QT X cl xa Wx c tc) (ha : QB X cl xa Wx sa m) (hb : QB X cl xa Wx sb n) : QS X cl xa Wx (.If c sa sb pos) (mIf tc m n) := by
  obtain ⟨t, p, q⟩ := hc
  obtain ⟨t2, p2, q2⟩ := ha
  obtain ⟨t3, p3, q3⟩ := hb
  refine ⟨_, ps_if p p2 p3, fun C y σ ρ S s Z h => ?_⟩
  refine q C y σ ρ S s _ (PostS.go h fun w S1 h1 z s1 g1 => ?_)
  cases w with
  | true => exact q2 C z σ ρ S1 s1 Z (h1 z g1)
  | false => exact q3 C z σ ρ S1 s1 Z (h1 z g1)
theorem qs_pass : QS X cl xa Wx (.Pass pos) mSkip := ⟨_, ps_pass, fun C y σ ρ S s Z h => h σ y s (Gr.refl _)⟩
theorem qs_break : QS X cl xa Wx (.Break pos) mBreak := ⟨_, ps_break, fun C y σ ρ S s Z h => h σ y s (Gr.refl _)⟩
theorem qs_continue : QS X cl xa Wx (.Continue pos) mContinue := ⟨_, ps_continue, fun C y σ ρ S s Z h => h σ y s (Gr.refl _)⟩
/-- two at once -/
def mPar (i j : Nat) (mr : MA) : MS := fun ρ S => (mr ρ S).out ρ fun ws S => match ws with
  | [u, v] => .nx ((ρ.set i (some u)).set j (some v)) S
  | _ => .stuck
theorem qs_par {i j : Nat} {x y' : Str} {a b : Expr} {px py pt : Pos} {kt k2 pt2} (hc : X.calm = true) (hN : X.N.Nodup) (hi : X.N[i]? = some x) (hj : X.N[j]? = some y') (hij : i ≠ j)
    (hx : X.env.scope.names.lookup x = some .local) (hy : X.env.scope.names.lookup y' = some .local) (ha : QA X cl xa Wx [a, b] mr)
    (hw : swappedStores [.Tuple [.Name x px, .Name y' py] kt pt] (.Tuple [a, b] k2 pt2) X.env = pure (some [x, y']))
    (hs : swapsWithSole [.Tuple [.Name x px, .Name y' py] kt pt] (.Tuple [a, b] k2 pt2) pos.line X.env = pure false := by rfl) :
    QS X cl xa Wx (.Assign [.Tuple [.Name x px, .Name y' py] kt pt] (.Tuple [a, b] k2 pt2) pos) (mPar i j mr) := by
  obtain ⟨t, p, q⟩ := ha
  refine ⟨_, ps_par hc hN hi hj hij hx hy p hw hs, fun C y σ ρ S s Z h => ?_⟩
  refine q C y σ ρ S s _ (PostS.go h fun ws S1 h1 vs z s1 g1 r1 => ?_)
  have h2 := h1 z g1
  split at h2
  · rename_i u v
    obtain ⟨p, q, rfl, ru, rv⟩ := rwl2 r1
    exact ⟨p, q, rfl, h2 _ z ((s1.set i ru).set j rv) (Gr.refl _)⟩
  · exact h2.elim
def incW : W → W → Option W
  | .da (.int i), .da (.int j) => some (.da (.int (i + j)))
  | _, _ => none
def mInc (i : Nat) (me : ME) : MS := fun ρ S => match ρ[i]? with
  | some (some x) => (me ρ S).out ρ fun y S => match incW x y with
    | some z => .nx (ρ.set i (some z)) S
    | none => .stuck
  | _ => .stuck
/-- x += e, whole numbers -/
theorem qs_inc {i : Nat} {x : Str} {pos' : Pos} (hN : X.N.Nodup) (hi : X.N[i]? = some x) (hx : Loc X.env.scope x) (he : QE X cl xa Wx e me) (hf : X.fn x = true ∨ X.env.scope.names.lookup x = some .local := by first | exact .inl rfl | exact .inr rfl | assumption) :
    QS X cl xa Wx (.AugAssign (.Name x pos') .Add e pos) (mInc i me) := by
  obtain ⟨t, p, q⟩ := he
  refine ⟨_, ps_aug hN hi hx p ip_add (hf := hf), fun C y σ ρ S s Z h => ?_⟩
  unfold mInc at h
  split at h
  · rename_i u hu
    obtain ⟨v, e1, e2⟩ := s.slot i u hu
    refine ⟨v, e1, ?_⟩
    refine q C y σ ρ S s _ (PostS.go h fun w S1 h1 v1 z s1 g1 r1 => ?_)
    have h2 := h1 z g1
    split at h2
    · rename_i w2 hw
      unfold incW at hw
      split at hw
      · rename_i p k
        cases hw
        cases (show v = .int p from e2)
        cases (show v1 = .int k from r1)
        exact ⟨p, k, rfl, rfl, h2 _ z (s1.set i rfl) (Gr.refl _)⟩
      · cases hw
    · exact h2.elim
  · exact h.elim
end

/-! ### loops -/
def loopM (g : MG) (body : MS) : List W → Rho → Sto → Out
  | [], ρ, S => .nx ρ S
  | d :: ds, ρ, S => match g d ρ S with
    | none => .stuck
    | some ρ1 => match body ρ1 S with
      | .nx ρ2 S2 => loopM g body ds ρ2 S2
      | .ct ρ2 S2 => loopM g body ds ρ2 S2
      | .bk ρ2 S2 => .nx ρ2 S2
      | .rt w S2 => .rt w S2
      | .ex x ρ2 S2 => .ex x ρ2 S2
      | .stuck => .stuck
/-- a loop over a thing that must stand unchanged (P) at each turn -/
noncomputable def loopP (P : Sto → Prop) (g : MG) (body : MS) : List W → Rho → Sto → Out
  | [], ρ, S => ifc (P S) (.nx ρ S) .stuck
  | d :: ds, ρ, S => ifc (P S) (match g d ρ S with
    | none => .stuck
    | some ρ1 => match body ρ1 S with
      | .nx ρ2 S2 => loopP P g body ds ρ2 S2
      | .ct ρ2 S2 => loopP P g body ds ρ2 S2
      | .bk ρ2 S2 => .nx ρ2 S2
      | .rt w S2 => .rt w S2
      | .ex x ρ2 S2 => .ex x ρ2 S2
      | .stuck => .stuck) .stuck
theorem loopM_P (g : MG) (b : MS) : ∀ (ds : List W) (ρ : Rho) (S : Sto), loopM g b ds ρ S = loopP (fun _ => True) g b ds ρ S
  | [], ρ, S => by unfold loopM loopP; rw [ifc_true]
  | d :: ds, ρ, S => by
    unfold loopM loopP
    rw [ifc_true]
    split
    · rfl
    · split <;> first | rfl | exact loopM_P g b ds _ _
def signs (x : Str) : List W := x.cps.toList.map fun c => .da (.str ⟨#[c]⟩)
/-- what data is walked -/
def itemsD : D → Option (List W)
  | .lst ds => some (ds.map .da)
  | .scr ds => some (ds.map .da)
  | .tup ds => some (ds.map .da)
  | .wt ds => some (ds.map .da)
  | .str x => some (signs x)
  | .dk ks _ => some (ks.map fun k => .da (kD k))
  | _ => none
noncomputable def mFor (e : ME) (g : MG) (body : MS) : MS := fun ρ S => (e ρ S).out ρ fun w S => match w with
  | .da d => match itemsD d with
    | some ws => loopM g body ws ρ S
    | none => .stuck
  | .lo n => match S[n]? with
    | some (.lst ws) => loopP (fun S => S[n]? = some (.lst ws)) g body ws ρ S
    | _ => .stuck
  | .xc => .stuck
noncomputable def rng1 : List W → Option (Int × Nat)
  | [.da (.int j)] => ifc (-(2 ^ 62) ≤ j ∧ j < 2 ^ 62) (some (0, j.toNat)) none
  | _ => none
noncomputable def rng2 : List W → Option (Int × Nat)
  | [.da (.int i), .da (.int j)] => ifc (-(2 ^ 62) ≤ i ∧ i < 2 ^ 62 ∧ -(2 ^ 62) ≤ j ∧ j < 2 ^ 62) (some (i, (j - i).toNat)) none
  | _ => none
def mForR (rg : List W → Option (Int × Nat)) (a : MA) (g : MG) (body : MS) : MS := fun ρ S => (a ρ S).out ρ fun ws S => match rg ws with
  | some (lo, n) => loopM g body (intsW lo n) ρ S
  | none => .stuck
/-- what is walked gives the items ws, while G stands -/
structure Wk (K : PySem.W.Frag) (cl : Str → Option Addr) (J : It) (ws : List W) (G : Y → Sto → Prop) : Prop where
  goes : ∀ i y S, i < ws.length → Bs K cl y S → G y S → J.go i y.H
  stops : ∀ y S, Bs K cl y S → G y S → J.stop ws.length y.H
  yields : ∀ i y S x H', i < ws.length → Bs K cl y S → G y S → J.yld i y.H x H' → ∃ F' w, Al y.F y.H F' H' ∧ ws[i]? = some w ∧ RW K cl ⟨F', H', y.m⟩ w x
theorem drop_cons {α : Type} {ds : List α} {i : Nat} {d : α} (h : ds[i]? = some d) : ds.drop i = d :: ds.drop (i + 1) := by
  obtain ⟨hl, e⟩ := List.getElem?_eq_some_iff.mp h
  rw [List.drop_eq_getElem_cons hl, e]
section
variable {X : Cx} {cl : Str → Option Addr} {xa : Option (Nat × Addr)} {Wx : WX} {pos : Pos} {a b c e : Expr} {es : List Expr} {ma mb mc me : ME} {mr : MA} {ta tb tc : MT} {st : Stmt} {rest body : List Stmt} {m n : MS}
/-- what is left of a loop -/
def Left (K : PySem.W.Frag) (cl : Str → Option Addr) (xa : Option (Nat × Addr)) (C : Cn) (Wx : WX) (y0 : Y) (P : Sto → Prop) (g : MG) (body : MS) (Z : Ends) (ds : List W) (σ : St) (H : Hp) : Prop :=
  ∃ y ρ S, y.H = H ∧ Sim K cl xa C y σ ρ S ∧ Gr y0 y ∧ P S ∧ PostS K cl xa C Wx y (loopP P g body ds ρ S) Z
theorem postS_ifc {K : PySem.W.Frag} {C : Cn} {y : Y} {p : Prop} {o : Out} {Z : Ends} (h : PostS K cl xa C Wx y (ifc p o .stuck) Z) : p ∧ PostS K cl xa C Wx y o Z := by
  rcases ifc_cases (P := fun r => PostS K cl xa C Wx y r Z) h with ⟨a, b⟩ | ⟨_, b⟩
  · exact ⟨a, b⟩
  · exact b.elim
theorem loopP_at {P : Sto → Prop} {g : MG} {ds : List W} {ρ : Rho} {S : Sto} {K : PySem.W.Frag} {C : Cn} {y : Y} {Z : Ends} (h : PostS K cl xa C Wx y (loopP P g m ds ρ S) Z) : P S := by
  cases ds with
  | nil => exact (postS_ifc h).1
  | cons d ds => exact (postS_ifc h).1
/-- a for, by what is walked -/
theorem run_for {K : PySem.W.Frag} {C : Cn} {y0 : Y} {σ : St} {ρ : Rho} {S : Sto} {P : Sto → Prop} {g : MG} {tg : TG} {tb : TS} {Z : Ends} {J : It} {ws : List W} {G : Y → Sto → Prop} (hg : SG K cl xa tg g) (hb : SS K cl xa Wx tb m) (wk : Wk K cl J ws G)
    (hG : ∀ y S, Gr y0 y → P S → G y S) (s : Sim K cl xa C y0 σ ρ S) (h : PostS K cl xa C Wx y0 (loopP P g m ws ρ S) Z) :
    ∃ W : Nat → Nat → St → Hp → Prop, (∃ m, W 0 m σ y0.H) ∧ ∀ i m σ H, W i m σ H →
      (J.stop i H ∧ Z.nx σ H) ∨ (J.go i H ∧ ∃ N : St → Hp → Prop, (∀ σ' H', N σ' H' → ∃ m', m' < m ∧ W (i + 1) m' σ' H') ∧ ∀ x H', J.yld i H x H' → tg x σ H' fun σ2 H2 => tb { Z with nx := N, ct := N, bk := Z.nx } σ2 H2) := by
  refine ⟨fun i k σ H => k = ws.length - i ∧ i ≤ ws.length ∧ Left K cl xa C Wx y0 P g m Z (ws.drop i) σ H, ⟨ws.length, by simp, Nat.zero_le _, y0, ρ, S, rfl, s, Gr.refl _, loopP_at h, h⟩, ?_⟩
  rintro i k σ H ⟨rfl, hi, y, ρ, S, rfl, s, x, hP, q⟩
  by_cases hlt : i < ws.length
  · refine .inr ⟨wk.goes i y S hlt s.bs (hG y S x hP), Left K cl xa C Wx y0 P g m Z (ws.drop (i + 1)), fun σ' H' p' => ⟨ws.length - (i + 1), by omega, rfl, hlt, p'⟩, fun v H' hy => ?_⟩
    obtain ⟨F', w, al, ew, rw'⟩ := wk.yields i y S v H' hlt s.bs (hG y S x hP) hy
    rw [drop_cons ew] at q
    have q := (postS_ifc q).2
    have s1 := s.al al
    split at q
    · exact q.elim
    · rename_i ρ1 e1
      refine hg C _ σ ρ S s1 w v rw' _ ⟨ρ1, e1, fun σ1 s2 => hb C _ σ1 ρ1 S s2 _ ?_⟩
      have q := PostS.mono al.gr q
      have x' := x.trans al.gr
      cases e2 : m ρ1 S with
      | nx ρ2 S2 =>
        rw [e2] at q
        exact fun σ2 z s2 g2 => ⟨z, ρ2, S2, rfl, s2, x'.trans g2, loopP_at q, PostS.mono g2 q⟩
      | ct ρ2 S2 =>
        rw [e2] at q
        exact fun σ2 z s2 g2 => ⟨z, ρ2, S2, rfl, s2, x'.trans g2, loopP_at q, PostS.mono g2 q⟩
      | bk ρ2 S2 => rw [e2] at q; exact q
      | rt w S2 => rw [e2] at q; exact q
      | ex x ρ2 S2 => rw [e2] at q; exact q
      | stuck => rw [e2] at q; exact q
  · have e : i = ws.length := by omega
    subst e
    rw [List.drop_length] at q
    exact .inl ⟨wk.stops y S s.bs (hG y S x hP), (postS_ifc q).2 σ y s (Gr.refl _)⟩
/-! what is walked -/
theorem wk_list {K : PySem.W.Frag} {a : Addr} {ws : List W} {G : Y → Sto → Prop} (h : ∀ y S, Bs K cl y S → G y S → ∃ vs, SqL K y.H a vs ∧ RWL K cl y ws vs) : Wk K cl (Itl K a) ws G := by
  refine ⟨fun i y S hi b g => ?_, fun y S b g => ?_, fun i y S x H' hi b g hy => ?_⟩
  · obtain ⟨vs, h1, h2⟩ := h y S b g
    have hl := Paired.length h2
    exact ⟨vs, vs[i]'(by omega), h1, by simp [show i < vs.length by omega]⟩
  · obtain ⟨vs, h1, h2⟩ := h y S b g
    exact ⟨vs, h1, by rw [Paired.length h2]; exact Nat.le_refl _⟩
  · obtain ⟨vs, h1, h2⟩ := h y S b g
    obtain ⟨rfl, hx⟩ := hy
    have ew : ws[i]? = some ws[i] := List.getElem?_eq_getElem hi
    obtain ⟨v, e1, e2⟩ := RWL.get h2 ew
    rw [hx vs h1] at e1
    cases e1
    exact ⟨y.F, ws[i], Al.refl b.fz, ew, e2⟩
theorem wk_tup {K : PySem.W.Frag} {a : Addr} {ws : List W} {G : Y → Sto → Prop} (h : ∀ y S, Bs K cl y S → G y S → ∃ vs, SqT K y.H a vs ∧ RWL K cl y ws vs) : Wk K cl (Itt K a) ws G := by
  refine ⟨fun i y S hi b g => ?_, fun y S b g => ?_, fun i y S x H' hi b g hy => ?_⟩
  · obtain ⟨vs, h1, h2⟩ := h y S b g
    have hl := Paired.length h2
    exact ⟨vs, vs[i]'(by omega), h1, by simp [show i < vs.length by omega]⟩
  · obtain ⟨vs, h1, h2⟩ := h y S b g
    exact ⟨vs, h1, by rw [Paired.length h2]; exact Nat.le_refl _⟩
  · obtain ⟨vs, h1, h2⟩ := h y S b g
    obtain ⟨rfl, hx⟩ := hy
    have ew : ws[i]? = some ws[i] := List.getElem?_eq_getElem hi
    obtain ⟨v, e1, e2⟩ := RWL.get h2 ew
    rw [hx vs h1] at e1
    cases e1
    exact ⟨y.F, ws[i], Al.refl b.fz, ew, e2⟩
theorem wk_rng {K : PySem.W.Frag} {lo : Int} {k : Nat} {G : Y → Sto → Prop} : Wk K cl (Itr lo k) (intsW lo k) G := by
  refine ⟨fun i y S hi b g => ?_, fun y S b g => ?_, fun i y S x H' hi b g hy => ?_⟩
  · rw [intsW_len] at hi; exact hi
  · show k ≤ (intsW lo k).length
    rw [intsW_len]; exact Nat.le_refl _
  · obtain ⟨rfl, rfl⟩ := hy
    rw [intsW_len] at hi
    exact ⟨y.F, _, Al.refl b.fz, intsW_get k lo i hi, rfl⟩
theorem wk_str {K : PySem.W.Frag} {z : Str} {G : Y → Sto → Prop} : Wk K cl (Its z) (signs z) G := by
  have hl : (signs z).length = z.cps.size := by simp [signs]
  refine ⟨fun i y S hi b g => ?_, fun y S b g => ?_, fun i y S x H' hi b g hy => ?_⟩
  · rw [hl] at hi; exact hi
  · show z.cps.size ≤ (signs z).length
    rw [hl]; exact Nat.le_refl _
  · obtain ⟨rfl, c, hc, rfl⟩ := hy
    refine ⟨y.F, .da (.str ⟨#[c]⟩), Al.refl b.fz, ?_, rfl⟩
    unfold signs
    rw [List.getElem?_map, Array.getElem?_toList, hc]
    rfl
theorem wk_keys {K : PySem.W.Frag} {d : Addr} {o : Obj} {kvs : List (Key × V)} {G : Y → Sto → Prop} (h : ∀ y S, G y S → y.H d = some (.frz o (.dK kvs))) : Wk K cl (Itk d o kvs) ((kvs.map (·.1)).map fun k => .da (kD k)) G := by
  have hl : ((kvs.map (·.1)).map fun k => W.da (kD k)).length = kvs.length := by simp
  refine ⟨fun i y S hi b g => ⟨h y S g, by rw [hl] at hi; exact hi⟩, fun y S b g => ⟨h y S g, by rw [hl]; exact Nat.le_refl _⟩, fun i y S x H' hi b g hy => ?_⟩
  obtain ⟨rfl, k, v, hk, rfl⟩ := hy
  exact ⟨y.F, .da (kD k), Al.refl b.fz, by rw [List.getElem?_map, List.getElem?_map, hk]; rfl, kD_ok k⟩
/-- any rule of a statement -/
def sAny (X : Cx) (st : Stmt) : TS := fun D σ H => ∃ t, PS X st t ∧ t D σ H
theorem ps_anyS : PS X st (sAny X st) := by
  constructor
  intro pins s σ H D I ⟨t, p, h⟩
  exact p.run pins s σ H D I h
/-- what an expression gives, said ahead -/
theorem SE.now {K : PySem.W.Frag} {t : TE} {C : Cn} {y : Y} {σ : St} {ρ : Rho} {S S0 : Sto} {w : W} {Q : VK} (q : SE K cl xa Wx t me) (s : Sim K cl xa C y σ ρ S) (e : me ρ S = .ok w S0) (k : ∀ v z, Sim K cl xa C z σ ρ S0 → Gr y z → RW K cl z w v → Q v z.H) : t σ y.H Q :=
  q C y σ ρ S s Q (by rw [e]; exact k)
theorem SE.bad {K : PySem.W.Frag} {t : TE} {C : Cn} {y : Y} {σ : St} {ρ : Rho} {S : Sto} {k : W → Sto → Out} {Z : Ends} (q : SE K cl xa Wx t me) (s : Sim K cl xa C y σ ρ S) (h : PostS K cl xa C Wx y ((me ρ S).out ρ k) Z) (hn : ∀ w S', me ρ S ≠ .ok w S') (Q : VK) : t σ y.H Q := by
  refine q C y σ ρ S s Q ?_
  cases e : me ρ S with
  | ok w S' => exact absurd e (hn w S')
  | ex x S' => rw [e] at h; exact fun cls dd z s g r => h cls dd σ z s g r
  | stuck => rw [e] at h; exact h
theorem qs_for {iter tg : Expr} {g : MG} (hp : PassesOwn (model X.prog X.w) X.A X.env X.xe) (hc : X.calm = true) (hi : QE X cl xa Wx iter me) (hg : QG X cl xa tg g) (hb : QB X cl xa Wx body m)
    (hs : ∀ x, foldedSetIterable iter X.env x = pure x := by intro _; rfl) : QS X cl xa Wx (.For tg iter body [] pos) (mFor me g m) := by
  obtain ⟨t, p, q⟩ := hi
  obtain ⟨t2, p2, q2⟩ := hg
  obtain ⟨t3, p3, q3⟩ := hb
  refine ⟨_, ps_anyS, fun C y σ ρ S s Z h => ?_⟩
  by_cases bad : ∀ w S', me ρ S ≠ .ok w S'
  · exact ⟨_, ps_for hp hc (pi_list p) p2 p3 hs, q.bad s h bad _⟩
  · cases e : me ρ S with
    | stuck => exact absurd (by intro w S' z; rw [e] at z; cases z) bad
    | ex x S' => exact absurd (by intro w S' z; rw [e] at z; cases z) bad
    | ok w S0 =>
      unfold mFor at h
      rw [e] at h
      simp only [Rs.out] at h
      cases w with
      | xc => exact h.elim
      | lo k =>
        simp only at h
        split at h
        · rename_i ws hk
          refine ⟨_, ps_for hp hc (pi_list p) p2 p3 hs, q.now s e fun v z s1 g1 r1 => ?_⟩
          obtain ⟨a, ea, rfl⟩ := r1
          obtain ⟨_, vs, hH, l⟩ := s1.bs.at hk (by intro z; cases z) ea
          refine ⟨a, rfl, ⟨vs, .inl (.inl hH)⟩, run_for q2 q3 (wk_list (G := fun y S => Gr z y ∧ S[k]? = some (.lst ws)) ?_) (fun y S g p => ⟨g, p⟩) s1 (PostS.mono g1 h)⟩
          rintro y S b ⟨g, hk2⟩
          obtain ⟨_, vs, h1, h2⟩ := b.at hk2 (by intro z; cases z) (pre_get g.m ea)
          exact ⟨vs, .inl (.inl h1), h2⟩
        · exact h.elim
      | da d =>
        simp only at h
        split at h
        · rename_i ws hd
          rw [loopM_P] at h
          unfold itemsD at hd
          split at hd
          · cases hd
            refine ⟨_, ps_for hp hc (pi_list p) p2 p3 hs, q.now s e fun v z s1 g1 r1 => ?_⟩
            obtain ⟨a, vs, rfl, tl, l⟩ := r1
            exact ⟨a, rfl, ⟨vs, .inl (.inl (s1.bs.fz _ _ tl))⟩, run_for q2 q3 (wk_list (G := fun y S => Gr z y) fun y S b g => ⟨vs, .inl (.inl (b.fz _ _ (g.f _ _ tl))), rwl_da (RpL.xt g.f _ _ l)⟩) (fun y S g p => g) s1 (PostS.mono g1 h)⟩
          · cases hd
            refine ⟨_, ps_for hp hc (pi_list p) p2 p3 hs, q.now s e fun v z s1 g1 r1 => ?_⟩
            obtain ⟨a, vs, rfl, tl, l⟩ := r1
            exact ⟨a, rfl, ⟨vs, sqL_xt s1.bs.fz tl⟩, run_for q2 q3 (wk_list (G := fun y S => Gr z y) fun y S b g => ⟨vs, sqL_xt (g.f.trans b.fz) tl, rwl_da (RpL.xt g.f _ _ l)⟩) (fun y S g p => g) s1 (PostS.mono g1 h)⟩
          · cases hd
            refine ⟨_, ps_for hp hc (pi_tup p) p2 p3 hs, q.now s e fun v z s1 g1 r1 => ?_⟩
            obtain ⟨a, vs, rfl, tl, l⟩ := r1
            exact ⟨a, rfl, ⟨vs, .inl (.inl (s1.bs.fz _ _ tl))⟩, run_for q2 q3 (wk_tup (G := fun y S => Gr z y) fun y S b g => ⟨vs, .inl (.inl (b.fz _ _ (g.f _ _ tl))), rwl_da (RpL.xt g.f _ _ l)⟩) (fun y S g p => g) s1 (PostS.mono g1 h)⟩
          · cases hd
            refine ⟨_, ps_for hp hc (pi_tup p) p2 p3 hs, q.now s e fun v z s1 g1 r1 => ?_⟩
            obtain ⟨a, vs, rfl, tl, l⟩ := r1
            exact ⟨a, rfl, ⟨vs, sqT_xt s1.bs.fz tl⟩, run_for q2 q3 (wk_tup (G := fun y S => Gr z y) fun y S b g => ⟨vs, sqT_xt (g.f.trans b.fz) tl, rwl_da (RpL.xt g.f _ _ l)⟩) (fun y S g p => g) s1 (PostS.mono g1 h)⟩
          · rename_i x
            cases hd
            refine ⟨_, ps_for hp hc (pi_str p) p2 p3 hs, q.now s e fun v z s1 g1 r1 => ?_⟩
            exact ⟨x, r1, run_for q2 q3 (wk_str (G := fun y S => Gr z y)) (fun y S g p => g) s1 (PostS.mono g1 h)⟩
          · rename_i ks ds
            cases hd
            refine ⟨_, ps_for hp hc (pi_keys p) p2 p3 hs, q.now s e fun v z s1 g1 r1 => ?_⟩
            obtain ⟨a, vs, rfl, ⟨o, tl⟩, nl, l⟩ := r1
            have ek : (ks.zip vs).map (·.1) = ks := List.map_fst_zip (by omega)
            have wk := wk_keys (cl := cl) (K := X.K) (d := a) (o := o) (kvs := ks.zip vs) (G := fun y S => Gr z y ∧ Ex y.F y.H) (fun y S g => g.2 _ _ (g.1.f _ _ tl))
            rw [ek] at wk
            refine ⟨a, o, rfl, .inl ⟨ks.zip vs, s1.bs.fz _ _ tl, ?_⟩⟩
            refine run_for (P := fun _ => True) q2 q3 (G := fun y S => Gr z y) ⟨fun i y S hi b g => wk.goes i y S hi b ⟨g, b.fz⟩, fun y S b g => wk.stops y S b ⟨g, b.fz⟩, fun i y S x H' hi b g => wk.yields i y S x H' hi b ⟨g, b.fz⟩⟩ (fun y S g p => g) s1 (PostS.mono g1 h)
          · cases hd
        · exact h.elim
theorem SA.now {K : PySem.W.Frag} {t : TA} {C : Cn} {y : Y} {σ : St} {ρ : Rho} {S S0 : Sto} {ws : List W} {Q : List V → Hp → Prop} (q : SA K cl xa Wx t mr) (s : Sim K cl xa C y σ ρ S) (e : mr ρ S = .ok ws S0) (k : ∀ vs z, Sim K cl xa C z σ ρ S0 → Gr y z → RWL K cl z ws vs → Q vs z.H) : t σ y.H Q :=
  q C y σ ρ S s Q (by rw [e]; exact k)
theorem qs_range1 {tg : Expr} {g : MG} {p p' : Pos} (hp : PassesOwn (model X.prog X.w) X.A X.env X.xe) (hc : X.calm = true) (hgl : Gl X "range") (hm : X.mg "range" = none) (ha : QA X cl xa Wx [a] mr) (hg : QG X cl xa tg g) (hb : QB X cl xa Wx body m)
    (hs : starEach [a] X.env = [(false, eval a X.env)] := by rfl) (hf : ∀ x, foldedSetIterable (.Call (.Name "range" p) [a] [] p') X.env x = pure x := by intro _; rfl) :
    QS X cl xa Wx (.For tg (.Call (.Name "range" p) [a] [] p') body [] pos) (mForR rng1 mr g m) := by
  obtain ⟨t, p, q⟩ := ha
  obtain ⟨t2, p2, q2⟩ := hg
  obtain ⟨t3, p3, q3⟩ := hb
  refine ⟨_, ps_for hp hc (pi_range1 hgl hm p hs) p2 p3 hf, fun C y σ ρ S s Z h => ?_⟩
  refine q C y σ ρ S s _ (PostS.go h fun ws S1 h1 vs z s1 g1 r1 => ?_)
  have h2 := h1 z g1
  split at h2
  · rename_i lo k e
    unfold rng1 at e
    split at e
    · rename_i j
      obtain ⟨hj, e⟩ := ifc_some e
      cases e
      obtain ⟨v, rfl, rv⟩ := rwl1 r1
      cases (show v = .int j from rv)
      rw [loopM_P] at h2
      exact ⟨j, rfl, hj.1, hj.2, run_for q2 q3 (wk_rng (G := fun y S => True)) (fun y S g p => trivial) s1 h2⟩
    · cases e
  · exact h2.elim
theorem qs_range2 {tg : Expr} {g : MG} {p p' : Pos} (hp : PassesOwn (model X.prog X.w) X.A X.env X.xe) (hc : X.calm = true) (hgl : Gl X "range") (hm : X.mg "range" = none) (ha : QA X cl xa Wx [a, b] mr) (hg : QG X cl xa tg g) (hb : QB X cl xa Wx body m)
    (hs : starEach [a, b] X.env = [(false, eval a X.env), (false, eval b X.env)] := by rfl) (hs2 : starEach [b] X.env = [(false, eval b X.env)] := by rfl) (hf : ∀ x, foldedSetIterable (.Call (.Name "range" p) [a, b] [] p') X.env x = pure x := by intro _; rfl) :
    QS X cl xa Wx (.For tg (.Call (.Name "range" p) [a, b] [] p') body [] pos) (mForR rng2 mr g m) := by
  obtain ⟨t, p, q⟩ := ha
  obtain ⟨t2, p2, q2⟩ := hg
  obtain ⟨t3, p3, q3⟩ := hb
  refine ⟨_, ps_for hp hc (pi_range2 hgl hm p hs hs2) p2 p3 hf, fun C y σ ρ S s Z h => ?_⟩
  refine q C y σ ρ S s _ (PostS.go h fun ws S1 h1 vs z s1 g1 r1 => ?_)
  have h2 := h1 z g1
  split at h2
  · rename_i lo k e
    unfold rng2 at e
    split at e
    · rename_i i j
      obtain ⟨hj, e⟩ := ifc_some e
      cases e
      obtain ⟨v, v2, rfl, rv, rv2⟩ := rwl2 r1
      cases (show v = .int lo from rv)
      cases (show v2 = .int j from rv2)
      rw [loopM_P] at h2
      exact ⟨lo, j, rfl, hj, run_for q2 q3 (wk_rng (G := fun y S => True)) (fun y S g p => trivial) s1 h2⟩
    · cases e
  · exact h2.elim
end
/-! ### while -/
def whileN (c : MT) (b : MS) : Nat → Rho → Sto → Out
  | 0, _, _ => .stuck
  | k + 1, ρ, S => match c ρ S with
    | .stuck => .stuck
    | .ex x S => .ex x ρ S
    | .ok false S => .nx ρ S
    | .ok true S => match b ρ S with
      | .nx ρ2 S2 => whileN c b k ρ2 S2
      | .ct ρ2 S2 => whileN c b k ρ2 S2
      | .bk ρ2 S2 => .nx ρ2 S2
      | .rt w S2 => .rt w S2
      | .ex x ρ2 S2 => .ex x ρ2 S2
      | .stuck => .stuck
open Classical in
/-- a while: where some number of turns ends it -/
noncomputable def mWhile (c : MT) (b : MS) : MS := fun ρ S => if h : ∃ k, whileN c b k ρ S ≠ .stuck then whileN c b h.choose ρ S else .stuck
theorem whileN_more (c : MT) (b : MS) : ∀ (k : Nat) (ρ : Rho) (S : Sto), whileN c b k ρ S ≠ .stuck → ∀ j, k ≤ j → whileN c b j ρ S = whileN c b k ρ S
  | 0, ρ, S, h, _, _ => absurd rfl h
  | k + 1, ρ, S, h, 0, hj => by omega
  | k + 1, ρ, S, h, j + 1, hj => by
    unfold whileN at h ⊢
    cases e : c ρ S with
    | stuck => rfl
    | ex x S1 => rfl
    | ok v S1 =>
      rw [e] at h
      cases v with
      | false => rfl
      | true =>
        simp only at h ⊢
        cases e2 : b ρ S1 with
        | nx ρ2 S2 => rw [e2] at h; exact whileN_more c b k ρ2 S2 h j (by omega)
        | ct ρ2 S2 => rw [e2] at h; exact whileN_more c b k ρ2 S2 h j (by omega)
        | bk ρ2 S2 => rfl
        | rt w S2 => rfl
        | ex x ρ2 S2 => rfl
        | stuck => rfl
theorem mWhile_of {c : MT} {b : MS} {ρ : Rho} {S : Sto} (k : Nat) (h : whileN c b k ρ S ≠ .stuck) : mWhile c b ρ S = whileN c b k ρ S := by
  unfold mWhile
  have h' : ∃ k, whileN c b k ρ S ≠ .stuck := ⟨k, h⟩
  rw [dif_pos h']
  rcases Nat.le_total k h'.choose with z | z
  · exact whileN_more c b k ρ S h _ z
  · exact (whileN_more c b _ ρ S h'.choose_spec _ z).symm
section
variable {X : Cx} {cl : Str → Option Addr} {xa : Option (Nat × Addr)} {Wx : WX} {pos : Pos} {c : Expr} {tc : MT} {body : List Stmt} {m : MS}
theorem qs_while (hp : PassesOwn (model X.prog X.w) X.A X.env X.xe) (hc : QT X cl xa Wx c tc) (hb : QB X cl xa Wx body m) : QS X cl xa Wx (.While c body [] pos) (mWhile tc m) := by
  obtain ⟨t, p, q⟩ := hc
  obtain ⟨t2, p2, q2⟩ := hb
  refine ⟨_, ps_while hp p p2, fun C y σ ρ S s Z h => ?_⟩
  have hk : ∃ k, PostS X.K cl xa C Wx y (whileN tc m k ρ S) Z := by
    unfold mWhile at h
    split at h
    · exact ⟨_, h⟩
    · exact h.elim
  obtain ⟨k, hk⟩ := hk
  let Iv : Nat → St → Hp → Prop := fun j σ H => ∃ y1 ρ S, y1.H = H ∧ Sim X.K cl xa C y1 σ ρ S ∧ PostS X.K cl xa C Wx y1 (whileN tc m j ρ S) Z
  refine ⟨Iv, ⟨k, y, ρ, S, rfl, s, hk⟩, ?_⟩
  rintro j σ' H' ⟨y1, ρ1, S1, rfl, s1, h1⟩
  cases j with
  | zero => exact h1.elim
  | succ j =>
    unfold whileN at h1
    refine q C y1 σ' ρ1 S1 s1 _ ?_
    cases e : tc ρ1 S1 with
    | stuck => rw [e] at h1; exact h1.elim
    | ex x S2 => rw [e] at h1; exact fun cls dd z s2 g2 r2 => h1 cls dd σ' z s2 g2 r2
    | ok v S2 =>
      rw [e] at h1
      intro z s2 g2
      cases v with
      | false => exact h1 σ' z s2 g2
      | true =>
        refine ⟨Iv j, fun σ3 H3 z => ⟨j, Nat.lt_succ_self _, z⟩, ?_⟩
        refine q2 C z σ' ρ1 S2 s2 _ ?_
        simp only at h1
        have h1 := PostS.mono g2 h1
        cases e2 : m ρ1 S2 with
        | nx ρ2 S3 =>
          rw [e2] at h1
          exact fun σ3 z3 s3 g3 => ⟨z3, ρ2, S3, rfl, s3, PostS.mono g3 h1⟩
        | ct ρ2 S3 =>
          rw [e2] at h1
          exact fun σ3 z3 s3 g3 => ⟨z3, ρ2, S3, rfl, s3, PostS.mono g3 h1⟩
        | bk ρ2 S3 => rw [e2] at h1; exact h1
        | rt w S3 => rw [e2] at h1; exact h1
        | ex x ρ2 S3 => rw [e2] at h1; exact h1
        | stuck => rw [e2] at h1; exact h1
end
end Ng
namespace Ng
open PySem PySem.Spec PyProof.Rows L2

/-- the classes of the text's top, by their names -/
def clOf (K : PySem.W.Frag) : Str → Option Addr := fun x => match PySem.W.nsIn K mainGlobals x with
  | some (some (.ref a)) => some a
  | _ => none
/-! ### a def over the store -/
def startR (n : Nat) (ws : List W) : Rho := ws.map some ++ List.replicate (n - ws.length) none
def isDa : W → Bool
  | .da _ => true
  | _ => false
/-- what a def leaves: its own cells go where nothing of the caller's was changed and data comes out -/
noncomputable def trimS (S0 : Sto) (w : W) (S : Sto) : Rs W := match w with
  | .da d => ifc (S.take S0.length = S0) (.ok (.da d) S0) (.ok (.da d) S)
  | w => .ok w S
noncomputable def trimX (S0 : Sto) (x : Exn) (S : Sto) : Rs W := ifc (S.take S0.length = S0 ∧ x.ws.all isDa = true) (.ex x S0) (.ex x S)
noncomputable def endS (S0 : Sto) : Out → Rs W
  | .rt w S => trimS S0 w S
  | .nx _ S => trimS S0 (.da .non) S
  | .ex x _ S => trimX S0 x S
  | _ => .stuck
noncomputable def runS (n np : Nat) (m : MS) : List W → Sto → Rs W := fun ws S => if ws.length = np then endS S (m (startR n ws) S) else .stuck
/-- the promise of a def: it is the function p over the store -/
def SpR (K : PySem.W.Frag) (cl : Str → Option Addr) (y : Y) (Q : VK) (E : XK) (r : Rs W) : Prop := match r with
  | .ok w S' => ∀ v z, Bs K cl z S' → Fm y.cn z → RW K cl z w v → Q v z.H
  | .ex x S' => ∀ cls dd z, Bs K cl z S' → Fm y.cn z → XR K cl z x cls dd → E cls dd z.H
  | .stuck => False
def SpS (K : PySem.W.Frag) (cl : Str → Option Addr) (p : List W → Sto → Rs W) : Sp := fun vs H Q E => ∃ y S ws, y.H = H ∧ Bs K cl y S ∧ RWL K cl y ws vs ∧ SpR K cl y Q E (p ws S)
/-- .. of a def that changes nothing that stood and gives data: it is the plain function p -/
def SpP (K : PySem.W.Frag) (cl : Str → Option Addr) (p : List D → Re D) : Sp := fun vs H Q E => ∃ F ds, Ex F H ∧ RpL K cl F ds vs ∧ match p ds with
  | .ok d => ∀ v F' H', Al F H F' H' → Rp K cl F' d v → Q v H'
  | .ex x => ∀ cls dd F' H', Al F H F' H' → XR K cl ⟨F', H', []⟩ x cls dd → E cls dd H'
  | .stuck => False
noncomputable def pureOf (p : List W → Sto → Rs W) (ds : List D) : Re D := match p (ds.map .da) [] with
  | .ok (.da d) _ => .ok d
  | .ex x _ => ifc (x.ws.all isDa = true) (.ex x) .stuck
  | _ => .stuck
noncomputable def runP (n np : Nat) (m : MS) : List D → Re D := pureOf (runS n np m)
section
variable {K : PySem.W.Frag} {cl : Str → Option Addr} {xa : Option (Nat × Addr)}
theorem sim_start {y : Y} {S : Sto} {ws : List W} {vs : List V} {N : List Str} (b : Bs K cl y S) (r : RWL K cl y ws vs) : Sim K cl xa y.cn y (L2.start N vs) (startR N.length ws) S := by
  refine b.rebase ?_ ?_
  · unfold L2.start startR
    simp [Paired.length r]
  · intro i w e
    unfold startR at e
    by_cases hi : i < ws.length
    · rw [List.getElem?_append_left (by simpa using hi), List.getElem?_map, List.getElem?_eq_getElem hi] at e
      simp at e
      subst e
      obtain ⟨v, e1, e2⟩ := RWL.get r (List.getElem?_eq_getElem hi)
      refine ⟨v, ?_, e2.rs⟩
      unfold L2.start
      have hv : i < vs.length := by rw [← Paired.length r]; exact hi
      rw [List.getElem?_append_left (by simpa using hv), List.getElem?_map, e1]
      rfl
    · rw [List.getElem?_append_right (by simpa using Nat.le_of_not_lt hi)] at e
      rw [List.getElem?_replicate] at e
      split at e <;> simp at e
/-- the cells that stood at the entry alone -/
theorem rw_cut {y z : Y} {m : List Addr} {F H : Hp} (hm : m <+: z.m) : ∀ {w : W} {v v0 : V}, RW K cl z w v → RW K cl ⟨F, H, m⟩ w v0 → RW K cl ⟨z.F, z.H, m⟩ w v
  | .da d, v, _, h, _ => h
  | .lo n, v, _, ⟨a, e, h⟩, ⟨a0, e0, _⟩ => by
    have q := pre_get hm e0
    rw [e] at q
    cases q
    exact ⟨a, e0, h⟩
  | .xc, _, _, h, _ => h.elim
theorem rwl_cut {y z : Y} {m : List Addr} {F H : Hp} (hm : m <+: z.m) : ∀ {ws : List W} {vs vs0 : List V}, RWL K cl z ws vs → RWL K cl ⟨F, H, m⟩ ws vs0 → RWL K cl ⟨z.F, z.H, m⟩ ws vs
  | _, _, _, .nil, _ => .nil
  | _, _, _, .cons r t, .cons r0 t0 => .cons (rw_cut (y := y) hm r r0) (rwl_cut (y := y) hm t t0)
theorem rwp_cut {κ : Type} {y z : Y} {m : List Addr} {F H : Hp} (hm : m <+: z.m) : ∀ {ws : List (κ × W)} {vs vs0 : List (κ × V)}, RWP K cl z ws vs → RWP K cl ⟨F, H, m⟩ ws vs0 → RWP K cl ⟨z.F, z.H, m⟩ ws vs
  | _, _, _, .nil, _ => .nil
  | _, _, _, .cons r t, .cons r0 t0 => .cons ⟨r.1, rw_cut (y := y) hm r.2 r0.2⟩ (rwp_cut (y := y) hm t t0)
theorem cell_cut {y z : Y} {a a0 : Addr} (hm : y.m <+: z.m) : ∀ {c : Cell}, CellR K cl z a c → CellR K cl y a0 c → CellR K cl ⟨z.F, z.H, y.m⟩ a c
  | .lst _, ⟨vs, h, r⟩, ⟨_, _, r0⟩ => ⟨vs, h, rwl_cut (y := y) hm r r0⟩
  | .tup _, ⟨vs, h, r⟩, ⟨_, _, r0⟩ => ⟨vs, h, rwl_cut (y := y) hm r r0⟩
  | .dk _, ⟨vs, h, r⟩, ⟨_, _, r0⟩ => ⟨vs, h, rwp_cut (y := y) hm r r0⟩
  | .dt _, ⟨vs, h, r⟩, ⟨_, _, r0⟩ => ⟨vs, h, rwp_cut (y := y) hm r r0⟩
  | .ins _ _, ⟨C, dx, vs, k, h, r⟩, ⟨_, _, _, _, _, r0⟩ => ⟨C, dx, vs, k, h, rwp_cut (y := y) hm r r0⟩
  | .dead, _, _ => trivial
theorem bs_cut {y z : Y} {S0 S : Sto} (b0 : Bs K cl y S0) (b : Bs K cl z S) (f : Fm y.cn z) (h : S.take S0.length = S0) : Bs K cl ⟨z.F, z.H, y.m⟩ S0 ∧ Fm y.cn ⟨z.F, z.H, y.m⟩ := by
  refine ⟨⟨b.fz, b0.len, b0.nd, fun a ha => b.has a (f.pre.subset ha), fun n c e hd => ?_⟩, ⟨f.hf, f.keep, f.dom, f.newF, fun a ha => .inl ha, List.prefix_refl _⟩⟩
  have hn : n < S0.length := (List.getElem?_eq_some_iff.mp e).1
  have e' : S[n]? = some c := by
    rw [← h, List.getElem?_take] at e
    rw [if_pos hn] at e
    exact e
  obtain ⟨a, e1, e2, e3⟩ := b.cell n c e' hd
  obtain ⟨a0, f1, f2, f3⟩ := b0.cell n c e hd
  have q := pre_get f.pre f1
  rw [e1] at q
  cases q
  exact ⟨a, f1, e2, cell_cut f.pre e3 f3⟩
theorem rwl_da_cut {z : Y} {m : List Addr} : ∀ {ws : List W} {vs : List V}, ws.all isDa = true → RWL K cl z ws vs → RWL K cl ⟨z.F, z.H, m⟩ ws vs
  | _, _, _, .nil => .nil
  | w :: ws, _, h, .cons r t => by
    simp only [List.all_cons, Bool.and_eq_true] at h
    refine .cons ?_ (rwl_da_cut h.2 t)
    cases w with
    | da d => exact r
    | lo n => cases h.1
    | xc => cases h.1
theorem xr_cut {z : Y} {m : List Addr} {x : Exn} {cls : Value} {dd : Option Addr} (h : x.ws.all isDa = true) (r : XR K cl z x cls dd) : XR K cl ⟨z.F, z.H, m⟩ x cls dd := by
  obtain ⟨C, h1, h2, h3⟩ := r
  refine ⟨C, h1, h2, h3.imp id ?_⟩
  rintro ⟨h4, d, vs, h5, h6, h7, h8⟩
  exact ⟨h4, d, vs, h5, h6, h7, rwl_da_cut h h8⟩
end
section
variable {P : Program} {w : World} {K : PySem.W.Frag} {mg : Str → Option Value} {base : Heap} {cl : Str → Option Addr}
/-- a def's body, walked: its promise -/
theorem fnS {x qual : Str} {st : Stmt} {f : Addr} {fd : FuncData} {N ps : List Str} {k : Nat} {m : MS} (F : Fun K x qual st f fd) (S : FnScope N ps (defScope st))
    (hb : ∀ (cdv : Value) (A : Around) (outer : List Env) (s : Shared) (H : Hp) (E : XK), Room k (A.deeper (envOfC qual (defScope st) s.heap.objs.size f cdv)) →
      QB (cxOf (L2.CX P w) P w K mg base N qual (defScope st) f cdv A outer s H E) cl none (fun cls d _ H' => E cls d H') (defBody st) m) :
    FnOk P w K mg base (L2.CX P w) (k + 1) f fd ps (SpS K cl (runS N.length ps.length m)) := by
  refine F.okX S (fun vs H Q E h => ?_) (fun cdv A outer s H vs Q E hr h => ?_)
  · obtain ⟨y, S0, ws, _, _, r, q⟩ := h
    rw [← Paired.length r]
    by_cases hl : ws.length = ps.length
    · exact hl
    · rw [show runS N.length ps.length m ws S0 = .stuck by unfold runS; rw [if_neg hl]] at q
      exact q.elim
  · obtain ⟨y, S0, ws, rfl, b, r, q⟩ := h
    obtain ⟨t, p, z⟩ := hb cdv A outer s y.H E hr
    refine ⟨t, p, z y.cn y _ _ S0 (sim_start b r) _ ?_⟩
    by_cases hl : ws.length = ps.length
    · rw [show runS N.length ps.length m ws S0 = endS S0 (m (startR N.length ws) S0) by unfold runS; rw [if_pos hl]] at q
      have trim : ∀ (w : W) (S' : Sto), SpR K cl y Q E (trimS S0 w S') → ∀ v z, Bs K cl z S' → Fm y.cn z → RW K cl z w v → Q v z.H := fun w S' q v z bz fz rz => by
        cases w with
        | da d =>
          simp only [trimS] at q
          by_cases ht : S'.take S0.length = S0
          · rw [ifc_pos ht] at q
            obtain ⟨b2, f2⟩ := bs_cut b bz fz ht
            exact q v ⟨z.F, z.H, y.m⟩ b2 f2 rz
          · rw [ifc_neg ht] at q
            exact q v z bz fz rz
        | lo n => exact q v z bz fz rz
        | xc => exact rz.elim
      cases e : m (startR N.length ws) S0 with
      | nx ρ S' =>
        rw [e] at q
        exact fun σ' z s' _ => trim (.da .non) S' q .non z s'.bs s'.fm rfl
      | rt u S' =>
        rw [e] at q
        exact fun v σ' ρ' z s' _ rw' => trim u S' q v z s'.bs s'.fm rw'
      | bk ρ S' => rw [e] at q; exact q.elim
      | ct ρ S' => rw [e] at q; exact q.elim
      | ex x ρ S' =>
        rw [e] at q
        intro cls dd σ' z s' _ xr
        simp only [endS, trimX] at q
        by_cases ht : S'.take S0.length = S0 ∧ x.ws.all isDa = true
        · rw [ifc_pos ht] at q
          obtain ⟨b2, f2⟩ := bs_cut b s'.bs s'.fm ht.1
          exact q cls dd ⟨z.F, z.H, y.m⟩ b2 f2 (xr_cut ht.2 xr)
        · rw [ifc_neg ht] at q
          exact q cls dd z s'.bs s'.fm xr
      | stuck => rw [e] at q; exact q.elim
    · rw [show runS N.length ps.length m ws S0 = .stuck by unfold runS; rw [if_neg hl]] at q
      exact q.elim
theorem FnOk.weak {f : Addr} {fd : FuncData} {ps : List Str} {CX : CXT} {k : Nat} {sp sp' : Sp} (F : FnOk P w K mg base CX k f fd ps sp) (h : ∀ vs H Q E, sp' vs H Q E → sp vs H Q E) : FnOk P w K mg base CX k f fd ps sp' :=
  ⟨fun vs H Q E q => F.len vs H Q E (h vs H Q E q), fun A outer s H args us vs Q E hr he hb hv q => F.run A outer s H args us vs Q E hr he hb hv (h vs H Q E q)⟩
theorem Fm.al0 {F H : Hp} {z : Y} (b : Ex z.F z.H) (f : Fm (Y.cn ⟨F, H, []⟩) z) : Al F H z.F z.H :=
  ⟨f.hf, fun b o e => f.keep b o e (by simp [Y.cn]), b, fun b o e => by
    rcases f.newF b o e with q | q | q | q
    · exact .inl q
    · exact .inr (.inl q)
    · simp [Y.cn] at q
    · exact .inr (.inr q)⟩
/-- a plain function out of it -/
theorem fnP {f : Addr} {fd : FuncData} {ps : List Str} {k : Nat} {p : List W → Sto → Rs W} (F : FnOk P w K mg base (L2.CX P w) k f fd ps (SpS K cl p)) : FnOk P w K mg base (L2.CX P w) k f fd ps (SpP K cl (pureOf p)) := by
  refine FnOk.weak F fun vs H Q E h => ?_
  obtain ⟨G, ds, x, r, q⟩ := h
  refine ⟨⟨G, H, []⟩, [], ds.map .da, rfl, ⟨x, rfl, List.nodup_nil, (by intro a ha; cases ha), (by intro n c e; cases e)⟩, rwl_da r, ?_⟩
  unfold pureOf at q
  split at q
  · rename_i d hd
    split at hd
    · rename_i d' S' e
      cases hd
      rw [e]
      exact fun v z bz fz rz => q v z.F z.H (fz.al0 bz.fz) rz
    · rename_i x' S' e
      rcases ifc_cases (P := fun r => r = Re.ok d) hd with ⟨_, hd⟩ | ⟨_, hd⟩ <;> cases hd
    · cases hd
  · rename_i y hd
    split at hd
    · cases hd
    · rename_i x' S' e
      rcases ifc_cases (P := fun r => r = Re.ex y) hd with ⟨ha, hd⟩ | ⟨_, hd⟩
      · cases hd
        rw [e]
        exact fun cls dd z bz fz xr => q cls dd z.F z.H (fz.al0 bz.fz) (xr_cut ha xr)
      · cases hd
    · cases hd
  · exact q.elim
theorem fn_stuck {f : Addr} {fd : FuncData} {ps : List Str} {CX : CXT} {k : Nat} : FnOk P w K mg base CX k f fd ps (SpP K cl fun _ => .stuck) :=
  ⟨fun vs H Q E h => by obtain ⟨_, _, _, _, q⟩ := h; exact q.elim, fun A outer s H args us vs Q E hr he hb hv h => by obtain ⟨_, _, _, _, q⟩ := h; exact q.elim⟩
/-- a def of the text's top as it stands -/
structure DefAt (K : PySem.W.Frag) (mg : Str → Option Value) (x : Str) (st : Stmt) (ps : List Str) (f : Addr) (fd : FuncData) : Prop where
  fn : Fun K x x st f fd
  mgd : mg x = some (.ref f)
  bd : Binds K fd ps []
/-- a constant of the text's top -/
structure GlobAt (K : PySem.W.Frag) (mg : Str → Option Value) (cl : Str → Option Addr) (x : Str) (d : D) : Prop where
  at_ : ∃ v u, mg x = some u ∧ RelV v u ∧ ∀ F, Rp K cl F d v
theorem qe_globAt {X : Cx} {xa : Option (Nat × Addr)} {Wx : WX} {x : Str} {d : D} {pos : Pos} (h : GlobAt X.K X.mg cl x d) (hg : Gl X x := by rfl) (hd : (x == ("__debug__" : Str)) = false := by decide) : QE X cl xa Wx (.Name x pos) (mC d) := by
  obtain ⟨v, u, h1, h2, h3⟩ := h.at_
  exact qe_glob hg h1 h2 h3 hd
theorem hu_ng {A : Around} {k : Nat} (hr : Room k A) : A.units + 200 < cLine := by have := hr.un; omega
end
/-! ### calls -/
def valsW (S : Sto) : List W → Option (List D)
  | [] => some []
  | w :: ws => match valW S w, valsW S ws with
    | some d, some ds => some (d :: ds)
    | _, _ => none
def reK (r : Re D) (S : Sto) : Rs W := match r with
  | .ok d => .ok (.da d) S
  | .ex x => .ex x S
  | .stuck => .stuck
def reF (r : Re D) (S : Sto) : Rs W := match r with
  | .ok d => if flatD d = true then .ok (.da d) S else .stuck
  | .ex x => if x.fs.isEmpty = true then .ex x S else .stuck
  | .stuck => .stuck
/-- a plain function called: by data; by cells that it reads, where a flat value comes out -/
def callP (p : List D → Re D) (ws : List W) (S : Sto) : Rs W := match dats ws with
  | some ds => reK (p ds) S
  | none => match valsW S ws with
    | some ds => reF (p ds) S
    | none => .stuck
def mCallP (p : List D → Re D) (mr : MA) : ME := mCall (callP p) mr
section
variable {X : Cx} {cl : Str → Option Addr} {xa : Option (Nat × Addr)} {Wx : WX}
open Classical in
/-- all cells as if they were frozen -/
noncomputable def Y.fzAll (y : Y) : Hp := fun b => if b ∈ y.m ∧ y.F b = none then y.H b else y.F b
theorem Y.fzAll_ex (y : Y) : Ex y.F y.fzAll := fun b o e => by
  unfold Y.fzAll
  rw [if_neg (by rintro ⟨_, h⟩; rw [e] at h; cases h)]
  exact e
theorem Y.fzAll_h {y : Y} (x : Ex y.F y.H) : Ex y.fzAll y.H := fun b o e => by
  unfold Y.fzAll at e
  split at e
  · exact e
  · exact x b o e
theorem fzAll_at {K : PySem.W.Frag} {y : Y} {S : Sto} (b : Bs K cl y S) {n : Nat} {c : Cell} {a : Addr} (hc : S[n]? = some c) (hd : c ≠ .dead) (ea : y.m[n]? = some a) : y.fzAll a = y.H a := by
  unfold Y.fzAll
  cases h : y.F a with
  | none => rw [if_pos ⟨List.mem_of_getElem? ea, rfl⟩]
  | some o => rw [if_neg (fun z => nomatch z.2), b.fz a o h]
theorem valF_ok {K : PySem.W.Frag} {y : Y} {S : Sto} (b : Bs K cl y S) {w : W} {v : V} {d : D} (r : RW K cl y w v) (h : valW S w = some d) : Rp K cl y.fzAll d v := by
  unfold valW at h
  split at h
  · cases h; exact Rp.xt y.fzAll_ex _ _ r
  · obtain ⟨a, e, rfl⟩ := r
    split at h
    · rename_i ws hc
      obtain ⟨_, vs, e2, l⟩ := b.at hc (by intro z; cases z) e
      obtain ⟨ds, q, rfl⟩ := Option.map_eq_some_iff.mp h
      exact ⟨a, vs, rfl, by rw [fzAll_at b hc (by intro z; cases z) e]; exact e2, RpL.xt y.fzAll_ex _ _ (dats_ok l q)⟩
    · rename_i ws hc
      obtain ⟨_, vs, e2, l⟩ := b.at hc (by intro z; cases z) e
      obtain ⟨ds, q, rfl⟩ := Option.map_eq_some_iff.mp h
      exact ⟨a, vs, rfl, by rw [fzAll_at b hc (by intro z; cases z) e]; exact e2, RpL.xt y.fzAll_ex _ _ (dats_ok l q)⟩
    · cases h
  · cases h
theorem valsF_ok {K : PySem.W.Frag} {y : Y} {S : Sto} (b : Bs K cl y S) : ∀ {ws : List W} {vs : List V} {ds : List D}, RWL K cl y ws vs → valsW S ws = some ds → RpL K cl y.fzAll ds vs
  | _, _, ds, .nil, h => by cases h; exact rfl
  | w :: ws, _, ds, .cons r t, h => by
    simp only [valsW] at h
    split at h
    · rename_i d ds' e1 e2
      cases h
      exact ⟨_, _, rfl, valF_ok b r e1, valsF_ok b t e2⟩
    · cases h
/-- a call's promise, used -/
theorem useP {K : PySem.W.Frag} {C : Cn} {y : Y} {σ : L2.St} {ρ : Rho} {S : Sto} {ws : List W} {vs : List V} {p : List D → Re D} {Q : VK} (s : Sim K cl xa C y σ ρ S) (r : RWL K cl y ws vs) (h : Post K cl xa C Wx y σ ρ (callP p ws S) (OkE K cl xa C y σ ρ Q)) : SpP K cl p vs y.H Q (WE Wx σ) := by
  unfold callP at h
  split at h
  · rename_i ds hd
    refine ⟨y.F, ds, s.bs.fz, dats_ok r hd, ?_⟩
    cases e : p ds with
    | ok d => rw [e] at h; exact fun v F' H' al rd => h v _ (s.al al) al.gr rd
    | ex x => rw [e] at h; exact fun cls dd F' H' al xr => h cls dd _ (s.al al) al.gr (XR.grow (y := ⟨F', H', []⟩) ⟨Ex.refl _, List.nil_prefix⟩ xr)
    | stuck => rw [e] at h; exact h
  · split at h
    · rename_i ds hd
      refine ⟨y.fzAll, ds, y.fzAll_h s.bs.fz, valsF_ok s.bs r hd, ?_⟩
      have back : ∀ F' H', Al y.fzAll y.H F' H' → Al y.F y.H y.F H' := fun F' H' al => ⟨Ex.refl _, al.h, s.bs.fz.trans al.h, fun b o e => .inl e⟩
      cases e : p ds with
      | ok d =>
        rw [e] at h
        simp only [reF] at h
        split at h
        · rename_i hf
          intro v F' H' al rd
          have rd' : Rp K cl y.F d v := by
            cases d <;> simp [flatD] at hf <;> exact rd
          exact h v _ (s.al (back F' H' al)) (back F' H' al).gr rd'
        · exact h.elim
      | ex x =>
        rw [e] at h
        simp only [reF] at h
        split at h
        · rename_i hf
          intro cls dd F' H' al xr
          obtain ⟨C', h1, h2, h3⟩ := xr
          have he : x.fs = [] := by cases hx : x.fs <;> simp_all
          refine h cls dd _ (s.al (back F' H' al)) (back F' H' al).gr ⟨C', h1, h2, ?_⟩
          rcases h3 with ⟨_, h3⟩ | ⟨h3, _⟩
          · exact .inl ⟨he, h3⟩
          · exact absurd he h3
        · exact h.elim
      | stuck => rw [e] at h; exact h
    · exact h.elim
theorem useS {K : PySem.W.Frag} {C : Cn} {y : Y} {σ : L2.St} {ρ : Rho} {S : Sto} {ws : List W} {vs : List V} {p : List W → Sto → Rs W} {Q : VK} (s : Sim K cl xa C y σ ρ S) (r : RWL K cl y ws vs) (h : Post K cl xa C Wx y σ ρ (p ws S) (OkE K cl xa C y σ ρ Q)) : SpS K cl p vs y.H Q (WE Wx σ) := by
  refine ⟨y, S, ws, rfl, s.bs, r, ?_⟩
  cases e : p ws S with
  | ok w S' => rw [e] at h; exact fun v z bz fz rz => h v z (s.after bz fz) fz.gr rz
  | ex x S' => rw [e] at h; exact fun cls dd z bz fz xr => h cls dd z (s.after bz fz) fz.gr xr
  | stuck => rw [e] at h; exact h
variable {CX : CXT} {k : Nat} {f : Addr} {fd : FuncData} {ps : List Str} {x : Str} {pp pos : Pos} {e : Expr} {es : List Expr} {mr : MA} {p : List D → Re D} {pS : List W → Sto → Rs W}
theorem qe_call (G : FnOk X.prog X.w X.K X.mg X.base CX k f fd ps (SpP X.K cl p)) (hr : Room k X.A) (hg : Gl X x) (hm : X.mg x = some (.ref f)) (hk : PySem.W.keepIn X.K (.ref f) = true) (hb : Binds X.K fd ps []) (px : ∀ σ, PassesAt CX X σ (WE Wx σ))
    (ha : QA X cl xa Wx (e :: es) mr) (hdb : (x == ("__debug__" : Str)) = false := by decide) (he : starEach (e :: es) X.env = (false, eval e X.env) :: starEach es X.env := by rfl) (hpl : (backTo pos (starEach es X.env)).any (·.1) = false := by rfl) :
    QE X cl xa Wx (.Call (.Name x pp) (e :: es) [] pos) (mCallP p mr) := by
  obtain ⟨t, pa, q⟩ := ha
  refine ⟨_, pe_callS G hr hg hm hk hb px pa hdb he hpl, fun C y σ ρ S s Q h => ?_⟩
  refine q C y σ ρ S s _ (Post.go h fun ws S1 h1 vs z s1 g1 r1 => ?_)
  exact useP s1 r1 (Post.re (h1 z g1) g1)
theorem qe_callS (G : FnOk X.prog X.w X.K X.mg X.base CX k f fd ps (SpS X.K cl pS)) (hr : Room k X.A) (hg : Gl X x) (hm : X.mg x = some (.ref f)) (hk : PySem.W.keepIn X.K (.ref f) = true) (hb : Binds X.K fd ps []) (px : ∀ σ, PassesAt CX X σ (WE Wx σ))
    (ha : QA X cl xa Wx (e :: es) mr) (hdb : (x == ("__debug__" : Str)) = false := by decide) (he : starEach (e :: es) X.env = (false, eval e X.env) :: starEach es X.env := by rfl) (hpl : (backTo pos (starEach es X.env)).any (·.1) = false := by rfl) :
    QE X cl xa Wx (.Call (.Name x pp) (e :: es) [] pos) (mCall pS mr) := by
  obtain ⟨t, pa, q⟩ := ha
  refine ⟨_, pe_callS G hr hg hm hk hb px pa hdb he hpl, fun C y σ ρ S s Q h => ?_⟩
  refine q C y σ ρ S s _ (Post.go h fun ws S1 h1 vs z s1 g1 r1 => ?_)
  exact useS s1 r1 (Post.re (h1 z g1) g1)
end
end Ng
namespace Ng
open PySem L2
/-! ### list comprehensions -/
section
variable {K : PySem.W.Frag} {cl : Str → Option Addr} {xa : Option (Nat × Addr)} {C : Cn} {y : Y} {σ σ' : St} {ρ ρ' : Rho} {S : Sto}
/-- a thing of our own that is neither frozen nor a cell -/
theorem Sim.other (s : Sim K cl xa C y σ ρ S) {p : Addr} {o : HO} (h1 : y.F p = none) (h2 : p ∉ y.m) (h3 : C.H0 p = none) : Sim K cl xa C (y.up p o) σ ρ S := by
  have neF : ∀ b o, y.F b = some o → b ≠ p := fun b o h z => by rw [z, h1] at h; cases h
  have g : Gr y (y.up p o) := ⟨Ex.refl _, List.prefix_refl _⟩
  refine ⟨⟨fun b u h => ?_, s.bs.len, s.bs.nd, fun b hb => ?_, fun k d ek hd => ?_⟩, ⟨s.fm.hf, fun b u e1 e2 => ?_, fun b h => ?_, s.fm.newF, s.fm.newC, s.fm.pre⟩, s.len, fun i w e => ?_⟩
  · show upd y.H p o b = some u
    rw [upd_ne (neF b u h)]; exact s.bs.fz b u h
  · show upd y.H p o b ≠ none
    rw [upd_ne (fun (z : b = p) => h2 (z ▸ hb))]; exact s.bs.has b hb
  · obtain ⟨b, f1, f2, f3⟩ := s.bs.cell k d ek hd
    have nb : b ≠ p := fun z => h2 (z ▸ List.mem_of_getElem? f1)
    exact ⟨b, f1, f2, CellR.grow g (fun u q => by show upd y.H p o b = some u; rw [upd_ne nb]; exact q) f3⟩
  · show upd y.H p o b = some u
    rw [upd_ne (fun z => by rw [z, h3] at e1; cases e1)]; exact s.fm.keep b u e1 e2
  · have h' : upd y.H p o b = none := h
    by_cases z : b = p
    · subst z; rw [upd_same] at h'; cases h'
    · rw [upd_ne z] at h'; exact s.fm.dom b h'
  · obtain ⟨v, e1, e2⟩ := s.slot i w e
    exact ⟨v, e1, e2.grow g⟩
/-- .. becomes a cell -/
theorem Sim.adoptC (s : Sim K cl xa C y σ ρ S) {p : Addr} {c : Cell} (h1 : y.F p = none) (h2 : p ∉ y.m) (h3 : C.H0 p = none) (h4 : y.H p ≠ none) (hc : CellR K cl y p c) : Sim K cl xa C ⟨y.F, y.H, y.m ++ [p]⟩ σ ρ (S ++ [c]) ∧ Gr y ⟨y.F, y.H, y.m ++ [p]⟩ := by
  have g : Gr y ⟨y.F, y.H, y.m ++ [p]⟩ := ⟨Ex.refl _, List.prefix_append _ _⟩
  refine ⟨⟨⟨s.bs.fz, by simp [s.bs.len], ?_, ?_, ?_⟩, ⟨s.fm.hf, s.fm.keep, s.fm.dom, s.fm.newF, fun a ha => ?_, s.fm.pre.trans g.m⟩, s.len, fun i w e => ?_⟩, g⟩
  · show (y.m ++ [p]).Nodup
    rw [List.nodup_append]
    exact ⟨s.bs.nd, by simp, fun a ha b hb => by simp at hb; subst hb; exact fun z => h2 (z ▸ ha)⟩
  · intro a ha
    rcases List.mem_append.mp ha with h | h
    · exact s.bs.has a h
    · simp at h; subst h; exact h4
  · intro n c' e d
    by_cases hn : n < S.length
    · rw [List.getElem?_append_left hn] at e
      obtain ⟨a, e1, e2, e3⟩ := s.bs.cell n c' e d
      exact ⟨a, pre_get g.m e1, e2, CellR.grow g (fun u z => z) e3⟩
    · have hl : n = S.length := by
        have := (List.getElem?_eq_some_iff.mp e).1
        simp at this; omega
      subst hl
      rw [List.getElem?_append_right (Nat.le_refl _)] at e
      simp at e
      subst e
      exact ⟨p, by show (y.m ++ [p])[S.length]? = some p; rw [← s.bs.len, List.getElem?_append_right (Nat.le_refl _)]; simp, .inl h1, CellR.grow g (fun u z => z) hc⟩
  · rcases List.mem_append.mp ha with h | h
    · exact s.fm.newC a h
    · simp at h; subst h; exact .inr h3
  · obtain ⟨v, e1, e2⟩ := s.slot i w e
    exact ⟨v, e1, e2.grow g⟩
/-- .. is frozen -/
theorem Sim.adoptF (s : Sim K cl xa C y σ ρ S) {p : Addr} {o : HO} (h1 : y.F p = none) (h2 : p ∉ y.m) (h3 : C.H0 p = none) (h4 : y.H p = some o) : Sim K cl xa C (y.fz p o) σ ρ S ∧ Gr y (y.fz p o) := by
  have ex : Ex y.F (upd y.F p o) := Ex.new h1
  have g : Gr y (y.fz p o) := ⟨ex, List.prefix_refl _⟩
  refine ⟨⟨⟨fun b u h => ?_, s.bs.len, s.bs.nd, s.bs.has, fun k d ek hd => ?_⟩, ⟨s.fm.hf.trans ex, s.fm.keep, s.fm.dom, fun b u h => ?_, s.fm.newC, s.fm.pre⟩, s.len, fun i w e => ?_⟩, g⟩
  · have h' : upd y.F p o b = some u := h
    by_cases z : b = p
    · subst z; rw [upd_same] at h'; cases h'; exact h4
    · rw [upd_ne z] at h'; exact s.bs.fz b u h'
  · obtain ⟨b, f1, f2, f3⟩ := s.bs.cell k d ek hd
    have nb : b ≠ p := fun z => h2 (z ▸ List.mem_of_getElem? f1)
    exact ⟨b, f1, f2.imp (fun q => by show upd y.F p o b = none; rw [upd_ne nb]; exact q) id, CellR.grow g (fun u q => q) f3⟩
  · have h' : upd y.F p o b = some u := h
    by_cases z : b = p
    · subst z; exact .inr (.inl h3)
    · rw [upd_ne z] at h'; exact s.fm.newF b u h'
  · obtain ⟨v, e1, e2⟩ := s.slot i w e
    exact ⟨v, e1, e2.grow g⟩
end
def wipeR (ρ : Rho) : List Nat → Rho
  | [] => ρ
  | v :: vs => (wipeR ρ vs).set v none
theorem wipeR_some {ρ : Rho} {i : Nat} {w : W} : ∀ {vs : List Nat}, (wipeR ρ vs)[i]? = some (some w) → ρ[i]? = some (some w) ∧ i ∉ vs
  | [], h => ⟨h, by simp⟩
  | v :: vs, h => by
    unfold wipeR at h
    by_cases e : v = i
    · subst e
      by_cases hl : v < (wipeR ρ vs).length
      · rw [List.getElem?_set_self hl] at h; cases h
      · rw [List.getElem?_eq_none (by rw [List.length_set]; omega)] at h; cases h
    · rw [List.getElem?_set_ne e] at h
      obtain ⟨h1, h2⟩ := wipeR_some h
      exact ⟨h1, by
        intro z
        rcases List.mem_cons.mp z with z | z
        · exact e z.symm
        · exact h2 z⟩
theorem wipeR_len (ρ : Rho) : ∀ vs : List Nat, (wipeR ρ vs).length = ρ.length
  | [] => rfl
  | v :: vs => by unfold wipeR; rw [List.length_set, wipeR_len ρ vs]
theorem Sim.wipe {K : PySem.W.Frag} {cl : Str → Option Addr} {xa : Option (Nat × Addr)} {C : Cn} {y : Y} {σ : St} {ρ : Rho} {S : Sto} (s : Sim K cl xa C y σ ρ S) (vs : List Nat) : Sim K cl xa C y (L2.wipe σ vs) (wipeR ρ vs) S :=
  ⟨s.bs, s.fm, by rw [wipeR_len, wipe_length]; exact s.len, fun i w e => by
    obtain ⟨h1, h2⟩ := wipeR_some e
    obtain ⟨v, e1, e2⟩ := s.slot i w h1
    exact ⟨v, by rw [wipe_out h2]; exact e1, e2⟩⟩
/-- readings that ask for no more than the meaning -/
def TEm (K : PySem.W.Frag) (cl : Str → Option Addr) (xa : Option (Nat × Addr)) (Wx : WX) (m : ME) : TE := fun σ H Q => ∃ C y ρ S, y.H = H ∧ Sim K cl xa C y σ ρ S ∧ Post K cl xa C Wx y σ ρ (m ρ S) (OkE K cl xa C y σ ρ Q)
def TTm (K : PySem.W.Frag) (cl : Str → Option Addr) (xa : Option (Nat × Addr)) (Wx : WX) (m : MT) : TT := fun σ H Q => ∃ C y ρ S, y.H = H ∧ Sim K cl xa C y σ ρ S ∧ Post K cl xa C Wx y σ ρ (m ρ S) (OkT K cl xa C y σ ρ Q)
theorem pe_m {X : Cx} {cl : Str → Option Addr} {xa : Option (Nat × Addr)} {Wx : WX} {e : Expr} {m : ME} (h : QE X cl xa Wx e m) : PE X e (TEm X.K cl xa Wx m) := ⟨fun pins s σ H Q I ⟨C, y, ρ, S, e1, sim, post⟩ => by
  subst e1
  obtain ⟨t, p, q⟩ := h
  exact p.run pins s σ _ Q I (q C y σ ρ S sim Q post)⟩
theorem pt_m {X : Cx} {cl : Str → Option Addr} {xa : Option (Nat × Addr)} {Wx : WX} {e : Expr} {m : MT} (h : QT X cl xa Wx e m) : PT X e (TTm X.K cl xa Wx m) := ⟨fun pins s σ H Q I ⟨C, y, ρ, S, e1, sim, post⟩ => by
  subst e1
  obtain ⟨t, p, q⟩ := h
  exact p.run pins s σ _ Q I (q C y σ ρ S sim Q post)⟩
/-- a target that stores in the block's own slots alone -/
def SGw (K : PySem.W.Frag) (cl : Str → Option Addr) (vs : List Nat) (tg : TG) (m : MG) : Prop := ∀ xa C y σ ρ S, Sim K cl xa C y σ ρ S → ∀ w v, RW K cl y w v → ∀ Q : St → Hp → Prop,
  (∃ ρ', m w ρ S = some ρ' ∧ ∀ σ', Sim K cl xa C y σ' ρ' S → L2.wipe σ' vs = L2.wipe σ vs → Q σ' y.H) → tg v σ y.H Q
def SGws (K : PySem.W.Frag) (cl : Str → Option Addr) (vs : List Nat) (tg : TGs) (m : MGs) : Prop := ∀ xa C y σ ρ S, Sim K cl xa C y σ ρ S → ∀ w v, RWL K cl y w v → ∀ Q : St → Hp → Prop,
  (∃ ρ', m w ρ S = some ρ' ∧ ∀ σ', Sim K cl xa C y σ' ρ' S → L2.wipe σ' vs = L2.wipe σ vs → Q σ' y.H) → tg v σ y.H Q
theorem set_wipe {σ : St} {i : Nat} {x : Option V} : ∀ {vs : List Nat}, i ∈ vs → L2.wipe (σ.set i x) vs = L2.wipe σ vs
  | [], h => by cases h
  | v :: vs, h => by
    show (L2.wipe (σ.set i x) vs).set v none = (L2.wipe σ vs).set v none
    by_cases k : i ∈ vs
    · rw [set_wipe k]
    · have e : i = v := by
        rcases List.mem_cons.mp h with z | z
        · exact z
        · exact absurd z k
      subst e
      apply List.ext_getElem?
      intro j
      by_cases hj : i = j
      · subst hj
        by_cases hl : i < σ.length
        · rw [List.getElem?_set_self (by rw [wipe_length, List.length_set]; exact hl), List.getElem?_set_self (by rw [wipe_length]; exact hl)]
        · rw [List.getElem?_eq_none (by rw [List.length_set, wipe_length, List.length_set]; omega), List.getElem?_eq_none (by rw [List.length_set, wipe_length]; omega)]
      · rw [List.getElem?_set_ne hj, List.getElem?_set_ne hj]
        have go : ∀ us : List Nat, (L2.wipe (σ.set i x) us)[j]? = (L2.wipe σ us)[j]? := fun us => by
          induction us with
          | nil => exact List.getElem?_set_ne hj
          | cons u us ih =>
            show ((L2.wipe (σ.set i x) us).set u none)[j]? = ((L2.wipe σ us).set u none)[j]?
            by_cases q : u = j
            · subst q
              by_cases hl : u < σ.length
              · rw [List.getElem?_set_self (by rw [wipe_length, List.length_set]; exact hl), List.getElem?_set_self (by rw [wipe_length]; exact hl)]
              · rw [List.getElem?_eq_none (by rw [List.length_set, wipe_length, List.length_set]; omega), List.getElem?_eq_none (by rw [List.length_set, wipe_length]; omega)]
            · rw [List.getElem?_set_ne q, List.getElem?_set_ne q]; exact ih
        exact go vs
theorem sgw_name {K : PySem.W.Frag} {cl : Str → Option Addr} {vs : List Nat} {i : Nat} (h : i ∈ vs) : SGw K cl vs (gName i) (gtName i) := fun xa C y σ ρ S s w v r Q ⟨ρ', e, k⟩ => by
  cases e
  exact k _ (s.set i r) (set_wipe h)
/-- a tuple unpacked -/
def gtTupT (n : Nat) (m : MGs) : MG := fun w ρ S => match tupW S w with
  | some ws => if ws.length = n then m ws ρ S else none
  | none => none
theorem sgws_nil {K : PySem.W.Frag} {cl : Str → Option Addr} {vs : List Nat} : SGws K cl vs gNil gtNil := fun xa C y σ ρ S s ws us r Q ⟨ρ', e, k⟩ => by
  unfold gtNil at e
  split at e
  · cases e
    cases r
    exact ⟨rfl, k _ s rfl⟩
  · cases e
theorem sgws_cons {K : PySem.W.Frag} {cl : Str → Option Addr} {vs : List Nat} {t : TG} {u : TGs} {g : MG} {gs : MGs} (h1 : SGw K cl vs t g) (h2 : SGws K cl vs u gs) : SGws K cl vs (gCons t u) (gtCons g gs) := fun xa C y σ ρ S s ws us r Q ⟨ρ', e, k⟩ => by
  unfold gtCons at e
  split at e
  · rename_i w rs _
    cases r with
    | cons r1 r2 =>
      obtain ⟨ρ1, e1, e2⟩ := Option.bind_eq_some_iff.mp e
      refine ⟨_, _, rfl, ?_⟩
      exact h1 xa C y σ ρ S s w _ r1 _ ⟨ρ1, e1, fun σ1 s1 w1 => h2 xa C y σ1 ρ1 S s1 rs _ r2 Q ⟨ρ', e2, fun σ2 s2 w2 => k σ2 s2 (w2.trans w1)⟩⟩
  · cases e
theorem sgw_tup {K : PySem.W.Frag} {cl : Str → Option Addr} {vs : List Nat} {u : TGs} {gs : MGs} {n : Nat} (h : SGws K cl vs u gs) : SGw K cl vs (gTup K n u) (gtTupT n gs) := fun xa C y σ ρ S s w v r Q ⟨ρ', e, k⟩ => by
  unfold gtTupT at e
  split at e
  · rename_i ws hw
    split at e
    · rename_i hl
      obtain ⟨a, us, rfl, t, l⟩ := tupW_ok s.bs r hw
      exact ⟨a, us, rfl, t, by rw [← Paired.length l]; exact hl, h xa C y σ ρ S s _ us l Q ⟨ρ', e, k⟩⟩
    · cases e
  · cases e
/-- the items that a comprehension makes -/
noncomputable def lcP (P : Sto → Prop) (g : MG) (mt : MT) (me : ME) (ρw : Rho) : List W → List W → Sto → Rs (List W)
  | [], acc, S => ifc (P S) (.ok acc S) .stuck
  | d :: ds, acc, S => ifc (P S) (match g d ρw S with
    | none => .stuck
    | some ρ2 => match mt ρ2 S with
      | .ok true S1 => match me ρ2 S1 with
        | .ok u S2 => ifc (acc.length < sizeLine) (lcP P g mt me ρw ds (acc ++ [u]) S2) .stuck
        | _ => .stuck
      | .ok false S1 => lcP P g mt me ρw ds acc S1
      | _ => .stuck) .stuck
noncomputable def lcM (g : MG) (mt : MT) (me : ME) (ρw : Rho) : List W → List W → Sto → Rs (List W)
  | [], acc, S => .ok acc S
  | d :: ds, acc, S => match g d ρw S with
    | none => .stuck
    | some ρ2 => match mt ρ2 S with
      | .ok true S1 => match me ρ2 S1 with
        | .ok u S2 => ifc (acc.length < sizeLine) (lcM g mt me ρw ds (acc ++ [u]) S2) .stuck
        | _ => .stuck
      | .ok false S1 => lcM g mt me ρw ds acc S1
      | _ => .stuck
theorem lcM_P (g : MG) (mt : MT) (me : ME) (ρw : Rho) : ∀ (ds acc : List W) (S : Sto), lcM g mt me ρw ds acc S = lcP (fun _ => True) g mt me ρw ds acc S
  | [], acc, S => by unfold lcM lcP; rw [ifc_true]
  | d :: ds, acc, S => by
    unfold lcM lcP
    rw [ifc_true]
    split
    · rfl
    · split
      · split
        · rw [lcM_P g mt me ρw ds _ _]
        · rfl
      · exact lcM_P g mt me ρw ds _ _
      · rfl
theorem lcP_at {P : Sto → Prop} {g : MG} {mt : MT} {me : ME} {ρw : Rho} {ds acc ys : List W} {S S' : Sto} (h : lcP P g mt me ρw ds acc S = .ok ys S') : P S := by
  cases ds with
  | nil =>
    rcases ifc_cases (P := fun r => r = Rs.ok ys S') h with ⟨a, _⟩ | ⟨_, b⟩
    · exact a
    · cases b
  | cons d ds =>
    rcases ifc_cases (P := fun r => r = Rs.ok ys S') h with ⟨a, _⟩ | ⟨_, b⟩
    · exact a
    · cases b
theorem lcP_noex {P : Sto → Prop} {g : MG} {mt : MT} {me : ME} {ρw : Rho} : ∀ (ds acc : List W) (S : Sto) (x : Exn) (S' : Sto), lcP P g mt me ρw ds acc S ≠ .ex x S'
  | [], acc, S, x, S' => by
    intro h
    rcases ifc_cases (P := fun r => r = Rs.ex x S') h with ⟨_, h⟩ | ⟨_, h⟩ <;> cases h
  | d :: ds, acc, S, x, S' => by
    intro h
    rcases ifc_cases (P := fun r => r = Rs.ex x S') h with ⟨_, h⟩ | ⟨_, h⟩
    · split at h
      · cases h
      · split at h
        · split at h
          · rcases ifc_cases (P := fun r => r = Rs.ex x S') h with ⟨_, h⟩ | ⟨_, h⟩
            · exact lcP_noex ds _ _ x S' h
            · cases h
          · cases h
        · exact lcP_noex ds _ _ x S' h
        · cases h
    · cases h
def mYes : MT := fun _ S => .ok true S
def mkLst (mk : Option Cell → Sto → Rs W) (ys : List W) (S : Sto) : Rs W := mk (some (.lst ys)) S
noncomputable def mLc (mk : Option Cell → Sto → Rs W) (e : ME) (vs : List Nat) (g : MG) (mt : MT) (me : ME) : ME := fun ρ S => (e ρ S).bind fun w S => match w with
  | .da d => match itemsD d with
    | some ws => (lcM g mt me (wipeR ρ vs) ws [] S).bind (mkLst mk)
    | none => .stuck
  | .lo n => match S[n]? with
    | some (.lst ws) => (lcP (fun S => S[n]? = some (.lst ws)) g mt me (wipeR ρ vs) ws [] S).bind (mkLst mk)
    | _ => .stuck
  | .xc => .stuck
noncomputable def mLcR (mk : Option Cell → Sto → Rs W) (rg : List W → Option (Int × Nat)) (a : MA) (vs : List Nat) (g : MG) (mt : MT) (me : ME) : ME := fun ρ S => (a ρ S).bind fun ws S => match rg ws with
  | some (lo, n) => (lcM g mt me (wipeR ρ vs) (intsW lo n) [] S).bind (mkLst mk)
  | none => .stuck
abbrev W0 : WX := fun _ _ _ _ => False
/-- between two turns: what is made stands at p, the rest gives ys -/
def LcAt (K : PySem.W.Frag) (cl : Str → Option Addr) (xa : Option (Nat × Addr)) (C : Cn) (y0 : Y) (σ : St) (ρ : Rho) (P : Sto → Prop) (vs : List Nat) (g : MG) (mt : MT) (me : ME) (ys : List W) (S' : Sto) (p : Addr) (ds : List W) (H : Hp) : Prop :=
  ∃ y acc vacc S, y.H = H ∧ Sim K cl xa C y σ ρ S ∧ Gr y0 y ∧ y.F p = none ∧ p ∉ y.m ∧ H p = some (.lst vacc) ∧ RWL K cl y acc vacc ∧ P S ∧ lcP P g mt me (wipeR ρ vs) ds acc S = .ok ys S'
section
variable {K : PySem.W.Frag} {cl : Str → Option Addr} {xa : Option (Nat × Addr)}
theorem wipe_wipe (σ : St) (vs : List Nat) : L2.wipe (L2.wipe σ vs) vs = L2.wipe σ vs := by
  apply List.ext_getElem?
  intro j
  by_cases k : j ∈ vs
  · have f : ∀ (τ : St) (ws : List Nat), j ∈ ws → (L2.wipe τ ws)[j]? = if j < τ.length then some none else none := fun τ ws => by
      induction ws with
      | nil => intro z; cases z
      | cons y ys ih =>
        intro z
        show ((L2.wipe τ ys).set y none)[j]? = _
        by_cases q : y = j
        · subst q
          by_cases hl : y < τ.length
          · rw [List.getElem?_set_self (by rw [wipe_length]; exact hl), if_pos hl]
          · rw [List.getElem?_eq_none (by rw [List.length_set, wipe_length]; omega), if_neg hl]
        · rw [List.getElem?_set_ne q]
          exact ih (by
            rcases List.mem_cons.mp z with z | z
            · exact absurd z.symm q
            · exact z)
    rw [f _ _ k, f _ _ k, wipe_length]
  · rw [wipe_out k]
/-- what a part that ran by itself leaves of a thing of ours -/
theorem keep_own {y z : Y} {p : Addr} {o : HO} (fz : Ex z.F z.H) (f : Fm y.cn z) (h1 : y.F p = none) (h2 : p ∉ y.m) (h3 : y.H p = some o) (hnt : ∀ xs, o ≠ .tup xs := by intro xs z; cases z) : z.H p = some o ∧ z.F p = none ∧ p ∉ z.m := by
  refine ⟨f.keep p o h3 h2, ?_, fun h => ?_⟩
  · cases e : z.F p with
    | none => rfl
    | some u =>
      rcases f.newF p u e with q | q | q | ⟨xs, q⟩
      · rw [show y.F p = some u from q] at h1; cases h1
      · rw [show y.H p = none from q] at h3; cases h3
      · exact absurd q h2
      · have k := f.keep p o h3 h2
        rw [fz p u e] at k
        cases k
        exact absurd q (hnt xs)
  · rcases f.newC p h with q | q
    · exact h2 q
    · rw [show y.H p = none from q] at h3; cases h3
theorem al_own {y : Y} {F' H' : Hp} {p : Addr} {o : HO} (a : Al y.F y.H F' H') (h1 : y.F p = none) (h3 : y.H p = some o) (hnt : ∀ xs, o ≠ .tup xs := by intro xs z; cases z) : H' p = some o ∧ F' p = none := by
  refine ⟨a.h p o h3, ?_⟩
  cases e : F' p with
  | none => rfl
  | some u =>
    rcases a.n p u e with q | q | ⟨xs, q⟩
    · rw [h1] at q; cases q
    · rw [h3] at q; cases q
    · have k := a.h p o h3
      rw [a.x p u e] at k
      cases k
      exact absurd q (hnt xs)
theorem run_lc {C : Cn} {y0 : Y} {σ : St} {ρ : Rho} {S S' : Sto} {P : Sto → Prop} {g : MG} {tg : TG} {J : It} {ws ys : List W} {G : Y → Sto → Prop} {mt : MT} {me : ME} {vs : List Nat} {Qd : Hp → Prop} {p : Addr} (hg : SGw K cl vs tg g) (wk : Wk K cl J ws G)
    (hG : ∀ y S, Gr y0 y → P S → G y S) (s : Sim K cl xa C y0 σ ρ S) (hp : y0.H p = none) (h : lcP P g mt me (wipeR ρ vs) ws [] S = .ok ys S')
    (hd : ∀ z vacc, Sim K cl xa C z σ ρ S' → Gr y0 z → z.F p = none → p ∉ z.m → C.H0 p = none → z.H p = some (.lst vacc) → RWL K cl z ys vacc → Qd z.H) :
    ∃ W : Nat → Nat → Hp → Prop, (∃ m, W 0 m (upd y0.H p (.lst []))) ∧ ∀ i m H, W i m H →
      (J.stop i H ∧ Qd H) ∨ (J.go i H ∧ ∃ Nx : Hp → Prop, (∀ H', Nx H' → ∃ m', m' < m ∧ W (i + 1) m' H') ∧ ∀ x H', J.yld i H x H' → tg x (L2.wipe σ vs) H' fun σ2 H2 => L2.wipe σ2 vs = L2.wipe σ vs ∧ TTm K cl xa W0 mt σ2 H2 fun b H3 =>
        if b = true then TEm K cl xa W0 me σ2 H3 fun u H4 => ∃ acc, H4 p = some (.lst acc) ∧ acc.length < sizeLine ∧ Nx (upd H4 p (.lst (acc ++ [u]))) else Nx H3) := by
  have c0 : C.H0 p = none := s.fm.dom p hp
  have fp0 : y0.F p = none := s.bs.fz.no hp
  have pm0 : p ∉ y0.m := fun z => s.bs.has p z hp
  refine ⟨fun i k H => k = ws.length - i ∧ i ≤ ws.length ∧ LcAt K cl xa C y0 σ ρ P vs g mt me ys S' p (ws.drop i) H, ⟨ws.length, by simp, Nat.zero_le _, y0.up p (.lst []), [], [], S, rfl, s.other fp0 pm0 c0, ⟨Ex.refl _, List.prefix_refl _⟩, fp0, pm0, upd_same, .nil, lcP_at h, h⟩, ?_⟩
  rintro i k H ⟨rfl, hi, y, acc, vacc, S1, rfl, s, x, fp, pm, hpp, ra, hP, q⟩
  by_cases hlt : i < ws.length
  · refine .inr ⟨wk.goes i y S1 hlt s.bs (hG y S1 x hP), LcAt K cl xa C y0 σ ρ P vs g mt me ys S' p (ws.drop (i + 1)), fun H' p' => ⟨ws.length - (i + 1), by omega, rfl, hlt, p'⟩, fun v H' hy => ?_⟩
    obtain ⟨F', w, al, ew, rw'⟩ := wk.yields i y S1 v H' hlt s.bs (hG y S1 x hP) hy
    rw [drop_cons ew] at q
    have s1 := s.al al
    obtain ⟨hp1, fp1⟩ := al_own al fp hpp
    rcases ifc_cases (P := fun r => r = Rs.ok ys S') q with ⟨_, q⟩ | ⟨_, q⟩
    · split at q
      · cases q
      · rename_i ρ2 e1
        refine hg xa _ ⟨F', H', y.m⟩ _ _ S1 (s1.wipe vs).rebase w v rw' _ ⟨ρ2, e1, fun σ2 s2 hw => ⟨hw.trans (wipe_wipe σ vs), ?_⟩⟩
        refine ⟨_, ⟨F', H', y.m⟩, ρ2, S1, rfl, s2, ?_⟩
        split at q
        · rename_i S2 e2
          rw [e2]
          intro z3 s3 g3
          rw [if_pos rfl]
          refine ⟨_, z3, ρ2, S2, rfl, s3, ?_⟩
          split at q
          · rename_i u S3 e3
            rw [e3]
            intro uv z4 s4 g4 ru
            obtain ⟨k1, k2, k3⟩ := keep_own s4.bs.fz s4.fm fp1 pm hp1
            rcases ifc_cases (P := fun r => r = Rs.ok ys S') q with ⟨hz, q⟩ | ⟨_, q⟩
            · have s5 := s1.after s4.bs s4.fm
              have gg : Gr y (z4.up p (.lst (vacc ++ [uv]))) := ⟨al.gr.f.trans s4.fm.gr.f, al.gr.m.trans s4.fm.gr.m⟩
              have g2 : Gr z4 (z4.up p (.lst (vacc ++ [uv]))) := ⟨Ex.refl _, List.prefix_refl _⟩
              exact ⟨vacc, k1, by rw [← Paired.length ra]; exact hz, z4.up p (.lst (vacc ++ [uv])), acc ++ [u], vacc ++ [uv], S3, rfl, s5.other k2 k3 c0, x.trans gg, k2, k3, upd_same, paired_append (RWL.grow gg ra) (.cons (ru.grow g2) .nil), lcP_at q, q⟩
            · cases q
          · cases q
        · rename_i S2 e2
          rw [e2]
          intro z3 s3 g3
          rw [if_neg (by simp)]
          obtain ⟨k1, k2, k3⟩ := keep_own s3.bs.fz s3.fm fp1 pm hp1
          have gg : Gr y z3 := al.gr.trans s3.fm.gr
          exact ⟨z3, acc, vacc, S2, rfl, s1.after s3.bs s3.fm, x.trans gg, k2, k3, k1, RWL.grow gg ra, lcP_at q, q⟩
        · cases q
    · cases q
  · have e : i = ws.length := by omega
    subst e
    have st := wk.stops y _ s.bs (hG y _ x hP)
    rw [List.drop_length] at q
    rcases ifc_cases (P := fun r => r = Rs.ok ys S') q with ⟨_, q⟩ | ⟨_, q⟩
    · cases q
      exact .inl ⟨st, hd y vacc s x fp pm c0 hpp ra⟩
    · cases q
/-- what comes of the list: a cell, or data -/
def MkOk (K : PySem.W.Frag) (cl : Str → Option Addr) (xa : Option (Nat × Addr)) (mk : Option Cell → Sto → Rs W) : Prop := ∀ (C : Cn) (Wx : WX) (y0 z : Y) (σ : St) (ρ : Rho) (S : Sto) (ys : List W) (vacc : List V) (p : Addr) (Q : VK), Sim K cl xa C z σ ρ S → Gr y0 z → z.F p = none → p ∉ z.m → C.H0 p = none → z.H p = some (.lst vacc) → RWL K cl z ys vacc →
  Post K cl xa C Wx y0 σ ρ (mk (some (.lst ys)) S) (OkE K cl xa C y0 σ ρ Q) → Q (.ref p) z.H
theorem mkC_ok : MkOk K cl xa mkC := fun C Wx y0 z σ ρ S ys vacc p Q s g h1 h2 h3 h4 r h => by
  obtain ⟨s2, g2⟩ := s.adoptC (c := .lst ys) h1 h2 h3 (by rw [h4]; simp) ⟨vacc, h4, r⟩
  exact h (.ref p) ⟨z.F, z.H, z.m ++ [p]⟩ s2 (g.trans g2) ⟨p, by rw [← s.bs.len]; simp, rfl⟩
theorem mkD_ok : MkOk K cl xa mkD := fun C Wx y0 z σ ρ S ys vacc p Q s g h1 h2 h3 h4 r h => by
  unfold mkD at h
  simp only at h
  split at h
  · rename_i d hd
    obtain ⟨s2, g2⟩ := s.adoptF h1 h2 h3 h4
    obtain ⟨ds, q, rfl⟩ := Option.map_eq_some_iff.mp hd
    exact h (.ref p) (z.fz p (.lst vacc)) s2 (g.trans g2) ⟨p, vacc, rfl, upd_same, RpL.xt g2.f _ _ (dats_ok r q)⟩
  · exact h.elim
end
section
variable {X : Cx} {cl : Str → Option Addr} {xa : Option (Nat × Addr)} {Wx : WX} {pos : Pos} {elt tg iter a : Expr} {ifs : List Expr} {scope : Scope} {own : List (Str × Nat)} {mi me : ME} {mr : MA} {mt : MT} {g : MG} {gt : TG} {mk : Option Cell → Sto → Rs W}
/-- any rule of an expression -/
def eAny (X : Cx) (e : Expr) : TE := fun σ H Q => ∃ t, PE X e t ∧ t σ H Q
theorem pe_anyE {e : Expr} : PE X e (eAny X e) := by
  constructor
  intro pins s σ H Q I ⟨t, p, h⟩
  exact p.run pins s σ H Q I h
theorem SE.badE {K : PySem.W.Frag} {t : TE} {C : Cn} {y : Y} {σ : St} {ρ : Rho} {S : Sto} {k : W → Sto → Rs W} {P : W → Sto → Prop} (q : SE K cl xa Wx t mi) (s : Sim K cl xa C y σ ρ S) (h : Post K cl xa C Wx y σ ρ ((mi ρ S).bind k) P) (hn : ∀ w S', mi ρ S ≠ .ok w S') (Q : VK) : t σ y.H Q := by
  refine q C y σ ρ S s Q ?_
  cases e : mi ρ S with
  | ok w S' => exact absurd e (hn w S')
  | ex x S' => rw [e] at h; exact h
  | stuck => rw [e] at h; exact h
/-- what a comprehension walks: the rule that fits the value -/
theorem walk_lc {t : TE} (hmk : MkOk X.K cl xa mk) (p : PE X iter t) (q : SE X.K cl xa Wx t mi) {vs0 : List Nat} (hsg : SGw X.K cl vs0 gt g) {C : Cn} {y : Y} {σ : St} {ρ : Rho} {S : Sto} (s : Sim X.K cl xa C y σ ρ S) {Q : VK}
    (h : Post X.K cl xa C Wx y σ ρ (mLc mk mi vs0 g mt me ρ S) (OkE X.K cl xa C y σ ρ Q)) : ∃ wi, PI X tg iter wi ∧ tLc wi gt (TTm X.K cl xa W0 mt) (TEm X.K cl xa W0 me) vs0 σ y.H Q := by
  unfold mLc at h
  by_cases bad : ∀ w S', mi ρ S ≠ .ok w S'
  · exact ⟨_, pi_list p, q.badE s h bad _⟩
  · cases e : mi ρ S with
    | stuck => exact absurd (by intro w S' z; rw [e] at z; cases z) bad
    | ex x S' => exact absurd (by intro w S' z; rw [e] at z; cases z) bad
    | ok w S0 =>
      rw [e] at h
      simp only [Rs.bind] at h
      have fin : ∀ {P : Sto → Prop} {ws : List W} {J : It} {G : Y → Sto → Prop} {z : Y} {pp : Addr}, Post X.K cl xa C Wx y σ ρ ((lcP P g mt me (wipeR ρ vs0) ws [] S0).bind (mkLst mk)) (OkE X.K cl xa C y σ ρ Q) → Wk X.K cl J ws G → (∀ y S, Gr z y → P S → G y S) → Sim X.K cl xa C z σ ρ S0 → Gr y z → z.H pp = none →
          ∃ W : Nat → Nat → Hp → Prop, (∃ m, W 0 m (upd z.H pp (.lst []))) ∧ ∀ i m H, W i m H →
            (J.stop i H ∧ Q (.ref pp) H) ∨ (J.go i H ∧ ∃ Nx : Hp → Prop, (∀ H', Nx H' → ∃ m', m' < m ∧ W (i + 1) m' H') ∧ ∀ x H', J.yld i H x H' → gt x (L2.wipe σ vs0) H' fun σ2 H2 => L2.wipe σ2 vs0 = L2.wipe σ vs0 ∧ TTm X.K cl xa W0 mt σ2 H2 fun b H3 =>
              if b = true then TEm X.K cl xa W0 me σ2 H3 fun u H4 => ∃ acc, H4 pp = some (.lst acc) ∧ acc.length < sizeLine ∧ Nx (upd H4 pp (.lst (acc ++ [u]))) else Nx H3) := fun {P ws J G z pp} h wk hG s1 g1 hp => by
        cases e2 : lcP P g mt me (wipeR ρ vs0) ws [] S0 with
        | stuck => rw [e2] at h; exact h.elim
        | ex x S' => exact absurd e2 (lcP_noex _ _ _ _ _)
        | ok ys S' =>
          rw [e2] at h
          exact run_lc hsg wk hG s1 hp e2 fun z2 vacc s2 g2 k1 k2 k3 k4 k5 => hmk C Wx y z2 σ ρ S' ys vacc pp Q s2 (g1.trans g2) k1 k2 k3 k4 k5 h
      cases w with
      | xc => exact h.elim
      | lo k =>
        simp only at h
        split at h
        · rename_i ws hk
          refine ⟨_, pi_list p, q.now s e fun v z s1 g1 r1 => ?_⟩
          obtain ⟨a, ea, rfl⟩ := r1
          obtain ⟨_, vs, hH, l⟩ := s1.bs.at hk (by intro z; cases z) ea
          refine ⟨a, rfl, ⟨vs, .inl (.inl hH)⟩, fun pp hp => fin h (wk_list (G := fun y S => Gr z y ∧ S[k]? = some (.lst ws)) ?_) (fun y S g p => ⟨g, p⟩) s1 g1 hp⟩
          rintro y S b ⟨g, hk2⟩
          obtain ⟨_, vs, h1, h2⟩ := b.at hk2 (by intro z; cases z) (pre_get g.m ea)
          exact ⟨vs, .inl (.inl h1), h2⟩
        · exact h.elim
      | da d =>
        simp only at h
        split at h
        · rename_i ws hd
          rw [lcM_P] at h
          unfold itemsD at hd
          split at hd
          · cases hd
            refine ⟨_, pi_list p, q.now s e fun v z s1 g1 r1 => ?_⟩
            obtain ⟨a, vs, rfl, tl, l⟩ := r1
            exact ⟨a, rfl, ⟨vs, .inl (.inl (s1.bs.fz _ _ tl))⟩, fun pp hp => fin h (wk_list (G := fun y S => Gr z y) fun y S b g => ⟨vs, .inl (.inl (b.fz _ _ (g.f _ _ tl))), rwl_da (RpL.xt g.f _ _ l)⟩) (fun y S g p => g) s1 g1 hp⟩
          · cases hd
            refine ⟨_, pi_list p, q.now s e fun v z s1 g1 r1 => ?_⟩
            obtain ⟨a, vs, rfl, tl, l⟩ := r1
            exact ⟨a, rfl, ⟨vs, sqL_xt s1.bs.fz tl⟩, fun pp hp => fin h (wk_list (G := fun y S => Gr z y) fun y S b g => ⟨vs, sqL_xt (g.f.trans b.fz) tl, rwl_da (RpL.xt g.f _ _ l)⟩) (fun y S g p => g) s1 g1 hp⟩
          · cases hd
            refine ⟨_, pi_tup p, q.now s e fun v z s1 g1 r1 => ?_⟩
            obtain ⟨a, vs, rfl, tl, l⟩ := r1
            exact ⟨a, rfl, ⟨vs, .inl (.inl (s1.bs.fz _ _ tl))⟩, fun pp hp => fin h (wk_tup (G := fun y S => Gr z y) fun y S b g => ⟨vs, .inl (.inl (b.fz _ _ (g.f _ _ tl))), rwl_da (RpL.xt g.f _ _ l)⟩) (fun y S g p => g) s1 g1 hp⟩
          · cases hd
            refine ⟨_, pi_tup p, q.now s e fun v z s1 g1 r1 => ?_⟩
            obtain ⟨a, vs, rfl, tl, l⟩ := r1
            exact ⟨a, rfl, ⟨vs, sqT_xt s1.bs.fz tl⟩, fun pp hp => fin h (wk_tup (G := fun y S => Gr z y) fun y S b g => ⟨vs, sqT_xt (g.f.trans b.fz) tl, rwl_da (RpL.xt g.f _ _ l)⟩) (fun y S g p => g) s1 g1 hp⟩
          · rename_i x
            cases hd
            refine ⟨_, pi_str p, q.now s e fun v z s1 g1 r1 => ?_⟩
            exact ⟨x, r1, fun pp hp => fin h (wk_str (G := fun y S => Gr z y)) (fun y S g p => g) s1 g1 hp⟩
          · rename_i ks ds
            cases hd
            refine ⟨_, pi_keys p, q.now s e fun v z s1 g1 r1 => ?_⟩
            obtain ⟨a, vs, rfl, ⟨o, tl⟩, nl, l⟩ := r1
            have ek : (ks.zip vs).map (·.1) = ks := List.map_fst_zip (by omega)
            have wk := wk_keys (cl := cl) (K := X.K) (d := a) (o := o) (kvs := ks.zip vs) (G := fun y S => Gr z y ∧ Ex y.F y.H) (fun y S g => g.2 _ _ (g.1.f _ _ tl))
            rw [ek] at wk
            refine ⟨a, o, rfl, .inl ⟨ks.zip vs, s1.bs.fz _ _ tl, fun pp hp => ?_⟩⟩
            exact fin h (G := fun y S => Gr z y) ⟨fun i y S hi b g => wk.goes i y S hi b ⟨g, b.fz⟩, fun y S b g => wk.stops y S b ⟨g, b.fz⟩, fun i y S x H' hi b g => wk.yields i y S x H' hi b ⟨g, b.fz⟩⟩ (fun y S g p => g) s1 g1 hp
          · cases hd
        · exact h.elim
theorem qe_lc (hmk : MkOk X.K cl xa mk) (hc : X.calm = true) (hN : X.N.Nodup) (hi : QE X cl xa Wx iter mi) (ok : BlkOk X.N X.env.scope scope own) (hsg : SGw X.K cl (own.map (·.2)) gt g)
    (hg : ∀ (s : Shared) (H : Hp) (A : Addr) (c2 : List (Str × Addr)) (fp : List Addr), PG (X.blk s H scope (compEnvC scope c2 A X.env) fp) tg gt)
    (ht : ∀ (s : Shared) (H : Hp) (A : Addr) (c2 : List (Str × Addr)) (fp : List Addr), PTs (X.blk s H scope (compEnvC scope c2 A X.env) fp) ifs (TTm X.K cl xa W0 mt))
    (he : ∀ (s : Shared) (H : Hp) (A : Addr) (c2 : List (Str × Addr)) (fp : List Addr), QE (X.blk s H scope (compEnvC scope c2 A X.env) fp) cl xa W0 elt me) (hs : ∀ x, foldedSetIterable iter X.env x = pure x := by intro _; rfl) :
    QE X cl xa Wx (.ListComp elt [⟨tg, iter, ifs, 0⟩] scope pos) (mLc mk mi (own.map (·.2)) g mt me) := by
  obtain ⟨t, p, q⟩ := hi
  refine ⟨_, pe_anyE, fun C y σ ρ S s Q h => ?_⟩
  obtain ⟨wi, hpi, hr⟩ := walk_lc (tg := tg) hmk p q hsg s h
  exact ⟨_, pe_lc (te := TEm X.K cl xa W0 me) hc hN hpi ok hg ht (fun s H A c2 fp => pe_m (he s H A c2 fp)) hs, hr⟩
theorem walk_lcR1 {t : TA} (hmk : MkOk X.K cl xa mk) (q : SA X.K cl xa Wx t mr) {vs0 : List Nat} (hsg : SGw X.K cl vs0 gt g) : SE X.K cl xa Wx (tLc (iRng1 t) gt (TTm X.K cl xa W0 mt) (TEm X.K cl xa W0 me) vs0) (mLcR mk rng1 mr vs0 g mt me) := by
  intro C y σ ρ S s Q h
  refine q C y σ ρ S s _ (Post.go h fun ws S1 h1 vs z s1 g1 r1 => ?_)
  have h2 := h1 z g1
  split at h2
  · rename_i lo k e
    unfold rng1 at e
    split at e
    · rename_i j
      obtain ⟨hj, e⟩ := ifc_some e
      cases e
      obtain ⟨v, rfl, rv⟩ := rwl1 r1
      cases (show v = .int j from rv)
      rw [lcM_P] at h2
      refine ⟨j, rfl, hj.1, hj.2, fun pp hp => ?_⟩
      cases e2 : lcP (fun _ => True) g mt me (wipeR ρ vs0) (intsW 0 j.toNat) [] S1 with
      | stuck => rw [e2] at h2; exact h2.elim
      | ex x S' => exact absurd e2 (lcP_noex _ _ _ _ _)
      | ok ys S' =>
        rw [e2] at h2
        exact run_lc hsg (wk_rng (G := fun y S => True)) (fun y S g p => trivial) s1 hp e2 fun z2 vacc s2 g2 k1 k2 k3 k4 k5 => hmk C Wx z z2 σ ρ S' ys vacc pp Q s2 g2 k1 k2 k3 k4 k5 (Post.re h2 g1)
    · cases e
  · exact h2.elim
theorem qe_lcR1 {p p' : Pos} (hmk : MkOk X.K cl xa mk) (hc : X.calm = true) (hN : X.N.Nodup) (hgl : Gl X "range") (hm : X.mg "range" = none) (ha : QA X cl xa Wx [a] mr) (ok : BlkOk X.N X.env.scope scope own) (hsg : SGw X.K cl (own.map (·.2)) gt g)
    (hg : ∀ (s : Shared) (H : Hp) (A : Addr) (c2 : List (Str × Addr)) (fp : List Addr), PG (X.blk s H scope (compEnvC scope c2 A X.env) fp) tg gt)
    (ht : ∀ (s : Shared) (H : Hp) (A : Addr) (c2 : List (Str × Addr)) (fp : List Addr), PTs (X.blk s H scope (compEnvC scope c2 A X.env) fp) ifs (TTm X.K cl xa W0 mt))
    (he : ∀ (s : Shared) (H : Hp) (A : Addr) (c2 : List (Str × Addr)) (fp : List Addr), QE (X.blk s H scope (compEnvC scope c2 A X.env) fp) cl xa W0 elt me)
    (hst : starEach [a] X.env = [(false, eval a X.env)] := by rfl) (hs : ∀ x, foldedSetIterable (.Call (.Name "range" p) [a] [] p') X.env x = pure x := by intro _; rfl) :
    QE X cl xa Wx (.ListComp elt [⟨tg, .Call (.Name "range" p) [a] [] p', ifs, 0⟩] scope pos) (mLcR mk rng1 mr (own.map (·.2)) g mt me) := by
  obtain ⟨t, pa, q⟩ := ha
  exact ⟨_, pe_lc (te := TEm X.K cl xa W0 me) hc hN (pi_range1 hgl hm pa hst) ok hg ht (fun s H A c2 fp => pe_m (he s H A c2 fp)) hs, walk_lcR1 hmk q hsg⟩
theorem ss_set {K : PySem.W.Frag} {t : TE} {i : Nat} (q : SE K cl xa Wx t me) : SS K cl xa Wx (tAsg t (gName i)) (mSet i me) := by
  intro C y σ ρ S s Z h
  refine q C y σ ρ S s _ (PostS.go h fun w S1 h1 v z s1 g1 r1 => ?_)
  exact h1 y (Gr.refl _) _ z (s1.set i r1) g1
theorem qs_setLc {i : Nat} {y' : Str} {py spos : Pos} (hmk : MkOk X.K cl xa mk) (hc : X.calm = true) (hN : X.N.Nodup) (hy : X.N[i]? = some y') (hyl : X.env.scope.names.lookup y' = some .local)
    (hsw : swapsWith (.ListComp elt [⟨tg, iter, ifs, 0⟩] scope pos) (some (.Name y' py)) spos.line X.env = pure true) (hi : QE X cl xa Wx iter mi) (ok : BlkOk X.N X.env.scope scope own) (hsg : SGw X.K cl (own.map (·.2)) gt g)
    (hg : ∀ (s : Shared) (H : Hp) (A : Addr) (c2 : List (Str × Addr)) (fp : List Addr), PG (X.blk s H scope (compEnvC scope c2 A X.env) fp) tg gt)
    (ht : ∀ (s : Shared) (H : Hp) (A : Addr) (c2 : List (Str × Addr)) (fp : List Addr), PTs (X.blk s H scope (compEnvC scope c2 A X.env) fp) ifs (TTm X.K cl xa W0 mt))
    (he : ∀ (s : Shared) (H : Hp) (A : Addr) (c2 : List (Str × Addr)) (fp : List Addr), QE (X.blk s H scope (compEnvC scope c2 A X.env) fp) cl xa W0 elt me) (hs : ∀ x, foldedSetIterable iter X.env x = pure x := by intro _; rfl) :
    QS X cl xa Wx (.Assign [.Name y' py] (.ListComp elt [⟨tg, iter, ifs, 0⟩] scope pos) spos) (mSet i (mLc mk mi (own.map (·.2)) g mt me)) := by
  obtain ⟨t, p, q⟩ := hi
  refine ⟨_, ps_anyS, fun C y σ ρ S s Z h => ?_⟩
  have h2 : Post X.K cl xa C Wx y σ ρ (mLc mk mi (own.map (·.2)) g mt me ρ S) (OkE X.K cl xa C y σ ρ fun v H => (gName i) v σ H fun σ' H' => Z.nx σ' H') := PostS.go h fun w S1 h1 v z s1 g1 r1 => h1 y (Gr.refl _) _ z (s1.set i r1) g1
  obtain ⟨wi, hpi, hr⟩ := walk_lc (tg := tg) hmk p q hsg s h2
  exact ⟨_, ps_setLc (te := TEm X.K cl xa W0 me) hc hN hy hyl hsw hpi ok hg ht (fun s H A c2 fp => pe_m (he s H A c2 fp)) hs, hr⟩
theorem qs_setLcR1 {i : Nat} {y : Str} {py spos p p' : Pos} (hmk : MkOk X.K cl xa mk) (hc : X.calm = true) (hN : X.N.Nodup) (hy : X.N[i]? = some y) (hyl : X.env.scope.names.lookup y = some .local)
    (hsw : swapsWith (.ListComp elt [⟨tg, .Call (.Name "range" p) [a] [] p', ifs, 0⟩] scope pos) (some (.Name y py)) spos.line X.env = pure true) (hgl : Gl X "range") (hm : X.mg "range" = none) (ha : QA X cl xa Wx [a] mr) (ok : BlkOk X.N X.env.scope scope own) (hsg : SGw X.K cl (own.map (·.2)) gt g)
    (hg : ∀ (s : Shared) (H : Hp) (A : Addr) (c2 : List (Str × Addr)) (fp : List Addr), PG (X.blk s H scope (compEnvC scope c2 A X.env) fp) tg gt)
    (ht : ∀ (s : Shared) (H : Hp) (A : Addr) (c2 : List (Str × Addr)) (fp : List Addr), PTs (X.blk s H scope (compEnvC scope c2 A X.env) fp) ifs (TTm X.K cl xa W0 mt))
    (he : ∀ (s : Shared) (H : Hp) (A : Addr) (c2 : List (Str × Addr)) (fp : List Addr), QE (X.blk s H scope (compEnvC scope c2 A X.env) fp) cl xa W0 elt me)
    (hst : starEach [a] X.env = [(false, eval a X.env)] := by rfl) (hs : ∀ x, foldedSetIterable (.Call (.Name "range" p) [a] [] p') X.env x = pure x := by intro _; rfl) :
    QS X cl xa Wx (.Assign [.Name y py] (.ListComp elt [⟨tg, .Call (.Name "range" p) [a] [] p', ifs, 0⟩] scope pos) spos) (mSet i (mLcR mk rng1 mr (own.map (·.2)) g mt me)) := by
  obtain ⟨t, pa, q⟩ := ha
  exact ⟨_, ps_setLc (te := TEm X.K cl xa W0 me) hc hN hy hyl hsw (pi_range1 hgl hm pa hst) ok hg ht (fun s H A c2 fp => pe_m (he s H A c2 fp)) hs, ss_set (walk_lcR1 hmk q hsg)⟩
theorem passW0 {X : Cx} {σ : St} : PassesAt (L2.CX X.prog X.w) X σ (WE W0 σ) := fun _ _ _ _ _ _ h => by
  obtain ⟨_, _, _, _, _, _, _, _, _, _, _, _, z⟩ := h
  exact z.elim
theorem pts_yes {X : Cx} {K : PySem.W.Frag} : PTs X [] (TTm K cl xa W0 mYes) := ⟨fun pins s σ H Q I ⟨C, y, ρ, S, e, sim, post⟩ => by
  subst e
  exact pts_nil.run pins s σ _ Q I (post y sim (Gr.refl _))⟩
end
end Ng
namespace Ng
open PySem L2
/-! ### methods of built-in types -/
def HMt (X : Cx) (cl : Str → Option Addr) (id : String) (F : W → List W → Sto → Rs W) : Prop := ∀ xa C Wx y σ ρ S, Sim X.K cl xa C y σ ρ S → ∀ w v, RW X.K cl y w v → ∀ ws vs, RWL X.K cl y ws vs → ∀ Q, Post X.K cl xa C Wx y σ ρ (F w ws S) (OkE X.K cl xa C y σ ρ Q) → mtAny X id v vs y.H Q
def tyM (S : Sto) : W → Option String
  | .da (.str _) => some "str"
  | .da (.lst _) => some "list"
  | .lo n => match S[n]? with
    | some (.lst _) => some "list"
    | some (.dk _) => some "dict"
    | some (.dt _) => some "dict"
    | _ => none
  | _ => none
def mMt (T : String) (F : W → List W → Sto → Rs W) (mo : ME) (mr : MA) : ME := fun ρ S => (mo ρ S).bind fun w S => if tyM S w = some T then (mr ρ S).bind fun ws S => F w ws S else .stuck
section
variable {X : Cx} {cl : Str → Option Addr} {xa : Option (Nat × Addr)} {Wx : WX} {pos apos cpos : Pos} {a b c e o : Expr} {es : List Expr} {ma mb mc me mi mo : ME} {mr : MA} {ta tb tc : MT} {st : Stmt} {rest body : List Stmt} {m n : MS}
theorem tyM_ok {K : PySem.W.Frag} {y : Y} {S : Sto} (b : Bs K cl y S) {w : W} {v : V} {T : String} (r : RW K cl y w v) (h : tyM S w = some T) : tyV K T v y.H := by
  unfold tyM at h
  split at h
  · cases h; cases (show v = .str _ from r); exact rfl
  · cases h; obtain ⟨a, vs, rfl, t, l⟩ := r; exact .inl ⟨rfl, vs, .inl (.inl (b.fz _ _ t))⟩
  · obtain ⟨a, ea, rfl⟩ := r
    split at h
    · rename_i ws hc
      cases h
      obtain ⟨_, vs, e2, l⟩ := b.at hc (by intro z; cases z) ea
      exact .inl ⟨rfl, vs, .inl (.inl e2)⟩
    · rename_i ws hc
      cases h
      obtain ⟨_, vs, e2, l⟩ := b.at hc (by intro z; cases z) ea
      exact .inr (.inr (.inl ⟨rfl, .inl ⟨vs, e2⟩⟩))
    · rename_i ws hc
      cases h
      obtain ⟨_, vs, e2, l⟩ := b.at hc (by intro z; cases z) ea
      exact .inr (.inr (.inl ⟨rfl, .inr ⟨vs, e2⟩⟩))
    · cases h
  · cases h
theorem qe_bm {T id : String} {name : Str} {F : W → List W → Sto → Rs W} (pa : PlainAttrs T) (slot : Slot T name id) (hty : typeOf (.builtin id) = pure (.type "method_descriptor")) (hm : HMt X cl id F) (ho : QE X cl xa Wx o mo) (ha : QA X cl xa Wx (e :: es) mr)
    (hbase : attributeBase o name X.env (eval o X.env) = eval o X.env := by rfl)
    (hfew : ((backTo cpos (starEach (e :: es) X.env)).all (fun x => !x.1) && (backToKw cpos (keywordEach [] X.env)).all (fun x => x.1.isSome) && decide ((e :: es).length + ([] : List Keyword).length + (if ([] : List Keyword).isEmpty then 0 else 1) < 30)) = true := by rfl)
    (hline : (apos.endLine == cpos.line) = true := by rfl) (hs : starEach (e :: es) X.env = (false, eval e X.env) :: starEach es X.env := by rfl) (hplain : (backTo cpos (starEach es X.env)).any (·.1) = false := by rfl) :
    QE X cl xa Wx (.Call (.Attribute o name apos) (e :: es) [] cpos) (mMt T F mo mr) := by
  obtain ⟨t, p, q⟩ := ho
  obtain ⟨t2, p2, q2⟩ := ha
  refine ⟨_, pe_bm pa slot hty mt_any p p2 hbase hfew hline hs hplain, fun C y σ ρ S s Q h => ?_⟩
  refine q C y σ ρ S s _ (Post.go h fun w S1 h1 v z s1 g1 r1 => ?_)
  have h2 := h1 z g1
  split at h2
  · rename_i ht
    refine ⟨tyM_ok s1.bs r1 ht, ?_⟩
    refine q2 C z σ ρ S1 s1 _ (Post.go h2 fun ws S2 h3 vs z2 s2 g2 r2 => ?_)
    exact hm xa C Wx z2 σ ρ S2 s2 w v (r1.grow g2) ws vs r2 Q (Post.re (h3 z2 g2) (g1.trans g2))
  · exact h2.elim
theorem qe_bm0 {T id : String} {name : Str} {F : W → List W → Sto → Rs W} (pa : PlainAttrs T) (slot : Slot T name id) (hty : typeOf (.builtin id) = pure (.type "method_descriptor")) (hm : HMt X cl id F) (ho : QE X cl xa Wx o mo)
    (hbase : attributeBase o name X.env (eval o X.env) = eval o X.env := by rfl) (hline : (apos.endLine == cpos.line) = true := by rfl) :
    QE X cl xa Wx (.Call (.Attribute o name apos) [] [] cpos) (mMt T F mo mNil) := by
  obtain ⟨t, p, q⟩ := ho
  refine ⟨_, pe_bm0 pa slot hty mt_any p hbase hline, fun C y σ ρ S s Q h => ?_⟩
  refine q C y σ ρ S s _ (Post.go h fun w S1 h1 v z s1 g1 r1 => ?_)
  have h2 := h1 z g1
  split at h2
  · rename_i ht
    exact ⟨tyM_ok s1.bs r1 ht, hm xa C Wx z σ ρ S1 s1 w v r1 [] [] .nil Q (Post.re h2 g1)⟩
  · exact h2.elim
/-- a list that is a cell is changed: what comes, what it holds then -/
def chL (f : List W → List W → Option (W × List W)) : W → List W → Sto → Rs W := fun w as S => match w with
  | .lo n => match S[n]? with
    | some (.lst ws) => match f ws as with
      | some (u, ws') => .ok u (S.set n (.lst ws'))
      | none => .stuck
    | _ => .stuck
  | _ => .stuck
theorem hm_chL {id : String} {f : List W → List W → Option (W × List W)}
    (h : ∀ (y : Y) (a : Addr) (ws : List W) (vs : List V) (as : List W) (bs : List V) (u : W) (ws' : List W) (Q : VK), y.H a = some (.lst vs) → RWL X.K cl y ws vs → RWL X.K cl y as bs → f ws as = some (u, ws') → (∀ uv vs', RW X.K cl y u uv → RWL X.K cl y ws' vs' → Q uv (upd y.H a (.lst vs'))) → mtAny X id (.ref a) bs y.H Q) : HMt X cl id (chL f) := by
  intro xa C Wx y σ ρ S s w v r as bs ra Q hp
  unfold chL at hp
  split at hp
  · rename_i n
    obtain ⟨a, ea, rfl⟩ := r
    split at hp
    · rename_i ws hc
      split at hp
      · rename_i u ws' hf
        obtain ⟨_, vs, hH, l⟩ := s.bs.at hc (by intro z; cases z) ea
        refine h y a ws vs as bs u ws' Q hH l ra hf fun uv vs' ru rv => ?_
        have g : Gr y (y.up a (.lst vs')) := ⟨Ex.refl _, List.prefix_refl _⟩
        exact hp uv (y.up a (.lst vs')) (s.upCell hc (by intro z; cases z) ea ⟨vs', upd_same, RWL.grow g rv⟩) g (ru.grow g)
      · exact hp.elim
    · exact hp.elim
  · exact hp.elim
noncomputable def appL (ws as : List W) : Option (W × List W) := match as with
  | [x] => ifc (ws.length < sizeLine) (some (.da .non, ws ++ [x])) none
  | _ => none
theorem hm_append : HMt X cl "list.append" (chL appL) := hm_chL fun y a ws vs as bs u ws' Q hH l ra hf k => by
  unfold appL at hf
  split at hf
  · obtain ⟨hz, e⟩ := ifc_some hf
    cases e
    obtain ⟨v, rfl, r⟩ := rwl1 ra
    exact ⟨_, mt_append, a, vs, v, rfl, rfl, hH, by rw [← Paired.length l]; exact hz, k .non _ rfl (paired_append l (.cons r .nil))⟩
  · cases hf
theorem paired_take {α β : Type} {R : α → β → Prop} : ∀ {a : List α} {b : List β} (n : Nat), Paired R a b → Paired R (a.take n) (b.take n)
  | _, _, 0, _ => by simp only [List.take_zero]; exact .nil
  | _, _, n + 1, .nil => .nil
  | _, _, n + 1, .cons r t => .cons r (paired_take n t)
theorem paired_drop {α β : Type} {R : α → β → Prop} : ∀ {a : List α} {b : List β} (n : Nat), Paired R a b → Paired R (a.drop n) (b.drop n)
  | _, _, 0, h => h
  | _, _, n + 1, .nil => .nil
  | _, _, n + 1, .cons r t => paired_drop n t
theorem paired_rev {α β : Type} {R : α → β → Prop} : ∀ {a : List α} {b : List β}, Paired R a b → Paired R a.reverse b.reverse
  | _, _, .nil => .nil
  | _, _, .cons r t => by
    rw [List.reverse_cons, List.reverse_cons]
    exact paired_append (paired_rev t) (.cons r .nil)
noncomputable def insL (ws as : List W) : Option (W × List W) := match as with
  | [.da (.int i), x] => ifc (ws.length < sizeLine ∧ 0 ≤ i ∧ i < 2 ^ 63) (some (.da .non, ws.take i.toNat ++ [x] ++ ws.drop i.toNat)) none
  | _ => none
theorem hm_insert : HMt X cl "list.insert" (chL insL) := hm_chL fun y a ws vs as bs u ws' Q hH l ra hf k => by
  unfold insL at hf
  split at hf
  · rename_i i x
    obtain ⟨hz, e⟩ := ifc_some hf
    cases e
    obtain ⟨v, v2, rfl, r, r2⟩ := rwl2 ra
    cases (show v = .int i from r)
    exact ⟨_, mt_insert, a, vs, i, v2, rfl, rfl, hH, by rw [← Paired.length l]; exact hz.1, hz.2.1, hz.2.2, k .non _ rfl (paired_append (paired_append (paired_take _ l) (.cons r2 .nil)) (paired_drop _ l))⟩
  · cases hf
def revL (ws as : List W) : Option (W × List W) := match as with
  | [] => some (.da .non, ws.reverse)
  | _ => none
theorem hm_reverse : HMt X cl "list.reverse" (chL revL) := hm_chL fun y a ws vs as bs u ws' Q hH l ra hf k => by
  unfold revL at hf
  split at hf
  · cases hf
    cases ra
    exact ⟨_, mt_reverse, a, vs, rfl, rfl, hH, k .non _ rfl (paired_rev l)⟩
  · cases hf
def popL (ws as : List W) : Option (W × List W) := match as with
  | [] => match ws[ws.length - 1]? with
    | some u => some (u, ws.dropLast)
    | none => none
  | _ => none
theorem hm_pop : HMt X cl "list.pop" (chL popL) := hm_chL fun y a ws vs as bs u ws' Q hH l ra hf k => by
  unfold popL at hf
  split at hf
  · split at hf
    · rename_i w hw
      cases hf
      cases ra
      obtain ⟨v, e1, e2⟩ := RWL.get l hw
      rw [Paired.length l] at e1
      refine ⟨_, mt_pop, a, vs, v, rfl, rfl, hH, e1, k v _ e2 ?_⟩
      rw [List.dropLast_eq_take, List.dropLast_eq_take, Paired.length l]
      exact paired_take _ l
    · cases hf
  · cases hf
/-! ### stores -/
/-- in its place where the key is there, else at the end -/
def putW {κ : Type} [DecidableEq κ] (kws : List (κ × W)) (k : κ) (w : W) : List (κ × W) :=
  if kws.any (fun q => decide (q.1 = k)) = true then kws.map (fun q => if q.1 = k then (q.1, w) else q) else kws ++ [(k, w)]
noncomputable def setW (o i w : W) (S : Sto) : Option Sto := match o with
  | .lo n => match S[n]? with
    | some (.lst ws) => match i with
      | .da (.int k) => match ixN ws.length k with
        | some j => some (S.set n (.lst (ws.set j w)))
        | none => none
      | _ => none
    | some (.dk kws) => match keyW i with
      | some k => ifc (kws.length < sizeLine) (some (S.set n (.dk (putW kws k w)))) none
      | none => none
    | some (.dt kws) => match keysW i with
      | some k => ifc (kws.length < sizeLine) (some (S.set n (.dt (putW kws k w)))) none
      | none => none
    | _ => none
  | _ => none
noncomputable def mSetIx (mo mi me : ME) : MS := fun ρ S => (me ρ S).out ρ fun w S => (mo ρ S).out ρ fun o S => (mi ρ S).out ρ fun i S => match setW o i w S with
  | some S' => .nx ρ S'
  | none => .stuck
theorem RWP.anyK {κ : Type} [DecidableEq κ] {K : PySem.W.Frag} {y : Y} {k : κ} : ∀ {kws : List (κ × W)} {kvs : List (κ × V)}, RWP K cl y kws kvs → kws.any (fun q => decide (q.1 = k)) = kvs.any (fun q => decide (q.1 = k))
  | _, _, .nil => rfl
  | (j, _) :: _, (j', _) :: _, .cons h t => by
    cases (show j = j' from h.1)
    simp only [List.any_cons, RWP.anyK t]
theorem RWP.repl {κ : Type} [DecidableEq κ] {K : PySem.W.Frag} {y : Y} {k : κ} {w : W} {v : V} (r : RW K cl y w v) : ∀ {kws : List (κ × W)} {kvs : List (κ × V)}, RWP K cl y kws kvs → RWP K cl y (kws.map (fun q => if q.1 = k then (q.1, w) else q)) (kvs.map (fun q => if q.1 = k then (q.1, v) else q))
  | _, _, .nil => .nil
  | (j, u) :: _, (j', z) :: _, .cons h t => by
    cases (show j = j' from h.1)
    simp only [List.map_cons]
    refine .cons ?_ (RWP.repl r t)
    by_cases e : j = k
    · rw [if_pos e, if_pos e]; exact ⟨rfl, r⟩
    · rw [if_neg e, if_neg e]; exact h
theorem RWP.put {κ : Type} [DecidableEq κ] {K : PySem.W.Frag} {y : Y} {k : κ} {w : W} {v : V} (r : RW K cl y w v) {kws : List (κ × W)} {kvs : List (κ × V)} (h : RWP K cl y kws kvs) : RWP K cl y (putW kws k w) (putK kvs k v) := by
  unfold putW putK
  rw [RWP.anyK h]
  split
  · exact RWP.repl r h
  · exact paired_append h (.cons ⟨rfl, r⟩ .nil)
theorem RWL.setAt {K : PySem.W.Frag} {y : Y} {w : W} {v : V} (r : RW K cl y w v) : ∀ {ws : List W} {vs : List V} (j : Nat), RWL K cl y ws vs → RWL K cl y (ws.set j w) (vs.set j v)
  | _, _, _, .nil => .nil
  | _, _, 0, .cons _ t => .cons r t
  | _, _, j + 1, .cons a t => .cons a (RWL.setAt r j t)
/-- any rule of a store -/
def pAny (X : Cx) : V → V → V → Hp → (Hp → Prop) → Prop := fun o i v H Q => ∃ t, PSet X t ∧ t o i v H Q
theorem set_any : PSet X (pAny X) := fun pins s σ H o i v ov iv u Q I ro ri rv ⟨t, p, h⟩ => p pins s σ H o i v ov iv u Q I ro ri rv h
theorem qs_setIx {ix : Expr} {p1 : Pos} (hu : Hu X) (ho : QE X cl xa Wx o mo) (hi : QE X cl xa Wx ix mi) (he : QE X cl xa Wx e me)
    (hs : swapsWithSole [.Subscript o ix p1] e pos.line X.env = pure false := by rfl) (hw : swappedStores [.Subscript o ix p1] e X.env = pure none := by rfl)
    (h1 : (assignEach [.Subscript o ix p1] X.env).map (·.2) = [assign (.Subscript o ix p1) X.env] := by rfl)
    (ha : ∀ v, assign (.Subscript o ix p1) X.env v = (do
      let ov ← holding [v] (eval o X.env)
      let iv ← holding [v, ov] (eval ix X.env)
      standAt p1
      holding [v, ov, iv] (setItem ov iv v)
      release [v, ov, iv] []) := by intro _; rfl) :
    QS X cl xa Wx (.Assign [.Subscript o ix p1] e pos) (mSetIx mo mi me) := by
  obtain ⟨t, p, q⟩ := he
  obtain ⟨t2, p2, q2⟩ := ho
  obtain ⟨t3, p3, q3⟩ := hi
  refine ⟨_, ps_asg p (pg_sub p2 p3 set_any ha) hs hw h1, fun C y σ ρ S s Z h => ?_⟩
  refine q C y σ ρ S s _ (PostS.go h fun w S1 h1 v z s1 g1 r1 => ?_)
  refine q2 C z σ ρ S1 s1 _ (PostS.go (h1 z g1) fun w2 S2 h2 v2 z2 s2 g2 r2 => ?_)
  refine q3 C z2 σ ρ S2 s2 _ (PostS.go (h2 z2 g2) fun w3 S3 h3 v3 z3 s3 g3 r3 => ?_)
  have h4 := h3 z3 g3
  have hu1 : X.A.units + 1 < cLine := by have : X.A.units + 200 < cLine := hu; omega
  split at h4
  · rename_i S' hS
    have rw3 := r1.grow (g2.trans g3)
    have ro3 := r2.grow g3
    unfold setW at hS
    split at hS
    · rename_i n
      obtain ⟨a, ea, rfl⟩ := ro3
      split at hS
      · rename_i ws hc
        split at hS
        · rename_i k
          cases (show v3 = .int k from r3)
          split at hS
          · rename_i j hj
            cases hS
            obtain ⟨_, vs, hH, l⟩ := s3.bs.at hc (by intro z; cases z) ea
            have g : Gr z3 (z3.up a (.lst (vs.set j v))) := ⟨Ex.refl _, List.prefix_refl _⟩
            refine ⟨_, set_list, a, vs, k, j, rfl, rfl, hH, by rw [← Paired.length l]; exact hj, ?_⟩
            exact h4 σ _ (s3.upCell hc (by intro z; cases z) ea ⟨_, upd_same, RWL.grow g (RWL.setAt rw3 j l)⟩) g
          · cases hS
        · cases hS
      · rename_i kws hc
        split at hS
        · rename_i k hk
          obtain ⟨hz, e⟩ := ifc_some hS
          cases e
          obtain ⟨_, kvs, hH, l⟩ := s3.bs.at hc (by intro z; cases z) ea
          have g : Gr z3 (z3.up a (.dK (putK kvs k v))) := ⟨Ex.refl _, List.prefix_refl _⟩
          refine ⟨_, set_dict hu1, a, _, rfl, .inl ⟨kvs, k, hH, keyW_ok r3 hk, by rw [← Paired.length l]; exact hz, rfl⟩, ?_⟩
          exact h4 σ _ (s3.upCell hc (by intro z; cases z) ea ⟨_, upd_same, RWP.grow g (RWP.put rw3 l)⟩) g
        · cases hS
      · rename_i kws hc
        split at hS
        · rename_i k hk
          obtain ⟨hz, e⟩ := ifc_some hS
          cases e
          obtain ⟨_, kvs, hH, l⟩ := s3.bs.at hc (by intro z; cases z) ea
          obtain ⟨b, hb, hb2⟩ := keysW_ok s3.bs r3 hk
          have g : Gr z3 (z3.up a (.dT (putK kvs k v))) := ⟨Ex.refl _, List.prefix_refl _⟩
          refine ⟨_, set_dict hu1, a, _, rfl, .inr ⟨kvs, k, b, hH, hb, hb2, by rw [← Paired.length l]; exact hz, rfl⟩, ?_⟩
          exact h4 σ _ (s3.upCell hc (by intro z; cases z) ea ⟨_, upd_same, RWP.grow g (RWP.put rw3 l)⟩) g
        · cases hS
      · cases hS
    · cases hS
  · exact h4.elim
/-! {} -/
def newDK : List W → Sto → Option Cell
  | [], _ => some (.dk [])
  | _, _ => none
def newDT : List W → Sto → Option Cell
  | [], _ => some (.dt [])
  | _, _ => none
theorem qe_newDK : QE X cl xa Wx (.Dict [] [] pos) (mCall (ncN newDK) mNil) :=
  ⟨_, pe_dnewK, fun C y σ ρ S s Q h => fun p hp => h (.ref p) _ (s.newCell (o := .dK []) hp ⟨[], upd_same, .nil⟩) (y.gr_new p _) ⟨p, by rw [← s.bs.len]; simp [Y.new], rfl⟩⟩
theorem qe_newDT : QE X cl xa Wx (.Dict [] [] pos) (mCall (ncN newDT) mNil) :=
  ⟨_, pe_dnewT, fun C y σ ρ S s Q h => fun p hp => h (.ref p) _ (s.newCell (o := .dT []) hp ⟨[], upd_same, .nil⟩) (y.gr_new p _) ⟨p, by rw [← s.bs.len]; simp [Y.new], rfl⟩⟩
end
/-! ### own errors: raised, caught, asked -/
def veB : List Value := [.type "ValueError", .type "Exception", .type "BaseException", .type "object"]
structure ExcAt (K : PySem.W.Frag) (mg : Str → Option Value) (cl : Str → Option Addr) (c : Str) (C : Addr) : Prop where
  at_ : cl c = some C
  mgd : mg c = some (.ref C)
  ex : PySem.W.excIn K C veB "ValueError.__new__" = true
  kp : PySem.W.keepIn K (.ref C) = true
  sb : PySem.W.subIn K (.ref C) (.type "BaseException") = some true
  ty : PySem.W.typeIn K (.ref C) = some (.type "type")
def mRaise (c : Str) : MS := fun ρ S => .ex ⟨c, [], []⟩ ρ S
def outOff (i : Nat) : Out → Out
  | .nx r s => .nx (r.set i none) s
  | .bk r s => .bk (r.set i none) s
  | .ct r s => .ct (r.set i none) s
  | .rt w s => .rt w s
  | _ => .stuck
def mTryAs (hit : Str → Option Bool) (i : Nat) (mb : MS) (ms : Exn → MS) : MS := fun ρ S => match mb ρ S with
  | .ex x ρ' S' => match hit x.c with
    | some true => outOff i (ms x (ρ'.set i (some .xc)) S')
    | some false => .ex x ρ' S'
    | none => .stuck
  | r => r
section
variable {K : PySem.W.Frag} {cl : Str → Option Addr} {C : Cn} {y : Y} {σ : St} {ρ : Rho} {S : Sto}
theorem Sim.catch (s : Sim K cl none C y σ ρ S) (i : Nat) (a : Addr) : Sim K cl (some (i, a)) C y (σ.set i (some (.ref a))) (ρ.set i (some .xc)) S :=
  ⟨s.bs, s.fm, by rw [List.length_set, List.length_set]; exact s.len, fun j u e => by
    by_cases h : i = j
    · subst h
      by_cases hl : i < ρ.length
      · rw [List.getElem?_set_self hl] at e
        cases e
        exact ⟨_, List.getElem?_set_self (by rw [s.len]; exact hl), a, rfl, rfl⟩
      · rw [List.getElem?_eq_none (by rw [List.length_set]; omega)] at e
        cases e
    · rw [List.getElem?_set_ne h] at e
      obtain ⟨u', e1, e2⟩ := s.slot j u e
      refine ⟨u', by rw [List.getElem?_set_ne h]; exact e1, ?_⟩
      cases u with
      | da d => exact e2
      | lo n => exact e2
      | xc => obtain ⟨a', q, _⟩ := e2; cases q⟩
theorem Sim.uncatch {i : Nat} {a : Addr} (s : Sim K cl (some (i, a)) C y σ ρ S) : Sim K cl none C y (σ.set i none) (ρ.set i none) S :=
  ⟨s.bs, s.fm, by rw [List.length_set, List.length_set]; exact s.len, fun j u e => by
    by_cases h : i = j
    · subst h
      by_cases hl : i < ρ.length
      · rw [List.getElem?_set_self hl] at e
        cases e
      · rw [List.getElem?_eq_none (by rw [List.length_set]; omega)] at e
        cases e
    · rw [List.getElem?_set_ne h] at e
      obtain ⟨u', e1, e2⟩ := s.slot j u e
      refine ⟨u', by rw [List.getElem?_set_ne h]; exact e1, ?_⟩
      cases u with
      | da d => exact e2
      | lo n => exact e2
      | xc => obtain ⟨a', q, _⟩ := e2; cases q; exact absurd rfl h⟩
end
/-- readings of a block that ask for no more than the meaning -/
def TSm (K : PySem.W.Frag) (cl : Str → Option Addr) (xa : Option (Nat × Addr)) (Wx : WX) (m : MS) : TS := fun D σ H => ∃ C y ρ S, y.H = H ∧ Sim K cl xa C y σ ρ S ∧ PostS K cl xa C Wx y (m ρ S) D
section
variable {X : Cx} {cl : Str → Option Addr} {xa : Option (Nat × Addr)} {Wx : WX} {pos : Pos} {a b c e : Expr} {es : List Expr} {ma mb mc me mi : ME} {mr : MA} {ta tb tc : MT} {st : Stmt} {rest body : List Stmt} {m n : MS}
theorem pss_m (h : QB X cl xa Wx body m) : PSs X body (TSm X.K cl xa Wx m) := ⟨fun pins s σ H D I ⟨C, y, ρ, S, e, sim, post⟩ => by
  subst e
  obtain ⟨t, p, q⟩ := h
  exact p.run pins s σ _ D I (q C y σ ρ S sim D post)⟩
theorem qs_raise {x m : Str} {j : Nat} {p p2 p3 : Pos} {E : Addr} (hc : X.calm = true) (tk : Takes X Wx) (A : ExcAt X.K X.mg cl x E) (hg : Gl X x) (hdb : (x == ("__debug__" : Str)) = false := by decide) :
    QS X cl xa Wx (.Raise (some (.Call (.Name x p) [.Constant (.str m) j p2] [] p3)) none pos) (mRaise x) :=
  ⟨_, ps_raise hc tk (pmk_own PySem.F.excBase_ValueError A.ex A.mgd A.kp (raises_own A.sb A.ty) hg hdb), fun C y σ ρ S s Z h => h (.ref E) none σ y s (Gr.refl _) ⟨E, A.at_, rfl, .inl ⟨rfl, rfl⟩⟩⟩
theorem qs_tryAs {x nm : Str} {cv : Value} {i : Nat} {b₀ : Stmt} {suite : List Stmt} {np pos' : Pos} {hit : Str → Option Bool} {mb : MS} {mx : Exn → MS}
    (hs : X.stack = X.env :: X.outer) (hf : X.env.frame = some X.env.locals) (hN : X.N.Nodup) (hi : X.N[i]? = some nm) (hln : X.env.kindOf nm = some .local) (hc : Names X x cv) (tk : Takes X Wx)
    (hh : ∀ y b, hit y = some b → ∀ D, cl y = some D → PySem.W.exmOne X.K (.ref D) cv = some b)
    (hb : ∀ (W : WX) (pn : List (Addr × Obj)) (xe : Value → Shared → Prop), Takes (X.tr pn xe) W → PassesOwn (model X.prog X.w) X.A X.env xe → QB (X.tr pn xe) cl none W body mb)
    (hsu : ∀ (a : Addr) (oe : Obj) (E : Addr) (d : Option Addr) (y : Exn) (pn : List (Addr × Obj)), Zc (.ref E) d oe → (∃ vs, oe.data = .fields vs) → cl y.c = some E → (y.fs = [] → d = none) → QB (X.suite a ((a, oe) :: pn)) cl (some (i, a)) W0 (b₀ :: suite) (mx y)) :
    QS X cl none Wx (.Try body [.ExceptHandler (some (.Name x np)) (some nm) (b₀ :: suite) pos'] [] [] pos) (mTryAs hit i mb mx) := by
  refine ⟨_, ps_try_as (tb := fun W => TSm X.K cl none W mb) (ts := fun a cls d D σ H => ∃ y E, cls = .ref E ∧ cl y.c = some E ∧ (y.fs = [] → d = none) ∧ TSm X.K cl (some (i, a)) W0 (mx y) D σ H) (Wout := Wx) hs hf hN hi hln hc tk
    (fun W pn xe t1 t2 => pss_m (hb W pn xe t1 t2)) (fun a oe cls d pn hz hv => ⟨fun pins s σ H D I ⟨y, E, e1, e2, e3, h⟩ => ?_⟩), fun C y σ ρ S s Z h => ?_⟩
  · subst e1
    exact (pss_m (hsu a oe E d y pn hz hv e2 e3)).run pins s σ H D I h
  · refine ⟨C, y, ρ, S, rfl, s, ?_⟩
    unfold mTryAs at h
    cases e : mb ρ S with
    | nx r t => rw [e] at h; exact h
    | rt r t => rw [e] at h; exact h
    | bk r t => rw [e] at h; exact h
    | ct r t => rw [e] at h; exact h
    | stuck => rw [e] at h; exact h
    | ex x r t =>
      rw [e] at h
      intro cls dd σ' z s' g' xr
      obtain ⟨E, q1, rfl, q2⟩ := xr
      cases eh : hit x.c with
      | none => simp only [eh] at h; exact h.elim
      | some b =>
        refine ⟨b, hh x.c b eh E q1, fun hb1 a ha => ?_, fun hb0 => ?_⟩
        · subst hb1
          simp only [eh] at h
          refine ⟨x, E, rfl, q1, fun z => ?_, ?_⟩
          · rcases q2 with ⟨_, q2⟩ | ⟨q3, _⟩
            · exact q2
            · exact absurd z q3
          · refine ⟨C, z, _, t, rfl, s'.catch i a, ?_⟩
            have h' := PostS.mono g' h
            cases eo : mx x (r.set i (some .xc)) t with
            | nx r2 t2 => rw [eo] at h'; exact fun σ2 z2 s2 g2 => h' _ z2 s2.uncatch g2
            | bk r2 t2 => rw [eo] at h'; exact fun σ2 z2 s2 g2 => h' _ z2 s2.uncatch g2
            | ct r2 t2 => rw [eo] at h'; exact fun σ2 z2 s2 g2 => h' _ z2 s2.uncatch g2
            | rt w t2 => rw [eo] at h'; exact fun v σ2 ρ2 z2 s2 g2 r2 => h' v _ _ z2 s2.uncatch g2 r2
            | ex y2 r2 t2 => rw [eo] at h'; exact h'.elim
            | stuck => rw [eo] at h'; exact h'.elim
        · subst hb0
          simp only [eh] at h
          exact h _ dd σ' z s' g' ⟨E, q1, rfl, q2⟩
/-! classes by their names -/
def hitL : List (Str × Bool) → Str → Option Bool
  | [], _ => none
  | (x, b) :: r, y => if y = x then some b else hitL r y
/-- an except clause of the class cv: which errors it takes -/
def Hits (K : PySem.W.Frag) (cl : Str → Option Addr) (cv : Value) (l : List (Str × Bool)) : Prop := ∀ y b, hitL l y = some b → ∀ D, cl y = some D → PySem.W.exmOne K (.ref D) cv = some b
theorem hits_nil {K : PySem.W.Frag} {cv : Value} : Hits K cl cv [] := fun y b e => by cases e
theorem hits_cons {K : PySem.W.Frag} {cv : Value} {x : Str} {b : Bool} {C : Addr} {l : List (Str × Bool)} (A : cl x = some C) (e : PySem.W.exmOne K (.ref C) cv = some b) (h : Hits K cl cv l) : Hits K cl cv ((x, b) :: l) := fun y b' e' D hD => by
  simp only [hitL] at e'
  split at e'
  · rename_i hy
    cases e'
    subst hy
    rw [A] at hD
    cases hD
    exact e
  · exact h y b' e' D hD
/-- isinstance(e, cv) -/
def Isis (K : PySem.W.Frag) (cl : Str → Option Addr) (cv : Value) (l : List (Str × Bool)) : Prop := ∀ y b, hitL l y = some b → ∀ D, cl y = some D → ExcC K D ∧ PySem.W.kitOne K (.ref D) cv = some b
theorem isis_nil {K : PySem.W.Frag} {cv : Value} : Isis K cl cv [] := fun y b e => by cases e
theorem isis_cons {K : PySem.W.Frag} {cv : Value} {x : Str} {b : Bool} {C : Addr} {l : List (Str × Bool)} (A : cl x = some C) (E : ExcC K C) (e : PySem.W.kitOne K (.ref C) cv = some b) (h : Isis K cl cv l) : Isis K cl cv ((x, b) :: l) := fun y b' e' D hD => by
  simp only [hitL] at e'
  split at e'
  · rename_i hy
    cases e'
    subst hy
    rw [A] at hD
    cases hD
    exact ⟨E, e⟩
  · exact h y b' e' D hD
/-- the caught error x is asked of its class: the answer by the classes' names -/
def mIsE (i : Nat) (l : List (Str × Bool)) (x : Exn) : ME := fun ρ S => match ρ[i]? with
  | some (some .xc) => if x.fs.isEmpty = true then (match hitL l x.c with
    | some k => .ok (.da (.bl k)) S
    | none => .stuck) else .stuck
  | _ => .stuck
theorem qe_isE {i : Nat} {nm x : Str} {p p2 p3 : Pos} {ea E : Addr} {oe : Obj} {pn : List (Addr × Obj)} {d : Option Addr} {l : List (Str × Bool)} {cv : Value} {u : V} {y' : Exn} (hl : Isis X.K cl cv l) (hz : Zc (.ref E) d oe) (hf : ∃ vs, oe.data = .fields vs) (hc : cl y'.c = some E) (hd : y'.fs = [] → d = none)
    (hN : X.N[i]? = some nm) (hv : Vis X.env.scope nm) (hg : Gl X "isinstance") (hm : X.mg "isinstance" = none) (hx : PE (X.suite ea ((ea, oe) :: pn)) (.Name x p2) (tC u)) (hcv : ∀ w, RelV u w → w = cv)
    (hdb : (nm == ("__debug__" : Str)) = false := by decide) (hcd : (nm == ("__classdict__" : Str)) = false := by decide)
    (hs : starEach [.Name nm p3, .Name x p2] (X.suite ea ((ea, oe) :: pn)).env = (false, eval (.Name nm p3) (X.suite ea ((ea, oe) :: pn)).env) :: starEach [.Name x p2] (X.suite ea ((ea, oe) :: pn)).env := by rfl)
    (hs2 : starEach [.Name x p2] (X.suite ea ((ea, oe) :: pn)).env = (false, eval (.Name x p2) (X.suite ea ((ea, oe) :: pn)).env) :: starEach [] (X.suite ea ((ea, oe) :: pn)).env := by rfl)
    (hpl : (backTo pos (starEach [.Name x p2] (X.suite ea ((ea, oe) :: pn)).env)).any (·.1) = false := by rfl) (hbv : bootBuiltins "isinstance" = some (.builtin "isinstance") := by decide +kernel) :
    QE (X.suite ea ((ea, oe) :: pn)) cl (some (i, ea)) Wx (.Call (.Name "isinstance" p) [.Name nm p3, .Name x p2] [] pos) (mIsE i l y') := by
  refine ⟨_, pe_anyE, fun C y σ ρ S s Q h => ?_⟩
  unfold mIsE at h
  split at h
  · rename_i hr
    split at h
    · rename_i hfs
      split at h
      · rename_i k hk
        obtain ⟨EC, hkit⟩ := hl y'.c k hk E hc
        have hd' : d = none := hd (by cases q : y'.fs <;> simp_all)
        subst hd'
        refine ⟨_, pe_callB (X := X.suite ea ((ea, oe) :: pn)) (call_isE EC hz hf) hg hm hbv (pa_cons (pe_var (X := X.suite ea ((ea, oe) :: pn)) (i := i) hN hv hdb hcd) (pa_cons hx pa_nil hs2) hs) (by decide) (by decide) hs hpl, ?_⟩
        obtain ⟨v, e1, a', e2, rfl⟩ := s.slot i _ hr
        cases e2
        exact ⟨_, e1, u, cv, k, rfl, hcv, hkit, h (.bl k) y s (Gr.refl _) rfl⟩
      · exact h.elim
    · exact h.elim
  · exact h.elim
theorem pe_cls {X : Cx} {x : Str} {C : Addr} {p : Pos} (hg : Gl X x) (hm : X.mg x = some (.ref C)) (hd : (x == ("__debug__" : Str)) = false := by decide) : PE X (.Name x p) (tC (.ref C)) := pe_glob hg hm rfl hd
theorem relv_ref {C : Addr} : ∀ w, RelV (.ref C) w → w = Value.ref C := fun _ h => h
theorem relv_ty {n : String} : ∀ w, RelV (.ty n) w → w = Value.type n := fun _ h => h
/-! ### a thing in a slot is frozen from here on -/
def mFrz (i : Nat) (m : MS) : MS := fun ρ S => match ρ[i]? with
  | some (some (.lo n)) => match datW 5 S (.lo n) with
    | some (d, S') => m (ρ.set i (some (.da d))) S'
    | none => .stuck
  | some (some (.da _)) => m ρ S
  | _ => .stuck
def tLkS (t : TS) : TS := fun D σ H => Lks (fun H' => t D σ H') H
theorem pss_lk {t : TS} (h : PSs X body t) : PSs X body (tLkS t) := ⟨fun pins s σ H D I hw => by
  obtain ⟨H2, I2, q2⟩ := Lks.run hw I
  exact h.run pins s σ H2 D I2 q2⟩
theorem qb_frz (i : Nat) (h : QB X cl xa Wx body m) : QB X cl xa Wx body (mFrz i m) := by
  obtain ⟨t, p, q⟩ := h
  refine ⟨_, pss_lk p, fun C y σ ρ S s Z h => ?_⟩
  unfold mFrz at h
  split at h
  · rename_i k hk
    split at h
    · rename_i d S' hd
      obtain ⟨v, e1, e2⟩ := s.slot i _ hk
      have r0 : RW X.K cl y (.lo k) v := e2
      refine datW_ok 5 y S (.lo k) v d S' s r0 hd _ fun z s2 g2 r2 => .now ?_
      have s3 := s2.set (w := .da d) (v := v) i r2
      have es : σ.set i (some v) = σ := by
        obtain ⟨hl, hv⟩ := List.getElem?_eq_some_iff.mp e1
        rw [← hv]
        exact List.set_getElem_self hl
      rw [es] at s3
      exact q C z σ _ S' s3 Z (PostS.mono g2 h)
    · exact h.elim
  · exact .now (q C y σ ρ S s Z h)
  · exact h.elim
end
/-! ### the end -/
theorem clOf_at {K : PySem.W.Frag} {x : Str} {a : Addr} (h : PySem.W.nsIn K mainGlobals x = some (some (.ref a))) : clOf K x = some a := by
  unfold clOf
  rw [h]
theorem law_end {K : PySem.W.Frag} {H : Hp} {a : Addr} {ns : List Int} {cl : Str → Option Addr} {p : List D → Re D} (hS : SqL K H a (ns.map V.int)) (h : p [.scr (ns.map .int)] = .ok (.bl true)) : SpP K cl p [.ref a] H (fun v _ => v = .bl true) fun _ _ _ => False := by
  have rl : ∀ ns : List Int, RpL K cl H (ns.map .int) (ns.map V.int) := fun ns => by
    induction ns with
    | nil => exact rfl
    | cons x r ih => exact ⟨_, _, rfl, rfl, ih⟩
  refine ⟨H, [.scr (ns.map .int)], Ex.refl H, ⟨_, _, rfl, ⟨a, ns.map V.int, rfl, hS, rl ns⟩, rfl⟩, ?_⟩
  rw [h]
  exact fun v F' H' _ r => r
open PySem.Spec PyProof.Rows in
/-- the law's plain function tells True of every script -/
theorem walk_ng {l : PySem.W.OpenLaw} {q : Program} {loose : List Str} {XP : (Str → Option Value) → Heap → Prop} {YP : World → Heap → Prop} {d : DefRec} {K : Params → PySem.W.Frag} {k : Nat} {x : Str} {p : List D → Re D}
    (hn : l.most = some 63) (hdf : d.params.defaults = []) (hr : Room k callerA) (hY : ∀ (w : World) (h : Heap), YP w h → (K w.params).In h)
    (F : ∀ (w : World) (mg : Str → Option Value) (fa : Addr) (h : Heap), (K w.params).In h → h.Ns mainGlobals mg → mg d.name = some (.ref fa) →
      ∃ fd : FuncData, (∀ (s : Shared) (u : Value), BindsTo s fd ⟨[u], []⟩ [(x, u)]) ∧ ∀ base : Heap, (K w.params).In base → base.Ns mainGlobals mg → FnOk l.prog w (K w.params) mg base (L2.CX l.prog w) k fa fd [x] (SpP (K w.params) (clOf (K w.params)) p))
    (hp : ∀ ns : List Int, ns.length ≤ 63 → p [.scr (ns.map .int)] = .ok (.bl true)) : PySem.W.WalkO q loose XP YP l.row.toRowW d [] (fun f vs => PySem.call f vs) :=
  L2.walk_of (n := 63) (k := k) (x := x) (CX := fun w => L2.CX l.prog w) (sp := fun w => SpP (K w.params) (clOf (K w.params)) p) hn (by decide) hdf hr hY F (fun w H a ns hl _ hS => law_end hS (hp ns hl)) (fun _ _ _ _ _ h => by
    obtain ⟨_, _, _, _, _, _, _, _, _, _, _, _, z⟩ := h
    exact z)
end Ng
namespace Ng
open PySem L2
/-! ### dict displays -/
abbrev MP := Rho → Sto → Rs (List (W × W))
def mpNil : MP := fun _ S => .ok [] S
def mpCons (mk mv : ME) (mr : MP) : MP := fun ρ S => (mk ρ S).bind fun k S => (mv ρ S).bind fun v S => (mr ρ S).bind fun r S => .ok ((k, v) :: r) S
def RWW (K : PySem.W.Frag) (cl : Str → Option Addr) (y : Y) (wws : List (W × W)) (vvs : List (V × V)) : Prop := Paired (fun p q => RW K cl y p.1 q.1 ∧ RW K cl y p.2 q.2) wws vvs
def SPr (K : PySem.W.Frag) (cl : Str → Option Addr) (xa : Option (Nat × Addr)) (Wx : WX) (trs : List (TE × TE)) (m : MP) : Prop := ∀ C y σ ρ S, Sim K cl xa C y σ ρ S → ∀ Q, Post K cl xa C Wx y σ ρ (m ρ S) (fun wws S' => ∀ vvs z, Sim K cl xa C z σ ρ S' → Gr y z → RWW K cl z wws vvs → Q vvs z.H) → tPairs trs σ y.H Q
def QPr (X : Cx) (cl : Str → Option Addr) (xa : Option (Nat × Addr)) (Wx : WX) (pos : Pos) (ks : List (Option Expr)) (vs : List Expr) (m : MP) : Prop := ∃ trs, PPs X pos ks vs trs ∧ SPr X.K cl xa Wx trs m
def mergeW (kws more : List (Key × W)) : List (Key × W) := more.foldl (fun acc kw => putW acc kw.1 kw.2) kws
def keysP : List (W × W) → Option (List (Key × W))
  | [] => some []
  | (k, w) :: r => match keyW k, keysP r with
    | some j, some t => some ((j, w) :: t)
    | _, _ => none
def dispC (wws : List (W × W)) : Option Cell := match keysP wws with
  | some kws => if kws.length ≤ 15 then some (.dk (mergeW [] kws)) else none
  | none => none
def mDisp (mk : Option Cell → Sto → Rs W) (mp : MP) : ME := fun ρ S => (mp ρ S).bind fun wws S => mk (dispC wws) S
section
variable {X : Cx} {cl : Str → Option Addr} {xa : Option (Nat × Addr)} {Wx : WX} {pos : Pos} {k v : Expr} {ks : List (Option Expr)} {vs : List Expr} {mk mv : ME} {mr : MP}
theorem RWW.grow {K : PySem.W.Frag} {y z : Y} (g : Gr y z) {a : List (W × W)} {b : List (V × V)} (h : RWW K cl y a b) : RWW K cl z a b := Paired.mapP h fun _ _ q => ⟨q.1.grow g, q.2.grow g⟩
theorem qpr_nil : QPr X cl xa Wx pos [] [] mpNil := ⟨_, pps_nil, fun C y σ ρ S s Q h => h [] y s (Gr.refl _) .nil⟩
theorem qpr_cons (hk : QE X cl xa Wx k mk) (hv : QE X cl xa Wx v mv) (hr : QPr X cl xa Wx pos ks vs mr) : QPr X cl xa Wx pos (some k :: ks) (v :: vs) (mpCons mk mv mr) := by
  obtain ⟨t, p, q⟩ := hk
  obtain ⟨t2, p2, q2⟩ := hv
  obtain ⟨t3, p3, q3⟩ := hr
  refine ⟨_, pps_cons p p2 p3, fun C y σ ρ S s Q h => ?_⟩
  refine q C y σ ρ S s _ (Post.go h fun w S1 h1 x z s1 g1 r1 => ?_)
  refine q2 C z σ ρ S1 s1 _ (Post.go (h1 z g1) fun w2 S2 h2 x2 z2 s2 g2 r2 => ?_)
  refine q3 C z2 σ ρ S2 s2 _ (Post.go (h2 z2 g2) fun w3 S3 h3 x3 z3 s3 g3 r3 => ?_)
  exact h3 z3 g3 _ z3 s3 ((g1.trans g2).trans g3) (.cons ⟨r1.grow (g2.trans g3), r2.grow g3⟩ r3)
theorem Post.rebase {α : Type} {K : PySem.W.Frag} {C : Cn} {y z : Y} {σ : St} {ρ : Rho} {S : Sto} {r : Rs α} {P P' : α → Sto → Prop} (s : Sim K cl xa C z σ ρ S) (g : Gr y z) (h : Post K cl xa C Wx y σ ρ r P) (k : ∀ w S, P w S → P' w S) : Post K cl xa z.cn Wx z σ ρ r P' := by
  cases r with
  | ok w S => exact k w S h
  | ex x S => exact fun cls dd u su gu xr => h cls dd u (s.after su.bs su.fm) (g.trans gu) xr
  | stuck => exact h
theorem keysP_ok {K : PySem.W.Frag} {y : Y} : ∀ {wws : List (W × W)} {vvs : List (V × V)} {kws : List (Key × W)}, RWW K cl y wws vvs → keysP wws = some kws → ∃ kvs : List (Key × V), vvs = kvs.map (fun kv => (kV kv.1, kv.2)) ∧ RWP K cl y kws kvs
  | _, _, _, .nil, h => by cases h; exact ⟨[], rfl, .nil⟩
  | (a, w) :: r, (b, u) :: t, kws, .cons h1 h2, h => by
    simp only [keysP] at h
    split at h
    · rename_i j t' e1 e2
      cases h
      obtain ⟨kvs, rfl, r2⟩ := keysP_ok h2 e2
      refine ⟨(j, u) :: kvs, ?_, .cons ⟨rfl, h1.2⟩ r2⟩
      rw [List.map_cons, ← keyW_ok h1.1 e1]
    · cases h
theorem merge_ok {K : PySem.W.Frag} {y : Y} : ∀ {more : List (Key × W)} {more' : List (Key × V)} {kws : List (Key × W)} {kvs : List (Key × V)}, RWP K cl y more more' → RWP K cl y kws kvs → RWP K cl y (mergeW kws more) (mergeK kvs more')
  | _, _, _, _, .nil, h => h
  | (j, w) :: r, (j', u) :: r', kws, kvs, .cons h1 h2, h => by
    cases (show j = j' from h1.1)
    show RWP K cl y (mergeW (putW kws j w) r) (mergeK (putK kvs j u) r')
    exact merge_ok h2 (RWP.put h1.2 h)
/-- what comes of a new dict: a cell, or data that is locked for good -/
def MkDk (K : PySem.W.Frag) (cl : Str → Option Addr) (xa : Option (Nat × Addr)) (mk : Option Cell → Sto → Rs W) (wrap : VK → VK) : Prop := ∀ (C : Cn) (Wx : WX) (y0 z : Y) (σ : St) (ρ : Rho) (S : Sto) (kws : List (Key × W)) (kvs : List (Key × V)) (p : Addr) (Q : VK), Sim K cl xa C z σ ρ S → Gr y0 z → z.F p = none → p ∉ z.m → C.H0 p = none → z.H p = some (.dK kvs) → RWP K cl z kws kvs →
  Post K cl xa C Wx y0 σ ρ (mk (some (.dk kws)) S) (OkE K cl xa C y0 σ ρ Q) → wrap Q (.ref p) z.H
theorem dkC_ok {K : PySem.W.Frag} : MkDk K cl xa mkC (fun Q => Q) := fun C Wx y0 z σ ρ S kws kvs p Q s g h1 h2 h3 h4 r h => by
  obtain ⟨s2, g2⟩ := s.adoptC (c := .dk kws) h1 h2 h3 (by rw [h4]; simp) ⟨kvs, h4, r⟩
  exact h (.ref p) ⟨z.F, z.H, z.m ++ [p]⟩ s2 (g.trans g2) ⟨p, by rw [← s.bs.len]; simp, rfl⟩
theorem dkL_ok {K : PySem.W.Frag} : MkDk K cl xa mkL (fun Q v H => Lks (Q v) H) := fun C Wx y0 z σ ρ S kws kvs p Q s g h1 h2 h3 h4 r h => by
  unfold mkL at h
  simp only at h
  split at h
  · rename_i d hd
    obtain ⟨ds, q, rfl⟩ := Option.map_eq_some_iff.mp hd
    refine .lock p _ h4 trivial fun od => .now ?_
    have s2 := s.other (o := .frz od (.dK kvs)) h1 h2 h3
    obtain ⟨s3, g3⟩ := s2.adoptF h1 h2 h3 upd_same
    have g2 : Gr z (z.up p (.frz od (.dK kvs))) := ⟨Ex.refl _, List.prefix_refl _⟩
    obtain ⟨z1, z2⟩ := rwp_zip r
    refine h (.ref p) _ s3 (g.trans (g2.trans g3)) ⟨p, kvs.map (·.2), rfl, ⟨od, ?_⟩, ?_, RpL.xt (g2.trans g3).f _ _ (dats_ok z1 q)⟩
    · rw [← z2]; exact upd_same
    · rw [List.length_map, List.length_map]; exact Paired.length r
  · exact h.elim
theorem se_disp {trs : List (TE × TE)} {m : MP} {mkf : Option Cell → Sto → Rs W} {wrap : VK → VK} (hmk : MkDk X.K cl xa mkf wrap) (h0 : ∀ S, mkf none S = .stuck) (q : SPr X.K cl xa Wx trs m) {C : Cn} {y : Y} {σ : St} {ρ : Rho} {S : Sto} (s : Sim X.K cl xa C y σ ρ S) {Q : VK}
    (h : Post X.K cl xa C Wx y σ ρ (mDisp mkf m ρ S) (OkE X.K cl xa C y σ ρ Q)) : tDisp trs σ y.H (wrap Q) := by
  intro p hp
  have c0 : C.H0 p = none := s.fm.dom p hp
  have fp0 : y.F p = none := s.bs.fz.no hp
  have pm0 : p ∉ y.m := fun z => s.bs.has p z hp
  have s1 := s.other (o := .dK []) fp0 pm0 c0
  have g1 : Gr y (y.up p (.dK [])) := ⟨Ex.refl _, List.prefix_refl _⟩
  refine q _ (y.up p (.dK [])) σ ρ S s1.rebase _ (Post.rebase s1 g1 (Post.bind h) fun wws S1 h1 vvs z s2 g2 r2 => ?_)
  obtain ⟨k1, k2, k3⟩ := keep_own s2.bs.fz s2.fm fp0 pm0 upd_same
  have s3 := s1.after s2.bs s2.fm
  refine ⟨k1, ?_⟩
  unfold dispC at h1
  split at h1
  · rename_i kws hk
    obtain ⟨kvs, ek, rk⟩ := keysP_ok r2 hk
    split at h1
    · rename_i hl
      refine ⟨kvs, ek, by rw [← Paired.length rk]; exact hl, ?_⟩
      have g3 : Gr z (z.up p (.dK (mergeK [] kvs))) := ⟨Ex.refl _, List.prefix_refl _⟩
      exact hmk C Wx y (z.up p (.dK (mergeK [] kvs))) σ ρ S1 (mergeW [] kws) (mergeK [] kvs) p Q (s3.other k2 k3 c0) ((g1.trans g2).trans g3) k2 k3 c0 upd_same (RWP.grow g3 (merge_ok rk .nil)) h1
    · rw [h0] at h1; exact h1.elim
  · rw [h0] at h1; exact h1.elim
theorem qe_dispC {m : MP} (h : QPr X cl xa Wx pos ks vs m) (hall : ks.all (·.isSome) = true := by rfl) (hl : ks.length = vs.length := by rfl) (hne : ks ≠ [] := by simp) (h15 : ks.length ≤ 15 := by decide) : QE X cl xa Wx (.Dict ks vs pos) (mDisp mkC m) := by
  obtain ⟨t, p, q⟩ := h
  exact ⟨_, pe_disp p hall hl hne h15, fun C y σ ρ S s Q h => se_disp dkC_ok (fun _ => rfl) q s h⟩
theorem qe_dispL {m : MP} (h : QPr X cl xa Wx pos ks vs m) (hall : ks.all (·.isSome) = true := by rfl) (hl : ks.length = vs.length := by rfl) (hne : ks ≠ [] := by simp) (h15 : ks.length ≤ 15 := by decide) : QE X cl xa Wx (.Dict ks vs pos) (mDisp mkL m) := by
  obtain ⟨t, p, q⟩ := h
  exact ⟨_, pe_lk (pe_disp p hall hl hne h15), fun C y σ ρ S s Q h => se_disp dkL_ok (fun _ => rfl) q s h⟩
end
end Ng
namespace Ng
open PySem L2
/-! ### methods that change nothing -/
def vmt (f : W → List W → Sto → Option W) : W → List W → Sto → Rs W := fun w ws S => lift (f w ws S) S
def strsW : List W → Option (List Str)
  | [] => some []
  | .da (.str x) :: r => match strsW r with
    | some t => some (x :: t)
    | none => none
  | _ => none
section
variable {X : Cx} {cl : Str → Option Addr} {xa : Option (Nat × Addr)} {Wx : WX} {pos apos cpos : Pos} {a b c e o : Expr} {es : List Expr} {ma mb mc me mi mo : ME} {mr : MA} {ta tb tc : MT} {st : Stmt} {rest body : List Stmt} {m n : MS}
theorem hm_val {id : String} {f : W → List W → Sto → Option W}
    (h : ∀ (y : Y) (S : Sto) (w : W) (v : V) (ws : List W) (vs : List V) (u : W) (Q : VK), Bs X.K cl y S → RW X.K cl y w v → RWL X.K cl y ws vs → f w ws S = some u → Gv X.K cl y u Q → mtAny X id v vs y.H Q) : HMt X cl id (vmt f) := by
  intro xa C Wx y σ ρ S s w v r as bs ra Q hp
  obtain ⟨u, e, g⟩ := post_val s hp
  exact h y S w v as bs u Q s.bs r ra e g
theorem strsW_ok {K : PySem.W.Frag} {y : Y} : ∀ {ws : List W} {vs : List V} {ys : List Str}, RWL K cl y ws vs → strsW ws = some ys → vs = ys.map V.str
  | [], _, _, .nil, h => by cases h; rfl
  | w :: ws, _, ys, .cons r t, h => by
    unfold strsW at h
    split at h
    · rename_i e
      cases e
    · rename_i x r' e
      cases e
      split at h
      · rename_i t' ht
        cases h
        rw [strsW_ok t ht]
        cases r
        rfl
      · cases h
    · cases h
noncomputable def joinW (w : W) (ws : List W) (S : Sto) : Option W := match w, ws with
  | .da (.str a), [x] => match seqW S x with
    | some us => match strsW us with
      | some ys => ifc ((ys.map (·.length)).sum + ys.length * a.length ≤ 16777216) (some (.da (.str (Txt.join a ys)))) none
      | none => none
    | none => none
  | _, _ => none
theorem hm_join : HMt X cl "str.join" (vmt joinW) := hm_val fun y S w v ws vs u Q b r rs e g => by
  unfold joinW at e
  split at e
  · rename_i a x
    cases (show v = .str a from r)
    obtain ⟨v, rfl, r1⟩ := rwl1 rs
    split at e
    · rename_i us q
      split at e
      · rename_i ys hys
        obtain ⟨hz, rfl⟩ := ifc_some e
        obtain ⟨p, vs, rfl, t, l⟩ := seqW_ok b r1 q
        cases strsW_ok l hys
        exact ⟨_, mt_join, a, p, ys, rfl, rfl, t, hz, gv_da b g rfl⟩
      · cases e
    · cases e
  · cases e
end
end Ng
namespace Ng
open PySem L2
/-! ### sorted -/
noncomputable def sortD (ds : List D) : List D := ds.mergeSort (PySem.W.dataLe false toPy)
noncomputable def sortC : List W → Sto → Option Cell
  | [w], S => match lstW S w with
    | some ws => match dats ws with
      | some ds => ifc (PySem.W.AllAlike (ds.map toPy) ∧ PySem.W.Sortable (ds.map toPy) ∧ (∀ d ∈ ds, (toPy d).canLay0 = true ∧ (toPy d).depth ≤ 64)) (some (.lst ((sortD ds).map .da))) none
      | none => none
    | none => none
  | _, _ => none
section
variable {X : Cx} {cl : Str → Option Addr} {xa : Option (Nat × Addr)} {Wx : WX}
/-- V beside what it is worth -/
theorem each_zip {pins : List (Addr × Obj)} {σ : St} {H : Hp} {s : Shared} (I : Inv X pins σ H s) : ∀ {vs : List V} {us : List Value} {ps : List PyData}, Vals vs us → DpAll X.K H vs ps →
    PySem.W.EachIs (fun u (b : V × PyData) => RelV b.1 u) us (vs.zip ps) ∧ PySem.W.EachIs (fun u (b : V × PyData) => ∃ as, Reads s.heap u b.2 as) us (vs.zip ps) ∧ ps.length = vs.length
  | _, _, _, .nil, .nil => ⟨.nil, .nil, rfl⟩
  | _, _, _, .cons r t, .cons d t2 => by
    obtain ⟨a, b, c⟩ := each_zip I t t2
    exact ⟨.cons r a, .cons (Dp.reads I _ _ _ d r) b, by simp [c]⟩
theorem vals_each : ∀ {us : List Value} {bs : List (V × PyData)}, PySem.W.EachIs (fun u (b : V × PyData) => RelV b.1 u) us bs → Vals (bs.map (·.1)) us
  | _, _, .nil => .nil
  | _, _, .cons r t => .cons r (vals_each t)
def rSortD (K : PySem.W.Frag) : List V → Hp → VK → Prop := fun vs H Q => ∃ (a : Addr) (xs : List V) (ps : List PyData), vs = [.ref a] ∧ SqL K H a xs ∧ DpAll K H xs ps ∧ PySem.W.AllAlike ps ∧ PySem.W.Sortable ps ∧ (∀ d ∈ ps, d.depth ≤ 64) ∧
  ∀ p, H p = none → Q (.ref p) (upd H p (.lst (((xs.zip ps).mergeSort (PySem.W.dataLe false (·.2))).map (·.1))))
theorem cr_sortD (hu : Hu X) : CallR X (.builtin "sorted") (rSortD X.K) := by
  intro pins s σ H vs us Q I r h
  obtain ⟨a, xs, ps, rfl, hs, hd, hal, hk, hdep, q⟩ := h
  obtain ⟨its, rv, hl, hz⟩ := I.list hs
  rw [Vals.ref1 r]
  obtain ⟨e1, e2, e3⟩ := each_zip I rv hd
  have em : (xs.zip ps).map (·.2) = ps := List.map_snd_zip (Nat.le_of_eq e3)
  have hu' : X.A.units + 200 < cLine := hu
  have hb : (xs.zip ps).length = xs.length := by rw [List.length_zip, e3, Nat.min_self]
  refine PySem.W.sorted_data (enc := (·.2)) hl.isList e1 e2 (by rw [em]; exact hal) (by rw [em]; exact hk) (by rw [hb]; exact hz) (fun b hb => ?_) fun out ho eo => ?_
  · have := hdep b.2 (by rw [← em]; exact List.mem_map.mpr ⟨b, hb, rfl⟩)
    omega
  · obtain ⟨ep, he'⟩ := PyProof.Rows.sortedAll_at s.heap its out.toArray
    refine ⟨.ref _, _, I.laid (t' := s.toks) (o := .lst (((xs.zip ps).mergeSort (PySem.W.dataLe false (·.2))).map (·.1))) (fun _ _ => PyProof.Rows.sortedAll_old) (Nat.le_succ _) ⟨?_, out, ep, vals_each eo, he'⟩, rfl, q _ (I.hok.fresh (Nat.le_succ _))⟩
    rw [List.length_map, List.length_mergeSort, hb]
    exact hz
theorem toPyL_all {K : PySem.W.Frag} {H : Hp} : ∀ (ds : List D) (vs : List V), (∀ d ∈ ds, (toPy d).canLay0 = true) → RpL K cl H ds vs → DpAll K H vs (ds.map toPy)
  | [], vs, _, r => by cases (show vs = [] from r); exact .nil
  | d :: ds, vs, h, r => by
    obtain ⟨v, t, rfl, r1, r2⟩ := r
    exact .cons (toPy_ok d v (h d (by simp)) r1) (toPyL_all ds t (fun x hx => h x (by simp [hx])) r2)
theorem rpl_zip {K : PySem.W.Frag} {F : Hp} : ∀ (ds : List D) (vs : List V), RpL K cl F ds vs → ds.length = vs.length ∧ ∀ p ∈ vs.zip ds, Rp K cl F p.2 p.1
  | [], vs, r => by cases (show vs = [] from r); exact ⟨rfl, by simp⟩
  | d :: ds, vs, r => by
    obtain ⟨v, t, rfl, r1, r2⟩ := r
    obtain ⟨a, b⟩ := rpl_zip ds t r2
    refine ⟨by simp [a], fun p hp => ?_⟩
    rw [List.zip_cons_cons] at hp
    rcases List.mem_cons.mp hp with rfl | hp
    · exact r1
    · exact b p hp
theorem zip_rpl {K : PySem.W.Frag} {F : Hp} : ∀ (ps : List (V × D)), (∀ p ∈ ps, Rp K cl F p.2 p.1) → RpL K cl F (ps.map (·.2)) (ps.map (·.1))
  | [], _ => rfl
  | p :: ps, h => ⟨_, _, rfl, h p (by simp), zip_rpl ps (fun q hq => h q (by simp [hq]))⟩
/-- the sort goes along -/
theorem sort_rp {K : PySem.W.Frag} {F : Hp} {ds : List D} {vs : List V} (r : RpL K cl F ds vs) : RpL K cl F (sortD ds) (((vs.zip (ds.map toPy)).mergeSort (PySem.W.dataLe false (·.2))).map (·.1)) := by
  obtain ⟨hl, hz⟩ := rpl_zip ds vs r
  have e1 : ((vs.zip ds).mergeSort (PySem.W.dataLe false (fun p => toPy p.2))).map (·.2) = sortD ds := by
    unfold sortD
    rw [List.map_mergeSort (r := PySem.W.dataLe false (fun p : V × D => toPy p.2)) (s := PySem.W.dataLe false toPy) (f := fun p : V × D => p.2) (fun a _ b _ => rfl), List.map_snd_zip (Nat.le_of_eq hl)]
  have e2 : ((vs.zip ds).mergeSort (PySem.W.dataLe false (fun p => toPy p.2))).map (·.1) = ((vs.zip (ds.map toPy)).mergeSort (PySem.W.dataLe false (·.2))).map (·.1) := by
    have : vs.zip (ds.map toPy) = (vs.zip ds).map (fun p => (p.1, toPy p.2)) := by
      rw [List.zip_map_right]
      rfl
    rw [this, ← List.map_mergeSort (r := PySem.W.dataLe false (fun p : V × D => toPy p.2)) (f := fun p : V × D => (p.1, toPy p.2)) (fun a _ b _ => rfl), List.map_map]
    rfl
  rw [← e1, ← e2]
  exact zip_rpl _ fun p hp => hz p ((List.mergeSort_perm _ _).mem_iff.mp hp)
theorem cn_sorted (hu : Hu X) : CN X cl (cAny X (.builtin "sorted")) sortC := fun y S b ws vs rs c e Q g => by
  unfold sortC at e
  split at e
  · rename_i w
    obtain ⟨v, rfl, r⟩ := rwl1 rs
    split at e
    · rename_i us q
      split at e
      · rename_i ds hd
        obtain ⟨⟨h1, h2, h3⟩, rfl⟩ := ifc_some e
        obtain ⟨p, vs, rfl, t, l⟩ := lstW_ok b r q
        have rp := dats_ok l hd
        refine ⟨_, cr_sortD hu, p, vs, ds.map toPy, rfl, .inl (.inl t), toPyL_all ds vs (fun d hd => (h3 d hd).1) (RpL.xt b.fz _ _ rp), h1, h2, fun d hd => ?_, fun p hp => g p _ hp ⟨_, upd_same, upd_rw (rwl_da (sort_rp rp))⟩⟩
        obtain ⟨x, hx, rfl⟩ := List.mem_map.mp hd
        exact (h3 x hx).2
      · cases e
    · cases e
  · cases e
end
end Ng
namespace Ng
open PySem L2
/-! ### what is not walked -/
def mNoE : ME := fun _ _ => .stuck
def mNoT : MT := fun _ _ => .stuck
def mNoS : MS := fun _ _ => .stuck
section
variable {X : Cx} {cl : Str → Option Addr} {xa : Option (Nat × Addr)} {Wx : WX} {pos p2 apos cpos : Pos} {a b c e o : Expr} {es : List Expr} {ma mb mc me mi mo : ME} {mr : MA} {ta tb tc : MT} {st : Stmt} {rest body : List Stmt} {m n : MS}
theorem qe_no : QE X cl xa Wx e mNoE := ⟨fun _ _ _ => False, ⟨fun _ _ _ _ _ _ h => h.elim⟩, fun C y σ ρ S s Q h => h⟩
theorem qt_no : QT X cl xa Wx e mNoT := ⟨fun _ _ _ => False, ⟨fun _ _ _ _ _ _ h => h.elim⟩, fun C y σ ρ S s Q h => h⟩
theorem qs_no : QS X cl xa Wx st mNoS := ⟨fun _ _ _ => False, ⟨fun _ _ _ _ _ _ h => h.elim⟩, fun C y σ ρ S s Q h => h⟩
/-! ### slices -/
def cutL {α : Type} (xs : List α) (lo hi : Option Int) : List α := (xs.drop (HT.sIx xs.length 0 lo)).take (HT.sIx xs.length xs.length hi - HT.sIx xs.length 0 lo)
abbrev MO := Rho → Sto → Rs (Option Int)
def moN : MO := fun _ S => .ok none S
def moS (m : ME) : MO := fun ρ S => (m ρ S).bind fun w S => match w with
  | .da (.int i) => .ok (some i) S
  | _ => .stuck
def SO (K : PySem.W.Frag) (cl : Str → Option Addr) (xa : Option (Nat × Addr)) (Wx : WX) (t : TO) (m : MO) : Prop := ∀ C y σ ρ S, Sim K cl xa C y σ ρ S → ∀ Q, Post K cl xa C Wx y σ ρ (m ρ S) (fun i S' => ∀ z, Sim K cl xa C z σ ρ S' → Gr y z → Q i z.H) → t σ y.H Q
def QO (X : Cx) (cl : Str → Option Addr) (xa : Option (Nat × Addr)) (Wx : WX) (lo : Option Expr) (m : MO) : Prop := ∃ t, PO X lo t ∧ SO X.K cl xa Wx t m
theorem qo_none : QO X cl xa Wx none moN := ⟨_, po_none, fun C y σ ρ S s Q h => h y s (Gr.refl _)⟩
theorem qo_some (h : QE X cl xa Wx e me) : QO X cl xa Wx (some e) (moS me) := by
  obtain ⟨t, p, q⟩ := h
  refine ⟨_, po_some p, fun C y σ ρ S s Q h => ?_⟩
  refine q C y σ ρ S s _ (Post.go h fun w S1 h1 v z s1 g1 r1 => ?_)
  have h2 := h1 z g1
  split at h2
  · cases (show v = .int _ from r1)
    exact ⟨_, rfl, h2 z s1 g1⟩
  · exact h2.elim
/-- any rule of a slice -/
def slAny (X : Cx) : V → Option Int → Option Int → Hp → VK → Prop := fun x lo hi H Q => ∃ r, SlR X r ∧ r x lo hi H Q
theorem sl_any : SlR X (slAny X) := fun pins s σ H x v vl vu lo hi sl Q I rx hs pl pu ⟨r, o, h⟩ => o pins s σ H x v vl vu lo hi sl Q I rx hs pl pu h
/-- what a slice is: a value, or a new list or tuple -/
noncomputable def slV (w : W) (lo hi : Option Int) (S : Sto) : Option (W ⊕ Cell) := match w with
  | .da (.str z) => ifc (z.length ≤ sizeLine) (some (.inl (.da (.str (cutS z lo hi))))) none
  | _ => match lstW S w with
    | some ws => some (.inr (.lst (cutL ws lo hi)))
    | none => match tupW S w with
      | some ws => if HT.sIx ws.length 0 lo = 0 ∧ HT.sIx ws.length ws.length hi = ws.length then some (.inl w) else some (.inr (.tup (cutL ws lo hi)))
      | none => none
noncomputable def slF (mk : Option Cell → Sto → Rs W) (w : W) (lo hi : Option Int) (S : Sto) : Rs W := match slV w lo hi S with
  | some (.inl u) => .ok u S
  | some (.inr c) => mk (some c) S
  | none => .stuck
noncomputable def mSl (mk : Option Cell → Sto → Rs W) (me : ME) (ml mh : MO) : ME := fun ρ S => (me ρ S).bind fun w S => (ml ρ S).bind fun lo S => (mh ρ S).bind fun hi S => slF mk w lo hi S
theorem cut_rw {K : PySem.W.Frag} {y : Y} {ws : List W} {vs : List V} (l : RWL K cl y ws vs) (lo hi : Option Int) : RWL K cl y (cutL ws lo hi) (cutV vs lo hi) := by
  unfold cutL cutV
  rw [Paired.length l]
  exact paired_take _ (paired_drop _ l)
def GG (K : PySem.W.Frag) (cl : Str → Option Addr) (y : Y) (Q : VK) : W ⊕ Cell → Prop
  | .inl u => Gv K cl y u Q
  | .inr c => Gn K cl y c Q
theorem slV_ok {y : Y} {S : Sto} (b : Bs X.K cl y S) {w : W} {v : V} (r : RW X.K cl y w v) {lo hi : Option Int} {z : W ⊕ Cell} (h : slV w lo hi S = some z) {Q : VK} (g : GG X.K cl y Q z) : slAny X v lo hi y.H Q := by
  unfold slV at h
  split at h
  · obtain ⟨hz, rfl⟩ := ifc_some h
    cases (show v = .str _ from r)
    exact ⟨_, sl_str, _, rfl, hz, gv_da b g rfl⟩
  · split at h
    · rename_i ws q
      cases h
      obtain ⟨p, vs, rfl, t, l⟩ := lstW_ok b r q
      exact ⟨_, sl_list, p, vs, rfl, .inl (.inl t), fun p hp => g p _ hp ⟨_, upd_same, upd_rw (cut_rw l lo hi)⟩⟩
    · split at h
      · rename_i ws q
        obtain ⟨p, vs, rfl, t, l⟩ := tupW_ok b r q
        have hl := Paired.length l
        split at h
        · rename_i hw
          cases h
          rw [hl] at hw
          exact ⟨_, sl_tupA, p, vs, rfl, t, fun _ => gv_w b g r, fun hn => absurd hw hn⟩
        · rename_i hw
          cases h
          rw [hl] at hw
          exact ⟨_, sl_tupA, p, vs, rfl, t, fun hn => absurd hn hw, fun _ p hp => g p _ hp ⟨_, upd_same, upd_rw (cut_rw l lo hi)⟩⟩
      · cases h
theorem qe_sl {lo hi : Option Expr} {ml mh : MO} {mk : Option Cell → Sto → Rs W} (hmk : ∀ (C : Cn) (y : Y) (σ : St) (ρ : Rho) (S : Sto) (o : Option Cell) (Q : VK), Sim X.K cl xa C y σ ρ S → Post X.K cl xa C Wx y σ ρ (mk o S) (OkE X.K cl xa C y σ ρ Q) → ∃ c, o = some c ∧ Gn X.K cl y c Q)
    (he : QE X cl xa Wx e me) (hl : QO X cl xa Wx lo ml) (hh : QO X cl xa Wx hi mh) : QE X cl xa Wx (.Subscript e (.Slice lo hi none p2) pos) (mSl mk me ml mh) := by
  obtain ⟨t, p, q⟩ := he
  obtain ⟨t1, p1, q1⟩ := hl
  obtain ⟨t2, p2, q2⟩ := hh
  refine ⟨_, pe_slice sl_any p p1 p2, fun C y σ ρ S s Q h => ?_⟩
  refine q C y σ ρ S s _ (Post.go h fun w S1 h1 v z s1 g1 r1 => ?_)
  refine q1 C z σ ρ S1 s1 _ (Post.go (h1 z g1) fun lo S2 h2 z2 s2 g2 => ?_)
  refine q2 C z2 σ ρ S2 s2 _ (Post.go (h2 z2 g2) fun hi S3 h3 z3 s3 g3 => ?_)
  have h4 := Post.re (h3 z3 g3) (g1.trans (g2.trans g3))
  have r3 := r1.grow (g2.trans g3)
  unfold slF at h4
  split at h4
  · rename_i u hu
    exact slV_ok s3.bs r3 hu (by
      obtain ⟨u', e, g⟩ := post_val (o := some u) s3 h4
      cases e
      exact g)
  · rename_i c hc
    exact slV_ok s3.bs r3 hc (by
      obtain ⟨c', e, g⟩ := hmk C z3 σ ρ S3 _ Q s3 h4
      cases e
      exact g)
  · exact h4.elim
theorem qe_slD {lo hi : Option Expr} {ml mh : MO} (he : QE X cl xa Wx e me) (hl : QO X cl xa Wx lo ml) (hh : QO X cl xa Wx hi mh) : QE X cl xa Wx (.Subscript e (.Slice lo hi none p2) pos) (mSl mkD me ml mh) := qe_sl (fun C y σ ρ S o Q s h => post_newD s h) he hl hh
theorem qe_slC {lo hi : Option Expr} {ml mh : MO} (he : QE X cl xa Wx e me) (hl : QO X cl xa Wx lo ml) (hh : QO X cl xa Wx hi mh) : QE X cl xa Wx (.Subscript e (.Slice lo hi none p2) pos) (mSl mkC me ml mh) := qe_sl (fun C y σ ρ S o Q s h => post_newC s h) he hl hh
end
end Ng
namespace Ng
open PySem L2
/-! ### min of a list -/
mutual
def plainD : D → Bool
  | .non => true
  | .bl _ => true
  | .int _ => true
  | .str _ => true
  | .tup ds => plainL ds
  | .lst ds => plainL ds
  | _ => false
def plainL : List D → Bool
  | [] => true
  | d :: ds => plainD d && plainL ds
end
mutual
theorem toPy_inj : ∀ a b : D, plainD a = true → plainD b = true → toPy a = toPy b → a = b
  | .non, b, _, hb, e => by cases b <;> simp [toPy, plainD] at e hb; rfl
  | .bl x, b, _, hb, e => by cases b <;> simp [toPy, plainD] at e hb; rw [e]
  | .int x, b, _, hb, e => by cases b <;> simp [toPy, plainD] at e hb; rw [e]
  | .str x, b, _, hb, e => by cases b <;> simp [toPy, plainD] at e hb; rw [e]
  | .tup x, b, ha, hb, e => by
    cases b <;> simp [toPy, plainD] at e hb ha
    rw [toPyL_inj _ _ ha hb e]
  | .lst x, b, ha, hb, e => by
    cases b <;> simp [toPy, plainD] at e hb ha
    rw [toPyL_inj _ _ ha hb e]
  | .wt _, _, ha, _, _ => by simp [plainD] at ha
  | .scr _, _, ha, _, _ => by simp [plainD] at ha
  | .dk _ _, _, ha, _, _ => by simp [plainD] at ha
  | .dt _ _, _, ha, _, _ => by simp [plainD] at ha
  | .obj _ _ _, _, ha, _, _ => by simp [plainD] at ha
theorem toPyL_inj : ∀ a b : List D, plainL a = true → plainL b = true → toPyL a = toPyL b → a = b
  | [], [], _, _, _ => rfl
  | [], _ :: _, _, _, e => by simp [toPyL] at e
  | _ :: _, [], _, _, e => by simp [toPyL] at e
  | a :: as, b :: bs, ha, hb, e => by
    simp only [plainL, Bool.and_eq_true] at ha hb
    simp only [toPyL, List.cons.injEq] at e
    rw [toPy_inj a b ha.1 hb.1 e.1, toPyL_inj as bs ha.2 hb.2 e.2]
end
def minDD (d : D) (ds : List D) : D := ds.foldl (fun a y => if PySem.W.dataLt (toPy y) (toPy a) then y else a) d
theorem minDD_py : ∀ (ds : List D) (d : D), toPy (minDD d ds) = PySem.W.minD (toPy d) (ds.map toPy)
  | [], _ => rfl
  | y :: ds, d => by
    have := minDD_py ds (if PySem.W.dataLt (toPy y) (toPy d) then y else d)
    unfold minDD PySem.W.minD at *
    simp only [List.foldl_cons, List.map_cons]
    rw [this]
    congr 1
    split <;> rfl
theorem minDD_mem : ∀ (ds : List D) (d : D), minDD d ds ∈ d :: ds
  | [], _ => by simp [minDD]
  | y :: ds, d => by
    have := minDD_mem ds (if PySem.W.dataLt (toPy y) (toPy d) then y else d)
    unfold minDD at *
    simp only [List.foldl_cons]
    rcases List.mem_cons.mp this with h | h
    · rw [h]
      split <;> simp
    · simp [h]
noncomputable def minLW : List W → Sto → Option W
  | [w], S => match lstW S w with
    | some ws => match dats ws with
      | some (d :: ds) => ifc (PySem.W.AlikeAll ((d :: ds).map toPy) ∧ plainL (d :: ds) = true ∧ (∀ x ∈ d :: ds, (toPy x).canLay0 = true) ∧ PyData.depthAll ((d :: ds).map toPy) ≤ 64) (some (.da (minDD d ds))) none
      | _ => none
    | none => none
  | _, _ => none
section
variable {X : Cx} {cl : Str → Option Addr} {xa : Option (Nat × Addr)} {Wx : WX} {pos p2 apos cpos : Pos} {a b c e o : Expr} {es : List Expr} {ma mb mc me mi mo : ME} {mr : MA}
theorem plainL_mem : ∀ {ds : List D} {d : D}, plainL ds = true → d ∈ ds → plainD d = true
  | x :: ds, d, h, hm => by
    simp only [plainL, Bool.and_eq_true] at h
    rcases List.mem_cons.mp hm with rfl | hm
    · exact h.1
    · exact plainL_mem h.2 hm
def rMinD (K : PySem.W.Frag) : List V → Hp → VK → Prop := fun vs H Q => ∃ (a : Addr) (xs : List V) (p : PyData) (ps : List PyData), vs = [.ref a] ∧ SqL K H a xs ∧ DpAll K H xs (p :: ps) ∧ PySem.W.AlikeAll (p :: ps) ∧ PyData.depthAll (p :: ps) ≤ 64 ∧
  ∀ (i : Nat) (v : V), xs[i]? = some v → (p :: ps)[i]? = some (PySem.W.minD p ps) → Q v H
theorem vals_get : ∀ {vs : List V} {us : List Value} {i : Nat} {u : Value}, Vals vs us → us[i]? = some u → ∃ v, vs[i]? = some v ∧ RelV v u
  | _, _, 0, u, .cons r t, h => by cases h; exact ⟨_, rfl, r⟩
  | _, _, i + 1, u, .cons r t, h => vals_get (i := i) t (by simpa using h)
  | _, _, _, u, .nil, h => by simp at h
theorem reads_get {h : Heap} : ∀ {us : List Value} {ds : List PyData} {as : List Addr} {i : Nat} {u : Value}, ReadsAll h us ds as → us[i]? = some u → ∃ d bs, ds[i]? = some d ∧ Reads h u d bs
  | _, _, _, 0, u, .cons r t, e => by cases e; exact ⟨_, _, rfl, r⟩
  | _, _, _, i + 1, u, .cons r t, e => reads_get (i := i) t (by simpa using e)
  | _, _, _, _, u, .nil, e => by simp at e
theorem minP_mem : ∀ (ds : List PyData) (d : PyData), PySem.W.minD d ds ∈ d :: ds
  | [], _ => by simp [PySem.W.minD]
  | y :: ds, d => by
    have := minP_mem ds (if PySem.W.dataLt y d then y else d)
    unfold PySem.W.minD at *
    simp only [List.foldl_cons]
    rcases List.mem_cons.mp this with h | h
    · rw [h]
      split <;> simp
    · simp [h]
theorem cr_minD (hc : X.calm = true) (hu : Hu X) : CallR X (.builtin "min") (rMinD X.K) := by
  intro pins s σ H vs us Q I r h
  obtain ⟨a, xs, p, ps, rfl, hs, hd, hal, hdep, q⟩ := h
  obtain ⟨its, rv, hl, hz⟩ := I.list hs
  rw [Vals.ref1 r]
  obtain ⟨as, hr⟩ := Dp.readsAll I (p :: ps) xs its hd rv
  have hu' : X.A.units + 200 < cLine := hu
  refine PySem.W.min_list_data (vs := its.toArray) (I.ok.hd hc) hl.isList hr hal (by omega) fun i u h' tk bs hi hrd kp => ?_
  have hi' : its[i]? = some u := by simpa using hi
  obtain ⟨v, e1, e2⟩ := vals_get rv hi'
  refine ⟨v, H, I.kept (t' := tk) kp, e2, q i v e1 ?_⟩
  obtain ⟨d, bs', e3, e4⟩ := reads_get hr hi'
  rw [e3, PySem.W.alike_unique d _ u bs' bs (hal.1 d (List.mem_of_getElem? e3) _ (minP_mem ps p)) (PyProof.Rows.Reads.keeps kp e4) hrd]
theorem cw_minL (hc : X.calm = true) (hu : Hu X) : HCall X cl (.builtin "min") (vlN minLW) := VN.h fun y S b ws vs rs u e Q g => by
  unfold minLW at e
  split at e
  · rename_i w
    obtain ⟨v, rfl, r⟩ := rwl1 rs
    split at e
    · rename_i us q
      split at e
      · rename_i d ds hd
        obtain ⟨⟨h1, h2, h3, h4⟩, rfl⟩ := ifc_some e
        obtain ⟨p, vs, rfl, t, l⟩ := lstW_ok b r q
        have rp := dats_ok l hd
        refine ⟨_, cr_minD hc hu, p, vs, toPy d, ds.map toPy, rfl, .inl (.inl t), toPyL_all (d :: ds) vs h3 (RpL.xt b.fz _ _ rp), h1, h4, fun i v hv hm => ?_⟩
        have hm' : ((d :: ds).map toPy)[i]? = some (PySem.W.minD (toPy d) (ds.map toPy)) := hm
        rw [List.getElem?_map] at hm'
        obtain ⟨x, hx, ex⟩ := Option.map_eq_some_iff.mp hm'
        have hxe : x = minDD d ds := toPy_inj x _ (plainL_mem h2 (List.mem_of_getElem? hx)) (plainL_mem h2 (minDD_mem ds d)) (ex.trans (minDD_py ds d).symm)
        have rw1 : RW X.K cl y (.da x) v := by
          obtain ⟨v', e1, e2⟩ := RWL.get (rwl_da rp) (show ((d :: ds).map W.da)[i]? = some (.da x) by rw [List.getElem?_map, hx]; rfl)
          rw [hv] at e1
          cases e1
          exact e2
        rw [← hxe] at g
        exact gv_w b g rw1
      · cases e
    · cases e
  · cases e
/-! ### tuple(x), str(x), int(x) -/
def tupleF (mk : Option Cell → Sto → Rs W) : List W → Sto → Rs W := fun ws S => match ws with
  | [w] => match lstW S w with
    | some us => mk (some (.tup us)) S
    | none => match tupW S w with
      | some _ => .ok w S
      | none => .stuck
  | _ => .stuck
theorem hc_tuple {mk : Option Cell → Sto → Rs W} (hmk : ∀ (xa : Option (Nat × Addr)) (Wx : WX) (C : Cn) (y : Y) (σ : St) (ρ : Rho) (S : Sto) (o : Option Cell) (Q : VK), Sim X.K cl xa C y σ ρ S → Post X.K cl xa C Wx y σ ρ (mk o S) (OkE X.K cl xa C y σ ρ Q) → ∃ c, o = some c ∧ Gn X.K cl y c Q) :
    HCall X cl (.type "tuple") (tupleF mk) := fun xa C Wx y σ ρ S s ws vs rs Q h => by
  unfold tupleF at h
  split at h
  · rename_i w
    obtain ⟨v, rfl, r⟩ := rwl1 rs
    split at h
    · rename_i us q
      obtain ⟨p, vs, rfl, t, l⟩ := lstW_ok s.bs r q
      obtain ⟨c, e, g⟩ := hmk xa Wx C y σ ρ S _ Q s h
      cases e
      exact ⟨_, call_tuple_of, p, vs, rfl, .inl ⟨.inl (.inl t), fun q hq => g q _ hq ⟨_, upd_same, upd_rw l⟩⟩⟩
    · split at h
      · rename_i us q
        obtain ⟨p, vs, rfl, t, l⟩ := tupW_ok s.bs r q
        obtain ⟨u', e, g⟩ := post_val (o := some w) s h
        cases e
        exact ⟨_, call_tuple_of, p, vs, rfl, .inr ⟨t, gv_w s.bs g r⟩⟩
      · exact h.elim
  · exact h.elim
theorem hc_tupleD : HCall X cl (.type "tuple") (tupleF mkD) := hc_tuple fun xa Wx C y σ ρ S o Q s h => post_newD s h
theorem hc_tupleC : HCall X cl (.type "tuple") (tupleF mkC) := hc_tuple fun xa Wx C y σ ρ S o Q s h => post_newC s h
noncomputable def strW : List W → Sto → Option W
  | [.da (.int i)], _ => ifc (i.natAbs.log2 < 1920) (some (.da (.str (toString i)))) none
  | [.da (.str x)], _ => some (.da (.str x))
  | _, _ => none
theorem cw_str : HCall X cl (.type "str") (vlN strW) := VN.h fun y S b ws vs rs u e Q g => by
  unfold strW at e
  split at e
  · obtain ⟨hz, rfl⟩ := ifc_some e
    obtain ⟨v, rfl, r⟩ := rwl1 rs
    cases r
    exact ⟨_, call_str_int, _, rfl, hz, gv_da b g rfl⟩
  · cases e
    obtain ⟨v, rfl, r⟩ := rwl1 rs
    cases r
    exact ⟨_, SkE.call_str_str, _, rfl, gv_da b g rfl⟩
  · cases e
noncomputable def intSW : List W → Sto → Option W
  | [.da (.str a)], _ => match PySem.intText? a with
    | some n => ifc (a.length ≤ 640) (some (.da (.int n))) none
    | none => none
  | ws, S => intW ws S
theorem cw_intS : HCall X cl (.type "int") (vlN intSW) := fun xa C Wx y σ ρ S s ws vs rs Q h => by
  unfold vlN at h
  obtain ⟨u, e, g⟩ := post_val s h
  unfold intSW at e
  split at e
  · split at e
    · rename_i n hn
      obtain ⟨hz, rfl⟩ := ifc_some e
      obtain ⟨v, rfl, r⟩ := rwl1 rs
      cases r
      exact ⟨_, call_int_str, _, _, rfl, hn, hz, gv_da s.bs g rfl⟩
    · cases e
  · rename_i hne
    refine cw_int xa C Wx y σ ρ S s ws vs rs Q ?_
    have e2 : intSW ws S = intW ws S := by
      unfold intSW
      split
      · exact (hne _ rfl).elim
      · rfl
    show Post X.K cl xa C Wx y σ ρ (lift (intW ws S) S) _
    rw [← e2]
    exact h
/-! ### more of texts -/
def swW (w : W) (ws : List W) (_ : Sto) : Option W := match w, ws with
  | .da (.str a), [.da (.str b)] => some (.da (.bl (Txt.startswith a b)))
  | _, _ => none
theorem hm_startswith : HMt X cl "str.startswith" (vmt swW) := hm_val fun y S w v ws vs u Q b r rs e g => by
  unfold swW at e
  split at e
  · cases e
    cases r
    obtain ⟨v, rfl, r1⟩ := rwl1 rs
    cases r1
    exact ⟨_, mt_startswith, _, _, rfl, rfl, gv_da b g rfl⟩
  · cases e
noncomputable def splitC (w : W) (ws : List W) : Option Cell := match w, ws with
  | .da (.str a), [.da (.str b)] => ifc ((b.length == 0) = false ∧ a.length + 2 ≤ sizeLine) (some (.lst ((Txt.split a b).map fun s => .da (.str s)))) none
  | _, _ => none
noncomputable def splF (mk : Option Cell → Sto → Rs W) : W → List W → Sto → Rs W := fun w ws S => mk (splitC w ws) S
theorem rwl_strs {K : PySem.W.Frag} {y : Y} : ∀ ys : List Str, RWL K cl y (ys.map fun s => .da (.str s)) (ys.map V.str)
  | [] => .nil
  | _ :: ys => .cons rfl (rwl_strs ys)
theorem hm_splitD : HMt X cl "str.split" (splF mkD) := fun xa C Wx y σ ρ S s w v r ws vs rs Q h => by
  obtain ⟨c, e, g⟩ := post_newD s h
  unfold splitC at e
  split at e
  · obtain ⟨hz, rfl⟩ := ifc_some e
    cases r
    obtain ⟨v, rfl, r1⟩ := rwl1 rs
    cases r1
    exact ⟨_, mt_split, _, _, rfl, rfl, hz.1, hz.2, fun p hp => g p _ hp ⟨_, upd_same, upd_rw (rwl_strs _)⟩⟩
  · cases e
/-! ### f-texts -/
noncomputable def fmtW (w : W) : Option Str := match w with
  | .da (.str y) => ifc (y.length ≤ sizeLine) (some y) none
  | .da (.int i) => ifc (i.natAbs.log2 < 1920) (some (toString i)) none
  | _ => none
noncomputable def mFmt (m : ME) : ME := fun ρ S => (m ρ S).bind fun w S => match fmtW w with
  | some y => .ok (.da (.str y)) S
  | none => .stuck
theorem qe_fmt (h : QE X cl xa Wx e me) : QE X cl xa Wx (.FormattedValue e (-1) none pos) (mFmt me) := by
  obtain ⟨t, p, q⟩ := h
  refine ⟨_, pe_fmt p, fun C y σ ρ S s Q h => ?_⟩
  refine q C y σ ρ S s _ (Post.go h fun w S1 h1 v z s1 g1 r1 => ?_)
  have h2 := h1 z g1
  split at h2
  · rename_i yy hy
    unfold fmtW at hy
    split at hy
    · obtain ⟨hz, e⟩ := ifc_some hy
      cases e
      cases r1
      exact .inl ⟨_, rfl, hz, h2 _ z s1 g1 rfl⟩
    · obtain ⟨hz, e⟩ := ifc_some hy
      cases e
      cases r1
      exact .inr ⟨_, rfl, hz, h2 _ z s1 g1 rfl⟩
    · cases hy
  · exact h2.elim
abbrev MJ := Str → Rho → Sto → Rs Str
def mjNil : MJ := fun acc _ S => .ok acc S
noncomputable def mjCons (m : ME) (r : MJ) : MJ := fun acc ρ S => (m ρ S).bind fun w S => match w with
  | .da (.str y) => ifc ((acc ++ y).length ≤ sizeLine) (r (acc ++ y) ρ S) .stuck
  | _ => .stuck
def SJ (K : PySem.W.Frag) (cl : Str → Option Addr) (xa : Option (Nat × Addr)) (Wx : WX) (ts : List TE) (m : MJ) : Prop := ∀ acc C y σ ρ S, Sim K cl xa C y σ ρ S → ∀ Q, Post K cl xa C Wx y σ ρ (m acc ρ S) (fun t S' => ∀ z, Sim K cl xa C z σ ρ S' → Gr y z → Q t z.H) → tJs ts acc σ y.H Q
def QJ (X : Cx) (cl : Str → Option Addr) (xa : Option (Nat × Addr)) (Wx : WX) (es : List Expr) (m : MJ) : Prop := ∃ ts, PJ X es ts ∧ SJ X.K cl xa Wx ts m
theorem qj_nil : QJ X cl xa Wx [] mjNil := ⟨_, .nil, fun acc C y σ ρ S s Q h => h y s (Gr.refl _)⟩
theorem ifc_post {K : PySem.W.Frag} {α : Type} {C : Cn} {y : Y} {σ : St} {ρ : Rho} {p : Prop} {r : Rs α} {k : α → Sto → Prop} (h : Post K cl xa C Wx y σ ρ (ifc p r .stuck) k) : p ∧ Post K cl xa C Wx y σ ρ r k := by
  by_cases hp : p
  · rw [ifc_pos hp] at h; exact ⟨hp, h⟩
  · rw [ifc_neg hp] at h; exact h.elim
theorem qj_cons {mr : MJ} (h : QE X cl xa Wx e me) (hr : QJ X cl xa Wx es mr) : QJ X cl xa Wx (e :: es) (mjCons me mr) := by
  obtain ⟨t, p, q⟩ := h
  obtain ⟨ts, ps, qs⟩ := hr
  refine ⟨_, .cons p ps, fun acc C y σ ρ S s Q h => ?_⟩
  refine q C y σ ρ S s _ (Post.go h fun w S1 h1 v z s1 g1 r1 => ?_)
  have h2 := h1 z g1
  split at h2
  · rename_i yy
    cases (show v = .str yy from r1)
    obtain ⟨hz, h3⟩ := ifc_post h2
    exact ⟨yy, rfl, hz, qs _ C z σ ρ S1 s1 Q (Post.imp h3 fun t S2 h4 z2 s2 g2 => h4 z2 s2 (g1.trans g2))⟩
  · exact h2.elim
noncomputable def mJoined (m : MJ) : ME := fun ρ S => (m Str.empty ρ S).bind fun t S => .ok (.da (.str t)) S
theorem qe_joined {v1 v2 : Expr} {rest : List Expr} {m : MJ} (h : QJ X cl xa Wx (v1 :: v2 :: rest) m) : QE X cl xa Wx (.JoinedStr (v1 :: v2 :: rest) pos) (mJoined m) := by
  obtain ⟨ts, ps, qs⟩ := h
  refine ⟨_, pe_joined ps, fun C y σ ρ S s Q h => ?_⟩
  exact qs Str.empty C y σ ρ S s _ (Post.go h fun t S1 h1 z s1 g1 => h1 z g1 _ z s1 g1 rfl)
end
end Ng
namespace Ng
open PySem L2
/-! ### comprehensions over range(a, b) -/
section
variable {X : Cx} {cl : Str → Option Addr} {xa : Option (Nat × Addr)} {Wx : WX} {pos : Pos} {elt tg iter a b : Expr} {ifs : List Expr} {scope : Scope} {own : List (Str × Nat)} {mi me : ME} {mr : MA} {mt : MT} {g : MG} {gt : TG} {mk : Option Cell → Sto → Rs W}
theorem walk_lcR2 {t : TA} (hmk : MkOk X.K cl xa mk) (q : SA X.K cl xa Wx t mr) {vs0 : List Nat} (hsg : SGw X.K cl vs0 gt g) : SE X.K cl xa Wx (tLc (iRng2 t) gt (TTm X.K cl xa W0 mt) (TEm X.K cl xa W0 me) vs0) (mLcR mk rng2 mr vs0 g mt me) := by
  intro C y σ ρ S s Q h
  refine q C y σ ρ S s _ (Post.go h fun ws S1 h1 vs z s1 g1 r1 => ?_)
  have h2 := h1 z g1
  split at h2
  · rename_i lo k e
    unfold rng2 at e
    split at e
    · rename_i i j
      obtain ⟨hj, e⟩ := ifc_some e
      cases e
      obtain ⟨v, v2, rfl, rv, rv2⟩ := rwl2 r1
      cases (show v = .int lo from rv)
      cases (show v2 = .int j from rv2)
      rw [lcM_P] at h2
      refine ⟨lo, j, rfl, hj, fun pp hp => ?_⟩
      cases e2 : lcP (fun _ => True) g mt me (wipeR ρ vs0) (intsW lo (j - lo).toNat) [] S1 with
      | stuck => rw [e2] at h2; exact h2.elim
      | ex x S' => exact absurd e2 (lcP_noex _ _ _ _ _)
      | ok ys S' =>
        rw [e2] at h2
        exact run_lc hsg (wk_rng (G := fun y S => True)) (fun y S g p => trivial) s1 hp e2 fun z2 vacc s2 g2 k1 k2 k3 k4 k5 => hmk C Wx z z2 σ ρ S' ys vacc pp Q s2 g2 k1 k2 k3 k4 k5 (Post.re h2 g1)
    · cases e
  · exact h2.elim
theorem qe_lcR2 {p p' : Pos} (hmk : MkOk X.K cl xa mk) (hc : X.calm = true) (hN : X.N.Nodup) (hgl : Gl X "range") (hm : X.mg "range" = none) (ha : QA X cl xa Wx [a, b] mr) (ok : BlkOk X.N X.env.scope scope own) (hsg : SGw X.K cl (own.map (·.2)) gt g)
    (hg : ∀ (s : Shared) (H : Hp) (A : Addr) (c2 : List (Str × Addr)) (fp : List Addr), PG (X.blk s H scope (compEnvC scope c2 A X.env) fp) tg gt)
    (ht : ∀ (s : Shared) (H : Hp) (A : Addr) (c2 : List (Str × Addr)) (fp : List Addr), PTs (X.blk s H scope (compEnvC scope c2 A X.env) fp) ifs (TTm X.K cl xa W0 mt))
    (he : ∀ (s : Shared) (H : Hp) (A : Addr) (c2 : List (Str × Addr)) (fp : List Addr), QE (X.blk s H scope (compEnvC scope c2 A X.env) fp) cl xa W0 elt me)
    (hst : starEach [a, b] X.env = [(false, eval a X.env), (false, eval b X.env)] := by rfl) (hst2 : starEach [b] X.env = [(false, eval b X.env)] := by rfl) (hs : ∀ x, foldedSetIterable (.Call (.Name "range" p) [a, b] [] p') X.env x = pure x := by intro _; rfl) :
    QE X cl xa Wx (.ListComp elt [⟨tg, .Call (.Name "range" p) [a, b] [] p', ifs, 0⟩] scope pos) (mLcR mk rng2 mr (own.map (·.2)) g mt me) := by
  obtain ⟨t, pa, q⟩ := ha
  exact ⟨_, pe_lc (te := TEm X.K cl xa W0 me) hc hN (pi_range2 hgl hm pa hst hst2) ok hg ht (fun s H A c2 fp => pe_m (he s H A c2 fp)) hs, walk_lcR2 hmk q hsg⟩
theorem qs_setLcR2 {i : Nat} {y : Str} {py spos p p' : Pos} (hmk : MkOk X.K cl xa mk) (hc : X.calm = true) (hN : X.N.Nodup) (hy : X.N[i]? = some y) (hyl : X.env.scope.names.lookup y = some .local)
    (hsw : swapsWith (.ListComp elt [⟨tg, .Call (.Name "range" p) [a, b] [] p', ifs, 0⟩] scope pos) (some (.Name y py)) spos.line X.env = pure true) (hgl : Gl X "range") (hm : X.mg "range" = none) (ha : QA X cl xa Wx [a, b] mr) (ok : BlkOk X.N X.env.scope scope own) (hsg : SGw X.K cl (own.map (·.2)) gt g)
    (hg : ∀ (s : Shared) (H : Hp) (A : Addr) (c2 : List (Str × Addr)) (fp : List Addr), PG (X.blk s H scope (compEnvC scope c2 A X.env) fp) tg gt)
    (ht : ∀ (s : Shared) (H : Hp) (A : Addr) (c2 : List (Str × Addr)) (fp : List Addr), PTs (X.blk s H scope (compEnvC scope c2 A X.env) fp) ifs (TTm X.K cl xa W0 mt))
    (he : ∀ (s : Shared) (H : Hp) (A : Addr) (c2 : List (Str × Addr)) (fp : List Addr), QE (X.blk s H scope (compEnvC scope c2 A X.env) fp) cl xa W0 elt me)
    (hst : starEach [a, b] X.env = [(false, eval a X.env), (false, eval b X.env)] := by rfl) (hst2 : starEach [b] X.env = [(false, eval b X.env)] := by rfl) (hs : ∀ x, foldedSetIterable (.Call (.Name "range" p) [a, b] [] p') X.env x = pure x := by intro _; rfl) :
    QS X cl xa Wx (.Assign [.Name y py] (.ListComp elt [⟨tg, .Call (.Name "range" p) [a, b] [] p', ifs, 0⟩] scope pos) spos) (mSet i (mLcR mk rng2 mr (own.map (·.2)) g mt me)) := by
  obtain ⟨t, pa, q⟩ := ha
  exact ⟨_, ps_setLc (te := TEm X.K cl xa W0 me) hc hN hy hyl hsw (pi_range2 hgl hm pa hst hst2) ok hg ht (fun s H A c2 fp => pe_m (he s H A c2 fp)) hs, ss_set (walk_lcR2 hmk q hsg)⟩
end
/-! ### a text so many times -/
noncomputable def mulSW (x y : W) (S : Sto) : Option W := match x, y with
  | .da (.str z), .da (.int n) => ifc (PySem.MulOk z n) (some (.da (.str (Txt.mul z n)))) none
  | _, _ => mulW x y S
section
variable {X : Cx} {cl : Str → Option Addr}
theorem op_mulS : OpR X (binaryOp .Mult) (fun x y H Q => ∃ z n, x = .str z ∧ y = .int n ∧ PySem.MulOk z n ∧ Q (.str (Txt.mul z n)) H) := by
  intro pins s σ H x y v u Q I rx ry h
  obtain ⟨z, n, rfl, rfl, hz, q⟩ := h
  obtain ⟨t, rfl⟩ := rx
  obtain ⟨t2, rfl⟩ := ry
  exact SB.mul hz fun t' k => ⟨.str _, H, I.tok k, ⟨t', rfl⟩, q⟩
theorem ow_mulS : HOp X cl (binaryOp .Mult) (vl2 mulSW) := fun xa C Wx y σ ρ S s w w' v v' r r' Q h => by
  obtain ⟨u, e, g⟩ := post_val s h
  by_cases hs : ∃ z n, w = .da (.str z) ∧ w' = .da (.int n)
  · obtain ⟨z, n, rfl, rfl⟩ := hs
    unfold mulSW at e
    obtain ⟨hz, rfl⟩ := ifc_some e
    cases r
    cases r'
    exact ⟨_, op_mulS, z, n, rfl, rfl, hz, gv_da s.bs g rfl⟩
  · have e2 : mulSW w w' S = mulW w w' S := by
      unfold mulSW
      split
      · exact absurd ⟨_, _, rfl, rfl⟩ hs
      · rfl
    refine ow_mul xa C Wx y σ ρ S s w w' v v' r r' Q ?_
    show Post X.K cl xa C Wx y σ ρ (lift (mulW w w' S) S) _
    rw [← e2]
    exact h
end
end Ng
namespace Ng
open PySem PySem.Spec PyProof.Rows L2
/-! ### d.items() of locked dicts -/
/-- the pairs of a locked dict of tuple keys, each a new tuple of the key's own tuple and the value -/
def Itit (d : Addr) (o : Obj) (kvs : List (List Key × V)) : It :=
  ⟨fun i H => H d = some (.frz o (.dT kvs)) ∧ i < kvs.length, fun i H x H' => ∃ (T : Addr) (q : Addr) (k : List Key) (v : V), kvs[i]? = some (k, v) ∧ x = .ref T ∧ H q = some (.tup (k.map kV)) ∧ H T = none ∧ H' = upd H T (.tup [.ref q, v]), fun i H => H d = some (.frz o (.dT kvs)) ∧ kvs.length ≤ i⟩
section
variable {X : Cx} {pins : List (Addr × Obj)} {σ : L2.St} {H : Hp} {s : Shared} {d : Addr} {o : Obj}
theorem inv_frzT {kvs : List (List Key × V)} (I : Inv X pins σ H s) (h : H d = some (.frz o (.dT kvs))) :
    (d == sysModules) = false ∧ ∃ (es : Array DictEntry) (ep : Nat), s.heap.DictRaw d es ep ∧ o.data = .dict es ep ∧ es.size = kvs.length ∧
      ∀ (i : Nat) (k : List Key) (v : V), kvs[i]? = some (k, v) → ∃ (en : DictEntry) (q : Addr), es[i]? = some en ∧ en.key = .ref q ∧ H q = some (.tup (k.map kV)) ∧ RelV v en.val := by
  obtain ⟨hd, z, hs, xs, pr, o', es, ep, ho, hx, hdt, he, _⟩ := I.hok d _ h
  rw [hd] at ho
  cases ho
  refine ⟨hs, es, ep, ⟨o, hd, hx, hdt⟩, hdt, ?_, fun i k v e => ?_⟩
  · have l1 : es.size = xs.length := size_of_entries he
    have l2 : kvs.length = xs.length := Paired.length pr
    omega
  · obtain ⟨b, hb, e1, e2, e3⟩ := L2.paired_get pr e
    have q := entry_at he i
    rw [hb] at q
    exact ⟨_, b.2.1, q, rfl, e2, e3⟩
end
section
variable {P : Program} {w : World} {K : PySem.W.Frag} {tg : Expr} {d : Addr} {o : Obj} {es : Array DictEntry} {ep : Nat}
theorem turn_itemsT {kvs : List (List Key × V)} {elts : List Expr} {kk : Nat} {tpos : Pos} (it : Addr) (hod : o.data = .dict es ep) :
    Turn P w K (.Tuple elts kk tpos) (Itit d o kvs) [it] it (fun i h => ∃ ok ov, IsItemIter h it d i kvs.length ep ok ov) where
  mem := by simp
  obj := fun i h st b hb => by
    have e : b = it := by simpa using hb
    subst e
    obtain ⟨ok, ov, e⟩ := st
    exact ⟨_, e, fun v z => nomatch z⟩
  keep := fun i h h' st k => let ⟨ok, ov, e⟩ := st; ⟨ok, ov, k it (by simp) _ e⟩
  item := by
    intro X hP hw hK hc i pins s σ H E I hf st hg
    subst hP hw hK
    obtain ⟨hd, hi⟩ := hg
    obtain ⟨hs, es', ep', hraw, hdt, hsz, ent⟩ := inv_frzT I hd
    obtain ⟨rfl, rfl⟩ := dict_ep hod hdt
    obtain ⟨⟨k, v⟩, hkv⟩ : ∃ p, kvs[i]? = some p := ⟨kvs[i], List.getElem?_eq_getElem hi⟩
    obtain ⟨en, q, hen, hkey, hq, ru⟩ := ent i k v hkv
    have hi' : i < es'.size := by omega
    have hen' : es'[i] = en := by
      have z := Array.getElem?_eq_getElem hi'
      rw [hen] at z
      exact (Option.some.inj z).symm
    obtain ⟨ok, ov, he⟩ := st
    rw [← hsz] at he
    have hlt : it < s.heap.objs.size := Heap.lt_size he
    refine wpAny_pyNext_items_item_raw he hraw hi' fun h' ho hT hz hk => ?_
    rw [hen', hkey] at ho hT
    refine ⟨_, rfl, wpAny_letOwnedTupleGo_items (s := { s with heap := h' }) ho fun h'' he' sb => ?_⟩
    have hT2 : h''.get? s.heap.objs.size = some { cls := .type "tuple", data := .seq #[.ref q, en.val] } := (sb.2 _ (Nat.ne_of_gt hlt)).trans hT
    have new : ObjOk X.prog X.w (upd H s.heap.objs.size (.tup [.ref q, v])) h'' s.heap.objs.size (.tup [.ref q, v]) :=
      ⟨by show 2 ≤ sizeLine; decide, [.ref q, en.val], .cons (show RelV (.ref q) (.ref q) from rfl) (.cons ru .nil), ⟨_, hT2, rfl, _, rfl⟩⟩
    have I1 : Inv X pins σ (upd H s.heap.objs.size (.tup [.ref q, v])) { s with heap := h'' } :=
      I.turnedNew (t' := s.toks) (ch := [it]) (fun b ob hb e => (sb.2 b (by simpa using hb)).trans (hk b ob (by simpa using hb) e)) hf (Nat.le_refl _) new
    refine ⟨.ref s.heap.objs.size, _, I1, rfl, ⟨_, q, k, v, hkv, rfl, hq, I.hok.fresh (Nat.le_refl _), rfl⟩, ⟨.ref q, en.val, ?_⟩, fun b hb => ?_⟩
    · rw [← hsz]; exact he'
    · have e : b = it := by simpa using hb
      rw [e, upd_ne (Nat.ne_of_lt hlt)]
      exact (hf it (by simp)).1
  done := by
    intro X hP hw hK hc i pins s σ H E I hf st hg
    subst hP hw hK
    obtain ⟨hd, hi⟩ := hg
    obtain ⟨f0, f1, f2, f3, f4, f5⟩ := hf it (by simp)
    obtain ⟨hs, es', ep', hraw, hdt, hsz, ent⟩ := inv_frzT I hd
    obtain ⟨rfl, rfl⟩ := dict_ep hod hdt
    obtain ⟨ok, ov, he⟩ := st
    rw [← hsz] at he
    exact wpAny_pyNext_items_end_raw (I.ok.hd hc) he hraw (by omega) fun h' eb => ⟨rfl, I.turned (t' := s.toks) (fun b ob hb e => eb b ob hb e) f0 f1 f3 f4 f5⟩
  self := fun A i s Q E st h => let ⟨_, _, e⟩ := st; PySem.W.kcp_self e h
end
def iItemsT (td : TE) : TI := fun σ H R => td σ H fun x H1 => ∃ d o kvs, x = .ref d ∧ H1 d = some (.frz o (.dT kvs)) ∧ R (Itit d o kvs) H1
theorem pi_itemsT {X : Cx} {e : Expr} {td : TE} {apos cpos : Pos} {elts : List Expr} {kk : Nat} {tpos : Pos} (he : PE X e td) (hbase : attributeBase e "items" X.env (eval e X.env) = eval e X.env := by rfl) (hline : (apos.endLine == cpos.line) = true := by rfl) :
    PI X (.Tuple elts kk tpos) (.Call (.Attribute e "items" apos) [] [] cpos) (iItemsT td) := by
  refine ⟨fun pins s σ H R I h => ?_⟩
  refine wpAny_Call_method (T := "dict") (id := "dict.items") hbase rfl hline F.plainAttrs_dict F.slot_dict_items F.type_dict_items (thn (he.run pins s σ H _ I h) fun u s1 ⟨x, H1, I1, rx, d, o, kvs, ex, hd, q⟩ => ?_)
  subst ex
  obtain rfl : u = Value.ref d := rx
  obtain ⟨hs, es, ep, hraw, hdt, hsz, ent⟩ := inv_frzT I1 hd
  refine ⟨hraw.typeIs, (fun a ea => by cases ea; exact (let ⟨_, h1, h2, _⟩ := hraw; ⟨_, h1, h2.2.1⟩)), ?_⟩
  have I2 : Inv X pins σ H1 { s1 with heap := s1.heap.push { cls := .type "dict_items", data := .fields #[.ref d] } } := I1.kept (t' := s1.toks) fun b ob q => Heap.get?_push_of_some _ q
  have fin : wpAny (model X.prog X.w) X.A (pyIter (.ref s1.heap.objs.size)) (PIE X pins σ (.Tuple elts kk tpos) R) X.xe { s1 with heap := s1.heap.push { cls := .type "dict_items", data := .fields #[.ref d] } } := by
    refine wpAny_pyIter_items_raw (d := d) ⟨_, Heap.get?_push_size _ rfl, rfl, rfl⟩ (hraw.at fun o h => Heap.get?_push_of_some _ h) (pi_one (tk := s1.toks) I2 _ (turn_itemsT _ hdt) ⟨.none, .none, ?_⟩ q)
    rw [← hsz]
    exact Heap.get?_push_size _ rfl
  show wpAny _ _ (callWith cpos (.builtin "dict.items") [.ref d] [] []) _ X.xe s1
  exact method_meetsIn F.slot_dict_items F.entry_dict_items rfl (PySem.evalArgs_none ⟨rfl, hraw.typeIs, F.args_dict_items_1 _, _, meets_dict_items_raw d hs, ⟨es, ep, hraw⟩, fin⟩)
/-- the pairs of data -/
def pairsD : D → Option (List W)
  | .dk ks ds => some ((ks.zip ds).map fun p => .da (.tup [kD p.1, p.2]))
  | .dt ks ds => some ((ks.zip ds).map fun p => .da (.tup [.tup (p.1.map kD), p.2]))
  | _ => none
theorem rpl_kD {K : PySem.W.Frag} {cl : Str → Option Addr} {F : Hp} : ∀ ks : List Key, RpL K cl F (ks.map kD) (ks.map kV)
  | [] => rfl
  | k :: ks => ⟨_, _, rfl, kD_ok k, rpl_kD ks⟩
section
variable {cl : Str → Option Addr}
theorem zip_get {α β : Type} : ∀ {ks : List α} {vs : List β} {i : Nat} {k : α} {v : β}, (ks.zip vs)[i]? = some (k, v) → ks[i]? = some k ∧ vs[i]? = some v
  | [], _, i, k, v, h => by simp at h
  | _ :: _, [], i, k, v, h => by simp at h
  | a :: ks, b :: vs, 0, k, v, h => by simp at h; exact ⟨by simp [h.1], by simp [h.2]⟩
  | a :: ks, b :: vs, i + 1, k, v, h => by
    rw [List.zip_cons_cons, List.getElem?_cons_succ] at h
    obtain ⟨h1, h2⟩ := zip_get h
    exact ⟨by simpa using h1, by simpa using h2⟩
theorem zip_at {α β : Type} {ks : List α} {vs : List β} {i : Nat} {k : α} {v : β} (h1 : ks[i]? = some k) (h2 : vs[i]? = some v) : (ks.zip vs)[i]? = some (k, v) := by
  rw [List.getElem?_zip_eq_some]
  exact ⟨h1, h2⟩
theorem wk_items {K : PySem.W.Frag} {d : Addr} {o : Obj} {ks : List Key} {ds : List D} {vs : List V} {G : Y → Sto → Prop} (hn : ks.length = vs.length) (h : ∀ y S, Bs K cl y S → G y S → y.H d = some (.frz o (.dK (ks.zip vs))) ∧ RpL K cl y.F ds vs) :
    Wk K cl (Iti d o (ks.zip vs)) ((ks.zip ds).map fun p => .da (.tup [kD p.1, p.2])) G := by
  have len : ∀ y S, Bs K cl y S → G y S → ((ks.zip ds).map fun p => W.da (.tup [kD p.1, p.2])).length = (ks.zip vs).length := fun y S b g => by
    have := (h y S b g).2.length
    simp [this]
  refine ⟨fun i y S hi b g => ⟨(h y S b g).1, by rw [len y S b g] at hi; exact hi⟩, fun y S b g => ⟨(h y S b g).1, by rw [len y S b g]; exact Nat.le_refl _⟩, fun i y S x H' hi b g hy => ?_⟩
  obtain ⟨T, k, v, hk, rfl, hT, rfl⟩ := hy
  obtain ⟨h1, h2⟩ := zip_get hk
  have r := (h y S b g).2
  have hd : i < ds.length := by rw [r.length]; exact (List.getElem?_eq_some_iff.mp h2).1
  obtain ⟨v', e1, e2⟩ := RpL.get r (List.getElem?_eq_getElem hd)
  rw [h2] at e1
  cases e1
  have al := Al.new (o := .tup [kV k, v]) b.fz hT
  refine ⟨_, .da (.tup [kD k, ds[i]]), al, by rw [List.getElem?_map, zip_at h1 (List.getElem?_eq_getElem hd)]; rfl, ⟨T, _, rfl, upd_same, _, _, rfl, kD_ok k, _, _, rfl, Rp.xt al.f _ _ e2, rfl⟩⟩
theorem wk_itemsT {K : PySem.W.Frag} {d : Addr} {o : Obj} {ks : List (List Key)} {ds : List D} {vs : List V} {G : Y → Sto → Prop} (hn : ks.length = vs.length) (h : ∀ y S, Bs K cl y S → G y S → y.H d = some (.frz o (.dT (ks.zip vs))) ∧ RpL K cl y.F ds vs) :
    Wk K cl (Itit d o (ks.zip vs)) ((ks.zip ds).map fun p => .da (.tup [.tup (p.1.map kD), p.2])) G := by
  have len : ∀ y S, Bs K cl y S → G y S → ((ks.zip ds).map fun p => W.da (.tup [.tup (p.1.map kD), p.2])).length = (ks.zip vs).length := fun y S b g => by
    have := (h y S b g).2.length
    simp [this]
  refine ⟨fun i y S hi b g => ⟨(h y S b g).1, by rw [len y S b g] at hi; exact hi⟩, fun y S b g => ⟨(h y S b g).1, by rw [len y S b g]; exact Nat.le_refl _⟩, fun i y S x H' hi b g hy => ?_⟩
  obtain ⟨T, q, k, v, hk, rfl, hq, hT, rfl⟩ := hy
  obtain ⟨h1, h2⟩ := zip_get hk
  have r := (h y S b g).2
  have hd : i < ds.length := by rw [r.length]; exact (List.getElem?_eq_some_iff.mp h2).1
  obtain ⟨v', e1, e2⟩ := RpL.get r (List.getElem?_eq_getElem hd)
  rw [h2] at e1
  cases e1
  have a1 := Al.tup b.fz hq
  have a2 := Al.new (o := .tup [.ref q, v]) a1.x hT
  refine ⟨_, .da (.tup [.tup (k.map kD), ds[i]]), a1.trans a2, by rw [List.getElem?_map, zip_at h1 (List.getElem?_eq_getElem hd)]; rfl, ⟨T, _, rfl, upd_same, _, _, rfl, ⟨q, _, rfl, a2.f q _ upd_same, rpl_kD k⟩, _, _, rfl, Rp.xt (a1.trans a2).f _ _ e2, rfl⟩⟩
end
noncomputable def mForI (e : ME) (g : MG) (body : MS) : MS := fun ρ S => (e ρ S).out ρ fun w S => match w with
  | .da d => match pairsD d with
    | some ws => loopM g body ws ρ S
    | none => .stuck
  | _ => .stuck
noncomputable def mLcI (mk : Option Cell → Sto → Rs W) (e : ME) (vs : List Nat) (g : MG) (mt : MT) (me : ME) : ME := fun ρ S => (e ρ S).bind fun w S => match w with
  | .da d => match pairsD d with
    | some ws => (lcM g mt me (wipeR ρ vs) ws [] S).bind (mkLst mk)
    | none => .stuck
  | _ => .stuck
section
variable {X : Cx} {cl : Str → Option Addr} {xa : Option (Nat × Addr)} {Wx : WX} {pos apos cpos tpos : Pos} {a b c e elt : Expr} {es elts ifs : List Expr} {kk : Nat} {ma mb mc me mi : ME} {mr : MA} {mt : MT} {st : Stmt} {body : List Stmt} {m n : MS} {g : MG} {gt : TG} {scope : Scope} {own : List (Str × Nat)} {mk : Option Cell → Sto → Rs W}
theorem qs_forI (hp : PassesOwn (model X.prog X.w) X.A X.env X.xe) (hc : X.calm = true) (hi : QE X cl xa Wx e me) (hg : QG X cl xa (.Tuple elts kk tpos) g) (hb : QB X cl xa Wx body m)
    (hbase : attributeBase e "items" X.env (eval e X.env) = eval e X.env := by rfl) (hline : (apos.endLine == cpos.line) = true := by rfl)
    (hs : ∀ x, foldedSetIterable (.Call (.Attribute e "items" apos) [] [] cpos) X.env x = pure x := by intro _; rfl) : QS X cl xa Wx (.For (.Tuple elts kk tpos) (.Call (.Attribute e "items" apos) [] [] cpos) body [] pos) (mForI me g m) := by
  obtain ⟨t, p, q⟩ := hi
  obtain ⟨t2, p2, q2⟩ := hg
  obtain ⟨t3, p3, q3⟩ := hb
  refine ⟨_, ps_anyS, fun C y σ ρ S s Z h => ?_⟩
  by_cases bad : ∀ w S', me ρ S ≠ .ok w S'
  · exact ⟨_, ps_for hp hc (pi_items p hbase hline) p2 p3 hs, q.bad s h bad _⟩
  · cases e0 : me ρ S with
    | stuck => exact absurd (by intro w S' z; rw [e0] at z; cases z) bad
    | ex x S' => exact absurd (by intro w S' z; rw [e0] at z; cases z) bad
    | ok w S0 =>
      unfold mForI at h
      rw [e0] at h
      simp only [Rs.out] at h
      cases w with
      | xc => exact h.elim
      | lo k => exact h.elim
      | da d =>
        simp only at h
        split at h
        · rename_i ws hd
          rw [loopM_P] at h
          unfold pairsD at hd
          split at hd
          · cases hd
            refine ⟨_, ps_for hp hc (pi_items p hbase hline) p2 p3 hs, q.now s e0 fun v z s1 g1 r1 => ?_⟩
            obtain ⟨a, vs, rfl, ⟨o, tl⟩, nl, l⟩ := r1
            exact ⟨a, o, _, rfl, s1.bs.fz _ _ tl, run_for q2 q3 (wk_items (G := fun y S => Gr z y) nl fun y S b g => ⟨b.fz _ _ (g.f _ _ tl), RpL.xt g.f _ _ l⟩) (fun y S g p => g) s1 (PostS.mono g1 h)⟩
          · cases hd
            refine ⟨_, ps_for hp hc (pi_itemsT p hbase hline) p2 p3 hs, q.now s e0 fun v z s1 g1 r1 => ?_⟩
            obtain ⟨a, vs, rfl, ⟨o, tl⟩, nl, l⟩ := r1
            exact ⟨a, o, _, rfl, s1.bs.fz _ _ tl, run_for q2 q3 (wk_itemsT (G := fun y S => Gr z y) nl fun y S b g => ⟨b.fz _ _ (g.f _ _ tl), RpL.xt g.f _ _ l⟩) (fun y S g p => g) s1 (PostS.mono g1 h)⟩
          · cases hd
        · exact h.elim
theorem walk_lcI {t : TE} (hmk : MkOk X.K cl xa mk) (p : PE X e t) (q : SE X.K cl xa Wx t mi) {vs0 : List Nat} (hsg : SGw X.K cl vs0 gt g) {C : Cn} {y : Y} {σ : L2.St} {ρ : Rho} {S : Sto} (s : Sim X.K cl xa C y σ ρ S) {Q : VK}
    (h : Post X.K cl xa C Wx y σ ρ (mLcI mk mi vs0 g mt me ρ S) (OkE X.K cl xa C y σ ρ Q)) (hbase : attributeBase e "items" X.env (eval e X.env) = eval e X.env) (hline : (apos.endLine == cpos.line) = true) :
    ∃ wi, PI X (.Tuple elts kk tpos) (.Call (.Attribute e "items" apos) [] [] cpos) wi ∧ tLc wi gt (TTm X.K cl xa W0 mt) (TEm X.K cl xa W0 me) vs0 σ y.H Q := by
  unfold mLcI at h
  by_cases bad : ∀ w S', mi ρ S ≠ .ok w S'
  · exact ⟨_, pi_items p hbase hline, q.badE s h bad _⟩
  · cases e0 : mi ρ S with
    | stuck => exact absurd (by intro w S' z; rw [e0] at z; cases z) bad
    | ex x S' => exact absurd (by intro w S' z; rw [e0] at z; cases z) bad
    | ok w S0 =>
      rw [e0] at h
      simp only [Rs.bind] at h
      have fin : ∀ {ws : List W} {J : It} {G : Y → Sto → Prop} {z : Y} {pp : Addr}, Post X.K cl xa C Wx y σ ρ ((lcM g mt me (wipeR ρ vs0) ws [] S0).bind (mkLst mk)) (OkE X.K cl xa C y σ ρ Q) → Wk X.K cl J ws G → (∀ y S, Gr z y → True → G y S) → Sim X.K cl xa C z σ ρ S0 → Gr y z → z.H pp = none →
          ∃ W : Nat → Nat → Hp → Prop, (∃ m, W 0 m (upd z.H pp (.lst []))) ∧ ∀ i m H, W i m H →
            (J.stop i H ∧ Q (.ref pp) H) ∨ (J.go i H ∧ ∃ Nx : Hp → Prop, (∀ H', Nx H' → ∃ m', m' < m ∧ W (i + 1) m' H') ∧ ∀ x H', J.yld i H x H' → gt x (L2.wipe σ vs0) H' fun σ2 H2 => L2.wipe σ2 vs0 = L2.wipe σ vs0 ∧ TTm X.K cl xa W0 mt σ2 H2 fun b H3 =>
              if b = true then TEm X.K cl xa W0 me σ2 H3 fun u H4 => ∃ acc, H4 pp = some (.lst acc) ∧ acc.length < sizeLine ∧ Nx (upd H4 pp (.lst (acc ++ [u]))) else Nx H3) := fun {ws J G z pp} h wk hG s1 g1 hp => by
        rw [lcM_P] at h
        cases e2 : lcP (fun _ => True) g mt me (wipeR ρ vs0) ws [] S0 with
        | stuck => rw [e2] at h; exact h.elim
        | ex x S' => exact absurd e2 (lcP_noex _ _ _ _ _)
        | ok ys S' =>
          rw [e2] at h
          exact run_lc hsg wk hG s1 hp e2 fun z2 vacc s2 g2 k1 k2 k3 k4 k5 => hmk C Wx y z2 σ ρ S' ys vacc pp Q s2 (g1.trans g2) k1 k2 k3 k4 k5 h
      cases w with
      | xc => exact h.elim
      | lo k => exact h.elim
      | da d =>
        simp only at h
        split at h
        · rename_i ws hd
          unfold pairsD at hd
          split at hd
          · cases hd
            refine ⟨_, pi_items p hbase hline, q.now s e0 fun v z s1 g1 r1 => ?_⟩
            obtain ⟨a, vs, rfl, ⟨o, tl⟩, nl, l⟩ := r1
            exact ⟨a, o, _, rfl, s1.bs.fz _ _ tl, fun pp hp => fin h (wk_items (G := fun y S => Gr z y) nl fun y S b g => ⟨b.fz _ _ (g.f _ _ tl), RpL.xt g.f _ _ l⟩) (fun y S g p => g) s1 g1 hp⟩
          · cases hd
            refine ⟨_, pi_itemsT p hbase hline, q.now s e0 fun v z s1 g1 r1 => ?_⟩
            obtain ⟨a, vs, rfl, ⟨o, tl⟩, nl, l⟩ := r1
            exact ⟨a, o, _, rfl, s1.bs.fz _ _ tl, fun pp hp => fin h (wk_itemsT (G := fun y S => Gr z y) nl fun y S b g => ⟨b.fz _ _ (g.f _ _ tl), RpL.xt g.f _ _ l⟩) (fun y S g p => g) s1 g1 hp⟩
          · cases hd
        · exact h.elim
theorem qe_lcI (hmk : MkOk X.K cl xa mk) (hc : X.calm = true) (hN : X.N.Nodup) (hi : QE X cl xa Wx e mi) (ok : BlkOk X.N X.env.scope scope own) (hsg : SGw X.K cl (own.map (·.2)) gt g)
    (hg : ∀ (s : Shared) (H : Hp) (A : Addr) (c2 : List (Str × Addr)) (fp : List Addr), PG (X.blk s H scope (compEnvC scope c2 A X.env) fp) (.Tuple elts kk tpos) gt)
    (ht : ∀ (s : Shared) (H : Hp) (A : Addr) (c2 : List (Str × Addr)) (fp : List Addr), PTs (X.blk s H scope (compEnvC scope c2 A X.env) fp) ifs (TTm X.K cl xa W0 mt))
    (he : ∀ (s : Shared) (H : Hp) (A : Addr) (c2 : List (Str × Addr)) (fp : List Addr), QE (X.blk s H scope (compEnvC scope c2 A X.env) fp) cl xa W0 elt me)
    (hbase : attributeBase e "items" X.env (eval e X.env) = eval e X.env := by rfl) (hline : (apos.endLine == cpos.line) = true := by rfl)
    (hs : ∀ x, foldedSetIterable (.Call (.Attribute e "items" apos) [] [] cpos) X.env x = pure x := by intro _; rfl) :
    QE X cl xa Wx (.ListComp elt [⟨.Tuple elts kk tpos, .Call (.Attribute e "items" apos) [] [] cpos, ifs, 0⟩] scope pos) (mLcI mk mi (own.map (·.2)) g mt me) := by
  obtain ⟨t, p, q⟩ := hi
  refine ⟨_, pe_anyE, fun C y σ ρ S s Q h => ?_⟩
  obtain ⟨wi, hpi, hr⟩ := walk_lcI (elts := elts) (kk := kk) (tpos := tpos) (apos := apos) (cpos := cpos) hmk p q hsg s h hbase hline
  exact ⟨_, pe_lc (te := TEm X.K cl xa W0 me) hc hN hpi ok hg ht (fun s H A c2 fp => pe_m (he s H A c2 fp)) hs, hr⟩
theorem qs_setLcI {i : Nat} {y' : Str} {py spos : Pos} (hmk : MkOk X.K cl xa mk) (hc : X.calm = true) (hN : X.N.Nodup) (hy : X.N[i]? = some y') (hyl : X.env.scope.names.lookup y' = some .local)
    (hsw : swapsWith (.ListComp elt [⟨.Tuple elts kk tpos, .Call (.Attribute e "items" apos) [] [] cpos, ifs, 0⟩] scope pos) (some (.Name y' py)) spos.line X.env = pure true) (hi : QE X cl xa Wx e mi) (ok : BlkOk X.N X.env.scope scope own) (hsg : SGw X.K cl (own.map (·.2)) gt g)
    (hg : ∀ (s : Shared) (H : Hp) (A : Addr) (c2 : List (Str × Addr)) (fp : List Addr), PG (X.blk s H scope (compEnvC scope c2 A X.env) fp) (.Tuple elts kk tpos) gt)
    (ht : ∀ (s : Shared) (H : Hp) (A : Addr) (c2 : List (Str × Addr)) (fp : List Addr), PTs (X.blk s H scope (compEnvC scope c2 A X.env) fp) ifs (TTm X.K cl xa W0 mt))
    (he : ∀ (s : Shared) (H : Hp) (A : Addr) (c2 : List (Str × Addr)) (fp : List Addr), QE (X.blk s H scope (compEnvC scope c2 A X.env) fp) cl xa W0 elt me)
    (hbase : attributeBase e "items" X.env (eval e X.env) = eval e X.env := by rfl) (hline : (apos.endLine == cpos.line) = true := by rfl)
    (hs : ∀ x, foldedSetIterable (.Call (.Attribute e "items" apos) [] [] cpos) X.env x = pure x := by intro _; rfl) :
    QS X cl xa Wx (.Assign [.Name y' py] (.ListComp elt [⟨.Tuple elts kk tpos, .Call (.Attribute e "items" apos) [] [] cpos, ifs, 0⟩] scope pos) spos) (mSet i (mLcI mk mi (own.map (·.2)) g mt me)) := by
  obtain ⟨t, p, q⟩ := hi
  refine ⟨_, ps_anyS, fun C y σ ρ S s Z h => ?_⟩
  have h2 : Post X.K cl xa C Wx y σ ρ (mLcI mk mi (own.map (·.2)) g mt me ρ S) (OkE X.K cl xa C y σ ρ fun v H => (gName i) v σ H fun σ' H' => Z.nx σ' H') := PostS.go h fun w S1 h1 v z s1 g1 r1 => h1 y (Gr.refl _) _ z (s1.set i r1) g1
  obtain ⟨wi, hpi, hr⟩ := walk_lcI (elts := elts) (kk := kk) (tpos := tpos) (apos := apos) (cpos := cpos) hmk p q hsg s h2 hbase hline
  exact ⟨_, ps_setLc (te := TEm X.K cl xa W0 me) hc hN hy hyl hsw hpi ok hg ht (fun s H A c2 fp => pe_m (he s H A c2 fp)) hs, hr⟩
end
end Ng
namespace Ng
open PySem PySem.Spec PyProof.Rows L2
/-! ### plain functions called by lists that are cells: what comes out holds no list -/
mutual
def noL : D → Bool
  | .non => true
  | .bl _ => true
  | .int _ => true
  | .str _ => true
  | .tup ds => noLs ds
  | .wt ds => noLs ds
  | .lst _ => false
  | .scr _ => false
  | .dk _ ds => noLs ds
  | .dt _ ds => noLs ds
  | .obj _ _ ds => noLs ds
def noLs : List D → Bool
  | [] => true
  | d :: ds => noL d && noLs ds
end
def noLW : W → Bool
  | .da d => noL d
  | _ => false
def isLT : Option HO → Prop
  | some (.lst _) => True
  | some (.tup _) => True
  | _ => False
open Classical in
/-- list and tuple cells as if they were frozen -/
noncomputable def Y.fzLT (y : Y) : Hp := fun b => if b ∈ y.m ∧ y.F b = none ∧ isLT (y.H b) then y.H b else y.F b
open Classical in
/-- .. and the lists taken out again -/
noncomputable def Y.unL (y : Y) (F' : Hp) : Hp := fun b => if b ∈ y.m ∧ y.F b = none ∧ ∃ vs, y.H b = some (.lst vs) then none else F' b
theorem Y.fzLT_ex (y : Y) : Ex y.F y.fzLT := fun b o e => by
  unfold Y.fzLT
  rw [if_neg (by rintro ⟨_, h, _⟩; rw [e] at h; cases h)]
  exact e
theorem Y.fzLT_h {y : Y} (x : Ex y.F y.H) : Ex y.fzLT y.H := fun b o e => by
  unfold Y.fzLT at e
  split at e
  · exact e
  · exact x b o e
section
variable {K : PySem.W.Frag} {cl : Str → Option Addr} {y : Y} {S : Sto}
theorem fzLT_at (b : Bs K cl y S) {n : Nat} {c : Cell} {a : Addr} (hc : S[n]? = some c) (hd : c ≠ .dead) (ea : y.m[n]? = some a) (hl : isLT (y.H a)) : y.fzLT a = y.H a := by
  unfold Y.fzLT
  cases h : y.F a with
  | none => rw [if_pos ⟨List.mem_of_getElem? ea, rfl, hl⟩]
  | some o => rw [if_neg (fun z => nomatch z.2.1), b.fz a o h]
theorem valLT_ok (b : Bs K cl y S) {w : W} {v : V} {d : D} (r : RW K cl y w v) (h : valW S w = some d) : Rp K cl y.fzLT d v := by
  unfold valW at h
  split at h
  · cases h; exact Rp.xt y.fzLT_ex _ _ r
  · obtain ⟨a, e, rfl⟩ := r
    split at h
    · rename_i ws hc
      obtain ⟨_, vs, e2, l⟩ := b.at hc (by intro z; cases z) e
      obtain ⟨ds, q, rfl⟩ := Option.map_eq_some_iff.mp h
      exact ⟨a, vs, rfl, by rw [fzLT_at b hc (by intro z; cases z) e (by rw [e2]; trivial)]; exact e2, RpL.xt y.fzLT_ex _ _ (dats_ok l q)⟩
    · rename_i ws hc
      obtain ⟨_, vs, e2, l⟩ := b.at hc (by intro z; cases z) e
      obtain ⟨ds, q, rfl⟩ := Option.map_eq_some_iff.mp h
      exact ⟨a, vs, rfl, by rw [fzLT_at b hc (by intro z; cases z) e (by rw [e2]; trivial)]; exact e2, RpL.xt y.fzLT_ex _ _ (dats_ok l q)⟩
    · cases h
  · cases h
theorem valsLT_ok (b : Bs K cl y S) : ∀ {ws : List W} {vs : List V} {ds : List D}, RWL K cl y ws vs → valsW S ws = some ds → RpL K cl y.fzLT ds vs
  | _, _, ds, .nil, h => by cases h; exact rfl
  | w :: ws, _, ds, .cons r t, h => by
    simp only [valsW] at h
    split at h
    · rename_i d ds' e1 e2
      cases h
      exact ⟨_, _, rfl, valLT_ok b r e1, valsLT_ok b t e2⟩
    · cases h
variable {F' H' : Hp}
theorem unL_al (x : Ex y.F y.H) (a : Al y.fzLT y.H F' H') : Al y.F y.H (y.unL F') H' :=
  ⟨fun b o e => by
    unfold Y.unL
    rw [if_neg (by rintro ⟨_, h, _⟩; rw [e] at h; cases h)]
    exact a.f b o (y.fzLT_ex b o e), a.h, fun b o e => by
    unfold Y.unL at e
    split at e
    · cases e
    · exact a.x b o e, fun b o e => by
    unfold Y.unL at e
    split at e
    · cases e
    · rename_i hn
      rcases a.n b o e with z | z | z
      · unfold Y.fzLT at z
        split at z
        · rename_i hc
          right; right
          have hl := hc.2.2
          rw [z] at hl
          cases o with
          | tup xs => exact ⟨xs, rfl⟩
          | lst xs => exact absurd ⟨hc.1, hc.2.1, xs, z⟩ hn
          | _ => exact hl.elim
        · exact .inl z
      · exact .inr (.inl z)
      · exact .inr (.inr z)⟩
theorem unL_keep (a : Al y.fzLT y.H F' H') {b : Addr} {o : HO} (e : F' b = some o) (hn : ∀ xs, o ≠ .lst xs) : y.unL F' b = some o := by
  unfold Y.unL
  rw [if_neg]
  · exact e
  · rintro ⟨_, _, vs, h⟩
    have h1 := a.h b _ h
    rw [a.x b o e] at h1
    cases h1
    exact hn vs rfl
mutual
theorem unL_rp (a : Al y.fzLT y.H F' H') : ∀ (d : D) (v : V), noL d = true → Rp K cl F' d v → Rp K cl (y.unL F') d v
  | .non, v, _, h => h
  | .bl b, v, _, h => h
  | .int i, v, _, h => h
  | .str s, v, _, h => h
  | .tup ds, v, n, h => by
    obtain ⟨p, vs, e, q, r⟩ := h
    exact ⟨p, vs, e, unL_keep a q (by intro xs z; cases z), unL_rpl a ds vs (by simpa [noL] using n) r⟩
  | .wt ds, v, n, h => by
    obtain ⟨p, vs, e, q, r⟩ := h
    refine ⟨p, vs, e, ?_, unL_rpl a ds vs (by simpa [noL] using n) r⟩
    refine q.imp (fun q => ?_) id
    rcases q with q | ⟨u, q⟩
    · exact .inl (unL_keep a q (by intro xs z; cases z))
    · exact .inr ⟨u, unL_keep a q (by intro xs z; cases z)⟩
  | .lst ds, v, n, h => by simp [noL] at n
  | .scr ds, v, n, h => by simp [noL] at n
  | .dk ks ds, v, n, h => by
    obtain ⟨p, vs, e, ⟨o, q⟩, l, r⟩ := h
    exact ⟨p, vs, e, ⟨o, unL_keep a q (by intro xs z; cases z)⟩, l, unL_rpl a ds vs (by simpa [noL] using n) r⟩
  | .dt ks ds, v, n, h => by
    obtain ⟨p, vs, e, ⟨o, q⟩, l, r⟩ := h
    exact ⟨p, vs, e, ⟨o, unL_keep a q (by intro xs z; cases z)⟩, l, unL_rpl a ds vs (by simpa [noL] using n) r⟩
  | .obj c fs ds, v, n, h => by
    obtain ⟨p, C, dx, vs, e, q, l, n2, r⟩ := h
    exact ⟨p, C, dx, vs, e, q, unL_keep a l (by intro xs z; cases z), n2, unL_rpl a ds vs (by simpa [noL] using n) r⟩
theorem unL_rpl (a : Al y.fzLT y.H F' H') : ∀ (ds : List D) (vs : List V), noLs ds = true → RpL K cl F' ds vs → RpL K cl (y.unL F') ds vs
  | [], vs, _, h => h
  | d :: ds, vs, n, h => by
    obtain ⟨v, r, e, q, t⟩ := h
    have n' : noL d = true ∧ noLs ds = true := by simpa [noLs] using n
    exact ⟨v, r, e, unL_rp a d v n'.1 q, unL_rpl a ds r n'.2 t⟩
end
theorem unL_rwl {m : List Addr} (a : Al y.fzLT y.H F' H') : ∀ {ws : List W} {vs : List V}, ws.all noLW = true → RWL K cl ⟨F', H', []⟩ ws vs → RWL K cl ⟨y.unL F', H', m⟩ ws vs
  | _, _, _, .nil => .nil
  | w :: ws, _, n, .cons r t => by
    simp only [List.all_cons, Bool.and_eq_true] at n
    refine .cons ?_ (unL_rwl a n.2 t)
    cases w with
    | da d => exact unL_rp a d _ n.1 r
    | lo k => cases n.1
    | xc => cases n.1
end
def reN (r : Re D) (S : Sto) : Rs W := match r with
  | .ok d => if noL d = true then .ok (.da d) S else .stuck
  | .ex x => if x.ws.all noLW = true then .ex x S else .stuck
  | .stuck => .stuck
def callN (p : List D → Re D) (ws : List W) (S : Sto) : Rs W := match dats ws with
  | some ds => reK (p ds) S
  | none => match valsW S ws with
    | some ds => reN (p ds) S
    | none => .stuck
def mCallN (p : List D → Re D) (mr : MA) : ME := mCall (callN p) mr
section
variable {X : Cx} {cl : Str → Option Addr} {xa : Option (Nat × Addr)} {Wx : WX}
theorem useN {K : PySem.W.Frag} {C : Cn} {y : Y} {σ : L2.St} {ρ : Rho} {S : Sto} {ws : List W} {vs : List V} {p : List D → Re D} {Q : VK} (s : Sim K cl xa C y σ ρ S) (r : RWL K cl y ws vs) (h : Post K cl xa C Wx y σ ρ (callN p ws S) (OkE K cl xa C y σ ρ Q)) : SpP K cl p vs y.H Q (WE Wx σ) := by
  unfold callN at h
  split at h
  · rename_i ds hd
    refine ⟨y.F, ds, s.bs.fz, dats_ok r hd, ?_⟩
    cases e : p ds with
    | ok d => rw [e] at h; exact fun v F' H' al rd => h v _ (s.al al) al.gr rd
    | ex x => rw [e] at h; exact fun cls dd F' H' al xr => h cls dd _ (s.al al) al.gr (XR.grow (y := ⟨F', H', []⟩) ⟨Ex.refl _, List.nil_prefix⟩ xr)
    | stuck => rw [e] at h; exact h
  · split at h
    · rename_i ds hd
      refine ⟨y.fzLT, ds, y.fzLT_h s.bs.fz, valsLT_ok s.bs r hd, ?_⟩
      cases e : p ds with
      | ok d =>
        rw [e] at h
        simp only [reN] at h
        split at h
        · rename_i hf
          intro v F' H' al rd
          have al2 := unL_al s.bs.fz al
          exact h v _ (s.al al2) al2.gr (unL_rp al d v hf rd)
        · exact h.elim
      | ex x =>
        rw [e] at h
        simp only [reN] at h
        split at h
        · rename_i hf
          intro cls dd F' H' al xr
          have al2 := unL_al s.bs.fz al
          obtain ⟨C', h1, h2, h3⟩ := xr
          refine h cls dd _ (s.al al2) al2.gr ⟨C', h1, h2, h3.imp id ?_⟩
          rintro ⟨h4, d, vs, h5, h6, h7, h8⟩
          exact ⟨h4, d, vs, h5, unL_keep al h6 (by intro xs z; cases z), h7, unL_rwl al hf h8⟩
        · exact h.elim
      | stuck => rw [e] at h; exact h
    · exact h.elim
variable {CX : CXT} {k : Nat} {f : Addr} {fd : FuncData} {ps : List Str} {x : Str} {pp pos : Pos} {e : Expr} {es : List Expr} {mr : MA} {p : List D → Re D} {pS : List W → Sto → Rs W}
theorem qe_callN (G : FnOk X.prog X.w X.K X.mg X.base CX k f fd ps (SpP X.K cl p)) (hr : Room k X.A) (hg : Gl X x) (hm : X.mg x = some (.ref f)) (hk : PySem.W.keepIn X.K (.ref f) = true) (hb : Binds X.K fd ps []) (px : ∀ σ, PassesAt CX X σ (WE Wx σ))
    (ha : QA X cl xa Wx (e :: es) mr) (hdb : (x == ("__debug__" : Str)) = false := by decide) (he : starEach (e :: es) X.env = (false, eval e X.env) :: starEach es X.env := by rfl) (hpl : (backTo pos (starEach es X.env)).any (·.1) = false := by rfl) :
    QE X cl xa Wx (.Call (.Name x pp) (e :: es) [] pos) (mCallN p mr) := by
  obtain ⟨t, pa, q⟩ := ha
  refine ⟨_, pe_callS G hr hg hm hk hb px pa hdb he hpl, fun C y σ ρ S s Q h => ?_⟩
  refine q C y σ ρ S s _ (Post.go h fun ws S1 h1 vs z s1 g1 r1 => ?_)
  exact useN s1 r1 (Post.re (h1 z g1) g1)
end

/-! ### classes -/
structure ClsAt (K : PySem.W.Frag) (mg : Str → Option Value) (cl : Str → Option Addr) (c : Str) (C : Addr) : Prop where
  at_ : cl c = some C
  mgd : mg c = some (.ref C)
  cls : Cls K C
/-- a method of a class of the text's top -/
structure MethAt (K : PySem.W.Frag) (m qual : Str) (st : Stmt) (ps : List Str) (C : Addr) (f : Addr) (fd : FuncData) : Prop where
  fn : Fun K m qual st f fd
  mt : Meth K C m f
  bd : Binds K fd ps []
/-- the classes of which f is a field -/
def FldOk (K : PySem.W.Frag) (cl : Str → Option Addr) (f : Str) (cs : List Str) : Prop := ∀ c ∈ cs, ∀ C, cl c = some C → Cls K C ∧ NoAttr K C f
theorem fldOk_nil {K : PySem.W.Frag} {cl : Str → Option Addr} {f : Str} : FldOk K cl f [] := fun c h => by cases h
theorem fldOk_cons {K : PySem.W.Frag} {cl : Str → Option Addr} {f c : Str} {cs : List Str} {C : Addr} (h : cl c = some C) (hc : Cls K C) (hn : NoAttr K C f) (r : FldOk K cl f cs) : FldOk K cl f (c :: cs) := fun x hx D hD => by
  rcases List.mem_cons.mp hx with rfl | hx
  · rw [h] at hD; cases hD; exact ⟨hc, hn⟩
  · exact r x hx D hD
theorem lookup_look {K : PySem.W.Frag} {cl : Str → Option Addr} {y : Y} {f : Str} : ∀ {fws : List (Str × W)} {fvs : List (Str × V)}, RWP K cl y fws fvs → (∀ w, look fws f = some w → ∃ v, fvs.lookup f = some v ∧ RW K cl y w v) ∧ (look fws f = none → fvs.lookup f = none)
  | _, _, .nil => ⟨fun w e => (by cases e), fun _ => rfl⟩
  | (j, w) :: fws, (j', v) :: fvs, .cons ⟨e, r⟩ t => by
    cases (show j = j' from e)
    simp only [look, List.lookup_cons]
    by_cases h : j = f
    · subst h
      rw [if_pos rfl, beq_self_eq_true]
      refine ⟨fun u e => ?_, fun e => by cases e⟩
      cases e
      exact ⟨v, rfl, r⟩
    · have : (f == j) = false := by simp; exact fun z => h z.symm
      rw [if_neg h, this]
      exact lookup_look t
/-- an instance: its class and its fields -/
def insW (S : Sto) : W → Option (Str × List (Str × W))
  | .da (.obj c fs ds) => some (c, fs.zip (ds.map .da))
  | .lo n => match S[n]? with
    | some (.ins c fws) => some (c, fws)
    | _ => none
  | _ => none
theorem insW_ok {K : PySem.W.Frag} {cl : Str → Option Addr} {y : Y} {S : Sto} (b : Bs K cl y S) {w : W} {v : V} {c : Str} {fws : List (Str × W)} (r : RW K cl y w v) (h : insW S w = some (c, fws)) : ∃ a C dx fvs, v = .ref a ∧ cl c = some C ∧ y.H a = some (.ins C dx fvs) ∧ RWP K cl y fws fvs := by
  unfold insW at h
  split at h
  · cases h
    obtain ⟨a, C, dx, vs, e, q, l, n, t⟩ := r
    exact ⟨a, C, dx, _, e, q, b.fz _ _ l, rwp_of (rwl_da t) n⟩
  · obtain ⟨a, e, rfl⟩ := r
    split at h
    · rename_i hc
      cases h
      obtain ⟨_, C, dx, fvs, k, e2, l⟩ := b.at hc (by intro z; cases z) e
      exact ⟨a, C, dx, fvs, rfl, k, e2, l⟩
    · cases h
  · cases h
def fldW (cs : List Str) (f : Str) (w : W) (S : Sto) : Option W := match insW S w with
  | some (c, fws) => if c ∈ cs then look fws f else none
  | none => none
def mFld (cs : List Str) (f : Str) (me : ME) : ME := mUn (vl1 (fldW cs f)) me
section
variable {X : Cx} {cl : Str → Option Addr} {xa : Option (Nat × Addr)} {Wx : WX} {pos pos' apos cpos : Pos} {e o value : Expr} {es : List Expr} {me mo mv : ME} {mr : MA} {f : Str} {cs : List Str}
theorem qe_fld (hf : FldOk X.K cl f cs) (he : QE X cl xa Wx e me) (hb : attributeBase e f X.env (eval e X.env) = eval e X.env := by rfl) : QE X cl xa Wx (.Attribute e f pos) (mFld cs f me) := by
  obtain ⟨t, p, q⟩ := he
  refine ⟨_, pe_fld p hb, se_un (X := X) (r := fun x H Q => ∃ a C dx fs v, x = .ref a ∧ H a = some (.ins C dx fs) ∧ Cls X.K C ∧ NoAttr X.K C f ∧ fs.lookup f = some v ∧ Q v H) (V1.h ?_) q⟩
  intro y S b w v r u e Q g
  unfold fldW at e
  split at e
  · rename_i c fws hi
    split at e
    · rename_i hc
      obtain ⟨a, C, dx, fvs, rfl, h1, h2, h3⟩ := insW_ok b r hi
      obtain ⟨z, l1, l2⟩ := (lookup_look h3).1 u e
      obtain ⟨k1, k2⟩ := hf c hc C h1
      exact ⟨a, C, dx, fvs, z, rfl, h2, k1, k2, l1, gv_w b g l2⟩
    · cases e
  · cases e
/-- o.f = value -/
def putFW (f : Str) (w : W) : List (Str × W) → List (Str × W)
  | [] => [(f, w)]
  | (g, u) :: r => if g = f then (g, w) :: r else (g, u) :: putFW f w r
theorem putF_rwp {K : PySem.W.Frag} {y : Y} {w : W} {v : V} (rw' : RW K cl y w v) : ∀ {fws : List (Str × W)} {fvs : List (Str × V)}, RWP K cl y fws fvs → RWP K cl y (putFW f w fws) (putF f v fvs)
  | _, _, .nil => .cons ⟨rfl, rw'⟩ .nil
  | (j, u) :: fws, (j', z) :: fvs, .cons ⟨e, r⟩ t => by
    cases (show j = j' from e)
    unfold putFW putF
    by_cases h : j = f
    · subst h
      rw [if_pos rfl, if_pos rfl]
      exact .cons ⟨rfl, rw'⟩ t
    · rw [if_neg h, if_neg h]
      exact .cons ⟨rfl, r⟩ (putF_rwp rw' t)
noncomputable def setFW (cs : List Str) (f : Str) (o w : W) (S : Sto) : Option Sto := match o with
  | .lo n => match S[n]? with
    | some (.ins c fws) => ifc (c ∈ cs ∧ fws.length < 1000) (some (S.set n (.ins c (putFW f w fws)))) none
    | _ => none
  | _ => none
noncomputable def mSetF (cs : List Str) (f : Str) (mo mv : ME) : MS := fun ρ S => (mv ρ S).out ρ fun w S => (mo ρ S).out ρ fun o S => match setFW cs f o w S with
  | some S' => .nx ρ S'
  | none => .stuck
theorem qs_fld (hf : FldOk X.K cl f cs) (ho : QE X cl xa Wx o mo) (hv : QE X cl xa Wx value mv) (hs : swapsWith value (some (.Attribute o f pos')) pos.line X.env = pure false := by rfl) : QS X cl xa Wx (.Assign [.Attribute o f pos'] value pos) (mSetF cs f mo mv) := by
  obtain ⟨t, p, q⟩ := hv
  obtain ⟨t2, p2, q2⟩ := ho
  refine ⟨_, ps_fld p2 p hs, fun C y σ ρ S s Z h => ?_⟩
  refine q C y σ ρ S s _ (PostS.go h fun w S1 h1 v z s1 g1 r1 => ?_)
  refine q2 C z σ ρ S1 s1 _ (PostS.go (h1 z g1) fun w2 S2 h2 v2 z2 s2 g2 r2 => ?_)
  have h4 := h2 z2 g2
  split at h4
  · rename_i S' hS
    unfold setFW at hS
    split at hS
    · rename_i n
      obtain ⟨a, ea, rfl⟩ := r2
      split at hS
      · rename_i c fws hc
        obtain ⟨hz, e⟩ := ifc_some hS
        cases e
        obtain ⟨_, CC, dx, fvs, k, hH, l⟩ := s2.bs.at hc (by intro z; cases z) ea
        obtain ⟨k1, k2⟩ := hf c hz.1 CC k
        have g : Gr z2 (z2.up a (.ins CC dx (putF f v fvs))) := ⟨Ex.refl _, List.prefix_refl _⟩
        refine ⟨a, CC, dx, fvs, rfl, hH, k1, k2, by rw [← Paired.length l]; exact hz.2, ?_⟩
        exact h4 σ _ (s2.upCell hc (by intro z; cases z) ea ⟨CC, dx, _, k, upd_same, RWP.grow g (putF_rwp (r1.grow g2) l)⟩) g
      · cases hS
    · cases hS
  · exact h4.elim
end
/-! methods and makers, with what an error may do at the slots -/
section
variable {X : Cx} {CX : CXT} {k : Nat} {f C : Addr} {fd : FuncData} {ps : List Str} {sp : Sp} {E : L2.St → XK} {x m : Str} {p pos apos : Pos} {e o : Expr} {es : List Expr} {ta : TE} {t : TA}
def tMethS (C : Addr) (m : Str) (sp : Sp) (E : L2.St → XK) (ta : TE) (t : TA) : TE := fun σ H Q => ta σ H fun x H1 => ∃ a dx fs, x = .ref a ∧ H1 a = some (.ins C dx fs) ∧ fs.lookup m = none ∧ t σ H1 fun vs H2 => sp (x :: vs) H2 Q (E σ)
theorem pe_methX {pl : Sem Bool} (he : PE X o ta) (c : Cls X.K C) (hm : Meth X.K C m f) (F : FnOk X.prog X.w X.K X.mg X.base CX k f fd ps sp) (hr : Room k X.A) (hb : Binds X.K fd ps []) (hx : ∀ σ, PassesAt CX X σ (E σ)) (ha : PA X (e :: es) t)
    (hst : starEach (e :: es) X.env = (false, eval e X.env) :: starEach es X.env := by rfl) (hpl : (backTo pos (starEach es X.env)).any (·.1) = false := by rfl)
    (ht : eval (.Call (.Attribute o m apos) (e :: es) [] pos) X.env = (do
      let ov ← eval o X.env
      standAt apos.atName
      let (f, first) ← holding [ov] (getMethod ov m pl)
      callWith pos f first (backTo pos (starEach (e :: es) X.env)) (backToKw pos (keywordEach [] X.env))) := by rfl) :
    PE X (.Call (.Attribute o m apos) (e :: es) [] pos) (tMethS C m sp E ta t) := by
  refine ⟨fun pins s σ H Q I h => ?_⟩
  refine PySem.W.methodCall_KW (pl := pl) (thn (he.run pins s σ H _ I h) fun u s1 ⟨x, H1, I1, rx, a, dx, fs, ex, ea, l, q⟩ => ?_) ht
  subst ex
  obtain rfl : u = Value.ref a := rx
  refine getmeth_ok I1 ea c hm l ?_
  refine PySem.W.callWith_K (first := [.ref a]) (h₀ := X.base) I.ok.mod.kin hm.kp (thn (ha.run pos pins s1 σ H1 _ I1 q) fun us s2 ⟨vs, H2, I2, r, q2⟩ => ⟨I2.kIn, ?_⟩) hst hpl
  exact run_fnS (us := .ref a :: us) (vs := .ref a :: vs) F hr hb (hx σ) I2 (.cons rfl r) q2
theorem pe_methX0 {pl : Sem Bool} (he : PE X o ta) (c : Cls X.K C) (hm : Meth X.K C m f) (F : FnOk X.prog X.w X.K X.mg X.base CX k f fd ps sp) (hr : Room k X.A) (hb : Binds X.K fd ps []) (hx : ∀ σ, PassesAt CX X σ (E σ))
    (ht : eval (.Call (.Attribute o m apos) [] [] pos) X.env = (do
      let ov ← eval o X.env
      standAt apos.atName
      let (f, first) ← holding [ov] (getMethod ov m pl)
      callWith pos f first (backTo pos (starEach [] X.env)) (backToKw pos (keywordEach [] X.env))) := by rfl) :
    PE X (.Call (.Attribute o m apos) [] [] pos) (tMethS C m sp E ta tNil) := by
  refine ⟨fun pins s σ H Q I h => ?_⟩
  refine PySem.W.methodCall_KW (pl := pl) (thn (he.run pins s σ H _ I h) fun u s1 ⟨x, H1, I1, rx, a, dx, fs, ex, ea, l, q⟩ => ?_) ht
  subst ex
  obtain rfl : u = Value.ref a := rx
  refine getmeth_ok I1 ea c hm l ?_
  exact PySem.W.callWith_K0 (first := [.ref a]) I1.kIn hm.kp (run_fnS (us := [.ref a]) (vs := [.ref a]) F hr hb (hx σ) I1 (.cons rfl .nil) q)
def tMakeS (C : Addr) (sp : Sp) (E : L2.St → XK) (t : TA) : TE := fun σ H Q => t σ H fun vs H1 => ∀ x dx, H1 x = none → H1 dx = none → dx ≠ x →
  sp (.ref x :: vs) (upd (upd H1 dx (.own x)) x (.ins C dx [])) (fun v H2 => v = .non ∧ Q (.ref x) H2) (E σ)
theorem run_makeX {pins : List (Addr × Obj)} {σ : L2.St} {H : Hp} {s : Shared} {Q : VK} {us : List Value} {vs : List V} {E : XK} (M : Mk X.K C f) (F : FnOk X.prog X.w X.K X.mg X.base CX k f fd ps sp) (hr : Room (k + 1) X.A) (hb : Binds X.K fd ps [])
    (hx : PassesAt CX X σ E) (I : Inv X pins σ H s) (r : Vals vs us)
    (h : ∀ x dx, H x = none → H dx = none → dx ≠ x → sp (.ref x :: vs) (upd (upd H dx (.own x)) x (.ins C dx [])) (fun v H2 => v = .non ∧ Q (.ref x) H2) E) :
    wpAny (model X.prog X.w) X.A (call (.ref C) us) (EP X pins σ Q) X.xe s := by
  have hq := h (s.heap.objs.size + 1) s.heap.objs.size (I.hok.fresh (Nat.le_succ _)) (I.hok.fresh (Nat.le_refl _)) (Nat.ne_of_lt (Nat.lt_succ_self _))
  have I2 := Inv.made (C := C) I
  have r2 : Vals (V.ref (s.heap.objs.size + 1) :: vs) (Value.ref (s.heap.objs.size + 1) :: us) := .cons rfl r
  have hl : (Value.ref (s.heap.objs.size + 1) :: us).length = ps.length := by
    have e := r2.length
    rw [F.len _ _ _ _ hq] at e
    exact e.symm
  have b := hb { s with heap := (s.heap.push PySem.W.emptyDict).push (PySem.W.instObj C s.heap.objs.size) } (Value.ref (s.heap.objs.size + 1) :: us) I2.kIn (by rw [List.append_nil]; exact hl)
  rw [List.append_nil] at b
  refine wpAny_call (make_map (f := f) I.kIn M.makes M.init (beq_iff_eq.mp M.fn) (codeAny_mono (F.run _ X.stack _ _ ⟨Value.ref (s.heap.objs.size + 1) :: us, []⟩ (Value.ref (s.heap.objs.size + 1) :: us) _ _ E (hr.make C us [])
    (I2.env0.make C us []) b r2 hq) fun r s' hq' => ?_))
  cases r with
  | error e => exact hx pins _ _ e s' I2 hq'
  | ok fl =>
    cases fl with
    | ret u =>
      obtain ⟨v, H', I3, rv, ev, q3⟩ := I2.after hq'
      subst ev
      exact ⟨rv, ⟨V.ref (s.heap.objs.size + 1), H', I3, rfl, q3⟩⟩
    | next => exact False.elim hq'
    | brk => exact False.elim hq'
    | cont => exact False.elim hq'
theorem pe_makeX (M : Mk X.K C f) (F : FnOk X.prog X.w X.K X.mg X.base CX k f fd ps sp) (hr : Room (k + 1) X.A) (hg : Gl X x) (hm : X.mg x = some (.ref C)) (hb : Binds X.K fd ps []) (hx : ∀ σ, PassesAt CX X σ (E σ))
    (ha : PA X (e :: es) t) (hdb : (x == ("__debug__" : Str)) = false := by decide) (he : starEach (e :: es) X.env = (false, eval e X.env) :: starEach es X.env := by rfl) (hpl : (backTo pos (starEach es X.env)).any (·.1) = false := by rfl) :
    PE X (.Call (.Name x p) (e :: es) [] pos) (tMakeS C sp E t) := by
  refine ⟨fun pins s σ H Q I h => ?_⟩
  refine wpAny_Call_Name_kw (ld_glob I hg hm ?_ hdb)
  refine PySem.W.callWith_K (h₀ := X.base) I.ok.mod.kin M.kp (thn (ha.run pos pins s σ H _ I h) fun us s1 ⟨vs, H1, I1, r, q⟩ => ⟨I1.kIn, ?_⟩) he hpl
  exact run_makeX M F hr hb (hx σ) I1 r q
theorem pe_makeX0 (M : Mk X.K C f) (F : FnOk X.prog X.w X.K X.mg X.base CX k f fd ps sp) (hr : Room (k + 1) X.A) (hg : Gl X x) (hm : X.mg x = some (.ref C)) (hb : Binds X.K fd ps []) (hx : ∀ σ, PassesAt CX X σ (E σ))
    (hdb : (x == ("__debug__" : Str)) = false := by decide) : PE X (.Call (.Name x p) [] [] pos) (tMakeS C sp E tNil) := by
  refine ⟨fun pins s σ H Q I h => ?_⟩
  refine wpAny_Call_Name_kw (ld_glob I hg hm ?_ hdb)
  exact PySem.W.callWith_K0 I.kIn M.kp (run_makeX (us := []) M F hr hb (hx σ) I .nil h)
end
/-! a thing made and frozen: a plain function -/
noncomputable def makeP (c : Str) (q : List W → Sto → Rs W) (ds : List D) : Re D := match q (.lo 0 :: ds.map .da) [.ins c []] with
  | .ok (.da .non) S => match datW 5 S (.lo 0) with
    | some (d, _) => .ok d
    | none => .stuck
  | .ex x _ => ifc (x.ws.all isDa = true) (.ex x) .stuck
  | _ => .stuck
theorem upd2_ex {H : Hp} {x dx : Addr} {o o' : HO} (h1 : H x = none) (h2 : H dx = none) : Ex H (upd (upd H dx o) x o') := fun b u e => by
  rw [upd_ne (ne_of_none e h1), upd_ne (ne_of_none e h2)]
  exact e
theorem makeP_ok {K : PySem.W.Frag} {cl : Str → Option Addr} {c : Str} {C : Addr} (hc : cl c = some C) {q : List W → Sto → Rs W} {vs : List V} {H : Hp} {Q : VK} {E : XK} (h : SpP K cl (makeP c q) vs H Q E) {x dx : Addr} (h1 : H x = none) (h2 : H dx = none) (hne : dx ≠ x) :
    SpS K cl q (.ref x :: vs) (upd (upd H dx (.own x)) x (.ins C dx [])) (fun v H2 => v = .non ∧ Lks (Q (.ref x)) H2) E := by
  obtain ⟨F, ds, hx, hr, hp⟩ := h
  have ex := upd2_ex (o := .own x) (o' := .ins C dx []) h1 h2
  have fx : F x = none := hx.no h1
  have b : Bs K cl ⟨F, upd (upd H dx (.own x)) x (.ins C dx []), [x]⟩ [.ins c []] := by
    refine ⟨hx.trans ex, rfl, by simp, fun a ha => ?_, fun n cc e hd => ?_⟩
    · simp at ha; subst ha; show upd _ _ _ _ ≠ none; rw [upd_same]; simp
    · cases n with
      | zero => simp at e; subst e; exact ⟨x, rfl, .inl fx, C, dx, [], hc, upd_same, .nil⟩
      | succ n => simp at e
  refine ⟨_, _, .lo 0 :: ds.map .da, rfl, b, .cons ⟨x, rfl, rfl⟩ (rwl_da hr), ?_⟩
  have al : ∀ z : Y, Ex z.F z.H → Fm (Y.cn ⟨F, upd (upd H dx (.own x)) x (.ins C dx []), [x]⟩) z → Al F H z.F z.H := fun z fz f => by
    refine ⟨f.hf, fun b o e => f.keep b o (ex b o e) (by simp [Y.cn]; exact fun z => by rw [z, h1] at e; cases e), fz, fun b o e => ?_⟩
    rcases f.newF b o e with t | t | t | t
    · exact .inl t
    · right; left
      cases q : H b with
      | none => rfl
      | some u => rw [show (Y.cn ⟨F, upd (upd H dx (.own x)) x (.ins C dx []), [x]⟩).H0 b = some u from ex b u q] at t; cases t
    · simp [Y.cn] at t; subst t; exact .inr (.inl h1)
    · exact .inr (.inr t)
  unfold makeP at hp
  cases e : q (.lo 0 :: ds.map .da) [.ins c []] with
  | stuck => rw [e] at hp; exact hp.elim
  | ex xx S =>
    rw [e] at hp
    simp only at hp
    intro cls dd z bz fz xr
    by_cases ha : xx.ws.all isDa = true
    · rw [ifc_pos ha] at hp
      exact hp cls dd z.F z.H (al z bz.fz fz) (xr_cut ha xr)
    · rw [ifc_neg ha] at hp
      exact hp.elim
  | ok w S =>
    rw [e] at hp
    intro v z bz fz rz
    cases w with
    | xc => exact rz.elim
    | lo k => exact hp.elim
    | da d =>
      cases d with
      | non =>
        refine ⟨rz, ?_⟩
        simp only at hp
        cases e2 : datW 5 S (.lo 0) with
        | none => rw [e2] at hp; exact hp.elim
        | some dS =>
          obtain ⟨d, S2⟩ := dS
          rw [e2] at hp
          have sim : Sim K cl none z.cn z ([] : L2.St) ([] : Rho) S := bz.rebase rfl (fun i w e => by simp at e)
          have r0 : RW K cl z (.lo 0) (.ref x) := ⟨x, pre_get fz.pre rfl, rfl⟩
          refine datW_ok 5 z S (.lo 0) (.ref x) d S2 sim r0 e2 _ fun z2 s2 g2 r2 => .now ?_
          exact hp (.ref x) z2.F z2.H (al z2 s2.bs.fz (fz.trans s2.fm)) r2
      | _ => exact hp.elim
section
variable {X : Cx} {cl : Str → Option Addr} {xa : Option (Nat × Addr)} {Wx : WX} {CX : CXT} {k : Nat} {f C : Addr} {fd : FuncData} {ps : List Str} {c x m : Str} {pp pos apos : Pos} {e o : Expr} {es : List Expr} {mr : MA} {mo : ME} {p : List D → Re D} {pS : List W → Sto → Rs W}
/-- C(..): made, frozen -/
theorem qe_makeP (A : ClsAt X.K X.mg cl c C) (M : Mk X.K C f) (G : FnOk X.prog X.w X.K X.mg X.base CX k f fd ps (SpS X.K cl pS)) (hr : Room (k + 1) X.A) (hg : Gl X c) (hb : Binds X.K fd ps []) (px : ∀ σ, PassesAt CX X σ (WE Wx σ))
    (ha : QA X cl xa Wx (e :: es) mr) (hdb : (c == ("__debug__" : Str)) = false := by decide) (he : starEach (e :: es) X.env = (false, eval e X.env) :: starEach es X.env := by rfl) (hpl : (backTo pos (starEach es X.env)).any (·.1) = false := by rfl) :
    QE X cl xa Wx (.Call (.Name c pp) (e :: es) [] pos) (mCallN (makeP c pS) mr) := by
  obtain ⟨t, pa, q⟩ := ha
  refine ⟨_, pe_lk (pe_makeX M G hr hg A.mgd hb px pa hdb he hpl), fun C y σ ρ S s Q h => ?_⟩
  refine q C y σ ρ S s _ (Post.go h fun ws S1 h1 vs z s1 g1 r1 => ?_)
  exact fun x dx k1 k2 k3 => makeP_ok A.at_ (useN s1 r1 (Post.re (h1 z g1) g1)) k1 k2 k3
/-- .. a cell -/
noncomputable def makeS (c : Str) (q : List W → Sto → Rs W) (ws : List W) (S : Sto) : Rs W := match q (.lo S.length :: ws) (S ++ [.ins c []]) with
  | .ok (.da .non) S' => .ok (.lo S.length) S'
  | .ex x S' => .ex x S'
  | _ => .stuck
theorem useMk {K : PySem.W.Frag} {C : Cn} {y : Y} {σ : L2.St} {ρ : Rho} {S : Sto} {ws : List W} {vs : List V} {q : List W → Sto → Rs W} {Q : VK} {CC : Addr} (hc : cl c = some CC) (s : Sim K cl xa C y σ ρ S) (r : RWL K cl y ws vs) (h : Post K cl xa C Wx y σ ρ (makeS c q ws S) (OkE K cl xa C y σ ρ Q))
    {x dx : Addr} (h1 : y.H x = none) (h2 : y.H dx = none) (hne : dx ≠ x) : SpS K cl q (.ref x :: vs) (upd (upd y.H dx (.own x)) x (.ins CC dx [])) (fun v H2 => v = .non ∧ Q (.ref x) H2) (WE Wx σ) := by
  have sd := s.other (o := .own x) (s.bs.fz.no h2) (fun z => s.bs.has dx z h2) (s.fm.dom dx h2)
  have gd : Gr y (y.up dx (.own x)) := ⟨Ex.refl _, List.prefix_refl _⟩
  have hx' : (y.up dx (.own x)).H x = none := by show upd y.H dx (.own x) x = none; rw [upd_ne hne.symm]; exact h1
  have sn := sd.newCell (o := .ins CC dx []) (c := .ins c []) hx' ⟨CC, dx, [], hc, upd_same, .nil⟩
  have gn := gd.trans ((y.up dx (.own x)).gr_new x (.ins CC dx []))
  have hlen : ((y.up dx (.own x)).new x (.ins CC dx [])).m[S.length]? = some x := by
    show (y.m ++ [x])[S.length]? = some x
    rw [← s.bs.len]; simp
  refine ⟨(y.up dx (.own x)).new x (.ins CC dx []), S ++ [.ins c []], .lo S.length :: ws, rfl, sn.bs, .cons ⟨x, hlen, rfl⟩ (RWL.grow gn r), ?_⟩
  unfold makeS at h
  cases e : q (.lo S.length :: ws) (S ++ [.ins c []]) with
  | stuck => rw [e] at h; exact h.elim
  | ex xx S' =>
    rw [e] at h
    exact fun cls dd z bz fz xr => h cls dd z (sn.after bz fz) (gn.trans fz.gr) xr
  | ok w S' =>
    rw [e] at h
    intro v z bz fz rz
    cases w with
    | xc => exact rz.elim
    | lo k => exact h.elim
    | da d =>
      cases d with
      | non => exact ⟨rz, h (.ref x) z (sn.after bz fz) (gn.trans fz.gr) ⟨x, pre_get fz.pre hlen, rfl⟩⟩
      | _ => exact h.elim
theorem qe_makeS (A : ClsAt X.K X.mg cl c C) (M : Mk X.K C f) (G : FnOk X.prog X.w X.K X.mg X.base CX k f fd ps (SpS X.K cl pS)) (hr : Room (k + 1) X.A) (hg : Gl X c) (hb : Binds X.K fd ps []) (px : ∀ σ, PassesAt CX X σ (WE Wx σ))
    (ha : QA X cl xa Wx (e :: es) mr) (hdb : (c == ("__debug__" : Str)) = false := by decide) (he : starEach (e :: es) X.env = (false, eval e X.env) :: starEach es X.env := by rfl) (hpl : (backTo pos (starEach es X.env)).any (·.1) = false := by rfl) :
    QE X cl xa Wx (.Call (.Name c pp) (e :: es) [] pos) (mCall (makeS c pS) mr) := by
  obtain ⟨t, pa, q⟩ := ha
  refine ⟨_, pe_makeX M G hr hg A.mgd hb px pa hdb he hpl, fun C y σ ρ S s Q h => ?_⟩
  refine q C y σ ρ S s _ (Post.go h fun ws S1 h1 vs z s1 g1 r1 => ?_)
  exact fun x dx k1 k2 k3 => useMk A.at_ s1 r1 (Post.re (h1 z g1) g1) k1 k2 k3
theorem qe_makeS0 (A : ClsAt X.K X.mg cl c C) (M : Mk X.K C f) (G : FnOk X.prog X.w X.K X.mg X.base CX k f fd ps (SpS X.K cl pS)) (hr : Room (k + 1) X.A) (hg : Gl X c) (hb : Binds X.K fd ps []) (px : ∀ σ, PassesAt CX X σ (WE Wx σ))
    (hdb : (c == ("__debug__" : Str)) = false := by decide) : QE X cl xa Wx (.Call (.Name c pp) [] [] pos) (mCall (makeS c pS) mNil) :=
  ⟨_, pe_makeX0 M G hr hg A.mgd hb px hdb, fun C y σ ρ S s Q h => fun x dx k1 k2 k3 => useMk A.at_ s .nil h k1 k2 k3⟩
/-- o.m(..) of an instance of the class c -/
def mMeth (c m : Str) (F : List W → Sto → Rs W) (mo : ME) (mr : MA) : ME := fun ρ S => (mo ρ S).bind fun w S => match insW S w with
  | some (c', fws) => if c' = c ∧ look fws m = none then (mr ρ S).bind fun ws S => F (w :: ws) S else .stuck
  | none => .stuck
theorem se_meth {K : PySem.W.Frag} {ta : TE} {t : TA} {sp : Sp} {F : List W → Sto → Rs W} (hc : cl c = some C) (q : SE K cl xa Wx ta mo) (q2 : SA K cl xa Wx t mr)
    (hu : ∀ (C : Cn) (y : Y) (σ : L2.St) (ρ : Rho) (S : Sto) (ws : List W) (vs : List V) (Q : VK), Sim K cl xa C y σ ρ S → RWL K cl y ws vs → Post K cl xa C Wx y σ ρ (F ws S) (OkE K cl xa C y σ ρ Q) → sp vs y.H Q (WE Wx σ)) :
    SE K cl xa Wx (tMethS C m sp (WE Wx) ta t) (mMeth c m F mo mr) := by
  intro Cn' y σ ρ S s Q h
  refine q Cn' y σ ρ S s _ (Post.go h fun w S1 h1 v z s1 g1 r1 => ?_)
  have h2 := h1 z g1
  split at h2
  · rename_i c' fws hi
    split at h2
    · rename_i hcc
      obtain ⟨rfl, hl⟩ := hcc
      obtain ⟨a, CC, dx, fvs, rfl, k1, k2, k3⟩ := insW_ok s1.bs r1 hi
      rw [hc] at k1
      cases k1
      refine ⟨a, dx, fvs, rfl, k2, (lookup_look k3).2 hl, ?_⟩
      refine q2 Cn' z σ ρ S1 s1 _ (Post.go h2 fun ws S2 h3 vs z2 s2 g2 r2 => ?_)
      exact hu Cn' z2 σ ρ S2 (w :: ws) (.ref a :: vs) Q s2 (.cons (r1.grow g2) r2) (Post.re (h3 z2 g2) (g1.trans g2))
    · exact h2.elim
  · exact h2.elim
theorem qe_methP {pl : Sem Bool} (A : ClsAt X.K X.mg cl c C) (hm : Meth X.K C m f) (G : FnOk X.prog X.w X.K X.mg X.base CX k f fd ps (SpP X.K cl p)) (hr : Room k X.A) (hb : Binds X.K fd ps []) (px : ∀ σ, PassesAt CX X σ (WE Wx σ)) (ho : QE X cl xa Wx o mo) (ha : QA X cl xa Wx (e :: es) mr)
    (hst : starEach (e :: es) X.env = (false, eval e X.env) :: starEach es X.env := by rfl) (hpl : (backTo pos (starEach es X.env)).any (·.1) = false := by rfl)
    (ht : eval (.Call (.Attribute o m apos) (e :: es) [] pos) X.env = (do
      let ov ← eval o X.env
      standAt apos.atName
      let (f, first) ← holding [ov] (getMethod ov m pl)
      callWith pos f first (backTo pos (starEach (e :: es) X.env)) (backToKw pos (keywordEach [] X.env))) := by rfl) :
    QE X cl xa Wx (.Call (.Attribute o m apos) (e :: es) [] pos) (mMeth c m (callN p) mo mr) := by
  obtain ⟨t, pe, q⟩ := ho
  obtain ⟨t2, pa, q2⟩ := ha
  exact ⟨_, pe_methX (pl := pl) pe A.cls hm G hr hb px pa hst hpl ht, se_meth A.at_ q q2 fun C y σ ρ S ws vs Q s r h => useN s r h⟩
theorem qe_methP0 {pl : Sem Bool} (A : ClsAt X.K X.mg cl c C) (hm : Meth X.K C m f) (G : FnOk X.prog X.w X.K X.mg X.base CX k f fd ps (SpP X.K cl p)) (hr : Room k X.A) (hb : Binds X.K fd ps []) (px : ∀ σ, PassesAt CX X σ (WE Wx σ)) (ho : QE X cl xa Wx o mo)
    (ht : eval (.Call (.Attribute o m apos) [] [] pos) X.env = (do
      let ov ← eval o X.env
      standAt apos.atName
      let (f, first) ← holding [ov] (getMethod ov m pl)
      callWith pos f first (backTo pos (starEach [] X.env)) (backToKw pos (keywordEach [] X.env))) := by rfl) :
    QE X cl xa Wx (.Call (.Attribute o m apos) [] [] pos) (mMeth c m (callN p) mo mNil) := by
  obtain ⟨t, pe, q⟩ := ho
  exact ⟨_, pe_methX0 (pl := pl) pe A.cls hm G hr hb px ht, se_meth A.at_ q sa_nil fun C y σ ρ S ws vs Q s r h => useN s r h⟩
theorem qe_methS {pl : Sem Bool} (A : ClsAt X.K X.mg cl c C) (hm : Meth X.K C m f) (G : FnOk X.prog X.w X.K X.mg X.base CX k f fd ps (SpS X.K cl pS)) (hr : Room k X.A) (hb : Binds X.K fd ps []) (px : ∀ σ, PassesAt CX X σ (WE Wx σ)) (ho : QE X cl xa Wx o mo) (ha : QA X cl xa Wx (e :: es) mr)
    (hst : starEach (e :: es) X.env = (false, eval e X.env) :: starEach es X.env := by rfl) (hpl : (backTo pos (starEach es X.env)).any (·.1) = false := by rfl)
    (ht : eval (.Call (.Attribute o m apos) (e :: es) [] pos) X.env = (do
      let ov ← eval o X.env
      standAt apos.atName
      let (f, first) ← holding [ov] (getMethod ov m pl)
      callWith pos f first (backTo pos (starEach (e :: es) X.env)) (backToKw pos (keywordEach [] X.env))) := by rfl) :
    QE X cl xa Wx (.Call (.Attribute o m apos) (e :: es) [] pos) (mMeth c m pS mo mr) := by
  obtain ⟨t, pe, q⟩ := ho
  obtain ⟨t2, pa, q2⟩ := ha
  exact ⟨_, pe_methX (pl := pl) pe A.cls hm G hr hb px pa hst hpl ht, se_meth A.at_ q q2 fun C y σ ρ S ws vs Q s r h => useS s r h⟩
theorem qe_methS0 {pl : Sem Bool} (A : ClsAt X.K X.mg cl c C) (hm : Meth X.K C m f) (G : FnOk X.prog X.w X.K X.mg X.base CX k f fd ps (SpS X.K cl pS)) (hr : Room k X.A) (hb : Binds X.K fd ps []) (px : ∀ σ, PassesAt CX X σ (WE Wx σ)) (ho : QE X cl xa Wx o mo)
    (ht : eval (.Call (.Attribute o m apos) [] [] pos) X.env = (do
      let ov ← eval o X.env
      standAt apos.atName
      let (f, first) ← holding [ov] (getMethod ov m pl)
      callWith pos f first (backTo pos (starEach [] X.env)) (backToKw pos (keywordEach [] X.env))) := by rfl) :
    QE X cl xa Wx (.Call (.Attribute o m apos) [] [] pos) (mMeth c m pS mo mNil) := by
  obtain ⟨t, pe, q⟩ := ho
  exact ⟨_, pe_methX0 (pl := pl) pe A.cls hm G hr hb px ht, se_meth A.at_ q sa_nil fun C y σ ρ S ws vs Q s r h => useS s r h⟩
end
end Ng
namespace Ng
open PySem PySem.Spec PyProof.Rows L2
/-! ### defs that give a new list or dict of data -/
def daC : Cell → Bool
  | .lst ws => ws.all isDa
  | .dk kws => (kws.map (·.2)).all isDa
  | .dt kws => (kws.map (·.2)).all isDa
  | _ => false
noncomputable def newOf (q : List W → Sto → Rs W) (ds : List D) : Re Cell := match q (ds.map .da) [] with
  | .ok (.lo n) S => match S[n]? with
    | some c => if daC c = true then .ok c else .stuck
    | none => .stuck
  | .ex x _ => ifc (x.ws.all isDa = true) (.ex x) .stuck
  | _ => .stuck
def SpL (K : PySem.W.Frag) (cl : Str → Option Addr) (p : List D → Re Cell) : Sp := fun vs H Q E => ∃ F ds, Ex F H ∧ RpL K cl F ds vs ∧ match p ds with
  | .ok c => ∀ a F' H', Al F H F' H' → H a = none → F' a = none → daC c = true → CellR K cl ⟨F', H', []⟩ a c → Q (.ref a) H'
  | .ex x => ∀ cls dd F' H', Al F H F' H' → XR K cl ⟨F', H', []⟩ x cls dd → E cls dd H'
  | .stuck => False
section
variable {K : PySem.W.Frag} {cl : Str → Option Addr}
theorem rwp_da_cut {κ : Type} {z : Y} {m : List Addr} : ∀ {ws : List (κ × W)} {vs : List (κ × V)}, (ws.map (·.2)).all isDa = true → RWP K cl z ws vs → RWP K cl ⟨z.F, z.H, m⟩ ws vs
  | _, _, _, .nil => .nil
  | (k, w) :: ws, _, h, .cons r t => by
    simp only [List.map_cons, List.all_cons, Bool.and_eq_true] at h
    refine .cons ⟨r.1, ?_⟩ (rwp_da_cut h.2 t)
    cases w with
    | da d => exact r.2
    | lo n => cases h.1
    | xc => cases h.1
theorem cell_da_cut {z : Y} {m : List Addr} {a : Addr} : ∀ {c : Cell}, daC c = true → CellR K cl z a c → CellR K cl ⟨z.F, z.H, m⟩ a c
  | .lst ws, h, ⟨vs, e, r⟩ => ⟨vs, e, rwl_da_cut h r⟩
  | .dk ws, h, ⟨vs, e, r⟩ => ⟨vs, e, rwp_da_cut h r⟩
  | .dt ws, h, ⟨vs, e, r⟩ => ⟨vs, e, rwp_da_cut h r⟩
  | .tup _, h, _ => by cases h
  | .ins _ _, h, _ => by cases h
  | .dead, h, _ => by cases h
theorem daC_live {c : Cell} (h : daC c = true) : c ≠ .dead ∧ ∀ ws, c ≠ .tup ws := ⟨(by intro z; subst z; cases h), (by intro ws z; subst z; cases h)⟩
end
section
variable {P : Program} {w : World} {K : PySem.W.Frag} {mg : Str → Option Value} {base : Heap} {cl : Str → Option Addr}
theorem fnL {f : Addr} {fd : FuncData} {ps : List Str} {k : Nat} {p : List W → Sto → Rs W} (F : FnOk P w K mg base (L2.CX P w) k f fd ps (SpS K cl p)) : FnOk P w K mg base (L2.CX P w) k f fd ps (SpL K cl (newOf p)) := by
  refine FnOk.weak F fun vs H Q E h => ?_
  obtain ⟨G, ds, x, r, q⟩ := h
  refine ⟨⟨G, H, []⟩, [], ds.map .da, rfl, ⟨x, rfl, List.nodup_nil, (by intro a ha; cases ha), (by intro n c e; cases e)⟩, rwl_da r, ?_⟩
  unfold newOf at q
  cases e : p (ds.map .da) [] with
  | stuck => rw [e] at q; exact q.elim
  | ex y S =>
    rw [e] at q
    simp only at q
    intro cls dd z bz fz xr
    by_cases ha : y.ws.all isDa = true
    · rw [ifc_pos ha] at q
      exact q cls dd z.F z.H (fz.al0 bz.fz) (xr_cut ha xr)
    · rw [ifc_neg ha] at q
      exact q.elim
  | ok w S =>
    rw [e] at q
    cases w with
    | da d => exact q.elim
    | xc => exact fun v z bz fz rz => rz.elim
    | lo n =>
      simp only at q
      intro v z bz fz rz
      obtain ⟨a, ea, rfl⟩ := rz
      cases hc : S[n]? with
      | none => rw [hc] at q; exact q.elim
      | some c =>
        rw [hc] at q
        simp only at q
        split at q
        · rename_i c' hd
          split at hd
          · rename_i hda
            cases hd
            obtain ⟨l1, l2⟩ := daC_live hda
            obtain ⟨b1, b2⟩ := bz.at hc l1 ea
            have hf : z.F a = none := b1.elim id fun ⟨ws, z⟩ => absurd z (l2 ws)
            have hn : H a = none := by
              rcases fz.newC a (List.mem_of_getElem? ea) with t | t
              · cases t
              · exact t
            exact q a z.F z.H (fz.al0 bz.fz) hn hf hda (cell_da_cut hda b2)
          · cases hd
        · rename_i hd
          split at hd <;> cases hd
        · exact q.elim
end
/-- the cell's items hold no list -/
def noLC : Cell → Bool
  | .lst ws => ws.all noLW
  | .dk kws => (kws.map (·.2)).all noLW
  | .dt kws => (kws.map (·.2)).all noLW
  | _ => false
/-- what is made of a new cell -/
noncomputable def callL (mk : Option Cell → Sto → Rs W) (p : List D → Re Cell) (ws : List W) (S : Sto) : Rs W := match dats ws with
  | some ds => match p ds with
    | .ok c => mk (some c) S
    | .ex x => .ex x S
    | .stuck => .stuck
  | none => match valsW S ws with
    | some ds => match p ds with
      | .ok c => if noLC c = true then mk (some c) S else .stuck
      | .ex x => if x.ws.all noLW = true then .ex x S else .stuck
      | .stuck => .stuck
    | none => .stuck
noncomputable def mCallL (mk : Option Cell → Sto → Rs W) (p : List D → Re Cell) (mr : MA) : ME := mCall (callL mk p) mr
section
variable {K : PySem.W.Frag} {cl : Str → Option Addr} {xa : Option (Nat × Addr)} {Wx : WX} {y : Y}
theorem unL_rwp {κ : Type} {F' H' : Hp} {m : List Addr} (a : Al y.fzLT y.H F' H') : ∀ {ws : List (κ × W)} {vs : List (κ × V)}, (ws.map (·.2)).all noLW = true → RWP K cl ⟨F', H', []⟩ ws vs → RWP K cl ⟨y.unL F', H', m⟩ ws vs
  | _, _, _, .nil => .nil
  | (k, w) :: ws, _, n, .cons r t => by
    simp only [List.map_cons, List.all_cons, Bool.and_eq_true] at n
    refine .cons ⟨r.1, ?_⟩ (unL_rwp a n.2 t)
    cases w with
    | da d => exact unL_rp a d _ n.1 r.2
    | lo k => cases n.1
    | xc => cases n.1
theorem unL_cell {F' H' : Hp} {m : List Addr} {p : Addr} (a : Al y.fzLT y.H F' H') : ∀ {c : Cell}, noLC c = true → CellR K cl ⟨F', H', []⟩ p c → CellR K cl ⟨y.unL F', H', m⟩ p c
  | .lst ws, h, ⟨vs, e, r⟩ => ⟨vs, e, unL_rwl a h r⟩
  | .dk ws, h, ⟨vs, e, r⟩ => ⟨vs, e, unL_rwp a h r⟩
  | .dt ws, h, ⟨vs, e, r⟩ => ⟨vs, e, unL_rwp a h r⟩
  | .tup _, h, _ => by cases h
  | .ins _ _, h, _ => by cases h
  | .dead, h, _ => by cases h
theorem cell_more {F H : Hp} {p : Addr} {m : List Addr} : ∀ {c : Cell}, CellR K cl ⟨F, H, []⟩ p c → CellR K cl ⟨F, H, m⟩ p c := fun h => CellR.grow (y := ⟨F, H, []⟩) (z := ⟨F, H, m⟩) ⟨Ex.refl _, List.nil_prefix⟩ (fun _ e => e) h
/-- what comes of a new cell: a cell, data, locked data -/
def MkN (K : PySem.W.Frag) (cl : Str → Option Addr) (xa : Option (Nat × Addr)) (mk : Option Cell → Sto → Rs W) (Lk : VK → VK) : Prop := ∀ (C : Cn) (Wx : WX) (y : Y) (σ : L2.St) (ρ : Rho) (S : Sto) (c : Cell) (Q : VK) (p : Addr), Sim K cl xa C y σ ρ S → y.F p = none → p ∉ y.m → C.H0 p = none → daC c = true → CellR K cl y p c →
  Post K cl xa C Wx y σ ρ (mk (some c) S) (OkE K cl xa C y σ ρ Q) → Lk Q (.ref p) y.H
theorem mkC_n : MkN K cl xa mkC (fun Q => Q) := fun C Wx y σ ρ S c Q p s h1 h2 h3 h4 hc h => by
  obtain ⟨o, ho⟩ := CellR.there (daC_live h4).1 hc
  obtain ⟨s2, g2⟩ := s.adoptC h1 h2 h3 (by rw [ho]; simp) hc
  exact h (.ref p) ⟨y.F, y.H, y.m ++ [p]⟩ s2 g2 ⟨p, by rw [← s.bs.len]; simp, rfl⟩
theorem mkD_n : MkN K cl xa mkD (fun Q => Q) := fun C Wx y σ ρ S c Q p s h1 h2 h3 h4 hc h => by
  unfold mkD at h
  simp only at h
  split at h
  · rename_i d hd
    obtain ⟨o, ho, _, hr⟩ := datC_ok hc hd
    obtain ⟨s2, g2⟩ := s.adoptF h1 h2 h3 ho
    exact h (.ref p) (y.fz p o) s2 g2 (hr _ g2.f upd_same)
  · exact h.elim
theorem rwp_zipE {κ : Type} {kws : List (κ × W)} {kvs : List (κ × V)} {ds : List D} (r : RWP K cl y kws kvs) (h : dats (kws.map (·.2)) = some ds) : ∃ vs, kvs = (kws.map (·.1)).zip vs ∧ (kws.map (·.1)).length = vs.length ∧ RpL K cl y.F ds vs := by
  obtain ⟨z1, z2⟩ := rwp_zip r
  exact ⟨kvs.map (·.2), z2, by rw [List.length_map, List.length_map]; exact Paired.length r, dats_ok z1 h⟩
theorem mkL_n : MkN K cl xa mkL (fun Q v H => Lks (Q v) H) := fun C Wx y σ ρ S c Q p s h1 h2 h3 h4 hc h => by
  unfold mkL at h
  simp only at h
  split at h
  · rename_i d hd
    obtain ⟨o, ho⟩ := CellR.there (daC_live h4).1 hc
    obtain ⟨s2, g2⟩ := s.adoptC h1 h2 h3 (by rw [ho]; simp) hc
    have hS : (S ++ [c])[S.length]? = some c := by simp
    have hm : (y.m ++ [p])[S.length]? = some p := by rw [← s.bs.len]; simp
    have fin : ∀ od u, CellR K cl y p c → y.H p = some u → Mut (some u) → (∀ F', Ex y.F F' → F' p = some (.frz od u) → Rp K cl F' d (.ref p)) → Q (.ref p) (upd y.H p (.frz od u)) := fun od u _ hu mu hr => by
      have a1 := s.other (o := .frz od u) h1 h2 h3
      obtain ⟨s3, g3⟩ := a1.adoptF (o := .frz od u) h1 h2 h3 (show upd y.H p (.frz od u) p = _ from upd_same)
      exact h (.ref p) ((y.up p (.frz od u)).fz p (.frz od u)) s3 ⟨g3.f, g3.m⟩ (hr _ g3.f upd_same)
    cases c with
    | dk kws =>
      obtain ⟨kvs, e1, e2⟩ := hc
      obtain ⟨ds, q, rfl⟩ := Option.map_eq_some_iff.mp hd
      obtain ⟨vs, z1, z2, z3⟩ := rwp_zipE e2 q
      refine .lock p _ e1 trivial fun od => .now (fin od _ ⟨kvs, e1, e2⟩ e1 trivial fun F' x e => ⟨p, vs, rfl, ⟨od, by rw [← z1]; exact e⟩, z2, RpL.xt x _ _ z3⟩)
    | dt kws =>
      obtain ⟨kvs, e1, e2⟩ := hc
      obtain ⟨ds, q, rfl⟩ := Option.map_eq_some_iff.mp hd
      obtain ⟨vs, z1, z2, z3⟩ := rwp_zipE e2 q
      refine .lock p _ e1 trivial fun od => .now (fin od _ ⟨kvs, e1, e2⟩ e1 trivial fun F' x e => ⟨p, vs, rfl, ⟨od, by rw [← z1]; exact e⟩, z2, RpL.xt x _ _ z3⟩)
    | lst _ => cases hd
    | tup _ => cases hd
    | ins _ _ => cases hd
    | dead => cases hd
  · exact h.elim
theorem useL {mk : Option Cell → Sto → Rs W} {Lk : VK → VK} (hmk : MkN K cl xa mk Lk) {C : Cn} {y : Y} {σ : L2.St} {ρ : Rho} {S : Sto} {ws : List W} {vs : List V} {p : List D → Re Cell} {Q : VK} (s : Sim K cl xa C y σ ρ S) (r : RWL K cl y ws vs) (h : Post K cl xa C Wx y σ ρ (callL mk p ws S) (OkE K cl xa C y σ ρ Q)) : SpL K cl p vs y.H (Lk Q) (WE Wx σ) := by
  unfold callL at h
  split at h
  · rename_i ds hd
    refine ⟨y.F, ds, s.bs.fz, dats_ok r hd, ?_⟩
    cases e : p ds with
    | ok c =>
      rw [e] at h
      intro a F' H' al hn hf hda hc
      exact hmk C Wx ⟨F', H', y.m⟩ σ ρ S c Q a (s.al al) hf (fun z => s.bs.has a z hn) (s.fm.dom a hn) hda (cell_more hc) (Post.re (Post.mono al.gr h) al.gr)
    | ex x => rw [e] at h; exact fun cls dd F' H' al xr => h cls dd _ (s.al al) al.gr (XR.grow (y := ⟨F', H', []⟩) ⟨Ex.refl _, List.nil_prefix⟩ xr)
    | stuck => rw [e] at h; exact h
  · split at h
    · rename_i ds hd
      refine ⟨y.fzLT, ds, y.fzLT_h s.bs.fz, valsLT_ok s.bs r hd, ?_⟩
      cases e : p ds with
      | ok c =>
        rw [e] at h
        simp only at h
        split at h
        · rename_i hf
          intro a F' H' al hn hfa hda hc
          have al2 := unL_al s.bs.fz al
          have hu : y.unL F' a = none := by
            unfold Y.unL
            split
            · rfl
            · exact hfa
          exact hmk C Wx ⟨y.unL F', H', y.m⟩ σ ρ S c Q a (s.al al2) hu (fun z => s.bs.has a z hn) (s.fm.dom a hn) hda (unL_cell al hf hc) (Post.re (Post.mono al2.gr h) al2.gr)
        · exact h.elim
      | ex x =>
        rw [e] at h
        simp only at h
        split at h
        · rename_i hf
          intro cls dd F' H' al xr
          have al2 := unL_al s.bs.fz al
          obtain ⟨C', h1, h2, h3⟩ := xr
          refine h cls dd _ (s.al al2) al2.gr ⟨C', h1, h2, h3.imp id ?_⟩
          rintro ⟨h4, d, vs, h5, h6, h7, h8⟩
          exact ⟨h4, d, vs, h5, unL_keep al h6 (by intro xs z; cases z), h7, unL_rwl al hf h8⟩
        · exact h.elim
      | stuck => rw [e] at h; exact h
    · exact h.elim
end
section
variable {X : Cx} {cl : Str → Option Addr} {xa : Option (Nat × Addr)} {Wx : WX} {CX : CXT} {k : Nat} {f C : Addr} {fd : FuncData} {ps : List Str} {c x m : Str} {pp pos apos : Pos} {e o : Expr} {es : List Expr} {mr : MA} {mo : ME} {p : List D → Re Cell} {mk : Option Cell → Sto → Rs W}
theorem qe_callL (hmk : MkN X.K cl xa mk (fun Q => Q)) (G : FnOk X.prog X.w X.K X.mg X.base CX k f fd ps (SpL X.K cl p)) (hr : Room k X.A) (hg : Gl X x) (hm : X.mg x = some (.ref f)) (hk : PySem.W.keepIn X.K (.ref f) = true) (hb : Binds X.K fd ps []) (px : ∀ σ, PassesAt CX X σ (WE Wx σ))
    (ha : QA X cl xa Wx (e :: es) mr) (hdb : (x == ("__debug__" : Str)) = false := by decide) (he : starEach (e :: es) X.env = (false, eval e X.env) :: starEach es X.env := by rfl) (hpl : (backTo pos (starEach es X.env)).any (·.1) = false := by rfl) :
    QE X cl xa Wx (.Call (.Name x pp) (e :: es) [] pos) (mCallL mk p mr) := by
  obtain ⟨t, pa, q⟩ := ha
  refine ⟨_, pe_callS G hr hg hm hk hb px pa hdb he hpl, fun C y σ ρ S s Q h => ?_⟩
  refine q C y σ ρ S s _ (Post.go h fun ws S1 h1 vs z s1 g1 r1 => ?_)
  exact useL hmk s1 r1 (Post.re (h1 z g1) g1)
theorem qe_callLk (G : FnOk X.prog X.w X.K X.mg X.base CX k f fd ps (SpL X.K cl p)) (hr : Room k X.A) (hg : Gl X x) (hm : X.mg x = some (.ref f)) (hk : PySem.W.keepIn X.K (.ref f) = true) (hb : Binds X.K fd ps []) (px : ∀ σ, PassesAt CX X σ (WE Wx σ))
    (ha : QA X cl xa Wx (e :: es) mr) (hdb : (x == ("__debug__" : Str)) = false := by decide) (he : starEach (e :: es) X.env = (false, eval e X.env) :: starEach es X.env := by rfl) (hpl : (backTo pos (starEach es X.env)).any (·.1) = false := by rfl) :
    QE X cl xa Wx (.Call (.Name x pp) (e :: es) [] pos) (mCallL mkL p mr) := by
  obtain ⟨t, pa, q⟩ := ha
  refine ⟨_, pe_lk (pe_callS G hr hg hm hk hb px pa hdb he hpl), fun C y σ ρ S s Q h => ?_⟩
  refine q C y σ ρ S s _ (Post.go h fun ws S1 h1 vs z s1 g1 r1 => ?_)
  exact useL mkL_n s1 r1 (Post.re (h1 z g1) g1)
theorem qe_methL {pl : Sem Bool} (hmk : MkN X.K cl xa mk (fun Q => Q)) (A : ClsAt X.K X.mg cl c C) (hm : Meth X.K C m f) (G : FnOk X.prog X.w X.K X.mg X.base CX k f fd ps (SpL X.K cl p)) (hr : Room k X.A) (hb : Binds X.K fd ps []) (px : ∀ σ, PassesAt CX X σ (WE Wx σ)) (ho : QE X cl xa Wx o mo) (ha : QA X cl xa Wx (e :: es) mr)
    (hst : starEach (e :: es) X.env = (false, eval e X.env) :: starEach es X.env := by rfl) (hpl : (backTo pos (starEach es X.env)).any (·.1) = false := by rfl)
    (ht : eval (.Call (.Attribute o m apos) (e :: es) [] pos) X.env = (do
      let ov ← eval o X.env
      standAt apos.atName
      let (f, first) ← holding [ov] (getMethod ov m pl)
      callWith pos f first (backTo pos (starEach (e :: es) X.env)) (backToKw pos (keywordEach [] X.env))) := by rfl) :
    QE X cl xa Wx (.Call (.Attribute o m apos) (e :: es) [] pos) (mMeth c m (callL mk p) mo mr) := by
  obtain ⟨t, pe, q⟩ := ho
  obtain ⟨t2, pa, q2⟩ := ha
  exact ⟨_, pe_methX (pl := pl) pe A.cls hm G hr hb px pa hst hpl ht, se_meth A.at_ q q2 fun C y σ ρ S ws vs Q s r h => useL hmk s r h⟩
theorem qe_methL0 {pl : Sem Bool} (hmk : MkN X.K cl xa mk (fun Q => Q)) (A : ClsAt X.K X.mg cl c C) (hm : Meth X.K C m f) (G : FnOk X.prog X.w X.K X.mg X.base CX k f fd ps (SpL X.K cl p)) (hr : Room k X.A) (hb : Binds X.K fd ps []) (px : ∀ σ, PassesAt CX X σ (WE Wx σ)) (ho : QE X cl xa Wx o mo)
    (ht : eval (.Call (.Attribute o m apos) [] [] pos) X.env = (do
      let ov ← eval o X.env
      standAt apos.atName
      let (f, first) ← holding [ov] (getMethod ov m pl)
      callWith pos f first (backTo pos (starEach [] X.env)) (backToKw pos (keywordEach [] X.env))) := by rfl) :
    QE X cl xa Wx (.Call (.Attribute o m apos) [] [] pos) (mMeth c m (callL mk p) mo mNil) := by
  obtain ⟨t, pe, q⟩ := ho
  exact ⟨_, pe_methX0 (pl := pl) pe A.cls hm G hr hb px ht, se_meth A.at_ q sa_nil fun C y σ ρ S ws vs Q s r h => useL hmk s r h⟩
end
/-! ### min of a list, by its place -/
noncomputable def bestI (ds : List D) : Nat := argBest (fun i j => PySem.W.dataLt ((ds.map toPy).getD i .none) ((ds.map toPy).getD j .none)) (ds.length - 1)
noncomputable def minIW : List W → Sto → Option W
  | [w], S => match lstW S w with
    | some ws => match valsW S ws with
      | some ds => ifc (ds ≠ [] ∧ PySem.W.AlikeAll (ds.map toPy) ∧ (∀ x ∈ ds, (toPy x).canLay0 = true) ∧ PyData.depthAll (ds.map toPy) ≤ 64) (ws[bestI ds]?) none
      | none => none
    | none => none
  | _, _ => none
section
variable {X : Cx} {cl : Str → Option Addr} {xa : Option (Nat × Addr)} {Wx : WX}
def rMinI (K : PySem.W.Frag) : List V → Hp → VK → Prop := fun vs H Q => ∃ (a : Addr) (xs : List V) (ps : List PyData), vs = [.ref a] ∧ SqL K H a xs ∧ DpAll K H xs ps ∧ ps ≠ [] ∧ PySem.W.AlikeAll ps ∧ PyData.depthAll ps ≤ 64 ∧
  ∀ v, xs[argBest (fun i j => PySem.W.dataLt (ps.getD i .none) (ps.getD j .none)) (ps.length - 1)]? = some v → Q v H
theorem cr_minI (hc : X.calm = true) (hu : Hu X) : CallR X (.builtin "min") (rMinI X.K) := by
  intro pins s σ H vs us Q I r h
  obtain ⟨a, xs, ps, rfl, hs, hd, hne, hal, hdep, q⟩ := h
  obtain ⟨its, rv, hl, hz⟩ := I.list hs
  rw [Vals.ref1 r]
  obtain ⟨as, hr⟩ := Dp.readsAll I ps xs its hd rv
  have hu' : X.A.units + 200 < cLine := hu
  have hn : its.toArray.size = ps.length := PySem.W.readsAll_len hr
  have hpos : 0 < ps.length := List.length_pos_iff.mpr hne
  refine call_min_walkH (PySem.W.iter_listW (A := X.A.in1) (I.ok.hd hc) hl.isList fun s₂ e W st hfp hw hk => ?_)
  refine ⟨_, _, _, _, _, _, _, s.heap, _, rfl, W, st, hfp, by omega, hw, hk, PySem.W.cmpIn_lt (A := X.A.in1) hr hal (by show X.A.units + 1 + _ < _; omega), fun v s' hP m => ?_⟩
  obtain ⟨h', tk, rfl, hk'⟩ := PySem.W.moved_old e rfl m
  rw [hn] at hP
  obtain ⟨v', e1, e2⟩ := vals_get rv (show its[_]? = some v by simpa using hP)
  exact ⟨v', H, I.kept (t' := tk) hk', e2, q v' e1⟩
theorem valsW_len {S : Sto} : ∀ {ws : List W} {ds : List D}, valsW S ws = some ds → ws.length = ds.length
  | [], ds, h => by cases h; rfl
  | w :: ws, ds, h => by
    simp only [valsW] at h
    split at h
    · rename_i d ds' e1 e2
      cases h
      simp [valsW_len e2]
    · cases h
theorem valsH_ok {K : PySem.W.Frag} {y : Y} {S : Sto} (b : Bs K cl y S) : ∀ {ws : List W} {vs : List V} {ds : List D}, RWL K cl y ws vs → valsW S ws = some ds → RpL K cl y.H ds vs
  | _, _, ds, .nil, h => by cases h; exact rfl
  | w :: ws, _, ds, .cons r t, h => by
    simp only [valsW] at h
    split at h
    · rename_i d ds' e1 e2
      cases h
      exact ⟨_, _, rfl, valW_ok b r e1, valsH_ok b t e2⟩
    · cases h
theorem cw_minI (hc : X.calm = true) (hu : Hu X) : HCall X cl (.builtin "min") (vlN minIW) := VN.h fun y S b ws vs rs u e Q g => by
  unfold minIW at e
  split at e
  · rename_i w
    obtain ⟨v, rfl, r⟩ := rwl1 rs
    split at e
    · rename_i us q
      split at e
      · rename_i ds hd
        rcases ifc_cases (P := fun r => r = some u) e with ⟨⟨h1, h2, h3, h4⟩, e⟩ | ⟨_, e⟩
        · obtain ⟨p, vs, rfl, t, l⟩ := lstW_ok b r q
          have rp := valsH_ok b l hd
          refine ⟨_, cr_minI hc hu, p, vs, ds.map toPy, rfl, .inl (.inl t), toPyL_all ds vs h3 rp, by simpa using h1, h2, h4, fun v hv => ?_⟩
          obtain ⟨v', e1, e2⟩ := RWL.get l e
          unfold bestI at e1
          rw [List.length_map] at hv
          rw [hv] at e1
          cases e1
          exact gv_w b g e2
        · cases e
      · cases e
    · cases e
  · cases e
theorem bestI_lt {d : D} {ds : List D} : bestI (d :: ds) < (d :: ds).length := by
  have := (PySem.W.argBest_fold PySem.W.dataLt PyData.none (toPy d) (ds.map toPy) (ds.map toPy).length (Nat.le_refl _)).1
  unfold bestI
  simp only [List.map_cons, List.length_cons, Nat.add_sub_cancel, List.length_map] at this ⊢
  omega
/-- .. it is the least -/
theorem bestI_py {d : D} {ds : List D} : ((d :: ds).map toPy).getD (bestI (d :: ds)) .none = PySem.W.minD (toPy d) (ds.map toPy) := by
  have := (PySem.W.argBest_fold PySem.W.dataLt PyData.none (toPy d) (ds.map toPy) (ds.map toPy).length (Nat.le_refl _)).2
  unfold bestI
  simp only [List.map_cons, List.length_cons, Nat.add_sub_cancel, List.length_map, List.take_length] at this ⊢
  rw [List.take_of_length_le (by simp)] at this
  exact this
end
end Ng
namespace Ng
open PySem PySem.Spec PyProof.Rows L2
/-! ### kinds of data: compared, sorted, the least, sought (plain) -/
abbrev tk (d : D) : List (Int ⊕ List Nat) := PySem.W.keyToks (toPy d)
abbrev tks (ds : List D) : List (Int ⊕ List Nat) := PySem.W.keyToksAll (toPyL ds)
structure Enc {α : Type} (e : α → D) (n : Nat) : Prop where
  pre : ∀ a b r r', tk (e a) ++ r = tk (e b) ++ r' → a = b ∧ r = r'
  al : ∀ a b, PySem.W.alike (toPy (e a)) (toPy (e b)) = true
  dep : ∀ a, (toPy (e a)).depth ≤ n
  pl : ∀ a, plainD (e a) = true
  ne : ∀ a, toPy (e a) ≠ .none
structure EncL {α : Type} (f : α → List D) (n : Nat) : Prop where
  pre : ∀ a b r r', tks (f a) ++ r = tks (f b) ++ r' → a = b ∧ r = r'
  al : ∀ a b, PySem.W.alikeAll (toPyL (f a)) (toPyL (f b)) = true
  dep : ∀ a, PyData.depthAll (toPyL (f a)) ≤ n
  pl : ∀ a, plainL (f a) = true
theorem enc_int : Enc D.int 0 := ⟨fun a b r r' h => (by
  simp only [tk, toPy, PySem.W.keyToks, List.cons_append, List.nil_append, List.cons.injEq, Sum.inl.injEq] at h
  exact h), fun a b => (by simp [toPy, PySem.W.alike]), fun a => (by simp [toPy, PyData.depth]), fun a => rfl, fun a => (by simp [toPy])⟩
theorem enc_str : Enc D.str 0 := ⟨fun a b r r' h => (by
  simp only [tk, toPy, PySem.W.keyToks, List.cons_append, List.nil_append, List.cons.injEq, Sum.inr.injEq] at h
  exact ⟨PySem.W.str_of_cps h.1, h.2⟩), fun a b => (by simp [toPy, PySem.W.alike]), fun a => (by simp [toPy, PyData.depth]), fun a => rfl, fun a => (by simp [toPy])⟩
theorem Enc.comp {α β : Type} {e : α → D} {n : Nat} (E : Enc e n) {g : β → α} (hg : ∀ a b, g a = g b → a = b) : Enc (fun b => e (g b)) n :=
  ⟨fun a b r r' h => (let q := E.pre _ _ _ _ h; ⟨hg _ _ q.1, q.2⟩), fun a b => E.al _ _, fun a => E.dep _, fun a => E.pl _, fun a => E.ne _⟩
theorem EncL.comp {α β : Type} {f : α → List D} {n : Nat} (E : EncL f n) {g : β → α} (hg : ∀ a b, g a = g b → a = b) : EncL (fun b => f (g b)) n :=
  ⟨fun a b r r' h => (let q := E.pre _ _ _ _ h; ⟨hg _ _ q.1, q.2⟩), fun a b => E.al _ _, fun a => E.dep _, fun a => E.pl _⟩
theorem Enc.up {α : Type} {e : α → D} {n m : Nat} (E : Enc e n) (h : n ≤ m) : Enc e m := ⟨E.pre, E.al, fun a => Nat.le_trans (E.dep a) h, E.pl, E.ne⟩
theorem EncL.up {α : Type} {f : α → List D} {n m : Nat} (E : EncL f n) (h : n ≤ m) : EncL f m := ⟨E.pre, E.al, fun a => Nat.le_trans (E.dep a) h, E.pl⟩
theorem EncL.one {α : Type} {e : α → D} {n : Nat} (E : Enc e n) : EncL (fun a => [e a]) n :=
  ⟨fun a b r r' h => (by
    simp only [tks, toPyL, PySem.W.keyToksAll, List.cons_append, List.append_assoc, List.cons.injEq, true_and] at h
    obtain ⟨h1, h2⟩ := E.pre _ _ _ _ h
    simp at h2
    exact ⟨h1, h2⟩), fun a b => (by simp [toPyL, PySem.W.alikeAll, E.al]), fun a => (by simp [toPyL, PyData.depthAll]; exact E.dep a), fun a => (by simp [plainL, E.pl])⟩
theorem EncL.cons {α β : Type} {e : α → D} {f : β → List D} {n : Nat} (E : Enc e n) (F : EncL f n) : EncL (fun p : α × β => e p.1 :: f p.2) n :=
  ⟨fun a b r r' h => (by
    simp only [tks, toPyL, PySem.W.keyToksAll, List.cons_append, List.append_assoc, List.cons.injEq, true_and] at h
    obtain ⟨h1, h2⟩ := E.pre _ _ _ _ h
    obtain ⟨h3, h4⟩ := F.pre _ _ _ _ h2
    exact ⟨Prod.ext h1 h3, h4⟩), fun a b => (by simp [toPyL, PySem.W.alikeAll, E.al, F.al]), fun a => (by simp only [toPyL, PyData.depthAll]; exact Nat.max_le.mpr ⟨E.dep _, F.dep _⟩), fun a => (by simp [plainL, E.pl, F.pl])⟩
theorem EncL.tup {α : Type} {f : α → List D} {n : Nat} (F : EncL f n) : Enc (fun a => .tup (f a)) (n + 1) :=
  ⟨fun a b r r' h => F.pre a b r r' (by simpa [tk, toPy, PySem.W.keyToks] using h), fun a b => (by simp [toPy, PySem.W.alike, F.al]), fun a => (by simp only [toPy, PyData.depth]; exact Nat.succ_le_succ (F.dep a)), fun a => (by simp [plainD, F.pl]), fun a => (by simp [toPy])⟩
theorem EncL.lst {α : Type} {f : α → List D} {n : Nat} (F : EncL f n) : Enc (fun a => .lst (f a)) (n + 1) :=
  ⟨fun a b r r' h => F.pre a b r r' (by simpa [tk, toPy, PySem.W.keyToks] using h), fun a b => (by simp [toPy, PySem.W.alike, F.al]), fun a => (by simp only [toPy, PyData.depth]; exact Nat.succ_le_succ (F.dep a)), fun a => (by simp [plainD, F.pl]), fun a => (by simp [toPy])⟩
theorem EncL.many {α : Type} {e : α → D} {n : Nat} (E : Enc e n) : EncL (fun l : List α => l.map e) n :=
  ⟨fun a => (by
    induction a with
    | nil =>
      intro b r r' h
      cases b with
      | nil => simp only [tks, toPyL, List.map_nil, PySem.W.keyToksAll, List.cons_append, List.nil_append, List.cons.injEq, true_and] at h; exact ⟨rfl, h⟩
      | cons y b => simp [tks, toPyL, PySem.W.keyToksAll] at h
    | cons x a ih =>
      intro b r r' h
      cases b with
      | nil => simp [tks, toPyL, PySem.W.keyToksAll] at h
      | cons y b =>
        simp only [tks, toPyL, List.map_cons, PySem.W.keyToksAll, List.cons_append, List.append_assoc, List.cons.injEq, true_and] at h
        obtain ⟨h1, h2⟩ := E.pre _ _ _ _ h
        obtain ⟨h3, h4⟩ := ih b r r' h2
        exact ⟨by rw [h1, h3], h4⟩), fun a => (by
    induction a with
    | nil => intro b; cases b <;> simp [toPyL, PySem.W.alikeAll]
    | cons x a ih =>
      intro b
      cases b with
      | nil => simp [toPyL, PySem.W.alikeAll]
      | cons y b => simp [toPyL, PySem.W.alikeAll, E.al, ih b]), fun a => (by
    induction a with
    | nil => simp [toPyL, PyData.depthAll]
    | cons x a ih => simp only [List.map_cons, toPyL, PyData.depthAll]; exact Nat.max_le.mpr ⟨E.dep _, ih⟩), fun a => (by
    induction a with
    | nil => rfl
    | cons x a ih => simp [plainL, E.pl, ih])⟩
section
variable {α : Type} {e : α → D} {n : Nat}
theorem Enc.inj (E : Enc e n) {a b : α} (h : tk (e a) = tk (e b)) : a = b := (E.pre a b [] [] (by rw [h])).1
theorem Enc.injD (E : Enc e n) {a b : α} (h : e a = e b) : a = b := E.inj (by rw [h])
theorem Enc.eqv (E : Enc e n) (a b : α) : PyData.eqv (toPy (e a)) (toPy (e b)) = dec (a = b) := by
  have q := (PySem.W.toks_eqv _ _ (E.al a b)).1
  by_cases h : a = b
  · subst h
    rw [dec_pos rfl]
    exact PySem.W.eqv_refl_alike _ (E.al a a)
  · rw [dec_neg h]
    cases z : PyData.eqv (toPy (e a)) (toPy (e b)) with
    | false => rfl
    | true => exact absurd (E.inj (q z)) h
/-! sorting -/
noncomputable def leE (e : α → D) (a b : α) : Bool := PySem.W.dataLe false toPy (e a) (e b)
noncomputable def sortE (e : α → D) (l : List α) : List α := l.mergeSort (leE e)
theorem leE_total (e : α → D) : PySem.W.TotalLe (leE e) := PySem.W.sortLe_total (PyProof.Rows.listOrd PyProof.Rows.itemOrd) false (fun a => tk (e a))
theorem leE_lt (e : α → D) (a b : α) : leE e a b = !PySem.W.dataLt (toPy (e b)) (toPy (e a)) := rfl
theorem leE_anti (E : Enc e n) {a b : α} (h1 : leE e a b = true) (h2 : leE e b a = true) : a = b := by
  rw [leE_lt, Bool.not_eq_true'] at h1 h2
  exact E.inj ((PyProof.Rows.listOrd PyProof.Rows.itemOrd).total _ _ h2 h1)
theorem sortE_perm (E : Enc e n) {l m : List α} (h : l.Perm m) : sortE e l = sortE e m := by
  refine List.Perm.eq_of_pairwise (le := fun a b => leE e a b = true) (fun a b _ _ h1 h2 => leE_anti E h1 h2) (PySem.W.sort_pairwise (leE_total e) l) (PySem.W.sort_pairwise (leE_total e) m) ?_
  exact (List.mergeSort_perm _ _).trans (h.trans (List.mergeSort_perm _ _).symm)
theorem sortE_is (l : List α) : (sortE e l).Perm l := List.mergeSort_perm _ _
theorem sortE_mem {l : List α} {a : α} : a ∈ sortE e l ↔ a ∈ l := (sortE_is l).mem_iff
theorem sortE_len (l : List α) : (sortE e l).length = l.length := (sortE_is l).length_eq
theorem sortE_sorted (l : List α) : (sortE e l).Pairwise (fun a b => leE e a b = true) := PySem.W.sort_pairwise (leE_total e) l
theorem sortE_self {l : List α} (h : l.Pairwise (fun a b => leE e a b = true)) : sortE e l = l := List.mergeSort_of_pairwise h
theorem sortE_idem (l : List α) : sortE e (sortE e l) = sortE e l := sortE_self (sortE_sorted l)
theorem sortD_map (e : α → D) (l : List α) : sortD (l.map e) = (sortE e l).map e := by
  unfold sortD sortE
  exact (List.map_mergeSort (r := leE e) (s := PySem.W.dataLe false toPy) (f := e) fun a _ b _ => rfl).symm
/-- tuples with items; no tuples -/
def Sk (e : α → D) : Prop := (∀ a, ∃ x r, toPy (e a) = .tuple (x :: r)) ∨ ∀ a xs, toPy (e a) ≠ .tuple xs
def Lay (e : α → D) (l : List α) : Prop := ∀ a ∈ l, (toPy (e a)).canLay0 = true
theorem sortC_ok (E : Enc e n) (hn : n ≤ 60) (k : Sk e) {l : List α} (hl : Lay e l) {w : W} {S : Sto} (hw : lstW S w = some (l.map fun a => .da (e a))) : sortC [w] S = some (.lst ((sortE e l).map fun a => .da (e a))) := by
  have hd : dats (l.map fun a => .da (e a)) = some (l.map e) := by
    rw [show (l.map fun a => W.da (e a)) = (l.map e).map .da by simp]
    exact dats_da _
  unfold sortC
  simp only [hw, hd]
  rw [ifc_pos]
  · rw [sortD_map]; simp
  · refine ⟨?_, ?_, ?_⟩
    · intro d hd d' hd'
      simp only [List.map_map, List.mem_map, Function.comp] at hd hd'
      obtain ⟨a, _, rfl⟩ := hd
      obtain ⟨b, _, rfl⟩ := hd'
      exact E.al a b
    · rcases k with k | k
      · left
        intro d hd
        simp only [List.map_map, List.mem_map, Function.comp] at hd
        obtain ⟨a, _, rfl⟩ := hd
        exact k a
      · right
        intro d hd
        simp only [List.map_map, List.mem_map, Function.comp] at hd
        obtain ⟨a, _, rfl⟩ := hd
        exact ⟨E.ne a, k a⟩
    · intro d hd
      simp only [List.mem_map] at hd
      obtain ⟨a, ha, rfl⟩ := hd
      exact ⟨hl a ha, Nat.le_trans (E.dep a) (by omega)⟩
theorem lstW_da (S : Sto) (l : List α) : lstW S (.da (.lst (l.map e))) = some (l.map fun a => .da (e a)) := by simp [lstW]
theorem sort_d (E : Enc e n) (hn : n ≤ 60) (k : Sk e) {l : List α} (hl : Lay e l) {w : W} {S : Sto} (hw : lstW S w = some (l.map fun a => .da (e a))) : ndN sortC [w] S = .ok (.da (.lst ((sortE e l).map e))) S := by
  unfold ndN mkD
  rw [sortC_ok E hn k hl hw]
  simp only [datC]
  rw [show ((sortE e l).map fun a => W.da (e a)) = ((sortE e l).map e).map .da by simp, dats_da]
  rfl
theorem sort_c (E : Enc e n) (hn : n ≤ 60) (k : Sk e) {l : List α} (hl : Lay e l) {w : W} {S : Sto} (hw : lstW S w = some (l.map fun a => .da (e a))) : ncN sortC [w] S = .ok (.lo S.length) (S ++ [.lst ((sortE e l).map fun a => .da (e a))]) := by
  unfold ncN mkC
  rw [sortC_ok E hn k hl hw]
/-! the least -/
def minE (e : α → D) (a : α) (l : List α) : α := l.foldl (fun a y => if PySem.W.dataLt (toPy (e y)) (toPy (e a)) then y else a) a
theorem minDD_map (e : α → D) : ∀ (l : List α) (a : α), minDD (e a) (l.map e) = e (minE e a l)
  | [], a => rfl
  | y :: l, a => by
    have := minDD_map e l (if PySem.W.dataLt (toPy (e y)) (toPy (e a)) then y else a)
    unfold minDD minE at *
    simp only [List.map_cons, List.foldl_cons]
    rw [← this]
    congr 1
    split <;> rfl
theorem minE_mem (e : α → D) : ∀ (l : List α) (a : α), minE e a l ∈ a :: l
  | [], _ => by simp [minE]
  | y :: l, a => by
    have := minE_mem e l (if PySem.W.dataLt (toPy (e y)) (toPy (e a)) then y else a)
    unfold minE at *
    simp only [List.foldl_cons]
    rcases List.mem_cons.mp this with h | h
    · rw [h]; split <;> simp
    · simp [h]
theorem minE_le (e : α → D) : ∀ (l : List α) (a : α), ∀ y ∈ a :: l, leE e (minE e a l) y = true
  | [], a, y, h => by
    simp at h; subst h
    exact (leE_total e).refl _
  | z :: l, a, y, h => by
    have ih := minE_le e l (if PySem.W.dataLt (toPy (e z)) (toPy (e a)) then z else a)
    show leE e (minE e (if PySem.W.dataLt (toPy (e z)) (toPy (e a)) then z else a) l) y = true
    have h0 := ih _ (List.mem_cons_self)
    have step : leE e (if PySem.W.dataLt (toPy (e z)) (toPy (e a)) then z else a) a = true ∧ leE e (if PySem.W.dataLt (toPy (e z)) (toPy (e a)) then z else a) z = true := by
      cases q : PySem.W.dataLt (toPy (e z)) (toPy (e a)) with
      | true =>
        refine ⟨?_, (leE_total e).refl _⟩
        rcases (leE_total e).total z a with t | t
        · exact t
        · rw [leE_lt, q] at t; cases t
      | false =>
        refine ⟨(leE_total e).refl _, ?_⟩
        show leE e a z = true
        rw [leE_lt, q]; rfl
    rcases List.mem_cons.mp h with rfl | h
    · exact (leE_total e).trans _ _ _ h0 step.1
    · rcases List.mem_cons.mp h with rfl | h
      · exact (leE_total e).trans _ _ _ h0 step.2
      · exact ih y (List.mem_cons_of_mem _ h)
/-- the same things, in any order -/
theorem minE_same (E : Enc e n) {a b : α} {l m : List α} (h1 : ∀ x ∈ a :: l, x ∈ b :: m) (h2 : ∀ x ∈ b :: m, x ∈ a :: l) : minE e a l = minE e b m :=
  leE_anti E (minE_le e l a _ (h2 _ (minE_mem e m b))) (minE_le e m b _ (h1 _ (minE_mem e l a)))
theorem alikeAll_of (E : Enc e n) (l : List α) : PySem.W.AlikeAll ((l.map e).map toPy) := by
  refine ⟨?_, ?_⟩
  · intro d hd d' hd'
    simp only [List.map_map, List.mem_map, Function.comp] at hd hd'
    obtain ⟨a, _, rfl⟩ := hd
    obtain ⟨b, _, rfl⟩ := hd'
    exact E.al a b
  · intro d hd
    simp only [List.map_map, List.mem_map, Function.comp] at hd
    obtain ⟨a, _, rfl⟩ := hd
    exact E.ne a
theorem depthAll_of (E : Enc e n) : ∀ l : List α, PyData.depthAll ((l.map e).map toPy) ≤ n
  | [] => by simp [PyData.depthAll]
  | a :: l => by simp only [List.map_cons, PyData.depthAll]; exact Nat.max_le.mpr ⟨E.dep a, depthAll_of E l⟩
theorem plainL_of (E : Enc e n) : ∀ l : List α, plainL (l.map e) = true
  | [] => rfl
  | a :: l => by simp [plainL, E.pl, plainL_of E l]
theorem min_d (E : Enc e n) (hn : n ≤ 60) {a : α} {l : List α} (hl : Lay e (a :: l)) {w : W} {S : Sto} (hw : lstW S w = some ((a :: l).map fun a => .da (e a))) : vlN minLW [w] S = .ok (.da (e (minE e a l))) S := by
  have hd : dats ((a :: l).map fun a => .da (e a)) = some (e a :: l.map e) := by
    rw [show ((a :: l).map fun a => W.da (e a)) = ((a :: l).map e).map .da by simp]
    exact dats_da _
  unfold vlN minLW
  simp only [hw, hd]
  rw [ifc_pos, minDD_map]
  · rfl
  · refine ⟨alikeAll_of E (a :: l), plainL_of E (a :: l), ?_, Nat.le_trans (depthAll_of E (a :: l)) (by omega)⟩
    intro x hx
    rw [← List.map_cons] at hx
    obtain ⟨b, hb, rfl⟩ := List.mem_map.mp hx
    exact hl b hb
/-! == and in -/
theorem shaped_of (E : Enc e n) (hn : n ≤ 60) {a : α} (hl : (toPy (e a)).canLay0 = true) : SeqAt.shaped (toPy (e a)) = true := by
  unfold SeqAt.shaped
  rw [hl, decide_eq_true (Nat.le_trans (E.dep a) (by omega))]
  rfl
theorem eqB_of (E : Enc e n) (hn : n ≤ 60) {a b : α} (ha : (toPy (e a)).canLay0 = true) (hb : (toPy (e b)).canLay0 = true) {x y : W} {S : Sto} (hx : valW S x = some (e a)) (hy : valW S y = some (e b)) : eqB x y S = some (dec (a = b)) := by
  unfold eqB
  simp only [hx, hy]
  unfold eqD
  split
  · rename_i i j h1 h2
    have := E.eqv a b
    rw [h1, h2] at this
    simp only [toPy, PyData.eqv] at this
    rw [← this]
    by_cases q : i = j
    · subst q; simp [dec_pos]
    · rw [dec_neg q]; simp [q]
  · rename_i i j h1 h2
    have := E.eqv a b
    rw [h1, h2] at this
    simp only [toPy, PyData.eqv] at this
    rw [← this]
    by_cases q : i = j
    · subst q; simp [dec_pos]
    · rw [dec_neg q]; simp [q]
  · rename_i i j h1 h2
    have := E.eqv a b
    rw [h1, h2] at this
    simp only [toPy, PyData.eqv] at this
    rw [← this]
    by_cases q : i = j
    · subst q; simp [dec_pos]
    · rw [dec_neg q]; simp [q]
  · rw [ifc_pos ⟨shaped_of E hn ha, shaped_of E hn hb⟩, E.eqv]
theorem eq_e (E : Enc e n) (hn : n ≤ 60) {a b : α} (ha : (toPy (e a)).canLay0 = true) (hb : (toPy (e b)).canLay0 = true) (S : Sto) : vl2 eqW (.da (e a)) (.da (e b)) S = .ok (.da (.bl (dec (a = b)))) S := by
  unfold vl2 eqW
  rw [eqB_of E hn ha hb rfl rfl]
  rfl
theorem ne_e (E : Enc e n) (hn : n ≤ 60) {a b : α} (ha : (toPy (e a)).canLay0 = true) (hb : (toPy (e b)).canLay0 = true) (S : Sto) : vl2 neW (.da (e a)) (.da (e b)) S = .ok (.da (.bl (!dec (a = b)))) S := by
  unfold vl2 neW
  rw [eqB_of E hn ha hb rfl rfl]
  rfl
theorem layAll_of : ∀ {l : List α}, Lay e l → PyData.canLayAll0 (toPyL (l.map e)) = true
  | [], _ => rfl
  | a :: l, h => by simp [toPyL, PyData.canLayAll0, h a (by simp), layAll_of (l := l) fun b hb => h b (by simp [hb])]
theorem shapedL_of (E : Enc e n) (hn : n ≤ 60) {l : List α} (hl : Lay e l) : SeqAt.shaped (.list (toPyL (l.map e))) = true := by
  unfold SeqAt.shaped
  have h1 : (PyData.list (toPyL (l.map e))).canLay0 = true := by simp only [PyData.canLay0, layAll_of hl]
  have h2 : (PyData.list (toPyL (l.map e))).depth ≤ 64 := by
    simp only [PyData.depth, toPyL_map]
    have := depthAll_of E l
    omega
  rw [h1, decide_eq_true h2]
  rfl
theorem any_of (E : Enc e n) (a : α) : ∀ l : List α, ((l.map e).any fun z => PyData.eqv (toPy z) (toPy (e a))) = dec (a ∈ l)
  | [] => by rw [dec_neg (by simp)]; rfl
  | b :: l => by
    simp only [List.map_cons, List.any_cons, any_of E a l, E.eqv]
    by_cases h : b = a
    · subst h; rw [dec_pos rfl, dec_pos (List.mem_cons_self)]; rfl
    · rw [dec_neg h]
      by_cases q : a ∈ l
      · rw [dec_pos q, dec_pos (List.mem_cons_of_mem _ q)]; rfl
      · rw [dec_neg q, dec_neg (fun z => (List.mem_cons.mp z).elim (fun z => h z.symm) q)]; rfl
theorem inB_lst (d : D) (ds : List D) (S : Sto) : inB (.da d) (.da (.lst ds)) S = ifc (SeqAt.shaped (toPy d) = true ∧ SeqAt.shaped (.list (toPyL ds)) = true) (some (ds.any fun z => PyData.eqv (toPy z) (toPy d))) none := by cases d <;> rfl
theorem inB_of (E : Enc e n) (hn : n ≤ 60) {a : α} {l : List α} (ha : (toPy (e a)).canLay0 = true) (hl : Lay e l) {S : Sto} : inB (.da (e a)) (.da (.lst (l.map e))) S = some (dec (a ∈ l)) := by
  rw [inB_lst, ifc_pos ⟨shaped_of E hn ha, shapedL_of E hn hl⟩, any_of E]
theorem in_e (E : Enc e n) (hn : n ≤ 60) {a : α} {l : List α} (ha : (toPy (e a)).canLay0 = true) (hl : Lay e l) (S : Sto) : vl2 inW (.da (e a)) (.da (.lst (l.map e))) S = .ok (.da (.bl (dec (a ∈ l)))) S := by
  unfold vl2 inW
  rw [inB_of E hn ha hl]
  rfl
theorem notin_e (E : Enc e n) (hn : n ≤ 60) {a : α} {l : List α} (ha : (toPy (e a)).canLay0 = true) (hl : Lay e l) (S : Sto) : vl2 notinW (.da (e a)) (.da (.lst (l.map e))) S = .ok (.da (.bl (!dec (a ∈ l)))) S := by
  unfold vl2 notinW
  rw [inB_of E hn ha hl]
  rfl
end
end Ng
namespace Ng
open PySem PySem.Spec PyProof.Rows L2
/-! ### sorted(xs, key=f), f a def that gives ints or texts -/
def keyV (v : V) (k : PyData) : Prop := (∃ n, v = .int n ∧ k = .int n) ∨ (∃ x, v = .str x ∧ k = .str x)
def keyU (u : Value) (k : PyData) : Prop := (∃ n t, u = .int n t ∧ k = .int n) ∨ (∃ x t, u = .str x t ∧ k = .str x)
theorem keyV_u {v : V} {u : Value} {k : PyData} (h : keyV v k) (r : RelV v u) : keyU u k := by
  rcases h with ⟨n, rfl, rfl⟩ | ⟨x, rfl, rfl⟩
  · obtain ⟨t, rfl⟩ := r
    exact .inl ⟨n, t, rfl, rfl⟩
  · obtain ⟨t, rfl⟩ := r
    exact .inr ⟨x, t, rfl, rfl⟩
theorem keyU_reads {u : Value} {k : PyData} (h : keyU u k) (hp : Heap) : ∃ as, Reads hp u k as := by
  rcases h with ⟨n, t, rfl, rfl⟩ | ⟨x, t, rfl, rfl⟩
  · exact ⟨[], .int n t⟩
  · exact ⟨[], .str x t⟩
/-- the keys, one call behind the other -/
def keysR (sp : Sp) (Q : List PyData → Hp → Prop) : List V → List PyData → Hp → Prop
  | [], acc, H => Q acc H
  | x :: xs, acc, H => sp [x] H (fun v H' => ∃ k, keyV v k ∧ keysR sp Q xs (acc ++ [k]) H') (fun _ _ _ => False)
def rSortK (K : PySem.W.Frag) (sp : Sp) (f : Addr) : List V → List V → Hp → VK → Prop := fun vs zs H Q => ∃ (a : Addr) (xs : List V), vs = [.ref a] ∧ zs = [.ref f] ∧ SqL K H a xs ∧
  keysR sp (fun ks H' => PySem.W.AllAlike ks ∧ PySem.W.Sortable ks ∧ (∀ k ∈ ks, k.depth ≤ 64) ∧ ∀ p, H' p = none → Q (.ref p) (upd H' p (.lst (((xs.zip ks).mergeSort (PySem.W.dataLe false (·.2))).map (·.1))))) xs [] H
theorem each_pair {α β : Type} {R : α → β → Prop} {as : List α} {bs : List β} (h : Paired R as bs) : PySem.W.EachIs (fun b a => R a b) bs as := by
  induction h with
  | nil => exact .nil
  | cons r t ih => exact .cons r ih
theorem each_zipK : ∀ {vs : List V} {us : List Value} {ks : List PyData}, Vals vs us → vs.length = ks.length → PySem.W.EachIs (fun u (b : V × PyData) => RelV b.1 u) us (vs.zip ks)
  | _, _, [], .nil, _ => .nil
  | _, _, k :: ks, .nil, h => by simp at h
  | _, _, [], .cons r t, h => by simp at h
  | _, _, k :: ks, .cons r t, h => .cons r (each_zipK t (by simpa using h))
section
variable {X : Cx} {CXp : CXT} {k : Nat} {f : Addr} {fd : FuncData} {ps : List Str} {sp : Sp}
theorem run_key (G : FnOk X.prog X.w X.K X.mg X.base (L2.CX X.prog X.w) k f fd ps sp) {A : Around} (hr : Room k A) (hb : Binds X.K fd ps []) {pins : List (Addr × Obj)} {σ : L2.St} {H : Hp} {s : Shared} (I : Inv X pins σ H s) (he : Env0 X.prog X.w X.K X.mg X.base A X.stack s H) {x : V} {u : Value} (r : RelV x u) {Q : VK}
    (h : sp [x] H Q (fun _ _ _ => False)) : wpAny (model X.prog X.w) A (call (.ref f) [u]) (EP X pins σ Q) (fun _ _ => False) s := by
  have hl : ([u] ++ []).length = ps.length := by rw [← G.len _ _ _ _ h]; rfl
  refine wpAny_call (codeAny_mono (G.run A X.stack s H ⟨[u], []⟩ [u] [x] Q _ hr he (hb s [u] I.kIn hl) (.cons r .nil) h) fun r s' hq => ?_)
  cases r with
  | error e =>
    obtain ⟨_, _, _, _, _, _, _, _, _, _, _, _, z⟩ := hq
    exact z
  | ok fl =>
    cases fl with
    | ret u => exact I.after hq
    | next => exact False.elim hq
    | brk => exact False.elim hq
    | cont => exact False.elim hq
theorem cr_sortK (hu : Hu X) (G : FnOk X.prog X.w X.K X.mg X.base (L2.CX X.prog X.w) k f fd ps sp) (hr : Room (k + 2) X.A) (hb : Binds X.K fd ps []) : CallRK X (.builtin "sorted") [Str.ofString "key"] (rSortK X.K sp f) := by
  intro pins s σ H vs zs us ws Q I r rz h
  obtain ⟨a, xs, rfl, rfl, hs, hq⟩ := h
  obtain ⟨its, rv, hl, hz⟩ := I.list hs
  rw [Vals.ref1 r, Vals.ref1 rz]
  have hlen : its.length ≤ sizeLine := by rw [← rv.length]; exact hz
  show wpAny _ _ (call (.builtin "sorted") [.ref a] [(Str.ofString "key", .ref f)]) _ _ _
  refine PySem.W.sorted_of_sort hl.isList hlen (ksk_s1 _ _) (fun _ => ksk_l1 _ _) fun E' => ?_
  rw [ksk_t1]
  obtain ⟨D, hD⟩ : ∃ D, D = s.heap.objs.size + 1 := ⟨_, rfl⟩
  rw [← hD]
  have ho : (PySem.W.copyHeap s.heap its).get? D = some (seqObj "list" its.toArray 0) := by rw [hD]; exact PySem.W.copyHeap_at s.heap its
  have hDs : D < (PySem.W.copyHeap s.heap its).objs.size := Heap.lt_size ho
  obtain ⟨e1, ho1⟩ : ∃ e1, ((PySem.W.copyHeap s.heap its).update D (Obj.mapSeq fun _ => (#[] : Array Value))).get? D = some (seqObj "list" #[] e1) := ⟨_, get?_update_seq ho fun _ => #[]⟩
  have hkS : (((PySem.W.copyHeap s.heap its).update D (Obj.mapSeq fun _ => (#[] : Array Value))).push (seqObj "tuple" its.toArray 0)).objs.size = (PySem.W.copyHeap s.heap its).objs.size + 1 := by rw [size_push', Heap.size_update]
  unfold ksk_tree
  refine wpAny_bind (listItems_at ho rfl ?_)
  refine wpAny_bind (listUpdate_at ho rfl ?_ (by rw [List.size_toArray]; exact hlen) (Nat.zero_le _))
  refine wpAny_bind (seqEpoch_at ho1 rfl ?_)
  refine wpAny_bind (wpAny_newTuple ?_ (by show its.length ≤ _; exact hlen))
  refine wpAny_bind (wpAny_newList ?_ (Nat.zero_le _))
  refine wpAny_holding ?_
  obtain ⟨K0, hK0⟩ : ∃ K0, K0 = (((PySem.W.copyHeap s.heap its).update D (Obj.mapSeq fun _ => (#[] : Array Value))).push (seqObj "tuple" its.toArray 0)).objs.size := ⟨_, rfl⟩
  have hDK : D < K0 := by rw [hK0, hkS]; omega
  have hsD : s.heap.objs.size ≤ D := by omega
  have keep : ∀ b o, s.heap.get? b = some o → ((((PySem.W.copyHeap s.heap its).update D (Obj.mapSeq fun _ => (#[] : Array Value))).push (seqObj "tuple" its.toArray 0)).push (seqObj "list" #[] 0)).get? b = some o := fun b o q =>
    PySem.W.sortingHeap_old (h := PySem.W.copyHeap s.heap its) (a := D) (vs := its) (Nat.ne_of_lt (Nat.lt_of_lt_of_le (Heap.lt_size q) hsD)) (PySem.W.copyHeap_old q)
  obtain ⟨hp1, hhp1⟩ : ∃ hp1, hp1 = ((((PySem.W.copyHeap s.heap its).update D (Obj.mapSeq fun _ => (#[] : Array Value))).push (seqObj "tuple" its.toArray 0)).push (seqObj "list" #[] 0)) := ⟨_, rfl⟩
  have nk : hp1.get? K0 = some (seqObj "list" #[] 0) := by rw [hhp1, hK0]; exact Heap.get?_push_size _ rfl
  have na : hp1.get? D = some (seqObj "list" #[] e1) := by rw [hhp1]; exact Heap.get?_push_of_some _ (Heap.get?_push_of_some _ ho1)
  rw [← hK0]
  show wpAny _ _ _ _ _ { s with heap := ((((PySem.W.copyHeap s.heap its).update D (Obj.mapSeq fun _ => (#[] : Array Value))).push (seqObj "tuple" its.toArray 0)).push (seqObj "list" #[] 0)) }
  rw [← hhp1] at keep ⊢
  have I1 : Inv X pins σ H { s with heap := hp1 } := I.kept (t' := s.toks) keep
  have ltL := I.lt
  have neDL : D ≠ X.env.locals := Nat.ne_of_gt (Nat.lt_of_lt_of_le ltL hsD)
  have neKL : K0 ≠ X.env.locals := Nat.ne_of_gt (Nat.lt_of_lt_of_le ltL (Nat.le_trans hsD (Nat.le_of_lt hDK)))
  have neDK : D ≠ K0 := Nat.ne_of_lt hDK
  have np : ∀ p ∈ X.pn ++ pins, p.1 < s.heap.objs.size := fun p hp => Heap.lt_size (I.pin p hp).1
  have npD : ∀ p ∈ X.pn ++ pins, p.1 ≠ D := fun p hp => Nat.ne_of_lt (Nat.lt_of_lt_of_le (np p hp) hsD)
  have npK : ∀ p ∈ X.pn ++ pins, p.1 ≠ K0 := fun p hp => Nat.ne_of_lt (Nat.lt_trans (Nat.lt_of_lt_of_le (np p hp) hsD) hDK)
  have nDf : D ∉ X.fs := I.nofs hsD
  have nKf : K0 ∉ X.fs := I.nofs (by omega)
  have seqN : ∀ (ar : Array Value) (e : Nat) (v : Option Value), (seqObj "list" ar e).data ≠ .cell v := fun ar e v z => by cases z
  have pin2 : ∀ {H' : Hp} {s' : Shared} {kA : Array Value} {e : Nat}, Inv X pins σ H' s' → H' D = none → H' K0 = none → s'.heap.get? D = some (seqObj "list" #[] e1) → s'.heap.get? K0 = some (seqObj "list" kA e) →
      Inv X (pins ++ [(D, seqObj "list" #[] e1), (K0, seqObj "list" kA e)]) σ H' s' := fun {H' s' kA e} I' d1 d2 d3 d4 => I'.pins_of fun p hp => by
    rcases List.mem_append.mp hp with hp | hp
    · exact I'.pin p (List.mem_append_right _ hp)
    · simp only [List.mem_cons, List.not_mem_nil, or_false] at hp
      rcases hp with rfl | rfl
      · exact ⟨d3, d1, neDL, nDf, seqN _ _⟩
      · exact ⟨d4, d2, neKL, nKf, seqN _ _⟩
  unfold ksk_rest
  refine wpAny_bind (wpAny_rule ?_)
  first
    | rw [List.forIn_toArray]
    | (rw [← Array.forIn_toList]; simp only [List.toList_toArray])
    | rw [← Array.forIn_toList]
  refine wpAny_bind (ksk_fold (fun i s' => ∃ Hi kA e ks, Inv X (pins ++ [(D, seqObj "list" #[] e1), (K0, seqObj "list" kA e)]) σ Hi s' ∧ PySem.W.EachIs keyU kA.toList ks ∧ ks.length = i ∧
      keysR sp (fun ks H' => PySem.W.AllAlike ks ∧ PySem.W.Sortable ks ∧ (∀ k ∈ ks, k.depth ≤ 64) ∧ ∀ p, H' p = none → Q (.ref p) (upd H' p (.lst (((xs.zip ks).mergeSort (PySem.W.dataLe false (·.2))).map (·.1))))) (xs.drop i) ks Hi) its 0 _
    ⟨H, #[], 0, [], pin2 I1 (I.hok.fresh hsD) (I.hok.fresh (by omega)) na nk, .nil, rfl, hq⟩ ?step ?done)
  case step =>
    rintro j u s' hx ⟨Hi, kA, e, ks, Ii, hk, hkl, hr'⟩
    simp only [Nat.zero_add] at hkl hr' ⊢
    have hj : j < its.length := (List.getElem?_eq_some_iff.mp hx).1
    have hj' : j < xs.length := by rw [rv.length]; exact hj
    have hxj : xs[j]? = some xs[j] := List.getElem?_eq_getElem hj'
    obtain ⟨u', hu', rx⟩ := Vals.get rv hxj
    rw [hx] at hu'
    cases hu'
    rw [List.drop_eq_getElem_cons hj'] at hr'
    refine wpAny_bind (wpAny_attempt (wpAny_mono (run_key G (A := X.A.in1.in1) hr.in1.in1 hb Ii Ii.env0.in1.in1 rx hr') (fun v s'' he => ?_) fun _ _ hF => hF.elim))
    obtain ⟨v', H', I', r', kd, hkd, hrest⟩ := he
    try dsimp only
    have pK := I'.pin (K0, seqObj "list" kA e) (by simp)
    have pD := I'.pin (D, seqObj "list" #[] e1) (by simp)
    have hz' : kA.size ≤ its.length := by
      have := hk.length
      rw [Array.length_toList] at this
      omega
    have s1 := Heap.SameBut.update s''.heap K0 (Obj.mapSeq (·.push v))
    obtain ⟨c2, hc2⟩ : ∃ c2, (s''.heap.update K0 (Obj.mapSeq (·.push v))).get? K0 = some (seqObj "list" (kA.push v) c2) := ⟨_, get?_update_seq pK.1 (·.push v)⟩
    refine wpAny_bind (listUpdate_at pK.1 rfl ?_ (Nat.le_trans hz' hlen) (Nat.le_trans (Nat.le_of_eq (Array.size_push ..)) (Nat.succ_le_succ (Nat.le_trans hz' hlen))))
    have I'' : Inv X pins σ H' { s'' with heap := s''.heap.update K0 (Obj.mapSeq (·.push v)) } := Inv.turned (t' := s''.toks) (it := K0) I'.unpinned (fun b o hb e => (s1.2 b hb).trans e) pK.2.1 neKL (.inr (by have := I.sz; omega))
      (fun x c hc z => by
        obtain ⟨v, o, h1, h2⟩ := I'.cell x c hc
        rw [z, pK.1] at h1
        cases h1
        exact seqN _ _ _ h2)
      npK
    refine wpAny_pure ⟨rfl, H', kA.push v, c2, ks ++ [kd], pin2 I'' pD.2.1 pK.2.1 ((s1.2 D neDK).trans pD.1) hc2, ?_, by simp [hkl], hrest⟩
    have ea : (kA.push v).toList = kA.toList ++ [v] := by simp
    rw [ea]
    exact PySem.W.each_snoc (keyV_u hkd r') hk
  case done =>
    rintro s' ⟨Hi, kA, e, ks, Ii, hk, hkl, hr'⟩
    simp only [Nat.zero_add] at hkl hr'
    rw [List.drop_of_length_le (by rw [rv.length]; exact Nat.le_refl _)] at hr'
    obtain ⟨hal, hso, hdp, q⟩ := hr'
    have pK := Ii.pin (K0, seqObj "list" kA e) (by simp)
    have pD := Ii.pin (D, seqObj "list" #[] e1) (by simp)
    have hk' : PySem.W.EachIs (fun v k => ∃ as, Reads s'.heap v k as) kA.toList ks := hk.mono fun v k q => keyU_reads q _
    have hsz : kA.size = its.length := by
      have := hk.length
      rw [Array.length_toList] at this
      omega
    try dsimp only
    refine wpAny_bind (listItems_at pK.1 rfl ?_)
    obtain ⟨G1, g1, g2⟩ := restrict s'.heap (fun b => b != K0)
    have kp : PySem.W.KeepsBut D G1 s'.heap := fun b o hb e => by
      by_cases hbk : b = K0
      · rw [g2 b (by simp [hbk])] at e; cases e
      · rw [← g1 b (by simp [hbk])]; exact e
    have hu' : X.A.units + 200 < cLine := hu
    refine PySem.W.keyH_end (κ := PySem.W.dataKind s'.heap ks) (h₁ := G1) kp (g2 K0 (by simp)) pK.1 pD.1 neDK.symm (PySem.W.SortsAt.data (s := s') hk' hal hso fun d hd => ?_) hsz hlen fun h3 tk3 c k3 n3 => ?_
    · have := hdp d hd
      show X.A.units + 1 + 1 + d.depth < cLine
      omega
    · have eo := PySem.W.keyedOut_each (rev := false) (k := fun b : V × PyData => b.2) (bs := xs.zip ks) (vs := its) (R := fun u (b : V × PyData) => RelV b.1 u) (out := PySem.W.sortVals (PySem.W.dataKind s'.heap ks) false kA.toList its)
        ⟨s'.heap, kA.toList, by rw [List.map_snd_zip (by rw [rv.length]; omega)]; exact hal, by rw [List.map_snd_zip (by rw [rv.length]; omega)], by rw [List.map_snd_zip (by rw [rv.length]; omega)]; exact hk'⟩ (each_zipK rv (by rw [rv.length]; omega))
      have hnew : ObjOk X.prog X.w (upd Hi D (.lst (((xs.zip ks).mergeSort (PySem.W.dataLe false (·.2))).map (·.1)))) h3 D (.lst (((xs.zip ks).mergeSort (PySem.W.dataLe false (·.2))).map (·.1))) := by
        refine ⟨?_, _, c, vals_each eo, n3⟩
        rw [List.length_map, List.length_mergeSort, List.length_zip]
        omega
      refine ⟨rfl, .ref D, _, ?_, rfl, q D pD.2.1⟩
      have k4 : ∀ b o, b ≠ D → b ≠ K0 → s'.heap.get? b = some o → h3.get? b = some o := fun b o h1 h2 e => k3 b o h1 (by rw [g1 b (by simp [h2])]; exact e)
      have nt : ∀ b o, Hi b = some o → b ≠ D ∧ b ≠ K0 := fun b o e => ⟨(fun z => by rw [z, pD.2.1] at e; cases e), (fun z => by rw [z, pK.2.1] at e; cases e)⟩
      refine Inv.step (g' := s'.gens) (d' := s'.drawn) (t' := tk3) (ch := [D, K0]) Ii.unpinned (fun b hb => ?_) (fun b o _ _ hc e _ => k4 b o (fun z => hc (by simp [z])) (fun z => hc (by simp [z])) e) (fun b o _ _ hc e _ => ⟨o.slots, k4 b o (fun z => hc (by simp [z])) (fun z => hc (by simp [z])) e⟩)
        (fun b o hc _ n => by rw [upd_ne (fun z => hc (by simp [z]))]; exact n) (fun b o hc e => ⟨o, k4 b o (fun z => hc (by simp [z])) (fun z => hc (by simp [z])) e⟩)
        (fun b xs e => by rw [upd_ne (nt _ _ e).1]; exact e) (fun b o u e => by rw [upd_ne (nt _ _ e).1]; exact e) (fun b ps e => ⟨#[], by rw [upd_ne (nt _ _ e).1, e]; simp⟩) (fun m hm => ?_) (fun b u e => ?_) Ii.bare
      · have e : b = D ∨ b = K0 := by simpa using hb
        have cellN : ∀ x c, X.env.cells.lookup x = some c → c ≠ b := fun x c hc z => by
          obtain ⟨v, o, h1, h2⟩ := Ii.cell x c hc
          rw [z] at h1
          rcases e with rfl | rfl
          · rw [pD.1] at h1; cases h1; exact seqN _ _ _ h2
          · rw [pK.1] at h1; cases h1; exact seqN _ _ _ h2
        have := I.sz
        exact ⟨.inr (by rcases e with rfl | rfl <;> omega), (by rcases e with rfl | rfl; exact neDL; exact neKL), cellN, (by rcases e with rfl | rfl; exact npD; exact npK)⟩
      · obtain ⟨o, es, ep, ho, r⟩ := hm
        exact ⟨o, es, ep, k4 _ o neDL.symm neKL.symm ho, r⟩
      · by_cases hb : b = D
        · subst hb
          rw [upd_same] at e
          cases e
          exact hnew
        · rw [upd_ne hb] at e
          refine (Ii.hok b u e).stay (fun c v hc q => ?_) (fun c q => by rw [upd_ne (nt _ _ q).1]; exact q) (fun c xs q => by rw [upd_ne (nt _ _ q).1]; exact q)
          rcases hc with rfl | hc
          · exact k4 c v (nt _ _ e).1 (nt _ _ e).2 q
          · exact k4 c v (nt _ _ hc).1 (nt _ _ hc).2 q
end
/-! .. over data -/
def kyD : D → Bool
  | .int _ => true
  | .str _ => true
  | _ => false
def kysD (p : List D → Re D) : List D → Option (List D)
  | [] => some []
  | d :: ds => match p [d] with
    | .ok k => if kyD k = true then (kysD p ds).map (k :: ·) else none
    | _ => none
noncomputable def sortZ (ds ks : List D) : List D := ((ds.zip ks).mergeSort (PySem.W.dataLe false (fun q => toPy q.2))).map (·.1)
noncomputable def sortK (p : List D → Re D) : List D → Re Cell
  | [.lst ds] => match kysD p ds with
    | some ks => ifc (PySem.W.AllAlike (ks.map toPy) ∧ PySem.W.Sortable (ks.map toPy)) (.ok (.lst ((sortZ ds ks).map .da))) .stuck
    | none => .stuck
  | _ => .stuck
section
variable {K : PySem.W.Frag} {cl : Str → Option Addr}
theorem kysD_len {p : List D → Re D} : ∀ {ds ks : List D}, kysD p ds = some ks → ks.length = ds.length ∧ ∀ k ∈ ks, kyD k = true
  | [], ks, h => by cases h; exact ⟨rfl, by simp⟩
  | d :: ds, ks, h => by
    unfold kysD at h
    split at h
    · rename_i k e
      split at h
      · rename_i hk
        obtain ⟨t, ht, rfl⟩ := Option.map_eq_some_iff.mp h
        obtain ⟨a, b⟩ := kysD_len ht
        exact ⟨by simp [a], fun x hx => by rcases List.mem_cons.mp hx with rfl | hx; exact hk; exact b x hx⟩
      · cases h
    · cases h
theorem kyD_v {F : Hp} {k : D} {v : V} (h : kyD k = true) (r : Rp K cl F k v) : keyV v (toPy k) := by
  cases k <;> first | cases h | skip
  · cases (show v = .int _ from r); exact .inl ⟨_, rfl, rfl⟩
  · cases (show v = .str _ from r); exact .inr ⟨_, rfl, rfl⟩
theorem kyD_depth {k : D} (h : kyD k = true) : (toPy k).depth ≤ 64 := by
  cases k <;> first | cases h | skip
  all_goals simp [toPy, PyData.depth]
theorem keys_run {p : List D → Re D} {Qk : List PyData → Hp → Prop} : ∀ {ds ks : List D} {xs : List V} {F H : Hp} {acc : List PyData}, Ex F H → RpL K cl F ds xs → kysD p ds = some ks → (∀ F' H', Al F H F' H' → Qk (acc ++ ks.map toPy) H') → keysR (SpP K cl p) Qk xs acc H
  | [], ks, xs, F, H, acc, x, r, e, h => by
    cases (show xs = [] from r)
    cases e
    have := h F H (Al.refl x)
    simpa [keysR] using this
  | d :: ds, ks, xs, F, H, acc, x, r, e, h => by
    obtain ⟨v, t, rfl, r1, r2⟩ := r
    unfold kysD at e
    split at e
    · rename_i k ek
      split at e
      · rename_i hk
        obtain ⟨kt, ht, rfl⟩ := Option.map_eq_some_iff.mp e
        refine ⟨F, [d], x, ⟨v, [], rfl, r1, rfl⟩, ?_⟩
        rw [ek]
        intro u F' H' al rp
        refine ⟨toPy k, kyD_v hk rp, keys_run al.x (RpL.xt al.f _ _ r2) ht fun F2 H2 al2 => ?_⟩
        have := h F2 H2 (al.trans al2)
        simpa using this
      · cases e
    · cases e
theorem sortZ_rp {F : Hp} {ds ks : List D} {vs : List V} (r : RpL K cl F ds vs) (hk : ks.length = ds.length) : RpL K cl F (sortZ ds ks) (((vs.zip (ks.map toPy)).mergeSort (PySem.W.dataLe false (·.2))).map (·.1)) := by
  obtain ⟨hl, hz⟩ := rpl_zip ds vs r
  have l1 : (ds.zip ks).length = vs.length := by rw [List.length_zip]; omega
  have e1 : ((vs.zip (ds.zip ks)).mergeSort (PySem.W.dataLe false (fun t => toPy t.2.2))).map (fun t => t.2.1) = sortZ ds ks := by
    unfold sortZ
    have : (vs.zip (ds.zip ks)).map (fun t => t.2) = ds.zip ks := List.map_snd_zip (Nat.le_of_eq l1)
    rw [← this, ← List.map_mergeSort (r := PySem.W.dataLe false (fun t : V × D × D => toPy t.2.2)) (s := PySem.W.dataLe false (fun q : D × D => toPy q.2)) (f := fun t : V × D × D => t.2) (fun a _ b _ => rfl), List.map_map, this]
    rfl
  have e2 : ((vs.zip (ds.zip ks)).mergeSort (PySem.W.dataLe false (fun t => toPy t.2.2))).map (fun t => t.1) = ((vs.zip (ks.map toPy)).mergeSort (PySem.W.dataLe false (·.2))).map (·.1) := by
    have h0 : (ds.zip ks).map (fun q => toPy q.2) = ks.map toPy := by
      rw [show (fun q : D × D => toPy q.2) = toPy ∘ (fun q : D × D => q.2) from rfl, ← List.map_map, List.map_snd_zip (Nat.le_of_eq hk)]
    have : vs.zip (ks.map toPy) = (vs.zip (ds.zip ks)).map (fun t => (t.1, toPy t.2.2)) := by
      rw [← h0, List.zip_map_right]
      rfl
    rw [this, ← List.map_mergeSort (r := PySem.W.dataLe false (fun t : V × D × D => toPy t.2.2)) (f := fun t : V × D × D => (t.1, toPy t.2.2)) (fun a _ b _ => rfl), List.map_map]
    rfl
  rw [← e1, ← e2]
  have := zip_rpl (K := K) (cl := cl) (F := F) (((vs.zip (ds.zip ks)).mergeSort (PySem.W.dataLe false (fun t => toPy t.2.2))).map (fun t => (t.1, t.2.1))) fun p hp => by
    obtain ⟨t, ht, rfl⟩ := List.mem_map.mp hp
    have h1 := (List.mergeSort_perm _ _).mem_iff.mp ht
    refine hz (t.1, t.2.1) ?_
    have h2 : vs.zip ds = (vs.zip (ds.zip ks)).map (fun t => (t.1, t.2.1)) := by
      have : (ds.zip ks).map (fun q => q.1) = ds := List.map_fst_zip (by omega)
      conv => lhs; rw [← this, List.zip_map_right]
      rfl
    rw [h2]
    exact List.mem_map.mpr ⟨t, h1, rfl⟩
  simpa [List.map_map, Function.comp_def] using this
theorem spl_sortK {p : List D → Re D} {f : Addr} {vs : List V} {H : Hp} {Q : VK} {E : XK} (h : SpL K cl (sortK p) vs H Q E) : rSortK K (SpP K cl p) f vs [.ref f] H Q := by
  obtain ⟨F, ds0, x, r, q⟩ := h
  cases e : sortK p ds0 with
  | stuck => rw [e] at q; exact q.elim
  | ex _ =>
    unfold sortK at e
    split at e
    · split at e
      · unfold ifc at e
        split at e <;> cases e
      · cases e
    · cases e
  | ok c =>
    rw [e] at q
    unfold sortK at e
    split at e
    · rename_i ds
      split at e
      · rename_i ks hks
        unfold ifc at e
        split at e
        · rename_i hc
          cases e
          obtain ⟨v, t, rfl, ⟨a, xs, rfl, hF, rl⟩, rt⟩ := r
          cases (show t = [] from rt)
          obtain ⟨kl, kk⟩ := kysD_len hks
          refine ⟨a, xs, rfl, rfl, .inl (.inl (x a _ hF)), keys_run x rl hks fun F' H' al => ?_⟩
          simp only [List.nil_append]
          refine ⟨hc.1, hc.2, fun k hk => ?_, fun p hp => ?_⟩
          · obtain ⟨d, hd, rfl⟩ := List.mem_map.mp hk
            exact kyD_depth (kk d hd)
          · have x' : Ex H' (upd H' p (.lst (((xs.zip (ks.map toPy)).mergeSort (PySem.W.dataLe false (·.2))).map (·.1)))) := Ex.new hp
            refine q p F' _ ⟨al.f, al.h.trans x', al.x.trans x', al.n⟩ (al.h.no hp) (al.x.no hp) ?_ ⟨_, upd_same, rwl_da (sortZ_rp (RpL.xt al.f _ _ rl) kl)⟩
            simp [daC, isDa]
        · cases e
      · cases e
    · cases e
end
section
variable {X : Cx} {cl : Str → Option Addr} {xa : Option (Nat × Addr)} {Wx : WX} {k : Nat} {f : Addr} {fd : FuncData} {ps : List Str} {x : Str} {pp pos kp fp : Pos} {e : Expr} {mr : MA} {p : List D → Re D} {mk : Option Cell → Sto → Rs W}
theorem qe_sortK (hu : Hu X) (hmk : MkN X.K cl xa mk (fun Q => Q)) (G : FnOk X.prog X.w X.K X.mg X.base (L2.CX X.prog X.w) k f fd ps (SpP X.K cl p)) (hr : Room (k + 2) X.A) (hg : Gl X x) (hm : X.mg x = some (.ref f)) (hb : Binds X.K fd ps []) (hgs : Gl X "sorted") (hms : X.mg "sorted" = none)
    (ha : QA X cl xa Wx [e] mr) (hdb : (x == ("__debug__" : Str)) = false := by decide)
    (h1 : backTo pos (starEach [e] X.env) = (false, eval e X.env) :: backTo pos (starEach [] X.env) := by rfl) (h2 : (backTo pos (starEach [e] X.env)).any (·.1) = false := by rfl)
    (hall : (backToKw pos (keywordEach [⟨some "key", .Name x fp, kp⟩] X.env)).all (·.1.isSome) = true := by rfl) (hnone : (backToKw pos (keywordEach [⟨some "key", .Name x fp, kp⟩] X.env)).any (·.1.isNone) = false := by rfl) (hks : (backToKw pos (keywordEach [⟨some "key", .Name x fp, kp⟩] X.env)).filterMap (·.1) = [Str.ofString "key"] := by rfl) :
    QE X cl xa Wx (.Call (.Name "sorted" pp) [e] [⟨some "key", .Name x fp, kp⟩] pos) (mCallL mk (sortK p) mr) := by
  obtain ⟨t, pa, q⟩ := ha
  refine ⟨_, pe_callBK (cr_sortK hu G hr hb) hgs hms (by rfl) pa (pk_cons (pe_glob (v := .ref f) hg hm rfl hdb) pk_nil) (by decide) (by decide) h1 h2 hall hnone hks, fun C y σ ρ S s Q h => ?_⟩
  refine q C y σ ρ S s _ (Post.go h fun ws S1 h1 vs z s1 g1 r1 => ?_)
  exact spl_sortK (useL hmk s1 r1 (Post.re (h1 z g1) g1))
end
end Ng
namespace Ng
open PySem PySem.Spec PyProof.Rows L2
/-! ### xs[::-1] -/
def revF (mk : Option Cell → Sto → Rs W) (w : W) (S : Sto) : Rs W := match lstW S w with
  | some ws => mk (some (.lst ws.reverse)) S
  | none => .stuck
def mRev (mk : Option Cell → Sto → Rs W) (me : ME) : ME := fun ρ S => (me ρ S).bind fun w S => revF mk w S
section
variable {X : Cx} {cl : Str → Option Addr} {xa : Option (Nat × Addr)} {Wx : WX} {e : Expr} {me : ME} {k : Nat} {p1 p2 p3 pos : Pos}
theorem qe_rev {mk : Option Cell → Sto → Rs W} (hmk : ∀ (C : Cn) (y : Y) (σ : L2.St) (ρ : Rho) (S : Sto) (o : Option Cell) (Q : VK), Sim X.K cl xa C y σ ρ S → Post X.K cl xa C Wx y σ ρ (mk o S) (OkE X.K cl xa C y σ ρ Q) → ∃ c, o = some c ∧ Gn X.K cl y c Q)
    (he : QE X cl xa Wx e me) : QE X cl xa Wx (.Subscript e (.Slice none none (some (.UnaryOp .USub (.Constant (.int 1) k p1) p2)) p3) pos) (mRev mk me) := by
  obtain ⟨t, p, q⟩ := he
  refine ⟨_, pe_revL p, fun C y σ ρ S s Q h => ?_⟩
  refine q C y σ ρ S s _ (Post.go h fun w S1 h1 v z s1 g1 r1 => ?_)
  have h4 := Post.re (h1 z g1) g1
  unfold revF at h4
  split at h4
  · rename_i ws hw
    obtain ⟨c', e, g⟩ := hmk C z σ ρ S1 _ Q s1 h4
    cases e
    obtain ⟨a, vs, rfl, t, l⟩ := lstW_ok s1.bs r1 hw
    exact ⟨a, vs, rfl, .inl (.inl t), fun p hp => g p _ hp ⟨_, upd_same, upd_rw (paired_rev l)⟩⟩
  · exact h4.elim
theorem qe_revD (he : QE X cl xa Wx e me) : QE X cl xa Wx (.Subscript e (.Slice none none (some (.UnaryOp .USub (.Constant (.int 1) k p1) p2)) p3) pos) (mRev mkD me) := qe_rev (fun C y σ ρ S o Q s h => post_newD s h) he
theorem qe_revC (he : QE X cl xa Wx e me) : QE X cl xa Wx (.Subscript e (.Slice none none (some (.UnaryOp .USub (.Constant (.int 1) k p1) p2)) p3) pos) (mRev mkC me) := qe_rev (fun C y σ ρ S o Q s h => post_newC s h) he
end
/-! ### d.get(k, x) -/
def dctW (S : Sto) (w : W) : Bool := (dkW S w).isSome || (dtW S w).isSome
def getF (w k x : W) (S : Sto) : Rs W := match dget w k S with
  | some (some u) => .ok u S
  | some none => .ok x S
  | none => .stuck
def mGet2 (md mk mx : ME) : ME := fun ρ S => (md ρ S).bind fun w S => if dctW S w = true then (mk ρ S).bind fun k S => (mx ρ S).bind fun x S => getF w k x S else .stuck
def mGet1 (md mk : ME) : ME := fun ρ S => (md ρ S).bind fun w S => if dctW S w = true then (mk ρ S).bind fun k S => getF w k (.da .non) S else .stuck
section
variable {X : Cx} {cl : Str → Option Addr} {xa : Option (Nat × Addr)} {Wx : WX} {o e f : Expr} {md mk mx : ME} {apos cpos : Pos}
theorem dct_ok {K : PySem.W.Frag} {y : Y} {S : Sto} (b : Bs K cl y S) {w : W} {v : V} (r : RW K cl y w v) (h : dctW S w = true) : ∃ a, v = .ref a ∧ IsD y.H a := by
  unfold dctW at h
  cases e : dkW S w with
  | some kws =>
    obtain ⟨a, kvs, e, t, l⟩ := dkW_ok b r e
    exact ⟨a, e, .inl ⟨_, t⟩⟩
  | none =>
    rw [e] at h
    cases e2 : dtW S w with
    | some kws =>
      obtain ⟨a, kvs, e, t, l⟩ := dtW_ok b r e2
      exact ⟨a, e, .inr ⟨_, t⟩⟩
    | none => rw [e2] at h; cases h
theorem qe_get2 (hu : Hu X) (ho : QE X cl xa Wx o md) (he : QE X cl xa Wx e mk) (hf : QE X cl xa Wx f mx) (m : M2 X o "get" apos e f cpos) : QE X cl xa Wx (.Call (.Attribute o "get" apos) [e, f] [] cpos) (mGet2 md mk mx) := by
  obtain ⟨t, p, q⟩ := ho
  obtain ⟨t1, p1, q1⟩ := he
  obtain ⟨t2, p2, q2⟩ := hf
  have hu' : X.A.units + 200 < cLine := hu
  refine ⟨_, pe_dget2 (by omega) p p1 p2 m, fun C y σ ρ S s Q h => ?_⟩
  refine q C y σ ρ S s _ (Post.go h fun w S1 h1 v z s1 g1 r1 => ?_)
  have h1' := h1 z g1
  split at h1'
  · rename_i hd
    obtain ⟨a, rfl, hD⟩ := dct_ok s1.bs r1 hd
    refine ⟨a, rfl, hD, ?_⟩
    refine q1 C z σ ρ S1 s1 _ (Post.go h1' fun k S2 h2 vk z2 s2 g2 r2 => ?_)
    refine q2 C z2 σ ρ S2 s2 _ (Post.go (h2 z2 g2) fun x S3 h3 vx z3 s3 g3 r3 => ?_)
    have h4 := Post.re (h3 z3 g3) (g1.trans (g2.trans g3))
    unfold getF at h4
    split at h4
    · rename_i u hu
      obtain ⟨a', ov, e, g, q1, _⟩ := dget_ok s3.bs (r1.grow (g2.trans g3)) (r2.grow g3) hu
      cases e
      obtain ⟨v, rfl, rv⟩ := q1 u rfl
      exact ⟨_, g, h4 v z3 s3 (Gr.refl z3) rv⟩
    · rename_i hu
      obtain ⟨a', ov, e, g, _, q2⟩ := dget_ok s3.bs (r1.grow (g2.trans g3)) (r2.grow g3) hu
      cases e
      refine ⟨ov, g, ?_⟩
      rw [q2 rfl]
      exact h4 vx z3 s3 (Gr.refl z3) r3
    · exact h4.elim
  · exact h1'.elim
theorem qe_get1 (hu : Hu X) (ho : QE X cl xa Wx o md) (he : QE X cl xa Wx e mk) (m : M1 X o "get" apos e cpos) : QE X cl xa Wx (.Call (.Attribute o "get" apos) [e] [] cpos) (mGet1 md mk) := by
  obtain ⟨t, p, q⟩ := ho
  obtain ⟨t1, p1, q1⟩ := he
  have hu' : X.A.units + 200 < cLine := hu
  refine ⟨_, pe_dget1 (by omega) p p1 m, fun C y σ ρ S s Q h => ?_⟩
  refine q C y σ ρ S s _ (Post.go h fun w S1 h1 v z s1 g1 r1 => ?_)
  have h1' := h1 z g1
  split at h1'
  · rename_i hd
    obtain ⟨a, rfl, hD⟩ := dct_ok s1.bs r1 hd
    refine ⟨a, rfl, hD, ?_⟩
    refine q1 C z σ ρ S1 s1 _ (Post.go h1' fun k S2 h2 vk z2 s2 g2 r2 => ?_)
    have h4 := Post.re (h2 z2 g2) (g1.trans g2)
    unfold getF at h4
    split at h4
    · rename_i u hu
      obtain ⟨a', ov, e, g, q1, _⟩ := dget_ok s2.bs (r1.grow g2) r2 hu
      cases e
      obtain ⟨v, rfl, rv⟩ := q1 u rfl
      exact ⟨_, g, h4 v z2 s2 (Gr.refl z2) rv⟩
    · rename_i hu
      obtain ⟨a', ov, e, g, _, q2⟩ := dget_ok s2.bs (r1.grow g2) r2 hu
      cases e
      refine ⟨ov, g, ?_⟩
      rw [q2 rfl]
      exact h4 .non z2 s2 (Gr.refl z2) rfl
    · exact h4.elim
  · exact h1'.elim
end
end Ng
namespace Ng
open PySem PySem.Spec PyProof.Rows L2
/-! ### sorted(d) of a dict whose keys are texts or ints -/
abbrev kPy (k : Key) : PyData := toPy (kD k)
noncomputable def sortDC : List W → Sto → Option Cell
  | [w], S => match dkW S w with
    | some kws => ifc (PySem.W.AllAlike ((kws.map (·.1)).map kPy) ∧ PySem.W.Sortable ((kws.map (·.1)).map kPy)) (some (.lst (((kws.map (·.1)).mergeSort (PySem.W.dataLe false kPy)).map fun k => .da (kD k)))) none
    | none => none
  | _, _ => none
section
variable {X : Cx} {cl : Str → Option Addr}
theorem kPy_depth (k : Key) : (kPy k).depth ≤ 64 := by cases k <;> simp [kPy, kD, toPy, PyData.depth]
theorem kPy_reads {k : Key} {u : Value} (r : RelV (kV k) u) (h : Heap) : Reads h u (kPy k) [] := by
  cases k with
  | inl i => obtain ⟨t, rfl⟩ := (show ∃ t, u = Value.int i t from r); exact .int i t
  | inr x => obtain ⟨t, rfl⟩ := (show ∃ t, u = Value.str x t from r); exact .str x t
theorem each_of_at {α : Type} {R : Value → α → Prop} : ∀ {us : List Value} {bs : List α}, us.length = bs.length → (∀ (j : Nat) (u : Value) (b : α), us[j]? = some u → bs[j]? = some b → R u b) → PySem.W.EachIs R us bs
  | [], [], _, _ => .nil
  | u :: us, b :: bs, h, q => .cons (q 0 u b rfl rfl) (each_of_at (by simpa using h) fun j u b h1 h2 => q (j + 1) u b (by simpa using h1) (by simpa using h2))
  | [], _ :: _, h, _ => by simp at h
  | _ :: _, [], h, _ => by simp at h
theorem vals_keys : ∀ {us : List Value} {bs : List Key}, PySem.W.EachIs (fun u k => RelV (kV k) u) us bs → Vals (bs.map kV) us
  | _, _, .nil => .nil
  | _, _, .cons r t => .cons r (vals_keys t)
theorem cr_sortDk (hu : Hu X) (hc : X.calm = true) : CallR X (.builtin "sorted") (fun xs H Q => ∃ p kvs, xs = [V.ref p] ∧ Rd H p (.dK kvs) ∧ PySem.W.AllAlike ((kvs.map (·.1)).map kPy) ∧ PySem.W.Sortable ((kvs.map (·.1)).map kPy) ∧
    ∀ q, H q = none → Q (.ref q) (upd H q (.lst (((kvs.map (·.1)).mergeSort (PySem.W.dataLe false kPy)).map kV)))) := by
  intro pins s σ H xs us Q I r ⟨p, kvs, e, hk, ha, hso, q⟩
  subst e
  obtain ⟨u, rfl, rx⟩ := vals1 r
  cases (show u = Value.ref p from rx)
  obtain ⟨z, lo, vs, rk, hd⟩ := dk_rd I.hok hk
  obtain ⟨ep, hat⟩ := hd.dictAt
  have hl : kvs.length = vs.length := Paired.length rk
  have hu' : X.A.units + 200 < cLine := hu
  refine PySem.Calls.call_function_entry kind_sorted plain_sorted entry_sorted (args_sorted1 _) ?_
  unfold Builtin.«sorted»
  refine wpAny_bind (m := checkCount "sorted" 1 1 _) (wpAny_pure ?_)
  refine wpAny_bind (PySem.W.kdu_collect (A := X.A.in1) (PySem.W.kdl_dict (knd := mixKind X.prog X.w) (kvs := vs) (ep := ep) lo) (I.ok.hd hc) hat (by omega) fun h' tk acc hkeep hacc => ?_)
  have hal : acc.toList.length = (kvs.map (·.1)).length := by rw [Array.length_toList, hacc.1, List.length_map, hl]
  have hz : acc.toList.length ≤ sizeLine := by rw [hal, List.length_map]; exact z
  refine wpAny_bind (wpAny_newList ?_ hz)
  refine wpAny_bind (wpAny_holding ?_)
  have each : PySem.W.EachIs (fun u k => RelV (kV k) u) acc.toList (kvs.map (·.1)) := each_of_at hal fun j u b h1 h2 => by
    obtain ⟨k, y, hky, hi⟩ := hacc.2 j u (by rw [← Array.getElem?_toList]; exact h1)
    have e1 : (kvs.map (·.1))[j]? = some k := by
      rw [KV.keys rk, List.getElem?_map, hky]; rfl
    rw [e1] at h2
    cases h2
    exact keyIs_rel hi
  have ho : (h'.push { cls := .type "list", data := .seq acc.toList.toArray }).get? h'.objs.size = some (seqObj "list" acc.toList.toArray 0) := Heap.get?_push_size _ rfl
  refine PySem.W.list_sort_data (A := X.A.in1) (R := fun u k => RelV (kV k) u) (bs := kvs.map (·.1)) (enc := kPy) (vs := acc.toList) ho each (each.mono fun u k r => ⟨[], kPy_reads r _, by simp⟩) ha hso (by rw [List.length_map]; exact z) (fun b _ => ?_) fun out ho' eo => ?_
  · have := kPy_depth b
    show X.A.units + 1 + 1 + (kPy b).depth < cLine
    omega
  · obtain ⟨ep', he'⟩ := PyProof.Rows.sortedHeap_at (h := h'.push { cls := .type "list", data := .seq acc.toList.toArray }) (out := out.toArray) ho
    have I1 : Inv X pins σ H { s with heap := h', toks := tk } := I.kept hkeep
    refine wpAny_pure ⟨_, rfl, .ref h'.objs.size, _, I1.laid (t' := tk) (a := h'.objs.size) (o := .lst (((kvs.map (·.1)).mergeSort (PySem.W.dataLe false kPy)).map kV)) (fun b o e => (PyProof.Rows.sortedHeap_old (Nat.ne_of_lt (Heap.lt_size e)) (Heap.lt_size (Heap.get?_push_of_some _ e))).trans (Heap.get?_push_of_some _ e)) (Nat.le_refl _) ⟨?_, out, ep', vals_keys eo, he'⟩, rfl, q _ (I1.hok.fresh (Nat.le_refl _))⟩
    rw [List.length_map, List.length_mergeSort, List.length_map]
    exact z
theorem cn_sortedD (hu : Hu X) (hc : X.calm = true) : CN X cl (cAny X (.builtin "sorted")) sortDC := fun y S b ws vs rs c e Q g => by
  unfold sortDC at e
  split at e
  · rename_i w
    obtain ⟨v, rfl, r⟩ := rwl1 rs
    split at e
    · rename_i kws q
      obtain ⟨⟨h1, h2⟩, rfl⟩ := ifc_some e
      obtain ⟨a, kvs, rfl, t, l⟩ := dkW_ok b r q
      have ek : kws.map (·.1) = kvs.map (·.1) := by
        clear e q t g h1 h2 r rs
        induction l with
        | nil => rfl
        | cons h _ ih => simp [ih, h.1]
      rw [ek] at h1 h2
      refine ⟨_, cr_sortDk hu hc, a, kvs, rfl, t, h1, h2, fun p hp => g p _ hp ⟨_, upd_same, upd_rw ?_⟩⟩
      rw [ek]
      generalize (kvs.map (·.1)).mergeSort (PySem.W.dataLe false kPy) = ks
      induction ks with
      | nil => exact .nil
      | cons k ks ih => exact .cons (kD_ok k) ih
    · cases e
  · cases e
end
end Ng
namespace Ng
open PySem PySem.Spec PyProof.Rows L2
/-! ### d == e, two dicts of the same keys in the same order, their values the same data -/
def selfD (d : D) : Bool := PySem.W.alike (toPy d) (toPy d) && PyData.eqv (toPy d) (toPy d) && (toPy d).canLay0 && decide ((toPy d).depth ≤ 64)
noncomputable def eqDkW (x y : W) (S : Sto) : Option W := match x, y with
  | .da (.dk ks ds), .da (.dk ks' ds') => ifc (ks = ks' ∧ ds = ds' ∧ ks.Nodup ∧ ∀ d ∈ ds, selfD d = true) (some (.da (.bl true))) none
  | _, _ => none
section
variable {X : Cx} {cl : Str → Option Addr}
theorem hits_same {pins : List (Addr × Obj)} {σ : L2.St} {H : Hp} {s : Shared} (I : Inv X pins σ H s) {A : Around} (hu : A.units + 64 < cLine) {VB : List (Key × Value)} : ∀ {ds : List D} {ka kb : List (Key × V)} {va vb : List (Key × Value)}, KV ka va → KV kb vb → ka.map (·.1) = kb.map (·.1) →
    DpAll X.K H (ka.map (·.2)) (ds.map toPy) → DpAll X.K H (kb.map (·.2)) (ds.map toPy) → (∀ d ∈ ds, selfD d = true) → (∀ q ∈ vb, valueAt VB q.1 = some q.2) → PySem.W.KeqHitsP X.prog X.w A s VB va true
  | ds, [], kb, _, vb, .nil, rb, ek, da, db, hd, hv => .nil
  | [], (k, x) :: ka, kb, _, vb, .cons r t, rb, ek, da, db, hd, hv => by cases da
  | d :: ds, (k, x) :: ka, [], _, vb, .cons r t, rb, ek, da, db, hd, hv => by cases ek
  | d :: ds, (k, x) :: ka, (k', z) :: kb, (k1, u) :: va, (k2, y) :: vb, .cons r t, .cons r' t', ek, da, db, hd, hv => by
    simp only [List.map_cons, List.cons.injEq] at ek
    cases da with
    | cons a1 a2 =>
      cases db with
      | cons b1 b2 =>
        obtain ⟨as, ra⟩ := Dp.reads I _ _ _ a1 r.2
        obtain ⟨bs, rb⟩ := Dp.reads I _ _ _ b1 r'.2
        have hs := hd d (by simp)
        unfold selfD at hs
        simp only [Bool.and_eq_true, decide_eq_true_eq] at hs
        have e := PySem.W.eqAt_alike _ _ A s u y as bs ra rb hs.1.1.1 (by rw [Nat.min_self]; omega)
        rw [hs.1.1.2] at e
        have hk : k1 = k2 := by rw [← show k = k1 from r.1, ← show k' = k2 from r'.1]; exact ek.1
        have := hits_same I hu (VB := VB) t t' ek.2 a2 b2 (fun d hd' => hd d (by simp [hd'])) (fun q hq => hv q (by simp [hq]))
        have hit := PySem.W.KeqHitsP.hit (prog := X.prog) (w := X.w) (A := A) (s := s) (k := k1) (v := u) (y := y) (by rw [hk]; exact hv (k2, y) (by simp)) e.eqP this
        exact hit
theorem op_eqDk (hu : Hu X) : OpR X (compareOp .Eq) (fun x y H Q => ∃ (a b : Addr) (ka kb : List (Key × V)) (ds : List D), x = .ref a ∧ y = .ref b ∧ Rd H a (.dK ka) ∧ Rd H b (.dK kb) ∧ ka.map (·.1) = kb.map (·.1) ∧ (kb.map (·.1)).Nodup ∧
    DpAll X.K H (ka.map (·.2)) (ds.map toPy) ∧ DpAll X.K H (kb.map (·.2)) (ds.map toPy) ∧ (∀ d ∈ ds, selfD d = true) ∧ Q (.bl true) H) := by
  intro pins s σ H x y v u Q I rx ry h
  obtain ⟨a, b, ka, kb, ds, rfl, rfl, ha, hb, ek, nd, da, db, hd, q⟩ := h
  cases (show v = Value.ref a from rx)
  cases (show u = Value.ref b from ry)
  obtain ⟨_, ya, va, ra, dda⟩ := dk_rd I.hok ha
  obtain ⟨_, yb, vb, rb, ddb⟩ := dk_rd I.hok hb
  have hu' : X.A.units + 200 < cLine := hu
  have nd' : (vb.map (·.1)).Nodup := by rw [← KV.keys rb]; exact nd
  refine PySem.W.rcP_dicts (knd := mixKind X.prog X.w) (r := true) ya yb dda ddb (by omega) (fun _ => hits_same I (A := X.A.in1) (by show X.A.units + 1 + 64 < cLine; omega) ra rb ek da db hd fun q hq => valueAt_of_mem nd' hq) _ _ ?_
  have e : va.length = vb.length := by
    rw [← ra.length, ← rb.length]
    have := congrArg List.length ek
    simpa using this
  rw [show (va.length == vb.length && true) = true from by rw [e]; simp]
  exact ⟨.bl true, H, I, rfl, q⟩
theorem ow_eqDk (hu : Hu X) : HOp X cl (compareOp .Eq) (vl2 eqDkW) := V2.h fun y S b w w' v v' r r' u e Q g => by
  unfold eqDkW at e
  split at e
  · rename_i ks ds ks' ds'
    obtain ⟨⟨rfl, rfl, nd, hd⟩, rfl⟩ := ifc_some e
    obtain ⟨a, vs, rfl, ⟨o, ha⟩, la, ra⟩ := r
    obtain ⟨a', vs', rfl, ⟨o', ha'⟩, la', ra'⟩ := r'
    have lay : ∀ d ∈ ds, (toPy d).canLay0 = true := fun d hd' => by
      have := hd d hd'
      unfold selfD at this
      simp only [Bool.and_eq_true] at this
      exact this.1.2
    refine ⟨_, op_eqDk hu, a, a', ks.zip vs, ks.zip vs', ds, rfl, rfl, .inr ⟨o, b.fz _ _ ha⟩, .inr ⟨o', b.fz _ _ ha'⟩, ?_, ?_, ?_, ?_, hd, gv_da b g rfl⟩
    · rw [List.map_fst_zip (Nat.le_of_eq la), List.map_fst_zip (Nat.le_of_eq la')]
    · rw [List.map_fst_zip (Nat.le_of_eq la')]; exact nd
    · rw [List.map_snd_zip (Nat.le_of_eq la.symm)]; exact toPyL_all ds vs lay (RpL.xt b.fz _ _ ra)
    · rw [List.map_snd_zip (Nat.le_of_eq la'.symm)]; exact toPyL_all ds vs' lay (RpL.xt b.fz _ _ ra')
  · cases e
end
end Ng
namespace Ng
open PySem PySem.Spec PyProof.Rows L2
def topS (i : Nat) : Stmt := PySem.Challenge.pw_nightglass_k14_whole_frames_of_a_web.main.body.getD i (.Pass ⟨0, 0, 0, 0⟩)
/-! ### turned -/
abbrev s_turned : Stmt := topS 2
theorem sc_turned : FnScope ["turn", "place", "k", "x", "y"] ["turn", "place"] (defScope s_turned) := ⟨rfl, rfl, rfl, by decide +kernel, rfl, by decide +kernel, by decide +kernel⟩
noncomputable def b_turned_0 : MS := (mPar 3 4 (mCons (mUn (vl1 negW) (mVar 4)) (mCons (mVar 3) mNil)))
noncomputable def m_turned : MS := (mSeq (mAsg (gtTup 2 (gtCons (gtName 3) (gtCons (gtName 4) gtNil))) (mVar 1)) (mSeq (mIf (mTst (mOp (vl2 geW) (mVar 0) (mC (.int 4)))) (mSet 3 (mUn (vl1 negW) (mVar 3))) mSkip) (mSeq (mForR rng1 (mCons (mOp (vl2 modW) (mVar 0) (mC (.int 4))) mNil) (gtName 2) b_turned_0) (mRet (mCall (ndN tupC) (mCons (mVar 3) (mCons (mVar 4) mNil)))))))
noncomputable def q_turned : List W → Sto → Rs W := runS 5 2 m_turned
noncomputable def p_turned : List D → Re D := runP 5 2 m_turned
/-! ### turn_behind -/
abbrev s_turn_behind : Stmt := topS 3
theorem sc_turn_behind : FnScope ["first", "second", "quarters", "mirrored"] ["first", "second"] (defScope s_turn_behind) := ⟨rfl, rfl, rfl, by decide +kernel, rfl, by decide +kernel, by decide +kernel⟩
noncomputable def m_turn_behind : MS := (mSeq (mSet 2 (mOp (vl2 modW) (mVar 0) (mC (.int 4)))) (mSeq (mIf (mTst (mOp (vl2 geW) (mVar 1) (mC (.int 4)))) (mSet 2 (mUn (vl1 negW) (mVar 2))) mSkip) (mSeq (mSet 3 (mOp (vl2 modW) (mOp addD (mOp (vl2 divW) (mVar 0) (mC (.int 4))) (mOp (vl2 divW) (mVar 1) (mC (.int 4)))) (mC (.int 2)))) (mRet (mOp addD (mOp (vl2 modW) (mOp addD (mVar 2) (mVar 1)) (mC (.int 4))) (mOp (vl2 mulW) (mC (.int 4)) (mVar 3)))))))
noncomputable def q_turn_behind : List W → Sto → Rs W := runS 4 2 m_turn_behind
noncomputable def p_turn_behind : List D → Re D := runP 4 2 m_turn_behind
/-! ### behind -/
abbrev s_behind : Stmt := topS 4
theorem sc_behind : FnScope ["first", "second", "x", "y"] ["first", "second"] (defScope s_behind) := ⟨rfl, rfl, rfl, by decide +kernel, rfl, by decide +kernel, by decide +kernel⟩
noncomputable def m_behind : MS := (mSeq (mAsg (gtTup 2 (gtCons (gtName 2) (gtCons (gtName 3) gtNil))) (mCallN p_turned (mCons (mOp (vl2 ixW) (mVar 1) (mC (.int 0))) (mCons (mCall (ndN tupC) (mCons (mOp (vl2 ixW) (mVar 0) (mC (.int 1))) (mCons (mOp (vl2 ixW) (mVar 0) (mC (.int 2))) mNil))) mNil)))) (mRet (mCall (ndN tupC) (mCons (mCallN p_turn_behind (mCons (mOp (vl2 ixW) (mVar 0) (mC (.int 0))) (mCons (mOp (vl2 ixW) (mVar 1) (mC (.int 0))) mNil))) (mCons (mOp addD (mVar 2) (mOp (vl2 ixW) (mVar 1) (mC (.int 1)))) (mCons (mOp addD (mVar 3) (mOp (vl2 ixW) (mVar 1) (mC (.int 2)))) mNil))))))
noncomputable def q_behind : List W → Sto → Rs W := runS 4 2 m_behind
noncomputable def p_behind : List D → Re D := runP 4 2 m_behind
/-! ### turn_back -/
abbrev s_turn_back : Stmt := topS 5
theorem sc_turn_back : FnScope ["turn"] ["turn"] (defScope s_turn_back) := ⟨rfl, rfl, rfl, by decide +kernel, rfl, by decide +kernel, by decide +kernel⟩
noncomputable def m_turn_back : MS := (mSeq (mIf (mTst (mOp (vl2 geW) (mVar 0) (mC (.int 4)))) (mRet (mVar 0)) mSkip) (mRet (mOp (vl2 modW) (mOp (vl2 subW) (mC (.int 4)) (mVar 0)) (mC (.int 4)))))
noncomputable def q_turn_back : List W → Sto → Rs W := runS 1 1 m_turn_back
noncomputable def p_turn_back : List D → Re D := runP 1 1 m_turn_back
/-! ### back -/
abbrev s_back : Stmt := topS 6
theorem sc_back : FnScope ["motion", "turn", "x", "y"] ["motion"] (defScope s_back) := ⟨rfl, rfl, rfl, by decide +kernel, rfl, by decide +kernel, by decide +kernel⟩
noncomputable def m_back : MS := (mSeq (mSet 1 (mCallN p_turn_back (mCons (mOp (vl2 ixW) (mVar 0) (mC (.int 0))) mNil))) (mSeq (mAsg (gtTup 2 (gtCons (gtName 2) (gtCons (gtName 3) gtNil))) (mCallN p_turned (mCons (mVar 1) (mCons (mCall (ndN tupC) (mCons (mOp (vl2 ixW) (mVar 0) (mC (.int 1))) (mCons (mOp (vl2 ixW) (mVar 0) (mC (.int 2))) mNil))) mNil)))) (mRet (mCall (ndN tupC) (mCons (mVar 1) (mCons (mUn (vl1 negW) (mVar 2)) (mCons (mUn (vl1 negW) (mVar 3)) mNil)))))))
noncomputable def q_back : List W → Sto → Rs W := runS 4 1 m_back
noncomputable def p_back : List D → Re D := runP 4 1 m_back
/-! ### number_of -/
abbrev s_number_of : Stmt := topS 8
theorem sc_number_of : FnScope ["tie"] ["tie"] (defScope s_number_of) := ⟨rfl, rfl, rfl, by decide +kernel, rfl, by decide +kernel, by decide +kernel⟩
noncomputable def m_number_of : MS := (mRet (mOp (vl2 ixW) (mVar 0) (mC (.int 0))))
noncomputable def q_number_of : List W → Sto → Rs W := runS 1 1 m_number_of
noncomputable def p_number_of : List D → Re D := runP 1 1 m_number_of
/-! ### step -/
abbrev s_step : Stmt := topS 9
theorem sc_step : FnScope ["tie", "name", "number", "one", "other", "motion"] ["tie", "name"] (defScope s_step) := ⟨rfl, rfl, rfl, by decide +kernel, rfl, by decide +kernel, by decide +kernel⟩
noncomputable def m_step : MS := (mSeq (mAsg (gtTup 4 (gtCons (gtName 2) (gtCons (gtName 3) (gtCons (gtName 4) (gtCons (gtName 5) gtNil))))) (mVar 0)) (mSeq (mIf (mTst (mOp (vl2 eqW) (mVar 3) (mVar 1))) (mRet (mCall (ndN tupC) (mCons (mVar 4) (mCons (mVar 5) mNil)))) mSkip) (mSeq (mIf (mTst (mOp (vl2 eqW) (mVar 4) (mVar 1))) (mRet (mCall (ndN tupC) (mCons (mVar 3) (mCons (mCallN p_back (mCons (mVar 5) mNil)) mNil)))) mSkip) (mRet (mC .non)))))
noncomputable def q_step : List W → Sto → Rs W := runS 6 2 m_step
noncomputable def p_step : List D → Re D := runP 6 2 m_step
/-! ### reached -/
abbrev s_reached : Stmt := topS 10
theorem sc_reached : FnScope ["ties", "start", "rising", "found", "queue", "at", "name", "tie", "chain", "frame", "way"] ["ties", "start"] (defScope s_reached) := ⟨rfl, rfl, rfl, by decide +kernel, rfl, by decide +kernel, by decide +kernel⟩
noncomputable def b_reached_0 : MS := (mSeq (mSet 10 (mCallN p_step (mCons (mVar 7) (mCons (mVar 6) mNil)))) (mIf (mAnd (mTst (mOp (vl2 notNW) (mVar 10) (mC .non))) (mTst (mOp (vl2 notinW) (mOp (vl2 ixW) (mVar 10) (mC (.int 0))) (mVar 3)))) (mSeq (mSetIx (mVar 3) (mOp (vl2 ixW) (mVar 10) (mC (.int 0))) (mCall (ndN tupC) (mCons (mOp addD (mVar 8) (mCall (ndN lstC) (mCons (mOp (vl2 ixW) (mVar 7) (mC (.int 0))) mNil))) (mCons (mCallN p_behind (mCons (mOp (vl2 ixW) (mVar 10) (mC (.int 1))) (mCons (mVar 9) mNil))) mNil)))) (mDrop (mMt "list" (chL appL) (mVar 4) (mCons (mOp (vl2 ixW) (mVar 10) (mC (.int 0))) mNil)))) mSkip))
noncomputable def c_reached_1 : MT := (mTst (mOp (vl2 ltW) (mVar 5) (mCall (vlN lenW) (mCons (mVar 4) mNil))))
noncomputable def b_reached_2 : MS := (mSeq (mSet 6 (mOp (vl2 ixW) (mVar 4) (mVar 5))) (mSeq (mInc 5 (mC (.int 1))) (mSeq (mAsg (gtTup 2 (gtCons (gtName 8) (gtCons (gtName 9) gtNil))) (mOp (vl2 ixW) (mVar 3) (mVar 6))) (mFor (mVar 2) (gtName 7) b_reached_0))))
noncomputable def m_reached : MS := (mSeq (mSet 2 (mCallL mkD (sortK p_number_of) (mCons (mVar 0) mNil))) (mSeq (mSet 3 (mDisp mkC (mpCons (mVar 1) (mCall (ndN tupC) (mCons (mCall (ndN lstC) mNil) (mCons (mC (.wt [(.int 0), (.int 0), (.int 0)])) mNil))) mpNil))) (mSeq (mSet 4 (mCall (ncN lstC) (mCons (mVar 1) mNil))) (mSeq (mSet 5 (mC (.int 0))) (mSeq (mWhile c_reached_1 b_reached_2) (mRet (mFz (mVar 3))))))))
noncomputable def q_reached : List W → Sto → Rs W := runS 11 2 m_reached
noncomputable def p_reached : List D → Re D := runP 11 2 m_reached
/-! ### chains -/
abbrev s_chains : Stmt := topS 11
theorem sc_chains : FnScope ["ties", "start", "told", "name", "chain", "frame"] ["ties", "start"] (defScope s_chains) := ⟨rfl, rfl, rfl, by decide +kernel, rfl, by decide +kernel, by decide +kernel⟩
noncomputable def b_chains_0 : MS := (mSetIx (mVar 2) (mVar 3) (mVar 4))
noncomputable def m_chains : MS := (mSeq (mSet 2 (mCall (ncN newDK) mNil)) (mSeq (mForI (mCallN p_reached (mCons (mVar 0) (mCons (mVar 1) mNil))) (gtTup 2 (gtCons (gtName 3) (gtCons (gtTup 2 (gtCons (gtName 4) (gtCons (gtName 5) gtNil))) gtNil))) b_chains_0) (mRet (mFz (mVar 2)))))
noncomputable def q_chains : List W → Sto → Rs W := runS 6 2 m_chains
noncomputable def p_chains : List D → Re D := runP 6 2 m_chains
/-! ### frames -/
abbrev s_frames : Stmt := topS 12
theorem sc_frames : FnScope ["ties", "start", "told", "name", "chain", "frame"] ["ties", "start"] (defScope s_frames) := ⟨rfl, rfl, rfl, by decide +kernel, rfl, by decide +kernel, by decide +kernel⟩
noncomputable def b_frames_0 : MS := (mSetIx (mVar 2) (mVar 3) (mVar 5))
noncomputable def m_frames : MS := (mSeq (mSet 2 (mCall (ncN newDK) mNil)) (mSeq (mForI (mCallN p_reached (mCons (mVar 0) (mCons (mVar 1) mNil))) (gtTup 2 (gtCons (gtName 3) (gtCons (gtTup 2 (gtCons (gtName 4) (gtCons (gtName 5) gtNil))) gtNil))) b_frames_0) (mRet (mVar 2))))
noncomputable def q_frames : List W → Sto → Rs W := runS 6 2 m_frames
noncomputable def l_frames : List D → Re Cell := newOf q_frames
/-! ### _law_draws -/
abbrev s_l_draws : Stmt := topS 14
theorem sc_l_draws : FnScope ["_law_script", "_law_at", "_law_many", "_law_cell", "_law_seed", "_law_row", "_law_mark"] ["_law_script", "_law_at", "_law_many"] (defScope s_l_draws) := ⟨rfl, rfl, rfl, by decide +kernel, rfl, by decide +kernel, by decide +kernel⟩
noncomputable def c_l_draws_0 : MT := (mAnd (mTst (mOp (vl2 gtW) (mVar 3) (mC (.int 0)))) (mTst (mOp (vl2 ltW) (mCall (vlN lenW) (mCons (mVar 5) mNil)) (mVar 2))))
noncomputable def b_l_draws_1 : MS := (mSeq (mDrop (mMt "list" (chL appL) (mVar 5) (mCons (mOp (vl2 modW) (mVar 3) (mC (.int 1013))) mNil))) (mSet 3 (mOp (vl2 divW) (mVar 3) (mC (.int 1013)))))
noncomputable def c_l_draws_2 : MT := (mTst (mOp (vl2 ltW) (mCall (vlN lenW) (mCons (mVar 5) mNil)) (mVar 2)))
noncomputable def b_l_draws_3 : MS := (mSeq (mSet 6 (mOp addD (mCall (vlN lenW) (mCons (mVar 5) mNil)) (mC (.int 1)))) (mSeq (mSet 4 (mOp (vl2 modW) (mOp addD (mOp addD (mOp (vl2 mulW) (mVar 4) (mC (.int 48271))) (mOp (vl2 mulW) (mOp (vl2 mulW) (mVar 6) (mVar 6)) (mC (.int 6133)))) (mC (.int 17))) (mC (.int 2147483647)))) (mDrop (mMt "list" (chL appL) (mVar 5) (mCons (mOp (vl2 modW) (mOp (vl2 modW) (mOp (vl2 mulW) (mOp (vl2 modW) (mVar 4) (mC (.int 65521))) (mOp addD (mOp (vl2 modW) (mOp (vl2 divW) (mVar 4) (mC (.int 65521))) (mC (.int 32749))) (mC (.int 1)))) (mC (.int 1000003))) (mC (.int 1013))) mNil)))))
noncomputable def m_l_draws : MS := (mSeq (mSet 3 (mOp addD (mOp (vl2 mulW) (mC (.int 7)) (mVar 1)) (mC (.int 1)))) (mSeq (mIf (mTst (mOp (vl2 ltW) (mVar 1) (mCall (vlN lenW) (mCons (mVar 0) mNil)))) (mSet 3 (mOp (vl2 ixW) (mVar 0) (mVar 1))) (mIf (mTst (mOp (vl2 gtW) (mCall (vlN lenW) (mCons (mVar 0) mNil)) (mC (.int 0)))) (mSet 3 (mOp addD (mOp addD (mOp (vl2 modW) (mOp (vl2 ixW) (mVar 0) (mOp (vl2 modW) (mVar 1) (mCall (vlN lenW) (mCons (mVar 0) mNil)))) (mC (.int 999983))) (mOp (vl2 mulW) (mOp (vl2 mulW) (mVar 1) (mVar 1)) (mC (.int 97)))) (mC (.int 1)))) mSkip)) (mSeq (mSet 4 (mOp addD (mOp addD (mOp (vl2 modW) (mVar 3) (mC (.int 999983))) (mOp (vl2 mulW) (mC (.int 31)) (mVar 1))) (mC (.int 5)))) (mSeq (mSet 5 (mCall (ncN lstC) mNil)) (mSeq (mIf (mTst (mOp (vl2 geW) (mVar 3) (mOp (vl2 powW) (mC (.int 10)) (mC (.int 18))))) (mWhile c_l_draws_0 b_l_draws_1) mSkip) (mSeq (mWhile c_l_draws_2 b_l_draws_3) (mRet (mFz (mVar 5)))))))))
noncomputable def q_l_draws : List W → Sto → Rs W := runS 7 3 m_l_draws
noncomputable def p_l_draws : List D → Re D := runP 7 3 m_l_draws
/-! ### _law_far -/
abbrev s_l_far : Stmt := topS 15
theorem sc_l_far : FnScope ["_law_one", "_law_two"] ["_law_one", "_law_two"] (defScope s_l_far) := ⟨rfl, rfl, rfl, by decide +kernel, rfl, by decide +kernel, by decide +kernel⟩
noncomputable def m_l_far : MS := (mSeq (mIf (mTst (mOp (vl2 ltW) (mOp (vl2 modW) (mVar 0) (mC (.int 5))) (mC (.int 3)))) (mRet (mOp (vl2 subW) (mOp (vl2 modW) (mOp (vl2 divW) (mVar 0) (mC (.int 5))) (mC (.int 13))) (mC (.int 6)))) mSkip) (mSeq (mIf (mTst (mOp (vl2 eqW) (mOp (vl2 modW) (mVar 0) (mC (.int 5))) (mC (.int 3)))) (mRet (mOp (vl2 subW) (mOp addD (mOp (vl2 mulW) (mVar 0) (mC (.int 1013))) (mVar 1)) (mC (.int 513000)))) mSkip) (mRet (mOp addD (mOp (vl2 mulW) (mOp (vl2 subW) (mVar 1) (mC (.int 506))) (mOp (vl2 powW) (mC (.int 10)) (mC (.int 27)))) (mVar 0)))))
noncomputable def q_l_far : List W → Sto → Rs W := runS 2 2 m_l_far
noncomputable def p_l_far : List D → Re D := runP 2 2 m_l_far
/-! ### _law_turned -/
abbrev s_l_turned : Stmt := topS 16
theorem sc_l_turned : FnScope ["_law_turn", "_law_x", "_law_y"] ["_law_turn", "_law_x", "_law_y"] (defScope s_l_turned) := ⟨rfl, rfl, rfl, by decide +kernel, rfl, by decide +kernel, by decide +kernel⟩
noncomputable def m_l_turned : MS := (mRet (mOp (vl2 ixW) (mCall (ndN lstC) (mCons (mCall (ndN tupC) (mCons (mVar 1) (mCons (mVar 2) mNil))) (mCons (mCall (ndN tupC) (mCons (mUn (vl1 negW) (mVar 2)) (mCons (mVar 1) mNil))) (mCons (mCall (ndN tupC) (mCons (mUn (vl1 negW) (mVar 1)) (mCons (mUn (vl1 negW) (mVar 2)) mNil))) (mCons (mCall (ndN tupC) (mCons (mVar 2) (mCons (mUn (vl1 negW) (mVar 1)) mNil))) (mCons (mCall (ndN tupC) (mCons (mUn (vl1 negW) (mVar 1)) (mCons (mVar 2) mNil))) (mCons (mCall (ndN tupC) (mCons (mUn (vl1 negW) (mVar 2)) (mCons (mUn (vl1 negW) (mVar 1)) mNil))) (mCons (mCall (ndN tupC) (mCons (mVar 1) (mCons (mUn (vl1 negW) (mVar 2)) mNil))) (mCons (mCall (ndN tupC) (mCons (mVar 2) (mCons (mVar 1) mNil))) mNil))))))))) (mVar 0)))
noncomputable def q_l_turned : List W → Sto → Rs W := runS 3 3 m_l_turned
noncomputable def p_l_turned : List D → Re D := runP 3 3 m_l_turned
/-! ### _law_behind -/
abbrev s_l_behind : Stmt := topS 17
theorem sc_l_behind : FnScope ["_law_first", "_law_second", "_law_quarters", "_law_turn", "_law_x", "_law_y"] ["_law_first", "_law_second"] (defScope s_l_behind) := ⟨rfl, rfl, rfl, by decide +kernel, rfl, by decide +kernel, by decide +kernel⟩
noncomputable def m_l_behind : MS := (mSeq (mSet 2 (mOp (vl2 modW) (mOp (vl2 ixW) (mVar 0) (mC (.int 0))) (mC (.int 4)))) (mSeq (mIf (mTst (mOp (vl2 gtW) (mOp (vl2 ixW) (mVar 1) (mC (.int 0))) (mC (.int 3)))) (mSet 2 (mUn (vl1 negW) (mVar 2))) mSkip) (mSeq (mSet 3 (mOp addD (mOp (vl2 modW) (mOp addD (mVar 2) (mOp (vl2 ixW) (mVar 1) (mC (.int 0)))) (mC (.int 4))) (mOp (vl2 mulW) (mC (.int 4)) (mOp (vl2 modW) (mOp addD (mOp (vl2 divW) (mOp (vl2 ixW) (mVar 0) (mC (.int 0))) (mC (.int 4))) (mOp (vl2 divW) (mOp (vl2 ixW) (mVar 1) (mC (.int 0))) (mC (.int 4)))) (mC (.int 2)))))) (mSeq (mAsg (gtTup 2 (gtCons (gtName 4) (gtCons (gtName 5) gtNil))) (mCallN p_l_turned (mCons (mOp (vl2 ixW) (mVar 1) (mC (.int 0))) (mCons (mOp (vl2 ixW) (mVar 0) (mC (.int 1))) (mCons (mOp (vl2 ixW) (mVar 0) (mC (.int 2))) mNil))))) (mRet (mCall (ndN tupC) (mCons (mVar 3) (mCons (mOp addD (mVar 4) (mOp (vl2 ixW) (mVar 1) (mC (.int 1)))) (mCons (mOp addD (mVar 5) (mOp (vl2 ixW) (mVar 1) (mC (.int 2)))) mNil)))))))))
noncomputable def q_l_behind : List W → Sto → Rs W := runS 6 2 m_l_behind
noncomputable def p_l_behind : List D → Re D := runP 6 2 m_l_behind
/-! ### _law_back -/
abbrev s_l_back : Stmt := topS 18
theorem sc_l_back : FnScope ["_law_motion_here", "_law_turn", "_law_x", "_law_y"] ["_law_motion_here"] (defScope s_l_back) := ⟨rfl, rfl, rfl, by decide +kernel, rfl, by decide +kernel, by decide +kernel⟩
noncomputable def m_l_back : MS := (mSeq (mSet 1 (mOp (vl2 ixW) (mCall (ndN lstC) (mCons (mC (.int 0)) (mCons (mC (.int 3)) (mCons (mC (.int 2)) (mCons (mC (.int 1)) (mCons (mC (.int 4)) (mCons (mC (.int 5)) (mCons (mC (.int 6)) (mCons (mC (.int 7)) mNil))))))))) (mOp (vl2 ixW) (mVar 0) (mC (.int 0))))) (mSeq (mAsg (gtTup 2 (gtCons (gtName 2) (gtCons (gtName 3) gtNil))) (mCallN p_l_turned (mCons (mVar 1) (mCons (mOp (vl2 ixW) (mVar 0) (mC (.int 1))) (mCons (mOp (vl2 ixW) (mVar 0) (mC (.int 2))) mNil))))) (mRet (mCall (ndN tupC) (mCons (mVar 1) (mCons (mUn (vl1 negW) (mVar 2)) (mCons (mUn (vl1 negW) (mVar 3)) mNil)))))))
noncomputable def q_l_back : List W → Sto → Rs W := runS 4 1 m_l_back
noncomputable def p_l_back : List D → Re D := runP 4 1 m_l_back
/-! ### _law_motion -/
abbrev s_l_motion : Stmt := topS 19
theorem sc_l_motion : FnScope ["_law_d", "_law_at"] ["_law_d", "_law_at"] (defScope s_l_motion) := ⟨rfl, rfl, rfl, by decide +kernel, rfl, by decide +kernel, by decide +kernel⟩
noncomputable def m_l_motion : MS := (mRet (mCall (ndN tupC) (mCons (mOp (vl2 modW) (mOp (vl2 ixW) (mVar 0) (mVar 1)) (mC (.int 8))) (mCons (mCallN p_l_far (mCons (mOp (vl2 ixW) (mVar 0) (mOp addD (mVar 1) (mC (.int 1)))) (mCons (mOp (vl2 ixW) (mVar 0) (mOp addD (mVar 1) (mC (.int 2)))) mNil))) (mCons (mCallN p_l_far (mCons (mOp (vl2 ixW) (mVar 0) (mOp addD (mVar 1) (mC (.int 3)))) (mCons (mOp (vl2 ixW) (mVar 0) (mOp addD (mVar 1) (mC (.int 4)))) mNil))) mNil)))))
noncomputable def q_l_motion : List W → Sto → Rs W := runS 2 2 m_l_motion
noncomputable def p_l_motion : List D → Re D := runP 2 2 m_l_motion
/-! ### _law_same -/
abbrev s_l_same : Stmt := topS 20
theorem sc_l_same : FnScope ["_law_found", "_law_due", "_law_k"] ["_law_found", "_law_due"] (defScope s_l_same) := ⟨rfl, rfl, rfl, by decide +kernel, rfl, by decide +kernel, by decide +kernel⟩
noncomputable def b_l_same_0 (p : List D → Re D) : MS := (mIf (mNot (mTru (mCallN p (mCons (mOp (vl2 ixW) (mVar 0) (mVar 2)) (mCons (mOp (vl2 ixW) (mVar 1) (mVar 2)) mNil))))) (mRet (mC (.bl false))) mSkip)
noncomputable def m_l_same (p : List D → Re D) : MS := (mSeq (mIf (mTru (mUn (isiW ["tuple", "list"]) (mVar 1))) (mSeq (mIf (mOr (mTst (mOp (vl2 neW) (mUn (isiW ["tuple"]) (mVar 1)) (mUn (isiW ["tuple"]) (mVar 0)))) (mTst (mOp (vl2 neW) (mUn (isiW ["list"]) (mVar 1)) (mUn (isiW ["list"]) (mVar 0))))) (mRet (mC (.bl false))) mSkip) (mSeq (mIf (mTst (mOp (vl2 neW) (mCall (vlN lenW) (mCons (mVar 0) mNil)) (mCall (vlN lenW) (mCons (mVar 1) mNil)))) (mRet (mC (.bl false))) mSkip) (mSeq (mForR rng1 (mCons (mCall (vlN lenW) (mCons (mVar 1) mNil)) mNil) (gtName 2) (b_l_same_0 p)) (mRet (mC (.bl true)))))) mSkip) (mSeq (mIf (mTst (mOp (vl2 isNW) (mVar 1) (mC .non))) (mRet (mOp (vl2 isNW) (mVar 0) (mC .non))) mSkip) (mSeq (mIf (mOr (mTru (mUn (isiW ["bool"]) (mVar 1))) (mTru (mUn (isiW ["bool"]) (mVar 0)))) (mRet (mAndV (mUn (isiW ["bool"]) (mVar 1)) (mAndV (mUn (isiW ["bool"]) (mVar 0)) (mOp (vl2 eqW) (mVar 0) (mVar 1))))) mSkip) (mSeq (mIf (mTru (mUn (isiW ["int"]) (mVar 1))) (mRet (mAndV (mUn (isiW ["int"]) (mVar 0)) (mOp (vl2 eqW) (mVar 0) (mVar 1)))) mSkip) (mRet (mAndV (mUn (isiW ["str"]) (mVar 0)) (mOp (vl2 eqW) (mVar 0) (mVar 1))))))))
noncomputable def p_l_same : Nat → List D → Re D
  | 0 => fun _ => .stuck
  | n + 1 => runP 3 2 (m_l_same (p_l_same n))
/-! ### _law_names -/
abbrev s_l_names : Stmt := topS 21
theorem sc_l_names : FnScope ["_law_d", "_law_letters", "_law_names_here", "_law_k", "_law_own", "_law_size", "_law_rest", "_law_at"] ["_law_d"] (defScope s_l_names) := ⟨rfl, rfl, rfl, by decide +kernel, rfl, by decide +kernel, by decide +kernel⟩
noncomputable def e_l_names_0 : ME := (mOp (vl2 ixW) (mVar 1) (mOp (vl2 modW) (mOp addD (mOp (vl2 ixW) (mVar 0) (mC (.int 3))) (mOp (vl2 mulW) (mVar 7) (mOp (vl2 ixW) (mVar 0) (mC (.int 4))))) (mC (.int 26))))
noncomputable def b_l_names_1 : MS := (mSeq (mSet 4 (mOp (vl2 ixW) (mVar 1) (mOp (vl2 modW) (mOp addD (mOp (vl2 mulW) (mVar 3) (mOp (vl2 ixW) (mCall (ndN lstC) (mCons (mC (.int 1)) (mCons (mC (.int 3)) (mCons (mC (.int 5)) (mCons (mC (.int 7)) (mCons (mC (.int 9)) (mCons (mC (.int 11)) mNil))))))) (mOp (vl2 modW) (mOp (vl2 ixW) (mVar 0) (mC (.int 2))) (mC (.int 6))))) (mOp (vl2 ixW) (mVar 0) (mC (.int 3)))) (mC (.int 26))))) (mSeq (mSet 5 (mOp (vl2 modW) (mOp (vl2 divW) (mOp (vl2 ixW) (mVar 0) (mC (.int 4))) (mC (.int 4))) (mC (.int 8)))) (mSeq (mIf (mTst (mOp (vl2 eqW) (mOp (vl2 modW) (mOp (vl2 ixW) (mVar 0) (mC (.int 4))) (mC (.int 2))) (mC (.int 1)))) (mSet 5 (mOp (vl2 modW) (mOp (vl2 ixW) (mVar 0) (mOp addD (mC (.int 5)) (mVar 3))) (mC (.int 8)))) mSkip) (mSeq (mSet 6 (mMt "str" (vmt joinW) (mC (.str "")) (mCons (mLcR mkD rng1 (mCons (mVar 5) mNil) [7] (gtName 7) mYes e_l_names_0) mNil))) (mIf (mTst (mOp (vl2 eqW) (mOp (vl2 modW) (mOp (vl2 divW) (mOp (vl2 ixW) (mVar 0) (mC (.int 4))) (mC (.int 2))) (mC (.int 2))) (mC (.int 1)))) (mDrop (mMt "list" (chL appL) (mVar 2) (mCons (mOp addD (mVar 4) (mVar 6)) mNil))) (mDrop (mMt "list" (chL appL) (mVar 2) (mCons (mOp addD (mVar 6) (mVar 4)) mNil))))))))
noncomputable def m_l_names : MS := (mSeq (mSet 1 (mC (.str "abcdefghijklmnopqrstuvwxyz"))) (mSeq (mSet 2 (mCall (ncN lstC) mNil)) (mSeq (mForR rng1 (mCons (mOp (vl2 ixW) (mCall (ndN lstC) (mCons (mC (.int 2)) (mCons (mC (.int 3)) (mCons (mC (.int 3)) (mCons (mC (.int 4)) (mCons (mC (.int 4)) (mCons (mC (.int 5)) (mCons (mC (.int 6)) (mCons (mC (.int 7)) (mCons (mC (.int 12)) (mCons (mC (.int 1)) mNil))))))))))) (mOp (vl2 modW) (mOp (vl2 ixW) (mVar 0) (mC (.int 1))) (mC (.int 10)))) mNil) (gtName 3) b_l_names_1) (mRet (mFz (mVar 2))))))
noncomputable def q_l_names : List W → Sto → Rs W := runS 8 1 m_l_names
noncomputable def p_l_names : List D → Re D := runP 8 1 m_l_names
/-! ### _law_web -/
abbrev s_l_web : Stmt := topS 22
theorem sc_l_web : FnScope ["_law_script", "_law_d", "_law_names_here", "_law_ties", "_law_k", "_law_t", "_law_one", "_law_other", "_law_number"] ["_law_script"] (defScope s_l_web) := ⟨rfl, rfl, rfl, by decide +kernel, rfl, by decide +kernel, by decide +kernel⟩
noncomputable def b_l_web_0 : MS := (mSeq (mSet 5 (mCallN p_l_draws (mCons (mVar 0) (mCons (mOp addD (mC (.int 1)) (mVar 4)) (mCons (mC (.int 8)) mNil))))) (mSeq (mSet 6 (mOp (vl2 ixW) (mVar 2) (mOp (vl2 modW) (mOp (vl2 ixW) (mVar 5) (mC (.int 0))) (mCall (vlN lenW) (mCons (mVar 2) mNil))))) (mSeq (mSet 7 (mOp (vl2 ixW) (mVar 2) (mOp (vl2 modW) (mOp (vl2 ixW) (mVar 5) (mC (.int 1))) (mCall (vlN lenW) (mCons (mVar 2) mNil))))) (mSeq (mIf (mTst (mOp (vl2 eqW) (mOp (vl2 modW) (mOp (vl2 ixW) (mVar 5) (mC (.int 7))) (mC (.int 3))) (mC (.int 0)))) (mSeq (mSet 6 (mOp (vl2 ixW) (mVar 2) (mOp (vl2 modW) (mVar 4) (mCall (vlN lenW) (mCons (mVar 2) mNil))))) (mSet 7 (mOp (vl2 ixW) (mVar 2) (mOp (vl2 modW) (mOp addD (mVar 4) (mC (.int 1))) (mCall (vlN lenW) (mCons (mVar 2) mNil)))))) mSkip) (mSeq (mSet 8 (mOp addD (mC (.int 1)) (mOp (vl2 modW) (mOp addD (mOp (vl2 mulW) (mVar 4) (mOp (vl2 ixW) (mCall (ndN lstC) (mCons (mC (.int 1)) (mCons (mC (.int 5)) (mCons (mC (.int 100)) (mCons (mC (.int 1008)) (mCons (mC (.int 503)) mNil)))))) (mOp (vl2 modW) (mOp (vl2 ixW) (mVar 1) (mC (.int 17))) (mC (.int 5))))) (mOp (vl2 ixW) (mVar 1) (mC (.int 16)))) (mC (.int 1009))))) (mIf (mTst (mOp (vl2 neW) (mVar 6) (mVar 7))) (mDrop (mMt "list" (chL appL) (mVar 3) (mCons (mCall (ndN tupC) (mCons (mVar 8) (mCons (mVar 6) (mCons (mVar 7) (mCons (mCallN p_l_motion (mCons (mVar 5) (mCons (mC (.int 2)) mNil))) mNil))))) mNil))) mSkip))))))
noncomputable def m_l_web : MS := (mSeq (mSet 1 (mCallN p_l_draws (mCons (mVar 0) (mCons (mC (.int 0)) (mCons (mC (.int 18)) mNil))))) (mSeq (mSet 2 (mCallN p_l_names (mCons (mVar 1) mNil))) (mSeq (mSet 3 (mCall (ncN lstC) mNil)) (mSeq (mForR rng1 (mCons (mOp (vl2 modW) (mOp (vl2 ixW) (mVar 1) (mC (.int 0))) (mC (.int 17))) mNil) (gtName 4) b_l_web_0) (mRet (mFz (mVar 3)))))))
noncomputable def q_l_web : List W → Sto → Rs W := runS 9 1 m_l_web
noncomputable def p_l_web : List D → Re D := runP 9 1 m_l_web
/-! ### _law_end -/
abbrev s_l_end : Stmt := topS 23
theorem sc_l_end : FnScope ["_law_tie", "_law_name"] ["_law_tie", "_law_name"] (defScope s_l_end) := ⟨rfl, rfl, rfl, by decide +kernel, rfl, by decide +kernel, by decide +kernel⟩
noncomputable def m_l_end : MS := (mSeq (mIf (mTst (mOp (vl2 eqW) (mOp (vl2 ixW) (mVar 0) (mC (.int 1))) (mVar 1))) (mRet (mOp (vl2 ixW) (mVar 0) (mC (.int 2)))) mSkip) (mSeq (mIf (mTst (mOp (vl2 eqW) (mOp (vl2 ixW) (mVar 0) (mC (.int 2))) (mVar 1))) (mRet (mOp (vl2 ixW) (mVar 0) (mC (.int 1)))) mSkip) (mRet (mC .non))))
noncomputable def q_l_end : List W → Sto → Rs W := runS 2 2 m_l_end
noncomputable def p_l_end : List D → Re D := runP 2 2 m_l_end
/-! ### _law_walked -/
abbrev s_l_walked : Stmt := topS 24
theorem sc_l_walked : FnScope ["_law_ties", "_law_chain", "_law_start", "_law_name", "_law_frame", "_law_number", "_law_at", "_law_motion_here", "_law_tie"] ["_law_ties", "_law_chain", "_law_start"] (defScope s_l_walked) := ⟨rfl, rfl, rfl, by decide +kernel, rfl, by decide +kernel, by decide +kernel⟩
noncomputable def t_l_walked_0 : MT := (mTst (mOp (vl2 eqW) (mOp (vl2 ixW) (mVar 8) (mC (.int 0))) (mVar 5)))
noncomputable def e_l_walked_1 : ME := (mVar 8)
noncomputable def b_l_walked_2 : MS := (mSeq (mSet 6 (mLc mkD (mVar 0) [8] (gtName 8) t_l_walked_0 e_l_walked_1)) (mSeq (mIf (mOr (mNot (mTru (mVar 6))) (mTst (mOp (vl2 isNW) (mCallN p_l_end (mCons (mOp (vl2 ixW) (mVar 6) (mC (.int 0))) (mCons (mVar 3) mNil))) (mC .non)))) (mRet (mC .non)) mSkip) (mSeq (mSet 7 (mOp (vl2 ixW) (mOp (vl2 ixW) (mVar 6) (mC (.int 0))) (mC (.int 3)))) (mSeq (mIf (mTst (mOp (vl2 eqW) (mOp (vl2 ixW) (mOp (vl2 ixW) (mVar 6) (mC (.int 0))) (mC (.int 2))) (mVar 3))) (mSet 7 (mCallN p_l_back (mCons (mVar 7) mNil))) mSkip) (mSeq (mSet 4 (mCallN p_l_behind (mCons (mVar 7) (mCons (mVar 4) mNil)))) (mSet 3 (mCallN p_l_end (mCons (mOp (vl2 ixW) (mVar 6) (mC (.int 0))) (mCons (mVar 3) mNil)))))))))
noncomputable def m_l_walked : MS := (mSeq (mSet 3 (mVar 2)) (mSeq (mSet 4 (mCall (ndN tupC) (mCons (mC (.int 0)) (mCons (mC (.int 0)) (mCons (mC (.int 0)) mNil))))) (mSeq (mFor (mVar 1) (gtName 5) b_l_walked_2) (mRet (mCall (ndN tupC) (mCons (mVar 3) (mCons (mVar 4) mNil)))))))
noncomputable def q_l_walked : List W → Sto → Rs W := runS 9 3 m_l_walked
noncomputable def p_l_walked : List D → Re D := runP 9 3 m_l_walked
/-! ### law -/
abbrev s_law : Stmt := topS 25
theorem sc_law : FnScope ["_law_script", "_law_ties", "_law_names_here", "_law_start", "_law_handed", "_law_told", "_law_found", "_law_kept", "_law_name", "_law_chain", "_law_due"] ["_law_script"] (defScope s_law) := ⟨rfl, rfl, rfl, by decide +kernel, rfl, by decide +kernel, by decide +kernel⟩
noncomputable def b_law_0 : MS := (mSeq (mSet 10 (mCallN p_l_walked (mCons (mVar 1) (mCons (mVar 9) (mCons (mVar 3) mNil))))) (mSeq (mIf (mOr (mTst (mOp (vl2 isNW) (mVar 10) (mC .non))) (mOr (mTst (mOp (vl2 neW) (mOp (vl2 ixW) (mVar 10) (mC (.int 0))) (mVar 8))) (mTst (mOp (vl2 notinW) (mVar 8) (mVar 6))))) (mRet (mC (.bl false))) mSkip) (mIf (mNot (mTru (mCallN (p_l_same 6) (mCons (mOp (vl2 ixW) (mVar 6) (mVar 8)) (mCons (mOp (vl2 ixW) (mVar 10) (mC (.int 1))) mNil))))) (mRet (mC (.bl false))) mSkip)))
noncomputable def m_law : MS := (mSeq (mSet 1 (mCallN p_l_web (mCons (mVar 0) mNil))) (mSeq (mSet 2 (mCallN p_l_names (mCons (mCallN p_l_draws (mCons (mVar 0) (mCons (mC (.int 0)) (mCons (mC (.int 18)) mNil)))) mNil))) (mSeq (mSet 3 (mOp (vl2 ixW) (mVar 2) (mOp (vl2 modW) (mOp (vl2 ixW) (mCallN p_l_draws (mCons (mVar 0) (mCons (mC (.int 20)) (mCons (mC (.int 1)) mNil)))) (mC (.int 0))) (mCall (vlN lenW) (mCons (mVar 2) mNil))))) (mSeq (mSet 4 (mCall (ndN listC) (mCons (mVar 1) mNil))) (mSeq (mSet 5 (mCallN p_chains (mCons (mCall (ndN listC) (mCons (mVar 1) mNil)) (mCons (mVar 3) mNil)))) (mSeq (mSet 6 (mCallL mkC l_frames (mCons (mVar 4) (mCons (mVar 3) mNil)))) (mSeq (mIf (mOr (mNot (mTru (mCallN (p_l_same 6) (mCons (mVar 4) (mCons (mVar 1) mNil))))) (mOr (mNot (mTru (mUn (isiW ["dict"]) (mVar 6)))) (mTst (mOp (vl2 neW) (mCall (vlN lenW) (mCons (mVar 6) mNil)) (mCall (vlN lenW) (mCons (mVar 5) mNil)))))) (mRet (mC (.bl false))) mSkip) (mSeq (mForI (mVar 5) (gtTup 2 (gtCons (gtName 8) (gtCons (gtName 9) gtNil))) b_law_0) (mSeq (mSet 7 (mCall (lkN dictC) (mCons (mVar 6) mNil))) (mSeq (mSetIx (mVar 6) (mC (.str "Zz")) (mCall (ndN tupC) (mCons (mC (.int 0)) (mCons (mC (.int 0)) (mCons (mC (.int 0)) mNil))))) (mFrz 6 (mRet (mOp (vl2 eqDkW) (mCallL mkL l_frames (mCons (mVar 4) (mCons (mVar 3) mNil))) (mVar 7))))))))))))))
noncomputable def q_law : List W → Sto → Rs W := runS 11 1 m_law
noncomputable def p_law : List D → Re D := runP 11 1 m_law
/-- what the top leaves -/
structure Tx (K : PySem.W.Frag) (mg : Str → Option Value) (cl : Str → Option Addr) (fa : Nat → Addr) (fd : Nat → FuncData) (ca : Nat → Addr) : Prop where
  d2 : DefAt K mg "turned" s_turned ["turn", "place"] (fa 2) (fd 2)
  d3 : DefAt K mg "turn_behind" s_turn_behind ["first", "second"] (fa 3) (fd 3)
  d4 : DefAt K mg "behind" s_behind ["first", "second"] (fa 4) (fd 4)
  d5 : DefAt K mg "turn_back" s_turn_back ["turn"] (fa 5) (fd 5)
  d6 : DefAt K mg "back" s_back ["motion"] (fa 6) (fd 6)
  d8 : DefAt K mg "number_of" s_number_of ["tie"] (fa 8) (fd 8)
  d9 : DefAt K mg "step" s_step ["tie", "name"] (fa 9) (fd 9)
  d10 : DefAt K mg "reached" s_reached ["ties", "start"] (fa 10) (fd 10)
  d11 : DefAt K mg "chains" s_chains ["ties", "start"] (fa 11) (fd 11)
  d12 : DefAt K mg "frames" s_frames ["ties", "start"] (fa 12) (fd 12)
  d14 : DefAt K mg "_law_draws" s_l_draws ["_law_script", "_law_at", "_law_many"] (fa 14) (fd 14)
  d15 : DefAt K mg "_law_far" s_l_far ["_law_one", "_law_two"] (fa 15) (fd 15)
  d16 : DefAt K mg "_law_turned" s_l_turned ["_law_turn", "_law_x", "_law_y"] (fa 16) (fd 16)
  d17 : DefAt K mg "_law_behind" s_l_behind ["_law_first", "_law_second"] (fa 17) (fd 17)
  d18 : DefAt K mg "_law_back" s_l_back ["_law_motion_here"] (fa 18) (fd 18)
  d19 : DefAt K mg "_law_motion" s_l_motion ["_law_d", "_law_at"] (fa 19) (fd 19)
  d20 : DefAt K mg "_law_same" s_l_same ["_law_found", "_law_due"] (fa 20) (fd 20)
  d21 : DefAt K mg "_law_names" s_l_names ["_law_d"] (fa 21) (fd 21)
  d22 : DefAt K mg "_law_web" s_l_web ["_law_script"] (fa 22) (fd 22)
  d23 : DefAt K mg "_law_end" s_l_end ["_law_tie", "_law_name"] (fa 23) (fd 23)
  d24 : DefAt K mg "_law_walked" s_l_walked ["_law_ties", "_law_chain", "_law_start"] (fa 24) (fd 24)
  d25 : DefAt K mg "law" s_law ["_law_script"] (fa 25) (fd 25)
  b_bool : mg "bool" = none
  b_dict : mg "dict" = none
  b_int : mg "int" = none
  b_isinstance : mg "isinstance" = none
  b_len : mg "len" = none
  b_list : mg "list" = none
  b_range : mg "range" = none
  b_sorted : mg "sorted" = none
  b_str : mg "str" = none
  b_tuple : mg "tuple" = none
  g_STILL : GlobAt K mg cl "STILL" (.wt [(.int 0), (.int 0), (.int 0)])
section
variable {P : Program} {w : World} {K : PySem.W.Frag} {mg : Str → Option Value} {base : Heap} {cl : Str → Option Addr} {fa : Nat → Addr} {fd : Nat → FuncData} {ca : Nat → Addr}
theorem okS_turned (T : Tx K mg cl fa fd ca) : FnOk P w K mg base (L2.CX P w) 1 (fa 2) (fd 2) ["turn", "place"] (SpS K cl q_turned) := by
  have sc := sc_turned
  exact fnS T.d2.fn sc_turned fun cdv A outer s H E hr =>
  (qb_cons (qs_asg (qe_var 1) (qg_tup rfl (qgs_cons (qg_name (i := 3) sc.nd rfl (by first | exact .inl rfl | exact .inr rfl)) (qgs_cons (qg_name (i := 4) sc.nd rfl (by first | exact .inl rfl | exact .inr rfl)) qgs_nil)))) (qb_cons (qs_if (qt_cmp ow_ge (qe_var 0) qe_int (nomark _)) (qb_one (qs_set (i := 3) sc.nd rfl (by first | exact .inl rfl | exact .inr rfl) (qe_un uw_neg (qe_var 3)))) qb_nil) (qb_cons (qs_range1 (passes_of rfl) rfl (by rfl) T.b_range (qa_cons (qe_bin ow_mod (qe_var 0) qe_int) qa_nil) (qg_name (i := 2) sc.nd rfl (by first | exact .inl rfl | exact .inr rfl)) (qb_one (qs_par (i := 3) (j := 4) rfl sc.nd rfl rfl (by decide) rfl rfl (qa_cons (qe_un uw_neg (qe_var 4)) (qa_cons (qe_var 3) qa_nil)) (by rfl)))) (qb_one (qs_ret (qe_tup (qa_cons (qe_var 3) (qa_cons (qe_var 4) qa_nil))))))))
theorem ok_turned (T : Tx K mg cl fa fd ca) : FnOk P w K mg base (L2.CX P w) 1 (fa 2) (fd 2) ["turn", "place"] (SpP K cl p_turned) := fnP (okS_turned T)
theorem okS_turn_behind (T : Tx K mg cl fa fd ca) : FnOk P w K mg base (L2.CX P w) 1 (fa 3) (fd 3) ["first", "second"] (SpS K cl q_turn_behind) := by
  have sc := sc_turn_behind
  exact fnS T.d3.fn sc_turn_behind fun cdv A outer s H E hr =>
  (qb_cons (qs_set (i := 2) sc.nd rfl (by first | exact .inl rfl | exact .inr rfl) (qe_bin ow_mod (qe_var 0) qe_int)) (qb_cons (qs_if (qt_cmp ow_ge (qe_var 1) qe_int (nomark _)) (qb_one (qs_set (i := 2) sc.nd rfl (by first | exact .inl rfl | exact .inr rfl) (qe_un uw_neg (qe_var 2)))) qb_nil) (qb_cons (qs_set (i := 3) sc.nd rfl (by first | exact .inl rfl | exact .inr rfl) (qe_bin ow_mod (qe_bin ow_addD (qe_bin ow_div (qe_var 0) qe_int) (qe_bin ow_div (qe_var 1) qe_int)) qe_int)) (qb_one (qs_ret (qe_bin ow_addD (qe_bin ow_mod (qe_bin ow_addD (qe_var 2) (qe_var 1)) qe_int) (qe_bin ow_mul qe_int (qe_var 3))))))))
theorem ok_turn_behind (T : Tx K mg cl fa fd ca) : FnOk P w K mg base (L2.CX P w) 1 (fa 3) (fd 3) ["first", "second"] (SpP K cl p_turn_behind) := fnP (okS_turn_behind T)
theorem okS_behind (T : Tx K mg cl fa fd ca) : FnOk P w K mg base (L2.CX P w) 2 (fa 4) (fd 4) ["first", "second"] (SpS K cl q_behind) := by
  have sc := sc_behind
  exact fnS T.d4.fn sc_behind fun cdv A outer s H E hr =>
  (qb_cons (qs_asg (qe_callN (ok_turned T) (hr.mono (by decide)) (by rfl) T.d2.mgd T.d2.fn.kp T.d2.bd (fun σ => passAt (takes_of rfl rfl rfl rfl) σ) (qa_cons (qe_ix (xw_ix (hu_ng hr)) (qe_var 1) qe_int (fun _ _ => rfl)) (qa_cons (qe_tup (qa_cons (qe_ix (xw_ix (hu_ng hr)) (qe_var 0) qe_int (fun _ _ => rfl)) (qa_cons (qe_ix (xw_ix (hu_ng hr)) (qe_var 0) qe_int (fun _ _ => rfl)) qa_nil))) qa_nil))) (qg_tup rfl (qgs_cons (qg_name (i := 2) sc.nd rfl (by first | exact .inl rfl | exact .inr rfl)) (qgs_cons (qg_name (i := 3) sc.nd rfl (by first | exact .inl rfl | exact .inr rfl)) qgs_nil)))) (qb_one (qs_ret (qe_tup (qa_cons (qe_callN (ok_turn_behind T) (hr.mono (by decide)) (by rfl) T.d3.mgd T.d3.fn.kp T.d3.bd (fun σ => passAt (takes_of rfl rfl rfl rfl) σ) (qa_cons (qe_ix (xw_ix (hu_ng hr)) (qe_var 0) qe_int (fun _ _ => rfl)) (qa_cons (qe_ix (xw_ix (hu_ng hr)) (qe_var 1) qe_int (fun _ _ => rfl)) qa_nil))) (qa_cons (qe_bin ow_addD (qe_var 2) (qe_ix (xw_ix (hu_ng hr)) (qe_var 1) qe_int (fun _ _ => rfl))) (qa_cons (qe_bin ow_addD (qe_var 3) (qe_ix (xw_ix (hu_ng hr)) (qe_var 1) qe_int (fun _ _ => rfl))) qa_nil)))))))
theorem ok_behind (T : Tx K mg cl fa fd ca) : FnOk P w K mg base (L2.CX P w) 2 (fa 4) (fd 4) ["first", "second"] (SpP K cl p_behind) := fnP (okS_behind T)
theorem okS_turn_back (T : Tx K mg cl fa fd ca) : FnOk P w K mg base (L2.CX P w) 1 (fa 5) (fd 5) ["turn"] (SpS K cl q_turn_back) := by
  have sc := sc_turn_back
  exact fnS T.d5.fn sc_turn_back fun cdv A outer s H E hr =>
  (qb_cons (qs_if (qt_cmp ow_ge (qe_var 0) qe_int (nomark _)) (qb_one (qs_ret (qe_var 0))) qb_nil) (qb_one (qs_ret (qe_bin ow_mod (qe_bin ow_sub qe_int (qe_var 0)) qe_int))))
theorem ok_turn_back (T : Tx K mg cl fa fd ca) : FnOk P w K mg base (L2.CX P w) 1 (fa 5) (fd 5) ["turn"] (SpP K cl p_turn_back) := fnP (okS_turn_back T)
theorem okS_back (T : Tx K mg cl fa fd ca) : FnOk P w K mg base (L2.CX P w) 2 (fa 6) (fd 6) ["motion"] (SpS K cl q_back) := by
  have sc := sc_back
  exact fnS T.d6.fn sc_back fun cdv A outer s H E hr =>
  (qb_cons (qs_set (i := 1) sc.nd rfl (by first | exact .inl rfl | exact .inr rfl) (qe_callN (ok_turn_back T) (hr.mono (by decide)) (by rfl) T.d5.mgd T.d5.fn.kp T.d5.bd (fun σ => passAt (takes_of rfl rfl rfl rfl) σ) (qa_cons (qe_ix (xw_ix (hu_ng hr)) (qe_var 0) qe_int (fun _ _ => rfl)) qa_nil))) (qb_cons (qs_asg (qe_callN (ok_turned T) (hr.mono (by decide)) (by rfl) T.d2.mgd T.d2.fn.kp T.d2.bd (fun σ => passAt (takes_of rfl rfl rfl rfl) σ) (qa_cons (qe_var 1) (qa_cons (qe_tup (qa_cons (qe_ix (xw_ix (hu_ng hr)) (qe_var 0) qe_int (fun _ _ => rfl)) (qa_cons (qe_ix (xw_ix (hu_ng hr)) (qe_var 0) qe_int (fun _ _ => rfl)) qa_nil))) qa_nil))) (qg_tup rfl (qgs_cons (qg_name (i := 2) sc.nd rfl (by first | exact .inl rfl | exact .inr rfl)) (qgs_cons (qg_name (i := 3) sc.nd rfl (by first | exact .inl rfl | exact .inr rfl)) qgs_nil)))) (qb_one (qs_ret (qe_tup (qa_cons (qe_var 1) (qa_cons (qe_un uw_neg (qe_var 2)) (qa_cons (qe_un uw_neg (qe_var 3)) qa_nil))))))))
theorem ok_back (T : Tx K mg cl fa fd ca) : FnOk P w K mg base (L2.CX P w) 2 (fa 6) (fd 6) ["motion"] (SpP K cl p_back) := fnP (okS_back T)
theorem okS_number_of (T : Tx K mg cl fa fd ca) : FnOk P w K mg base (L2.CX P w) 1 (fa 8) (fd 8) ["tie"] (SpS K cl q_number_of) := by
  have sc := sc_number_of
  exact fnS T.d8.fn sc_number_of fun cdv A outer s H E hr =>
  (qb_one (qs_ret (qe_ix (xw_ix (hu_ng hr)) (qe_var 0) qe_int (fun _ _ => rfl))))
theorem ok_number_of (T : Tx K mg cl fa fd ca) : FnOk P w K mg base (L2.CX P w) 1 (fa 8) (fd 8) ["tie"] (SpP K cl p_number_of) := fnP (okS_number_of T)
theorem okS_step (T : Tx K mg cl fa fd ca) : FnOk P w K mg base (L2.CX P w) 3 (fa 9) (fd 9) ["tie", "name"] (SpS K cl q_step) := by
  have sc := sc_step
  exact fnS T.d9.fn sc_step fun cdv A outer s H E hr =>
  (qb_cons (qs_asg (qe_var 0) (qg_tup rfl (qgs_cons (qg_name (i := 2) sc.nd rfl (by first | exact .inl rfl | exact .inr rfl)) (qgs_cons (qg_name (i := 3) sc.nd rfl (by first | exact .inl rfl | exact .inr rfl)) (qgs_cons (qg_name (i := 4) sc.nd rfl (by first | exact .inl rfl | exact .inr rfl)) (qgs_cons (qg_name (i := 5) sc.nd rfl (by first | exact .inl rfl | exact .inr rfl)) qgs_nil)))))) (qb_cons (qs_if (qt_cmp (ow_eq (hu_ng hr)) (qe_var 3) (qe_var 1) (nomark _)) (qb_one (qs_ret (qe_tup (qa_cons (qe_var 4) (qa_cons (qe_var 5) qa_nil))))) qb_nil) (qb_cons (qs_if (qt_cmp (ow_eq (hu_ng hr)) (qe_var 4) (qe_var 1) (nomark _)) (qb_one (qs_ret (qe_tup (qa_cons (qe_var 3) (qa_cons (qe_callN (ok_back T) (hr.mono (by decide)) (by rfl) T.d6.mgd T.d6.fn.kp T.d6.bd (fun σ => passAt (takes_of rfl rfl rfl rfl) σ) (qa_cons (qe_var 5) qa_nil)) qa_nil))))) qb_nil) (qb_one (qs_ret qe_non)))))
theorem ok_step (T : Tx K mg cl fa fd ca) : FnOk P w K mg base (L2.CX P w) 3 (fa 9) (fd 9) ["tie", "name"] (SpP K cl p_step) := fnP (okS_step T)
theorem okS_reached (T : Tx K mg cl fa fd ca) : FnOk P w K mg base (L2.CX P w) 4 (fa 10) (fd 10) ["ties", "start"] (SpS K cl q_reached) := by
  have sc := sc_reached
  exact fnS T.d10.fn sc_reached fun cdv A outer s H E hr =>
  (qb_cons (qs_set (i := 2) sc.nd rfl (by first | exact .inl rfl | exact .inr rfl) (qe_sortK (hu_ng hr) mkD_n (ok_number_of T) (hr.mono (by decide)) (by rfl) T.d8.mgd T.d8.bd (by rfl) T.b_sorted (qa_cons (qe_var 0) qa_nil))) (qb_cons (qs_set (i := 3) sc.nd rfl (by first | exact .inl rfl | exact .inr rfl) (qe_dispC (qpr_cons (qe_var 1) (qe_tup (qa_cons (qe_lst qa_nil) (qa_cons (qe_globAt T.g_STILL) qa_nil))) qpr_nil))) (qb_cons (qs_set (i := 4) sc.nd rfl (by first | exact .inl rfl | exact .inr rfl) (qe_lstC (qa_cons (qe_var 1) qa_nil))) (qb_cons (qs_set (i := 5) sc.nd rfl (by first | exact .inl rfl | exact .inr rfl) qe_int) (qb_cons (qs_while (passes_of rfl) (qt_cmp ow_lt (qe_var 5) (qe_callB cw_len (by rfl) T.b_len (by decide +kernel) (qa_cons (qe_var 4) qa_nil)) (nomark _)) (qb_cons (qs_set (i := 6) sc.nd rfl (by first | exact .inl rfl | exact .inr rfl) (qe_ix (xw_ix (hu_ng hr)) (qe_var 4) (qe_var 5) (fun _ _ => rfl))) (qb_cons (qs_inc (i := 5) sc.nd rfl (by first | exact .inl rfl | exact .inr rfl) qe_int) (qb_cons (qs_asg (qe_ix (xw_ix (hu_ng hr)) (qe_var 3) (qe_var 6) (fun _ _ => rfl)) (qg_tup rfl (qgs_cons (qg_name (i := 8) sc.nd rfl (by first | exact .inl rfl | exact .inr rfl)) (qgs_cons (qg_name (i := 9) sc.nd rfl (by first | exact .inl rfl | exact .inr rfl)) qgs_nil)))) (qb_one (qs_for (passes_of rfl) rfl (qe_var 2) (qg_name (i := 7) sc.nd rfl (by first | exact .inl rfl | exact .inr rfl)) (qb_cons (qs_set (i := 10) sc.nd rfl (by first | exact .inl rfl | exact .inr rfl) (qe_callN (ok_step T) (hr.mono (by decide)) (by rfl) T.d9.mgd T.d9.fn.kp T.d9.bd (fun σ => passAt (takes_of rfl rfl rfl rfl) σ) (qa_cons (qe_var 7) (qa_cons (qe_var 6) qa_nil)))) (qb_one (qs_if (QW.qt (qw_and (qt_cmp ow_isnot (qe_var 10) qe_non (nomark _)) (qw_and1 (qt_cmp (ow_notin (hu_ng hr)) (qe_ix (xw_ix (hu_ng hr)) (qe_var 10) qe_int (fun _ _ => rfl)) (qe_var 3) (by rfl))))) (qb_cons (qs_setIx (hu_ng hr) (qe_var 3) (qe_ix (xw_ix (hu_ng hr)) (qe_var 10) qe_int (fun _ _ => rfl)) (qe_tup (qa_cons (qe_bin ow_addD (qe_var 8) (qe_lst (qa_cons (qe_ix (xw_ix (hu_ng hr)) (qe_var 7) qe_int (fun _ _ => rfl)) qa_nil))) (qa_cons (qe_callN (ok_behind T) (hr.mono (by decide)) (by rfl) T.d4.mgd T.d4.fn.kp T.d4.bd (fun σ => passAt (takes_of rfl rfl rfl rfl) σ) (qa_cons (qe_ix (xw_ix (hu_ng hr)) (qe_var 10) qe_int (fun _ _ => rfl)) (qa_cons (qe_var 9) qa_nil))) qa_nil)))) (qb_one (qs_expr (qe_bm PySem.F.plainAttrs_list PySem.F.slot_list_append PySem.F.type_list_append hm_append (qe_var 4) (qa_cons (qe_ix (xw_ix (hu_ng hr)) (qe_var 10) qe_int (fun _ _ => rfl)) qa_nil))))) qb_nil))))))))) (qb_one (qs_ret (qe_fz (qe_var 3)))))))))
theorem ok_reached (T : Tx K mg cl fa fd ca) : FnOk P w K mg base (L2.CX P w) 4 (fa 10) (fd 10) ["ties", "start"] (SpP K cl p_reached) := fnP (okS_reached T)
theorem okS_chains (T : Tx K mg cl fa fd ca) : FnOk P w K mg base (L2.CX P w) 5 (fa 11) (fd 11) ["ties", "start"] (SpS K cl q_chains) := by
  have sc := sc_chains
  exact fnS T.d11.fn sc_chains fun cdv A outer s H E hr =>
  (qb_cons (qs_set (i := 2) sc.nd rfl (by first | exact .inl rfl | exact .inr rfl) qe_newDK) (qb_cons (qs_forI (passes_of rfl) rfl (qe_callN (ok_reached T) (hr.mono (by decide)) (by rfl) T.d10.mgd T.d10.fn.kp T.d10.bd (fun σ => passAt (takes_of rfl rfl rfl rfl) σ) (qa_cons (qe_var 0) (qa_cons (qe_var 1) qa_nil))) (qg_tup rfl (qgs_cons (qg_name (i := 3) sc.nd rfl (by first | exact .inl rfl | exact .inr rfl)) (qgs_cons (qg_tup rfl (qgs_cons (qg_name (i := 4) sc.nd rfl (by first | exact .inl rfl | exact .inr rfl)) (qgs_cons (qg_name (i := 5) sc.nd rfl (by first | exact .inl rfl | exact .inr rfl)) qgs_nil))) qgs_nil))) (qb_one (qs_setIx (hu_ng hr) (qe_var 2) (qe_var 3) (qe_var 4)))) (qb_one (qs_ret (qe_fz (qe_var 2))))))
theorem ok_chains (T : Tx K mg cl fa fd ca) : FnOk P w K mg base (L2.CX P w) 5 (fa 11) (fd 11) ["ties", "start"] (SpP K cl p_chains) := fnP (okS_chains T)
theorem okS_frames (T : Tx K mg cl fa fd ca) : FnOk P w K mg base (L2.CX P w) 5 (fa 12) (fd 12) ["ties", "start"] (SpS K cl q_frames) := by
  have sc := sc_frames
  exact fnS T.d12.fn sc_frames fun cdv A outer s H E hr =>
  (qb_cons (qs_set (i := 2) sc.nd rfl (by first | exact .inl rfl | exact .inr rfl) qe_newDK) (qb_cons (qs_forI (passes_of rfl) rfl (qe_callN (ok_reached T) (hr.mono (by decide)) (by rfl) T.d10.mgd T.d10.fn.kp T.d10.bd (fun σ => passAt (takes_of rfl rfl rfl rfl) σ) (qa_cons (qe_var 0) (qa_cons (qe_var 1) qa_nil))) (qg_tup rfl (qgs_cons (qg_name (i := 3) sc.nd rfl (by first | exact .inl rfl | exact .inr rfl)) (qgs_cons (qg_tup rfl (qgs_cons (qg_name (i := 4) sc.nd rfl (by first | exact .inl rfl | exact .inr rfl)) (qgs_cons (qg_name (i := 5) sc.nd rfl (by first | exact .inl rfl | exact .inr rfl)) qgs_nil))) qgs_nil))) (qb_one (qs_setIx (hu_ng hr) (qe_var 2) (qe_var 3) (qe_var 5)))) (qb_one (qs_ret (qe_var 2)))))
theorem okL_frames (T : Tx K mg cl fa fd ca) : FnOk P w K mg base (L2.CX P w) 5 (fa 12) (fd 12) ["ties", "start"] (SpL K cl l_frames) := fnL (okS_frames T)
theorem okS_l_draws (T : Tx K mg cl fa fd ca) : FnOk P w K mg base (L2.CX P w) 1 (fa 14) (fd 14) ["_law_script", "_law_at", "_law_many"] (SpS K cl q_l_draws) := by
  have sc := sc_l_draws
  exact fnS T.d14.fn sc_l_draws fun cdv A outer s H E hr =>
  (qb_cons (qs_set (i := 3) sc.nd rfl (by first | exact .inl rfl | exact .inr rfl) (qe_bin ow_addD (qe_bin ow_mul qe_int (qe_var 1)) qe_int)) (qb_cons (qs_if (qt_cmp ow_lt (qe_var 1) (qe_callB cw_len (by rfl) T.b_len (by decide +kernel) (qa_cons (qe_var 0) qa_nil)) (nomark _)) (qb_one (qs_set (i := 3) sc.nd rfl (by first | exact .inl rfl | exact .inr rfl) (qe_ix (xw_ix (hu_ng hr)) (qe_var 0) (qe_var 1) (fun _ _ => rfl)))) (qb_one (qs_if (qt_cmp ow_gt (qe_callB cw_len (by rfl) T.b_len (by decide +kernel) (qa_cons (qe_var 0) qa_nil)) qe_int (nomark _)) (qb_one (qs_set (i := 3) sc.nd rfl (by first | exact .inl rfl | exact .inr rfl) (qe_bin ow_addD (qe_bin ow_addD (qe_bin ow_mod (qe_ix (xw_ix (hu_ng hr)) (qe_var 0) (qe_bin ow_mod (qe_var 1) (qe_callB cw_len (by rfl) T.b_len (by decide +kernel) (qa_cons (qe_var 0) qa_nil))) (fun _ _ => rfl)) qe_int) (qe_bin ow_mul (qe_bin ow_mul (qe_var 1) (qe_var 1)) qe_int)) qe_int))) qb_nil))) (qb_cons (qs_set (i := 4) sc.nd rfl (by first | exact .inl rfl | exact .inr rfl) (qe_bin ow_addD (qe_bin ow_addD (qe_bin ow_mod (qe_var 3) qe_int) (qe_bin ow_mul qe_int (qe_var 1))) qe_int)) (qb_cons (qs_set (i := 5) sc.nd rfl (by first | exact .inl rfl | exact .inr rfl) (qe_lstC qa_nil)) (qb_cons (qs_if (qt_cmp ow_ge (qe_var 3) (qe_bin ow_pow qe_int qe_int) (nomark _)) (qb_one (qs_while (passes_of rfl) (QW.qt (qw_and (qt_cmp ow_gt (qe_var 3) qe_int (nomark _)) (qw_and1 (qt_cmp ow_lt (qe_callB cw_len (by rfl) T.b_len (by decide +kernel) (qa_cons (qe_var 5) qa_nil)) (qe_var 2) (nomark _))))) (qb_cons (qs_expr (qe_bm PySem.F.plainAttrs_list PySem.F.slot_list_append PySem.F.type_list_append hm_append (qe_var 5) (qa_cons (qe_bin ow_mod (qe_var 3) qe_int) qa_nil))) (qb_one (qs_set (i := 3) sc.nd rfl (by first | exact .inl rfl | exact .inr rfl) (qe_bin ow_div (qe_var 3) qe_int)))))) qb_nil) (qb_cons (qs_while (passes_of rfl) (qt_cmp ow_lt (qe_callB cw_len (by rfl) T.b_len (by decide +kernel) (qa_cons (qe_var 5) qa_nil)) (qe_var 2) (nomark _)) (qb_cons (qs_set (i := 6) sc.nd rfl (by first | exact .inl rfl | exact .inr rfl) (qe_bin ow_addD (qe_callB cw_len (by rfl) T.b_len (by decide +kernel) (qa_cons (qe_var 5) qa_nil)) qe_int)) (qb_cons (qs_set (i := 4) sc.nd rfl (by first | exact .inl rfl | exact .inr rfl) (qe_bin ow_mod (qe_bin ow_addD (qe_bin ow_addD (qe_bin ow_mul (qe_var 4) qe_int) (qe_bin ow_mul (qe_bin ow_mul (qe_var 6) (qe_var 6)) qe_int)) qe_int) qe_int)) (qb_one (qs_expr (qe_bm PySem.F.plainAttrs_list PySem.F.slot_list_append PySem.F.type_list_append hm_append (qe_var 5) (qa_cons (qe_bin ow_mod (qe_bin ow_mod (qe_bin ow_mul (qe_bin ow_mod (qe_var 4) qe_int) (qe_bin ow_addD (qe_bin ow_mod (qe_bin ow_div (qe_var 4) qe_int) qe_int) qe_int)) qe_int) qe_int) qa_nil))))))) (qb_one (qs_ret (qe_fz (qe_var 5))))))))))
theorem ok_l_draws (T : Tx K mg cl fa fd ca) : FnOk P w K mg base (L2.CX P w) 1 (fa 14) (fd 14) ["_law_script", "_law_at", "_law_many"] (SpP K cl p_l_draws) := fnP (okS_l_draws T)
theorem okS_l_far (T : Tx K mg cl fa fd ca) : FnOk P w K mg base (L2.CX P w) 1 (fa 15) (fd 15) ["_law_one", "_law_two"] (SpS K cl q_l_far) := by
  have sc := sc_l_far
  exact fnS T.d15.fn sc_l_far fun cdv A outer s H E hr =>
  (qb_cons (qs_if (qt_cmp ow_lt (qe_bin ow_mod (qe_var 0) qe_int) qe_int (nomark _)) (qb_one (qs_ret (qe_bin ow_sub (qe_bin ow_mod (qe_bin ow_div (qe_var 0) qe_int) qe_int) qe_int))) qb_nil) (qb_cons (qs_if (qt_cmp (ow_eq (hu_ng hr)) (qe_bin ow_mod (qe_var 0) qe_int) qe_int (nomark _)) (qb_one (qs_ret (qe_bin ow_sub (qe_bin ow_addD (qe_bin ow_mul (qe_var 0) qe_int) (qe_var 1)) qe_int))) qb_nil) (qb_one (qs_ret (qe_bin ow_addD (qe_bin ow_mul (qe_bin ow_sub (qe_var 1) qe_int) (qe_bin ow_pow qe_int qe_int)) (qe_var 0))))))
theorem ok_l_far (T : Tx K mg cl fa fd ca) : FnOk P w K mg base (L2.CX P w) 1 (fa 15) (fd 15) ["_law_one", "_law_two"] (SpP K cl p_l_far) := fnP (okS_l_far T)
theorem okS_l_turned (T : Tx K mg cl fa fd ca) : FnOk P w K mg base (L2.CX P w) 1 (fa 16) (fd 16) ["_law_turn", "_law_x", "_law_y"] (SpS K cl q_l_turned) := by
  have sc := sc_l_turned
  exact fnS T.d16.fn sc_l_turned fun cdv A outer s H E hr =>
  (qb_one (qs_ret (qe_ix (xw_ix (hu_ng hr)) (qe_lst (qa_cons (qe_tup (qa_cons (qe_var 1) (qa_cons (qe_var 2) qa_nil))) (qa_cons (qe_tup (qa_cons (qe_un uw_neg (qe_var 2)) (qa_cons (qe_var 1) qa_nil))) (qa_cons (qe_tup (qa_cons (qe_un uw_neg (qe_var 1)) (qa_cons (qe_un uw_neg (qe_var 2)) qa_nil))) (qa_cons (qe_tup (qa_cons (qe_var 2) (qa_cons (qe_un uw_neg (qe_var 1)) qa_nil))) (qa_cons (qe_tup (qa_cons (qe_un uw_neg (qe_var 1)) (qa_cons (qe_var 2) qa_nil))) (qa_cons (qe_tup (qa_cons (qe_un uw_neg (qe_var 2)) (qa_cons (qe_un uw_neg (qe_var 1)) qa_nil))) (qa_cons (qe_tup (qa_cons (qe_var 1) (qa_cons (qe_un uw_neg (qe_var 2)) qa_nil))) (qa_cons (qe_tup (qa_cons (qe_var 2) (qa_cons (qe_var 1) qa_nil))) qa_nil))))))))) (qe_var 0) (fun _ _ => rfl))))
theorem ok_l_turned (T : Tx K mg cl fa fd ca) : FnOk P w K mg base (L2.CX P w) 1 (fa 16) (fd 16) ["_law_turn", "_law_x", "_law_y"] (SpP K cl p_l_turned) := fnP (okS_l_turned T)
theorem okS_l_behind (T : Tx K mg cl fa fd ca) : FnOk P w K mg base (L2.CX P w) 2 (fa 17) (fd 17) ["_law_first", "_law_second"] (SpS K cl q_l_behind) := by
  have sc := sc_l_behind
  exact fnS T.d17.fn sc_l_behind fun cdv A outer s H E hr =>
  (qb_cons (qs_set (i := 2) sc.nd rfl (by first | exact .inl rfl | exact .inr rfl) (qe_bin ow_mod (qe_ix (xw_ix (hu_ng hr)) (qe_var 0) qe_int (fun _ _ => rfl)) qe_int)) (qb_cons (qs_if (qt_cmp ow_gt (qe_ix (xw_ix (hu_ng hr)) (qe_var 1) qe_int (fun _ _ => rfl)) qe_int (nomark _)) (qb_one (qs_set (i := 2) sc.nd rfl (by first | exact .inl rfl | exact .inr rfl) (qe_un uw_neg (qe_var 2)))) qb_nil) (qb_cons (qs_set (i := 3) sc.nd rfl (by first | exact .inl rfl | exact .inr rfl) (qe_bin ow_addD (qe_bin ow_mod (qe_bin ow_addD (qe_var 2) (qe_ix (xw_ix (hu_ng hr)) (qe_var 1) qe_int (fun _ _ => rfl))) qe_int) (qe_bin ow_mul qe_int (qe_bin ow_mod (qe_bin ow_addD (qe_bin ow_div (qe_ix (xw_ix (hu_ng hr)) (qe_var 0) qe_int (fun _ _ => rfl)) qe_int) (qe_bin ow_div (qe_ix (xw_ix (hu_ng hr)) (qe_var 1) qe_int (fun _ _ => rfl)) qe_int)) qe_int)))) (qb_cons (qs_asg (qe_callN (ok_l_turned T) (hr.mono (by decide)) (by rfl) T.d16.mgd T.d16.fn.kp T.d16.bd (fun σ => passAt (takes_of rfl rfl rfl rfl) σ) (qa_cons (qe_ix (xw_ix (hu_ng hr)) (qe_var 1) qe_int (fun _ _ => rfl)) (qa_cons (qe_ix (xw_ix (hu_ng hr)) (qe_var 0) qe_int (fun _ _ => rfl)) (qa_cons (qe_ix (xw_ix (hu_ng hr)) (qe_var 0) qe_int (fun _ _ => rfl)) qa_nil)))) (qg_tup rfl (qgs_cons (qg_name (i := 4) sc.nd rfl (by first | exact .inl rfl | exact .inr rfl)) (qgs_cons (qg_name (i := 5) sc.nd rfl (by first | exact .inl rfl | exact .inr rfl)) qgs_nil)))) (qb_one (qs_ret (qe_tup (qa_cons (qe_var 3) (qa_cons (qe_bin ow_addD (qe_var 4) (qe_ix (xw_ix (hu_ng hr)) (qe_var 1) qe_int (fun _ _ => rfl))) (qa_cons (qe_bin ow_addD (qe_var 5) (qe_ix (xw_ix (hu_ng hr)) (qe_var 1) qe_int (fun _ _ => rfl))) qa_nil))))))))))
theorem ok_l_behind (T : Tx K mg cl fa fd ca) : FnOk P w K mg base (L2.CX P w) 2 (fa 17) (fd 17) ["_law_first", "_law_second"] (SpP K cl p_l_behind) := fnP (okS_l_behind T)
theorem okS_l_back (T : Tx K mg cl fa fd ca) : FnOk P w K mg base (L2.CX P w) 2 (fa 18) (fd 18) ["_law_motion_here"] (SpS K cl q_l_back) := by
  have sc := sc_l_back
  exact fnS T.d18.fn sc_l_back fun cdv A outer s H E hr =>
  (qb_cons (qs_set (i := 1) sc.nd rfl (by first | exact .inl rfl | exact .inr rfl) (qe_ix (xw_ix (hu_ng hr)) (qe_lst (qa_cons qe_int (qa_cons qe_int (qa_cons qe_int (qa_cons qe_int (qa_cons qe_int (qa_cons qe_int (qa_cons qe_int (qa_cons qe_int qa_nil))))))))) (qe_ix (xw_ix (hu_ng hr)) (qe_var 0) qe_int (fun _ _ => rfl)) (fun _ _ => rfl))) (qb_cons (qs_asg (qe_callN (ok_l_turned T) (hr.mono (by decide)) (by rfl) T.d16.mgd T.d16.fn.kp T.d16.bd (fun σ => passAt (takes_of rfl rfl rfl rfl) σ) (qa_cons (qe_var 1) (qa_cons (qe_ix (xw_ix (hu_ng hr)) (qe_var 0) qe_int (fun _ _ => rfl)) (qa_cons (qe_ix (xw_ix (hu_ng hr)) (qe_var 0) qe_int (fun _ _ => rfl)) qa_nil)))) (qg_tup rfl (qgs_cons (qg_name (i := 2) sc.nd rfl (by first | exact .inl rfl | exact .inr rfl)) (qgs_cons (qg_name (i := 3) sc.nd rfl (by first | exact .inl rfl | exact .inr rfl)) qgs_nil)))) (qb_one (qs_ret (qe_tup (qa_cons (qe_var 1) (qa_cons (qe_un uw_neg (qe_var 2)) (qa_cons (qe_un uw_neg (qe_var 3)) qa_nil))))))))
theorem ok_l_back (T : Tx K mg cl fa fd ca) : FnOk P w K mg base (L2.CX P w) 2 (fa 18) (fd 18) ["_law_motion_here"] (SpP K cl p_l_back) := fnP (okS_l_back T)
theorem okS_l_motion (T : Tx K mg cl fa fd ca) : FnOk P w K mg base (L2.CX P w) 2 (fa 19) (fd 19) ["_law_d", "_law_at"] (SpS K cl q_l_motion) := by
  have sc := sc_l_motion
  exact fnS T.d19.fn sc_l_motion fun cdv A outer s H E hr =>
  (qb_one (qs_ret (qe_tup (qa_cons (qe_bin ow_mod (qe_ix (xw_ix (hu_ng hr)) (qe_var 0) (qe_var 1) (fun _ _ => rfl)) qe_int) (qa_cons (qe_callN (ok_l_far T) (hr.mono (by decide)) (by rfl) T.d15.mgd T.d15.fn.kp T.d15.bd (fun σ => passAt (takes_of rfl rfl rfl rfl) σ) (qa_cons (qe_ix (xw_ix (hu_ng hr)) (qe_var 0) (qe_bin ow_addD (qe_var 1) qe_int) (fun _ _ => rfl)) (qa_cons (qe_ix (xw_ix (hu_ng hr)) (qe_var 0) (qe_bin ow_addD (qe_var 1) qe_int) (fun _ _ => rfl)) qa_nil))) (qa_cons (qe_callN (ok_l_far T) (hr.mono (by decide)) (by rfl) T.d15.mgd T.d15.fn.kp T.d15.bd (fun σ => passAt (takes_of rfl rfl rfl rfl) σ) (qa_cons (qe_ix (xw_ix (hu_ng hr)) (qe_var 0) (qe_bin ow_addD (qe_var 1) qe_int) (fun _ _ => rfl)) (qa_cons (qe_ix (xw_ix (hu_ng hr)) (qe_var 0) (qe_bin ow_addD (qe_var 1) qe_int) (fun _ _ => rfl)) qa_nil))) qa_nil))))))
theorem ok_l_motion (T : Tx K mg cl fa fd ca) : FnOk P w K mg base (L2.CX P w) 2 (fa 19) (fd 19) ["_law_d", "_law_at"] (SpP K cl p_l_motion) := fnP (okS_l_motion T)
theorem okr_l_same (T : Tx K mg cl fa fd ca) : ∀ n, FnOk P w K mg base (L2.CX P w) (n + 0) (fa 20) (fd 20) ["_law_found", "_law_due"] (SpP K cl (p_l_same n))
  | 0 => fn_stuck
  | n + 1 => by
    have G := okr_l_same T n
    have sc := sc_l_same
    show FnOk P w K mg base (L2.CX P w) (n + 0 + 1) (fa 20) (fd 20) ["_law_found", "_law_due"] (SpP K cl (runP 3 2 (m_l_same (p_l_same n))))
    exact fnP (fnS T.d20.fn sc_l_same fun cdv A outer s H E hr =>
    (qb_cons (qs_if (qt_truth (qe_isi2 (by rfl) T.b_isinstance (by rfl) T.b_tuple (by decide +kernel) (by rfl) T.b_list (by decide +kernel) (qe_var 1))) (qb_cons (qs_if (QW.qt (qw_or (qt_cmp (ow_ne (hu_ng hr)) (qe_isi (by rfl) T.b_isinstance (by rfl) T.b_tuple (by decide +kernel) (qe_var 1)) (qe_isi (by rfl) T.b_isinstance (by rfl) T.b_tuple (by decide +kernel) (qe_var 0)) (nomark _)) (qw_or1 (qt_cmp (ow_ne (hu_ng hr)) (qe_isi (by rfl) T.b_isinstance (by rfl) T.b_list (by decide +kernel) (qe_var 1)) (qe_isi (by rfl) T.b_isinstance (by rfl) T.b_list (by decide +kernel) (qe_var 0)) (nomark _))))) (qb_one (qs_ret qe_bl)) qb_nil) (qb_cons (qs_if (qt_cmp (ow_ne (hu_ng hr)) (qe_callB cw_len (by rfl) T.b_len (by decide +kernel) (qa_cons (qe_var 0) qa_nil)) (qe_callB cw_len (by rfl) T.b_len (by decide +kernel) (qa_cons (qe_var 1) qa_nil)) (nomark _)) (qb_one (qs_ret qe_bl)) qb_nil) (qb_cons (qs_range1 (passes_of rfl) rfl (by rfl) T.b_range (qa_cons (qe_callB cw_len (by rfl) T.b_len (by decide +kernel) (qa_cons (qe_var 1) qa_nil)) qa_nil) (qg_name (i := 2) sc.nd rfl (by first | exact .inl rfl | exact .inr rfl)) (qb_one (qs_if (qt_not (qt_truth (qe_callN G hr (by rfl) T.d20.mgd T.d20.fn.kp T.d20.bd (fun σ => passAt (takes_of rfl rfl rfl rfl) σ) (qa_cons (qe_ix (xw_ix (hu_ng hr)) (qe_var 0) (qe_var 2) (fun _ _ => rfl)) (qa_cons (qe_ix (xw_ix (hu_ng hr)) (qe_var 1) (qe_var 2) (fun _ _ => rfl)) qa_nil))))) (qb_one (qs_ret qe_bl)) qb_nil))) (qb_one (qs_ret qe_bl))))) qb_nil) (qb_cons (qs_if (qt_cmp ow_is (qe_var 1) qe_non (nomark _)) (qb_one (qs_ret (qe_cmp ow_is (qe_var 0) qe_non (nomark _)))) qb_nil) (qb_cons (qs_if (QW.qt (qw_or (qt_truth (qe_isi (by rfl) T.b_isinstance (by rfl) T.b_bool (by decide +kernel) (qe_var 1))) (qw_or1 (qt_truth (qe_isi (by rfl) T.b_isinstance (by rfl) T.b_bool (by decide +kernel) (qe_var 0)))))) (qb_one (qs_ret (qe_and (qe_isi (by rfl) T.b_isinstance (by rfl) T.b_bool (by decide +kernel) (qe_var 1)) (qe_and (qe_isi (by rfl) T.b_isinstance (by rfl) T.b_bool (by decide +kernel) (qe_var 0)) (qe_one (qe_cmp (ow_eq (hu_ng hr)) (qe_var 0) (qe_var 1) (nomark _))))))) qb_nil) (qb_cons (qs_if (qt_truth (qe_isi (by rfl) T.b_isinstance (by rfl) T.b_int (by decide +kernel) (qe_var 1))) (qb_one (qs_ret (qe_and (qe_isi (by rfl) T.b_isinstance (by rfl) T.b_int (by decide +kernel) (qe_var 0)) (qe_one (qe_cmp (ow_eq (hu_ng hr)) (qe_var 0) (qe_var 1) (nomark _)))))) qb_nil) (qb_one (qs_ret (qe_and (qe_isi (by rfl) T.b_isinstance (by rfl) T.b_str (by decide +kernel) (qe_var 0)) (qe_one (qe_cmp (ow_eq (hu_ng hr)) (qe_var 0) (qe_var 1) (nomark _)))))))))))
theorem ok_l_same (T : Tx K mg cl fa fd ca) : FnOk P w K mg base (L2.CX P w) 6 (fa 20) (fd 20) ["_law_found", "_law_due"] (SpP K cl (p_l_same 6)) := okr_l_same T 6
theorem okS_l_names (T : Tx K mg cl fa fd ca) : FnOk P w K mg base (L2.CX P w) 1 (fa 21) (fd 21) ["_law_d"] (SpS K cl q_l_names) := by
  have sc := sc_l_names
  exact fnS T.d21.fn sc_l_names fun cdv A outer s H E hr =>
  (qb_cons (qs_set (i := 1) sc.nd rfl (by first | exact .inl rfl | exact .inr rfl) qe_str) (qb_cons (qs_set (i := 2) sc.nd rfl (by first | exact .inl rfl | exact .inr rfl) (qe_lstC qa_nil)) (qb_cons (qs_range1 (passes_of rfl) rfl (by rfl) T.b_range (qa_cons (qe_ix (xw_ix (hu_ng hr)) (qe_lst (qa_cons qe_int (qa_cons qe_int (qa_cons qe_int (qa_cons qe_int (qa_cons qe_int (qa_cons qe_int (qa_cons qe_int (qa_cons qe_int (qa_cons qe_int (qa_cons qe_int qa_nil))))))))))) (qe_bin ow_mod (qe_ix (xw_ix (hu_ng hr)) (qe_var 0) qe_int (fun _ _ => rfl)) qe_int) (fun _ _ => rfl)) qa_nil) (qg_name (i := 3) sc.nd rfl (by first | exact .inl rfl | exact .inr rfl)) (qb_cons (qs_set (i := 4) sc.nd rfl (by first | exact .inl rfl | exact .inr rfl) (qe_ix (xw_ix (hu_ng hr)) (qe_var 1) (qe_bin ow_mod (qe_bin ow_addD (qe_bin ow_mul (qe_var 3) (qe_ix (xw_ix (hu_ng hr)) (qe_lst (qa_cons qe_int (qa_cons qe_int (qa_cons qe_int (qa_cons qe_int (qa_cons qe_int (qa_cons qe_int qa_nil))))))) (qe_bin ow_mod (qe_ix (xw_ix (hu_ng hr)) (qe_var 0) qe_int (fun _ _ => rfl)) qe_int) (fun _ _ => rfl))) (qe_ix (xw_ix (hu_ng hr)) (qe_var 0) qe_int (fun _ _ => rfl))) qe_int) (fun _ _ => rfl))) (qb_cons (qs_set (i := 5) sc.nd rfl (by first | exact .inl rfl | exact .inr rfl) (qe_bin ow_mod (qe_bin ow_div (qe_ix (xw_ix (hu_ng hr)) (qe_var 0) qe_int (fun _ _ => rfl)) qe_int) qe_int)) (qb_cons (qs_if (qt_cmp (ow_eq (hu_ng hr)) (qe_bin ow_mod (qe_ix (xw_ix (hu_ng hr)) (qe_var 0) qe_int (fun _ _ => rfl)) qe_int) qe_int (nomark _)) (qb_one (qs_set (i := 5) sc.nd rfl (by first | exact .inl rfl | exact .inr rfl) (qe_bin ow_mod (qe_ix (xw_ix (hu_ng hr)) (qe_var 0) (qe_bin ow_addD qe_int (qe_var 3)) (fun _ _ => rfl)) qe_int))) qb_nil) (qb_cons (qs_set (i := 6) sc.nd rfl (by first | exact .inl rfl | exact .inr rfl) (qe_bm PySem.F.plainAttrs_str PySem.F.slot_str_join PySem.F.type_str_join hm_join qe_str (qa_cons (qe_lcR1 mkD_ok (own := [("_law_at", 7)]) rfl sc.nd (by rfl) T.b_range (qa_cons (qe_var 5) qa_nil) (blkOk_by (own := [("_law_at", 7)]) (N := ["_law_d", "_law_letters", "_law_names_here", "_law_k", "_law_own", "_law_size", "_law_rest", "_law_at"]) (sc := defScope s_l_names) (by decide +kernel)) (sgw_name (i := 7) (by decide)) (fun _ _ _ _ _ => (pg_name (i := 7) sc.nd rfl (by first | exact .inl rfl | exact .inr rfl))) (fun _ _ _ _ _ => pts_yes) (fun _ _ _ _ _ => (qe_ix (xw_ix (hu_ng hr)) (qe_var 1) (qe_bin ow_mod (qe_bin ow_addD (qe_ix (xw_ix (hu_ng hr)) (qe_var 0) qe_int (fun _ _ => rfl)) (qe_bin ow_mul (qe_var 7) (qe_ix (xw_ix (hu_ng hr)) (qe_var 0) qe_int (fun _ _ => rfl)))) qe_int) (fun _ _ => rfl)))) qa_nil))) (qb_one (qs_if (qt_cmp (ow_eq (hu_ng hr)) (qe_bin ow_mod (qe_bin ow_div (qe_ix (xw_ix (hu_ng hr)) (qe_var 0) qe_int (fun _ _ => rfl)) qe_int) qe_int) qe_int (nomark _)) (qb_one (qs_expr (qe_bm PySem.F.plainAttrs_list PySem.F.slot_list_append PySem.F.type_list_append hm_append (qe_var 2) (qa_cons (qe_bin ow_addD (qe_var 4) (qe_var 6)) qa_nil)))) (qb_one (qs_expr (qe_bm PySem.F.plainAttrs_list PySem.F.slot_list_append PySem.F.type_list_append hm_append (qe_var 2) (qa_cons (qe_bin ow_addD (qe_var 6) (qe_var 4)) qa_nil))))))))))) (qb_one (qs_ret (qe_fz (qe_var 2)))))))
theorem ok_l_names (T : Tx K mg cl fa fd ca) : FnOk P w K mg base (L2.CX P w) 1 (fa 21) (fd 21) ["_law_d"] (SpP K cl p_l_names) := fnP (okS_l_names T)
theorem okS_l_web (T : Tx K mg cl fa fd ca) : FnOk P w K mg base (L2.CX P w) 3 (fa 22) (fd 22) ["_law_script"] (SpS K cl q_l_web) := by
  have sc := sc_l_web
  exact fnS T.d22.fn sc_l_web fun cdv A outer s H E hr =>
  (qb_cons (qs_set (i := 1) sc.nd rfl (by first | exact .inl rfl | exact .inr rfl) (qe_callN (ok_l_draws T) (hr.mono (by decide)) (by rfl) T.d14.mgd T.d14.fn.kp T.d14.bd (fun σ => passAt (takes_of rfl rfl rfl rfl) σ) (qa_cons (qe_var 0) (qa_cons qe_int (qa_cons qe_int qa_nil))))) (qb_cons (qs_set (i := 2) sc.nd rfl (by first | exact .inl rfl | exact .inr rfl) (qe_callN (ok_l_names T) (hr.mono (by decide)) (by rfl) T.d21.mgd T.d21.fn.kp T.d21.bd (fun σ => passAt (takes_of rfl rfl rfl rfl) σ) (qa_cons (qe_var 1) qa_nil))) (qb_cons (qs_set (i := 3) sc.nd rfl (by first | exact .inl rfl | exact .inr rfl) (qe_lstC qa_nil)) (qb_cons (qs_range1 (passes_of rfl) rfl (by rfl) T.b_range (qa_cons (qe_bin ow_mod (qe_ix (xw_ix (hu_ng hr)) (qe_var 1) qe_int (fun _ _ => rfl)) qe_int) qa_nil) (qg_name (i := 4) sc.nd rfl (by first | exact .inl rfl | exact .inr rfl)) (qb_cons (qs_set (i := 5) sc.nd rfl (by first | exact .inl rfl | exact .inr rfl) (qe_callN (ok_l_draws T) (hr.mono (by decide)) (by rfl) T.d14.mgd T.d14.fn.kp T.d14.bd (fun σ => passAt (takes_of rfl rfl rfl rfl) σ) (qa_cons (qe_var 0) (qa_cons (qe_bin ow_addD qe_int (qe_var 4)) (qa_cons qe_int qa_nil))))) (qb_cons (qs_set (i := 6) sc.nd rfl (by first | exact .inl rfl | exact .inr rfl) (qe_ix (xw_ix (hu_ng hr)) (qe_var 2) (qe_bin ow_mod (qe_ix (xw_ix (hu_ng hr)) (qe_var 5) qe_int (fun _ _ => rfl)) (qe_callB cw_len (by rfl) T.b_len (by decide +kernel) (qa_cons (qe_var 2) qa_nil))) (fun _ _ => rfl))) (qb_cons (qs_set (i := 7) sc.nd rfl (by first | exact .inl rfl | exact .inr rfl) (qe_ix (xw_ix (hu_ng hr)) (qe_var 2) (qe_bin ow_mod (qe_ix (xw_ix (hu_ng hr)) (qe_var 5) qe_int (fun _ _ => rfl)) (qe_callB cw_len (by rfl) T.b_len (by decide +kernel) (qa_cons (qe_var 2) qa_nil))) (fun _ _ => rfl))) (qb_cons (qs_if (qt_cmp (ow_eq (hu_ng hr)) (qe_bin ow_mod (qe_ix (xw_ix (hu_ng hr)) (qe_var 5) qe_int (fun _ _ => rfl)) qe_int) qe_int (nomark _)) (qb_cons (qs_set (i := 6) sc.nd rfl (by first | exact .inl rfl | exact .inr rfl) (qe_ix (xw_ix (hu_ng hr)) (qe_var 2) (qe_bin ow_mod (qe_var 4) (qe_callB cw_len (by rfl) T.b_len (by decide +kernel) (qa_cons (qe_var 2) qa_nil))) (fun _ _ => rfl))) (qb_one (qs_set (i := 7) sc.nd rfl (by first | exact .inl rfl | exact .inr rfl) (qe_ix (xw_ix (hu_ng hr)) (qe_var 2) (qe_bin ow_mod (qe_bin ow_addD (qe_var 4) qe_int) (qe_callB cw_len (by rfl) T.b_len (by decide +kernel) (qa_cons (qe_var 2) qa_nil))) (fun _ _ => rfl))))) qb_nil) (qb_cons (qs_set (i := 8) sc.nd rfl (by first | exact .inl rfl | exact .inr rfl) (qe_bin ow_addD qe_int (qe_bin ow_mod (qe_bin ow_addD (qe_bin ow_mul (qe_var 4) (qe_ix (xw_ix (hu_ng hr)) (qe_lst (qa_cons qe_int (qa_cons qe_int (qa_cons qe_int (qa_cons qe_int (qa_cons qe_int qa_nil)))))) (qe_bin ow_mod (qe_ix (xw_ix (hu_ng hr)) (qe_var 1) qe_int (fun _ _ => rfl)) qe_int) (fun _ _ => rfl))) (qe_ix (xw_ix (hu_ng hr)) (qe_var 1) qe_int (fun _ _ => rfl))) qe_int))) (qb_one (qs_if (qt_cmp (ow_ne (hu_ng hr)) (qe_var 6) (qe_var 7) (nomark _)) (qb_one (qs_expr (qe_bm PySem.F.plainAttrs_list PySem.F.slot_list_append PySem.F.type_list_append hm_append (qe_var 3) (qa_cons (qe_tup (qa_cons (qe_var 8) (qa_cons (qe_var 6) (qa_cons (qe_var 7) (qa_cons (qe_callN (ok_l_motion T) (hr.mono (by decide)) (by rfl) T.d19.mgd T.d19.fn.kp T.d19.bd (fun σ => passAt (takes_of rfl rfl rfl rfl) σ) (qa_cons (qe_var 5) (qa_cons qe_int qa_nil))) qa_nil))))) qa_nil)))) qb_nil)))))))) (qb_one (qs_ret (qe_fz (qe_var 3))))))))
theorem ok_l_web (T : Tx K mg cl fa fd ca) : FnOk P w K mg base (L2.CX P w) 3 (fa 22) (fd 22) ["_law_script"] (SpP K cl p_l_web) := fnP (okS_l_web T)
theorem okS_l_end (T : Tx K mg cl fa fd ca) : FnOk P w K mg base (L2.CX P w) 1 (fa 23) (fd 23) ["_law_tie", "_law_name"] (SpS K cl q_l_end) := by
  have sc := sc_l_end
  exact fnS T.d23.fn sc_l_end fun cdv A outer s H E hr =>
  (qb_cons (qs_if (qt_cmp (ow_eq (hu_ng hr)) (qe_ix (xw_ix (hu_ng hr)) (qe_var 0) qe_int (fun _ _ => rfl)) (qe_var 1) (nomark _)) (qb_one (qs_ret (qe_ix (xw_ix (hu_ng hr)) (qe_var 0) qe_int (fun _ _ => rfl)))) qb_nil) (qb_cons (qs_if (qt_cmp (ow_eq (hu_ng hr)) (qe_ix (xw_ix (hu_ng hr)) (qe_var 0) qe_int (fun _ _ => rfl)) (qe_var 1) (nomark _)) (qb_one (qs_ret (qe_ix (xw_ix (hu_ng hr)) (qe_var 0) qe_int (fun _ _ => rfl)))) qb_nil) (qb_one (qs_ret qe_non))))
theorem ok_l_end (T : Tx K mg cl fa fd ca) : FnOk P w K mg base (L2.CX P w) 1 (fa 23) (fd 23) ["_law_tie", "_law_name"] (SpP K cl p_l_end) := fnP (okS_l_end T)
theorem okS_l_walked (T : Tx K mg cl fa fd ca) : FnOk P w K mg base (L2.CX P w) 3 (fa 24) (fd 24) ["_law_ties", "_law_chain", "_law_start"] (SpS K cl q_l_walked) := by
  have sc := sc_l_walked
  exact fnS T.d24.fn sc_l_walked fun cdv A outer s H E hr =>
  (qb_cons (qs_set (i := 3) sc.nd rfl (by first | exact .inl rfl | exact .inr rfl) (qe_var 2)) (qb_cons (qs_set (i := 4) sc.nd rfl (by first | exact .inl rfl | exact .inr rfl) (qe_tup (qa_cons qe_int (qa_cons qe_int (qa_cons qe_int qa_nil))))) (qb_cons (qs_for (passes_of rfl) rfl (qe_var 1) (qg_name (i := 5) sc.nd rfl (by first | exact .inl rfl | exact .inr rfl)) (qb_cons (qs_setLc mkD_ok (i := 6) (own := [("_law_tie", 8)]) rfl sc.nd rfl rfl (sw_true rfl rfl rfl (by decide +kernel)) (qe_var 0) (blkOk_by (own := [("_law_tie", 8)]) (N := ["_law_ties", "_law_chain", "_law_start", "_law_name", "_law_frame", "_law_number", "_law_at", "_law_motion_here", "_law_tie"]) (sc := defScope s_l_walked) (by decide +kernel)) (sgw_name (i := 8) (by decide)) (fun _ _ _ _ _ => (pg_name (i := 8) sc.nd rfl (by first | exact .inl rfl | exact .inr rfl))) (fun _ _ _ _ _ => pts_one (pt_m (qt_cmp (ow_eq (hu_ng hr)) (qe_ix (xw_ix (hu_ng hr)) (qe_var 8) qe_int (fun _ _ => rfl)) (qe_var 5) (nomark _)))) (fun _ _ _ _ _ => (qe_var 8))) (qb_cons (qs_if (QW.qt (qw_or (qt_not (qt_truth (qe_var 6))) (qw_or1 (qt_cmp ow_is (qe_callN (ok_l_end T) (hr.mono (by decide)) (by rfl) T.d23.mgd T.d23.fn.kp T.d23.bd (fun σ => passAt (takes_of rfl rfl rfl rfl) σ) (qa_cons (qe_ix (xw_ix (hu_ng hr)) (qe_var 6) qe_int (fun _ _ => rfl)) (qa_cons (qe_var 3) qa_nil))) qe_non (nomark _))))) (qb_one (qs_ret qe_non)) qb_nil) (qb_cons (qs_set (i := 7) sc.nd rfl (by first | exact .inl rfl | exact .inr rfl) (qe_ix (xw_ix (hu_ng hr)) (qe_ix (xw_ix (hu_ng hr)) (qe_var 6) qe_int (fun _ _ => rfl)) qe_int (fun _ _ => rfl))) (qb_cons (qs_if (qt_cmp (ow_eq (hu_ng hr)) (qe_ix (xw_ix (hu_ng hr)) (qe_ix (xw_ix (hu_ng hr)) (qe_var 6) qe_int (fun _ _ => rfl)) qe_int (fun _ _ => rfl)) (qe_var 3) (nomark _)) (qb_one (qs_set (i := 7) sc.nd rfl (by first | exact .inl rfl | exact .inr rfl) (qe_callN (ok_l_back T) (hr.mono (by decide)) (by rfl) T.d18.mgd T.d18.fn.kp T.d18.bd (fun σ => passAt (takes_of rfl rfl rfl rfl) σ) (qa_cons (qe_var 7) qa_nil)))) qb_nil) (qb_cons (qs_set (i := 4) sc.nd rfl (by first | exact .inl rfl | exact .inr rfl) (qe_callN (ok_l_behind T) (hr.mono (by decide)) (by rfl) T.d17.mgd T.d17.fn.kp T.d17.bd (fun σ => passAt (takes_of rfl rfl rfl rfl) σ) (qa_cons (qe_var 7) (qa_cons (qe_var 4) qa_nil)))) (qb_one (qs_set (i := 3) sc.nd rfl (by first | exact .inl rfl | exact .inr rfl) (qe_callN (ok_l_end T) (hr.mono (by decide)) (by rfl) T.d23.mgd T.d23.fn.kp T.d23.bd (fun σ => passAt (takes_of rfl rfl rfl rfl) σ) (qa_cons (qe_ix (xw_ix (hu_ng hr)) (qe_var 6) qe_int (fun _ _ => rfl)) (qa_cons (qe_var 3) qa_nil))))))))))) (qb_one (qs_ret (qe_tup (qa_cons (qe_var 3) (qa_cons (qe_var 4) qa_nil))))))))
theorem ok_l_walked (T : Tx K mg cl fa fd ca) : FnOk P w K mg base (L2.CX P w) 3 (fa 24) (fd 24) ["_law_ties", "_law_chain", "_law_start"] (SpP K cl p_l_walked) := fnP (okS_l_walked T)
theorem okS_law (T : Tx K mg cl fa fd ca) : FnOk P w K mg base (L2.CX P w) 7 (fa 25) (fd 25) ["_law_script"] (SpS K cl q_law) := by
  have sc := sc_law
  exact fnS T.d25.fn sc_law fun cdv A outer s H E hr =>
  (qb_cons (qs_set (i := 1) sc.nd rfl (by first | exact .inl rfl | exact .inr rfl) (qe_callN (ok_l_web T) (hr.mono (by decide)) (by rfl) T.d22.mgd T.d22.fn.kp T.d22.bd (fun σ => passAt (takes_of rfl rfl rfl rfl) σ) (qa_cons (qe_var 0) qa_nil))) (qb_cons (qs_set (i := 2) sc.nd rfl (by first | exact .inl rfl | exact .inr rfl) (qe_callN (ok_l_names T) (hr.mono (by decide)) (by rfl) T.d21.mgd T.d21.fn.kp T.d21.bd (fun σ => passAt (takes_of rfl rfl rfl rfl) σ) (qa_cons (qe_callN (ok_l_draws T) (hr.mono (by decide)) (by rfl) T.d14.mgd T.d14.fn.kp T.d14.bd (fun σ => passAt (takes_of rfl rfl rfl rfl) σ) (qa_cons (qe_var 0) (qa_cons qe_int (qa_cons qe_int qa_nil)))) qa_nil))) (qb_cons (qs_set (i := 3) sc.nd rfl (by first | exact .inl rfl | exact .inr rfl) (qe_ix (xw_ix (hu_ng hr)) (qe_var 2) (qe_bin ow_mod (qe_ix (xw_ix (hu_ng hr)) (qe_callN (ok_l_draws T) (hr.mono (by decide)) (by rfl) T.d14.mgd T.d14.fn.kp T.d14.bd (fun σ => passAt (takes_of rfl rfl rfl rfl) σ) (qa_cons (qe_var 0) (qa_cons qe_int (qa_cons qe_int qa_nil)))) qe_int (fun _ _ => rfl)) (qe_callB cw_len (by rfl) T.b_len (by decide +kernel) (qa_cons (qe_var 2) qa_nil))) (fun _ _ => rfl))) (qb_cons (qs_set (i := 4) sc.nd rfl (by first | exact .inl rfl | exact .inr rfl) (qe_callTy (cn_list rfl).d (by rfl) T.b_list (by decide +kernel) (qa_cons (qe_var 1) qa_nil))) (qb_cons (qs_set (i := 5) sc.nd rfl (by first | exact .inl rfl | exact .inr rfl) (qe_callN (ok_chains T) (hr.mono (by decide)) (by rfl) T.d11.mgd T.d11.fn.kp T.d11.bd (fun σ => passAt (takes_of rfl rfl rfl rfl) σ) (qa_cons (qe_callTy (cn_list rfl).d (by rfl) T.b_list (by decide +kernel) (qa_cons (qe_var 1) qa_nil)) (qa_cons (qe_var 3) qa_nil)))) (qb_cons (qs_set (i := 6) sc.nd rfl (by first | exact .inl rfl | exact .inr rfl) (qe_callL mkC_n (okL_frames T) (hr.mono (by decide)) (by rfl) T.d12.mgd T.d12.fn.kp T.d12.bd (fun σ => passAt (takes_of rfl rfl rfl rfl) σ) (qa_cons (qe_var 4) (qa_cons (qe_var 3) qa_nil)))) (qb_cons (qs_if (QW.qt (qw_or (qt_not (qt_truth (qe_callN (ok_l_same T) (hr.mono (by decide)) (by rfl) T.d20.mgd T.d20.fn.kp T.d20.bd (fun σ => passAt (takes_of rfl rfl rfl rfl) σ) (qa_cons (qe_var 4) (qa_cons (qe_var 1) qa_nil))))) (qw_or (qt_not (qt_truth (qe_isi (by rfl) T.b_isinstance (by rfl) T.b_dict (by decide +kernel) (qe_var 6)))) (qw_or1 (qt_cmp (ow_ne (hu_ng hr)) (qe_callB cw_len (by rfl) T.b_len (by decide +kernel) (qa_cons (qe_var 6) qa_nil)) (qe_callB cw_len (by rfl) T.b_len (by decide +kernel) (qa_cons (qe_var 5) qa_nil)) (nomark _)))))) (qb_one (qs_ret qe_bl)) qb_nil) (qb_cons (qs_forI (passes_of rfl) rfl (qe_var 5) (qg_tup rfl (qgs_cons (qg_name (i := 8) sc.nd rfl (by first | exact .inl rfl | exact .inr rfl)) (qgs_cons (qg_name (i := 9) sc.nd rfl (by first | exact .inl rfl | exact .inr rfl)) qgs_nil))) (qb_cons (qs_set (i := 10) sc.nd rfl (by first | exact .inl rfl | exact .inr rfl) (qe_callN (ok_l_walked T) (hr.mono (by decide)) (by rfl) T.d24.mgd T.d24.fn.kp T.d24.bd (fun σ => passAt (takes_of rfl rfl rfl rfl) σ) (qa_cons (qe_var 1) (qa_cons (qe_var 9) (qa_cons (qe_var 3) qa_nil))))) (qb_cons (qs_if (QW.qt (qw_or (qt_cmp ow_is (qe_var 10) qe_non (nomark _)) (qw_or (qt_cmp (ow_ne (hu_ng hr)) (qe_ix (xw_ix (hu_ng hr)) (qe_var 10) qe_int (fun _ _ => rfl)) (qe_var 8) (nomark _)) (qw_or1 (qt_cmp (ow_notin (hu_ng hr)) (qe_var 8) (qe_var 6) (by rfl)))))) (qb_one (qs_ret qe_bl)) qb_nil) (qb_one (qs_if (qt_not (qt_truth (qe_callN (ok_l_same T) (hr.mono (by decide)) (by rfl) T.d20.mgd T.d20.fn.kp T.d20.bd (fun σ => passAt (takes_of rfl rfl rfl rfl) σ) (qa_cons (qe_ix (xw_ix (hu_ng hr)) (qe_var 6) (qe_var 8) (fun _ _ => rfl)) (qa_cons (qe_ix (xw_ix (hu_ng hr)) (qe_var 10) qe_int (fun _ _ => rfl)) qa_nil))))) (qb_one (qs_ret qe_bl)) qb_nil))))) (qb_cons (qs_set (i := 7) sc.nd rfl (by first | exact .inl rfl | exact .inr rfl) (qe_callTyL cn_dict.l (by rfl) T.b_dict (by decide +kernel) (qa_cons (qe_var 6) qa_nil))) (qb_cons (qs_setIx (hu_ng hr) (qe_var 6) qe_str (qe_tup (qa_cons qe_int (qa_cons qe_int (qa_cons qe_int qa_nil))))) (qb_frz 6 (qb_one (qs_ret (qe_cmp (ow_eqDk (hu_ng hr)) (qe_callLk (okL_frames T) (hr.mono (by decide)) (by rfl) T.d12.mgd T.d12.fn.kp T.d12.bd (fun σ => passAt (takes_of rfl rfl rfl rfl) σ) (qa_cons (qe_var 4) (qa_cons (qe_var 3) qa_nil))) (qe_var 7) (nomark _)))))))))))))))
theorem ok_law (T : Tx K mg cl fa fd ca) : FnOk P w K mg base (L2.CX P w) 7 (fa 25) (fd 25) ["_law_script"] (SpP K cl p_law) := fnP (okS_law T)
end
/-! ### what the top has written -/
theorem all_mk {P : Program} {w : World} {K : PySem.W.Frag} {h : Heap} {mg : Str → Option Value} {fl : Addr} (X : K.In h) (G : h.Ns mainGlobals mg) (hfa : mg "law" = some (.ref fl))
    {f2 : Addr} {od2 an2 : Option Addr} {sl2 : Array (Option Value)} {oc2 kV2 dc2 pm2 cd2 ct2 : Value}
    {f3 : Addr} {od3 an3 : Option Addr} {sl3 : Array (Option Value)} {oc3 kV3 dc3 pm3 cd3 ct3 : Value}
    {f4 : Addr} {od4 an4 : Option Addr} {sl4 : Array (Option Value)} {oc4 kV4 dc4 pm4 cd4 ct4 : Value}
    {f5 : Addr} {od5 an5 : Option Addr} {sl5 : Array (Option Value)} {oc5 kV5 dc5 pm5 cd5 ct5 : Value}
    {f6 : Addr} {od6 an6 : Option Addr} {sl6 : Array (Option Value)} {oc6 kV6 dc6 pm6 cd6 ct6 : Value}
    {f8 : Addr} {od8 an8 : Option Addr} {sl8 : Array (Option Value)} {oc8 kV8 dc8 pm8 cd8 ct8 : Value}
    {f9 : Addr} {od9 an9 : Option Addr} {sl9 : Array (Option Value)} {oc9 kV9 dc9 pm9 cd9 ct9 : Value}
    {f10 : Addr} {od10 an10 : Option Addr} {sl10 : Array (Option Value)} {oc10 kV10 dc10 pm10 cd10 ct10 : Value}
    {f11 : Addr} {od11 an11 : Option Addr} {sl11 : Array (Option Value)} {oc11 kV11 dc11 pm11 cd11 ct11 : Value}
    {f12 : Addr} {od12 an12 : Option Addr} {sl12 : Array (Option Value)} {oc12 kV12 dc12 pm12 cd12 ct12 : Value}
    {f14 : Addr} {od14 an14 : Option Addr} {sl14 : Array (Option Value)} {oc14 kV14 dc14 pm14 cd14 ct14 : Value}
    {f15 : Addr} {od15 an15 : Option Addr} {sl15 : Array (Option Value)} {oc15 kV15 dc15 pm15 cd15 ct15 : Value}
    {f16 : Addr} {od16 an16 : Option Addr} {sl16 : Array (Option Value)} {oc16 kV16 dc16 pm16 cd16 ct16 : Value}
    {f17 : Addr} {od17 an17 : Option Addr} {sl17 : Array (Option Value)} {oc17 kV17 dc17 pm17 cd17 ct17 : Value}
    {f18 : Addr} {od18 an18 : Option Addr} {sl18 : Array (Option Value)} {oc18 kV18 dc18 pm18 cd18 ct18 : Value}
    {f19 : Addr} {od19 an19 : Option Addr} {sl19 : Array (Option Value)} {oc19 kV19 dc19 pm19 cd19 ct19 : Value}
    {f20 : Addr} {od20 an20 : Option Addr} {sl20 : Array (Option Value)} {oc20 kV20 dc20 pm20 cd20 ct20 : Value}
    {f21 : Addr} {od21 an21 : Option Addr} {sl21 : Array (Option Value)} {oc21 kV21 dc21 pm21 cd21 ct21 : Value}
    {f22 : Addr} {od22 an22 : Option Addr} {sl22 : Array (Option Value)} {oc22 kV22 dc22 pm22 cd22 ct22 : Value}
    {f23 : Addr} {od23 an23 : Option Addr} {sl23 : Array (Option Value)} {oc23 kV23 dc23 pm23 cd23 ct23 : Value}
    {f24 : Addr} {od24 an24 : Option Addr} {sl24 : Array (Option Value)} {oc24 kV24 dc24 pm24 cd24 ct24 : Value}
    {f25 : Addr} {od25 an25 : Option Addr} {sl25 : Array (Option Value)} {oc25 kV25 dc25 pm25 cd25 ct25 : Value}
    {a_STILL : Addr} {od_STILL : Option Addr} {n_STILL : Nat} {sl_STILL : Array (Option Value)} {t_STILL_0 : Tok} {t_STILL_1 : Tok} {t_STILL_2 : Tok}
    (a2 : PySem.W.nsIn K mainGlobals "turned" = some (some (.ref f2))) (l2 : K.lookup f2 = some ⟨oc2, od2, .func (PySem.W.fnOf "turned" "turned" (defArgs s_turned) (defBody s_turned) (defScope s_turned) .none kV2 dc2 pm2 an2 cd2 ct2), sl2⟩) (c2 : PySem.W.codeIn K cd2 "turned" = true) (k2 : PySem.W.keepIn K (.ref f2) = true)
    (a3 : PySem.W.nsIn K mainGlobals "turn_behind" = some (some (.ref f3))) (l3 : K.lookup f3 = some ⟨oc3, od3, .func (PySem.W.fnOf "turn_behind" "turn_behind" (defArgs s_turn_behind) (defBody s_turn_behind) (defScope s_turn_behind) .none kV3 dc3 pm3 an3 cd3 ct3), sl3⟩) (c3 : PySem.W.codeIn K cd3 "turn_behind" = true) (k3 : PySem.W.keepIn K (.ref f3) = true)
    (a4 : PySem.W.nsIn K mainGlobals "behind" = some (some (.ref f4))) (l4 : K.lookup f4 = some ⟨oc4, od4, .func (PySem.W.fnOf "behind" "behind" (defArgs s_behind) (defBody s_behind) (defScope s_behind) .none kV4 dc4 pm4 an4 cd4 ct4), sl4⟩) (c4 : PySem.W.codeIn K cd4 "behind" = true) (k4 : PySem.W.keepIn K (.ref f4) = true)
    (a5 : PySem.W.nsIn K mainGlobals "turn_back" = some (some (.ref f5))) (l5 : K.lookup f5 = some ⟨oc5, od5, .func (PySem.W.fnOf "turn_back" "turn_back" (defArgs s_turn_back) (defBody s_turn_back) (defScope s_turn_back) .none kV5 dc5 pm5 an5 cd5 ct5), sl5⟩) (c5 : PySem.W.codeIn K cd5 "turn_back" = true) (k5 : PySem.W.keepIn K (.ref f5) = true)
    (a6 : PySem.W.nsIn K mainGlobals "back" = some (some (.ref f6))) (l6 : K.lookup f6 = some ⟨oc6, od6, .func (PySem.W.fnOf "back" "back" (defArgs s_back) (defBody s_back) (defScope s_back) .none kV6 dc6 pm6 an6 cd6 ct6), sl6⟩) (c6 : PySem.W.codeIn K cd6 "back" = true) (k6 : PySem.W.keepIn K (.ref f6) = true)
    (a8 : PySem.W.nsIn K mainGlobals "number_of" = some (some (.ref f8))) (l8 : K.lookup f8 = some ⟨oc8, od8, .func (PySem.W.fnOf "number_of" "number_of" (defArgs s_number_of) (defBody s_number_of) (defScope s_number_of) .none kV8 dc8 pm8 an8 cd8 ct8), sl8⟩) (c8 : PySem.W.codeIn K cd8 "number_of" = true) (k8 : PySem.W.keepIn K (.ref f8) = true)
    (a9 : PySem.W.nsIn K mainGlobals "step" = some (some (.ref f9))) (l9 : K.lookup f9 = some ⟨oc9, od9, .func (PySem.W.fnOf "step" "step" (defArgs s_step) (defBody s_step) (defScope s_step) .none kV9 dc9 pm9 an9 cd9 ct9), sl9⟩) (c9 : PySem.W.codeIn K cd9 "step" = true) (k9 : PySem.W.keepIn K (.ref f9) = true)
    (a10 : PySem.W.nsIn K mainGlobals "reached" = some (some (.ref f10))) (l10 : K.lookup f10 = some ⟨oc10, od10, .func (PySem.W.fnOf "reached" "reached" (defArgs s_reached) (defBody s_reached) (defScope s_reached) .none kV10 dc10 pm10 an10 cd10 ct10), sl10⟩) (c10 : PySem.W.codeIn K cd10 "reached" = true) (k10 : PySem.W.keepIn K (.ref f10) = true)
    (a11 : PySem.W.nsIn K mainGlobals "chains" = some (some (.ref f11))) (l11 : K.lookup f11 = some ⟨oc11, od11, .func (PySem.W.fnOf "chains" "chains" (defArgs s_chains) (defBody s_chains) (defScope s_chains) .none kV11 dc11 pm11 an11 cd11 ct11), sl11⟩) (c11 : PySem.W.codeIn K cd11 "chains" = true) (k11 : PySem.W.keepIn K (.ref f11) = true)
    (a12 : PySem.W.nsIn K mainGlobals "frames" = some (some (.ref f12))) (l12 : K.lookup f12 = some ⟨oc12, od12, .func (PySem.W.fnOf "frames" "frames" (defArgs s_frames) (defBody s_frames) (defScope s_frames) .none kV12 dc12 pm12 an12 cd12 ct12), sl12⟩) (c12 : PySem.W.codeIn K cd12 "frames" = true) (k12 : PySem.W.keepIn K (.ref f12) = true)
    (a14 : PySem.W.nsIn K mainGlobals "_law_draws" = some (some (.ref f14))) (l14 : K.lookup f14 = some ⟨oc14, od14, .func (PySem.W.fnOf "_law_draws" "_law_draws" (defArgs s_l_draws) (defBody s_l_draws) (defScope s_l_draws) .none kV14 dc14 pm14 an14 cd14 ct14), sl14⟩) (c14 : PySem.W.codeIn K cd14 "_law_draws" = true) (k14 : PySem.W.keepIn K (.ref f14) = true)
    (a15 : PySem.W.nsIn K mainGlobals "_law_far" = some (some (.ref f15))) (l15 : K.lookup f15 = some ⟨oc15, od15, .func (PySem.W.fnOf "_law_far" "_law_far" (defArgs s_l_far) (defBody s_l_far) (defScope s_l_far) .none kV15 dc15 pm15 an15 cd15 ct15), sl15⟩) (c15 : PySem.W.codeIn K cd15 "_law_far" = true) (k15 : PySem.W.keepIn K (.ref f15) = true)
    (a16 : PySem.W.nsIn K mainGlobals "_law_turned" = some (some (.ref f16))) (l16 : K.lookup f16 = some ⟨oc16, od16, .func (PySem.W.fnOf "_law_turned" "_law_turned" (defArgs s_l_turned) (defBody s_l_turned) (defScope s_l_turned) .none kV16 dc16 pm16 an16 cd16 ct16), sl16⟩) (c16 : PySem.W.codeIn K cd16 "_law_turned" = true) (k16 : PySem.W.keepIn K (.ref f16) = true)
    (a17 : PySem.W.nsIn K mainGlobals "_law_behind" = some (some (.ref f17))) (l17 : K.lookup f17 = some ⟨oc17, od17, .func (PySem.W.fnOf "_law_behind" "_law_behind" (defArgs s_l_behind) (defBody s_l_behind) (defScope s_l_behind) .none kV17 dc17 pm17 an17 cd17 ct17), sl17⟩) (c17 : PySem.W.codeIn K cd17 "_law_behind" = true) (k17 : PySem.W.keepIn K (.ref f17) = true)
    (a18 : PySem.W.nsIn K mainGlobals "_law_back" = some (some (.ref f18))) (l18 : K.lookup f18 = some ⟨oc18, od18, .func (PySem.W.fnOf "_law_back" "_law_back" (defArgs s_l_back) (defBody s_l_back) (defScope s_l_back) .none kV18 dc18 pm18 an18 cd18 ct18), sl18⟩) (c18 : PySem.W.codeIn K cd18 "_law_back" = true) (k18 : PySem.W.keepIn K (.ref f18) = true)
    (a19 : PySem.W.nsIn K mainGlobals "_law_motion" = some (some (.ref f19))) (l19 : K.lookup f19 = some ⟨oc19, od19, .func (PySem.W.fnOf "_law_motion" "_law_motion" (defArgs s_l_motion) (defBody s_l_motion) (defScope s_l_motion) .none kV19 dc19 pm19 an19 cd19 ct19), sl19⟩) (c19 : PySem.W.codeIn K cd19 "_law_motion" = true) (k19 : PySem.W.keepIn K (.ref f19) = true)
    (a20 : PySem.W.nsIn K mainGlobals "_law_same" = some (some (.ref f20))) (l20 : K.lookup f20 = some ⟨oc20, od20, .func (PySem.W.fnOf "_law_same" "_law_same" (defArgs s_l_same) (defBody s_l_same) (defScope s_l_same) .none kV20 dc20 pm20 an20 cd20 ct20), sl20⟩) (c20 : PySem.W.codeIn K cd20 "_law_same" = true) (k20 : PySem.W.keepIn K (.ref f20) = true)
    (a21 : PySem.W.nsIn K mainGlobals "_law_names" = some (some (.ref f21))) (l21 : K.lookup f21 = some ⟨oc21, od21, .func (PySem.W.fnOf "_law_names" "_law_names" (defArgs s_l_names) (defBody s_l_names) (defScope s_l_names) .none kV21 dc21 pm21 an21 cd21 ct21), sl21⟩) (c21 : PySem.W.codeIn K cd21 "_law_names" = true) (k21 : PySem.W.keepIn K (.ref f21) = true)
    (a22 : PySem.W.nsIn K mainGlobals "_law_web" = some (some (.ref f22))) (l22 : K.lookup f22 = some ⟨oc22, od22, .func (PySem.W.fnOf "_law_web" "_law_web" (defArgs s_l_web) (defBody s_l_web) (defScope s_l_web) .none kV22 dc22 pm22 an22 cd22 ct22), sl22⟩) (c22 : PySem.W.codeIn K cd22 "_law_web" = true) (k22 : PySem.W.keepIn K (.ref f22) = true)
    (a23 : PySem.W.nsIn K mainGlobals "_law_end" = some (some (.ref f23))) (l23 : K.lookup f23 = some ⟨oc23, od23, .func (PySem.W.fnOf "_law_end" "_law_end" (defArgs s_l_end) (defBody s_l_end) (defScope s_l_end) .none kV23 dc23 pm23 an23 cd23 ct23), sl23⟩) (c23 : PySem.W.codeIn K cd23 "_law_end" = true) (k23 : PySem.W.keepIn K (.ref f23) = true)
    (a24 : PySem.W.nsIn K mainGlobals "_law_walked" = some (some (.ref f24))) (l24 : K.lookup f24 = some ⟨oc24, od24, .func (PySem.W.fnOf "_law_walked" "_law_walked" (defArgs s_l_walked) (defBody s_l_walked) (defScope s_l_walked) .none kV24 dc24 pm24 an24 cd24 ct24), sl24⟩) (c24 : PySem.W.codeIn K cd24 "_law_walked" = true) (k24 : PySem.W.keepIn K (.ref f24) = true)
    (a25 : PySem.W.nsIn K mainGlobals "law" = some (some (.ref f25))) (l25 : K.lookup f25 = some ⟨oc25, od25, .func (PySem.W.fnOf "law" "law" (defArgs s_law) (defBody s_law) (defScope s_law) .none kV25 dc25 pm25 an25 cd25 ct25), sl25⟩) (c25 : PySem.W.codeIn K cd25 "law" = true) (k25 : PySem.W.keepIn K (.ref f25) = true)
    (z_bool : PySem.W.nsIn K mainGlobals "bool" = some none)
    (z_dict : PySem.W.nsIn K mainGlobals "dict" = some none)
    (z_int : PySem.W.nsIn K mainGlobals "int" = some none)
    (z_isinstance : PySem.W.nsIn K mainGlobals "isinstance" = some none)
    (z_len : PySem.W.nsIn K mainGlobals "len" = some none)
    (z_list : PySem.W.nsIn K mainGlobals "list" = some none)
    (z_range : PySem.W.nsIn K mainGlobals "range" = some none)
    (z_sorted : PySem.W.nsIn K mainGlobals "sorted" = some none)
    (z_str : PySem.W.nsIn K mainGlobals "str" = some none)
    (z_tuple : PySem.W.nsIn K mainGlobals "tuple" = some none)
    (y_STILL : PySem.W.nsIn K mainGlobals "STILL" = some (some (.ref a_STILL))) (x_STILL : K.lookup a_STILL = some ⟨.type "tuple", od_STILL, .seq #[.int 0 t_STILL_0, .int 0 t_STILL_1, .int 0 t_STILL_2] n_STILL, sl_STILL⟩) :
    ∃ fdl : FuncData, (∀ (s : Shared) (v : Value), BindsTo s fdl ⟨[v], []⟩ [("_law_script", v)]) ∧ ∀ base : Heap, K.In base → base.Ns mainGlobals mg → FnOk P w K mg base (L2.CX P w) 7 fl fdl ["_law_script"] (SpP K (clOf K) p_law) := by
  have e : f25 = fl := by
    have z := (PySem.W.mg_of X G a25).symm.trans hfa
    injection z with z
    injection z
  subst e
  have T : Tx K mg (clOf K) (fun i => if i = 2 then f2 else if i = 3 then f3 else if i = 4 then f4 else if i = 5 then f5 else if i = 6 then f6 else if i = 8 then f8 else if i = 9 then f9 else if i = 10 then f10 else if i = 11 then f11 else if i = 12 then f12 else if i = 14 then f14 else if i = 15 then f15 else if i = 16 then f16 else if i = 17 then f17 else if i = 18 then f18 else if i = 19 then f19 else if i = 20 then f20 else if i = 21 then f21 else if i = 22 then f22 else if i = 23 then f23 else if i = 24 then f24 else if i = 25 then f25 else 0) (fun i => if i = 2 then PySem.W.fnOf "turned" "turned" (defArgs s_turned) (defBody s_turned) (defScope s_turned) .none kV2 dc2 pm2 an2 cd2 ct2 else if i = 3 then PySem.W.fnOf "turn_behind" "turn_behind" (defArgs s_turn_behind) (defBody s_turn_behind) (defScope s_turn_behind) .none kV3 dc3 pm3 an3 cd3 ct3 else if i = 4 then PySem.W.fnOf "behind" "behind" (defArgs s_behind) (defBody s_behind) (defScope s_behind) .none kV4 dc4 pm4 an4 cd4 ct4 else if i = 5 then PySem.W.fnOf "turn_back" "turn_back" (defArgs s_turn_back) (defBody s_turn_back) (defScope s_turn_back) .none kV5 dc5 pm5 an5 cd5 ct5 else if i = 6 then PySem.W.fnOf "back" "back" (defArgs s_back) (defBody s_back) (defScope s_back) .none kV6 dc6 pm6 an6 cd6 ct6 else if i = 8 then PySem.W.fnOf "number_of" "number_of" (defArgs s_number_of) (defBody s_number_of) (defScope s_number_of) .none kV8 dc8 pm8 an8 cd8 ct8 else if i = 9 then PySem.W.fnOf "step" "step" (defArgs s_step) (defBody s_step) (defScope s_step) .none kV9 dc9 pm9 an9 cd9 ct9 else if i = 10 then PySem.W.fnOf "reached" "reached" (defArgs s_reached) (defBody s_reached) (defScope s_reached) .none kV10 dc10 pm10 an10 cd10 ct10 else if i = 11 then PySem.W.fnOf "chains" "chains" (defArgs s_chains) (defBody s_chains) (defScope s_chains) .none kV11 dc11 pm11 an11 cd11 ct11 else if i = 12 then PySem.W.fnOf "frames" "frames" (defArgs s_frames) (defBody s_frames) (defScope s_frames) .none kV12 dc12 pm12 an12 cd12 ct12 else if i = 14 then PySem.W.fnOf "_law_draws" "_law_draws" (defArgs s_l_draws) (defBody s_l_draws) (defScope s_l_draws) .none kV14 dc14 pm14 an14 cd14 ct14 else if i = 15 then PySem.W.fnOf "_law_far" "_law_far" (defArgs s_l_far) (defBody s_l_far) (defScope s_l_far) .none kV15 dc15 pm15 an15 cd15 ct15 else if i = 16 then PySem.W.fnOf "_law_turned" "_law_turned" (defArgs s_l_turned) (defBody s_l_turned) (defScope s_l_turned) .none kV16 dc16 pm16 an16 cd16 ct16 else if i = 17 then PySem.W.fnOf "_law_behind" "_law_behind" (defArgs s_l_behind) (defBody s_l_behind) (defScope s_l_behind) .none kV17 dc17 pm17 an17 cd17 ct17 else if i = 18 then PySem.W.fnOf "_law_back" "_law_back" (defArgs s_l_back) (defBody s_l_back) (defScope s_l_back) .none kV18 dc18 pm18 an18 cd18 ct18 else if i = 19 then PySem.W.fnOf "_law_motion" "_law_motion" (defArgs s_l_motion) (defBody s_l_motion) (defScope s_l_motion) .none kV19 dc19 pm19 an19 cd19 ct19 else if i = 20 then PySem.W.fnOf "_law_same" "_law_same" (defArgs s_l_same) (defBody s_l_same) (defScope s_l_same) .none kV20 dc20 pm20 an20 cd20 ct20 else if i = 21 then PySem.W.fnOf "_law_names" "_law_names" (defArgs s_l_names) (defBody s_l_names) (defScope s_l_names) .none kV21 dc21 pm21 an21 cd21 ct21 else if i = 22 then PySem.W.fnOf "_law_web" "_law_web" (defArgs s_l_web) (defBody s_l_web) (defScope s_l_web) .none kV22 dc22 pm22 an22 cd22 ct22 else if i = 23 then PySem.W.fnOf "_law_end" "_law_end" (defArgs s_l_end) (defBody s_l_end) (defScope s_l_end) .none kV23 dc23 pm23 an23 cd23 ct23 else if i = 24 then PySem.W.fnOf "_law_walked" "_law_walked" (defArgs s_l_walked) (defBody s_l_walked) (defScope s_l_walked) .none kV24 dc24 pm24 an24 cd24 ct24 else if i = 25 then PySem.W.fnOf "law" "law" (defArgs s_law) (defBody s_law) (defScope s_law) .none kV25 dc25 pm25 an25 cd25 ct25 else (PySem.W.fnOf "law" "law" (defArgs s_law) (defBody s_law) (defScope s_law) .none kV25 dc25 pm25 an25 cd25 ct25)) (fun i => 0) := {
    d2 := ⟨fun_mk (st := s_turned) l2 c2 k2, PySem.W.mg_of X G a2, (fun_mk (st := s_turned) l2 c2 k2).binds (ps := ["turn", "place"]) (fun _ _ _ _ _ _ us hl => match us, hl with | [_, _], _ => rfl)⟩,
    d3 := ⟨fun_mk (st := s_turn_behind) l3 c3 k3, PySem.W.mg_of X G a3, (fun_mk (st := s_turn_behind) l3 c3 k3).binds (ps := ["first", "second"]) (fun _ _ _ _ _ _ us hl => match us, hl with | [_, _], _ => rfl)⟩,
    d4 := ⟨fun_mk (st := s_behind) l4 c4 k4, PySem.W.mg_of X G a4, (fun_mk (st := s_behind) l4 c4 k4).binds (ps := ["first", "second"]) (fun _ _ _ _ _ _ us hl => match us, hl with | [_, _], _ => rfl)⟩,
    d5 := ⟨fun_mk (st := s_turn_back) l5 c5 k5, PySem.W.mg_of X G a5, (fun_mk (st := s_turn_back) l5 c5 k5).binds (ps := ["turn"]) (fun _ _ _ _ _ _ us hl => match us, hl with | [_], _ => rfl)⟩,
    d6 := ⟨fun_mk (st := s_back) l6 c6 k6, PySem.W.mg_of X G a6, (fun_mk (st := s_back) l6 c6 k6).binds (ps := ["motion"]) (fun _ _ _ _ _ _ us hl => match us, hl with | [_], _ => rfl)⟩,
    d8 := ⟨fun_mk (st := s_number_of) l8 c8 k8, PySem.W.mg_of X G a8, (fun_mk (st := s_number_of) l8 c8 k8).binds (ps := ["tie"]) (fun _ _ _ _ _ _ us hl => match us, hl with | [_], _ => rfl)⟩,
    d9 := ⟨fun_mk (st := s_step) l9 c9 k9, PySem.W.mg_of X G a9, (fun_mk (st := s_step) l9 c9 k9).binds (ps := ["tie", "name"]) (fun _ _ _ _ _ _ us hl => match us, hl with | [_, _], _ => rfl)⟩,
    d10 := ⟨fun_mk (st := s_reached) l10 c10 k10, PySem.W.mg_of X G a10, (fun_mk (st := s_reached) l10 c10 k10).binds (ps := ["ties", "start"]) (fun _ _ _ _ _ _ us hl => match us, hl with | [_, _], _ => rfl)⟩,
    d11 := ⟨fun_mk (st := s_chains) l11 c11 k11, PySem.W.mg_of X G a11, (fun_mk (st := s_chains) l11 c11 k11).binds (ps := ["ties", "start"]) (fun _ _ _ _ _ _ us hl => match us, hl with | [_, _], _ => rfl)⟩,
    d12 := ⟨fun_mk (st := s_frames) l12 c12 k12, PySem.W.mg_of X G a12, (fun_mk (st := s_frames) l12 c12 k12).binds (ps := ["ties", "start"]) (fun _ _ _ _ _ _ us hl => match us, hl with | [_, _], _ => rfl)⟩,
    d14 := ⟨fun_mk (st := s_l_draws) l14 c14 k14, PySem.W.mg_of X G a14, (fun_mk (st := s_l_draws) l14 c14 k14).binds (ps := ["_law_script", "_law_at", "_law_many"]) (fun _ _ _ _ _ _ us hl => match us, hl with | [_, _, _], _ => rfl)⟩,
    d15 := ⟨fun_mk (st := s_l_far) l15 c15 k15, PySem.W.mg_of X G a15, (fun_mk (st := s_l_far) l15 c15 k15).binds (ps := ["_law_one", "_law_two"]) (fun _ _ _ _ _ _ us hl => match us, hl with | [_, _], _ => rfl)⟩,
    d16 := ⟨fun_mk (st := s_l_turned) l16 c16 k16, PySem.W.mg_of X G a16, (fun_mk (st := s_l_turned) l16 c16 k16).binds (ps := ["_law_turn", "_law_x", "_law_y"]) (fun _ _ _ _ _ _ us hl => match us, hl with | [_, _, _], _ => rfl)⟩,
    d17 := ⟨fun_mk (st := s_l_behind) l17 c17 k17, PySem.W.mg_of X G a17, (fun_mk (st := s_l_behind) l17 c17 k17).binds (ps := ["_law_first", "_law_second"]) (fun _ _ _ _ _ _ us hl => match us, hl with | [_, _], _ => rfl)⟩,
    d18 := ⟨fun_mk (st := s_l_back) l18 c18 k18, PySem.W.mg_of X G a18, (fun_mk (st := s_l_back) l18 c18 k18).binds (ps := ["_law_motion_here"]) (fun _ _ _ _ _ _ us hl => match us, hl with | [_], _ => rfl)⟩,
    d19 := ⟨fun_mk (st := s_l_motion) l19 c19 k19, PySem.W.mg_of X G a19, (fun_mk (st := s_l_motion) l19 c19 k19).binds (ps := ["_law_d", "_law_at"]) (fun _ _ _ _ _ _ us hl => match us, hl with | [_, _], _ => rfl)⟩,
    d20 := ⟨fun_mk (st := s_l_same) l20 c20 k20, PySem.W.mg_of X G a20, (fun_mk (st := s_l_same) l20 c20 k20).binds (ps := ["_law_found", "_law_due"]) (fun _ _ _ _ _ _ us hl => match us, hl with | [_, _], _ => rfl)⟩,
    d21 := ⟨fun_mk (st := s_l_names) l21 c21 k21, PySem.W.mg_of X G a21, (fun_mk (st := s_l_names) l21 c21 k21).binds (ps := ["_law_d"]) (fun _ _ _ _ _ _ us hl => match us, hl with | [_], _ => rfl)⟩,
    d22 := ⟨fun_mk (st := s_l_web) l22 c22 k22, PySem.W.mg_of X G a22, (fun_mk (st := s_l_web) l22 c22 k22).binds (ps := ["_law_script"]) (fun _ _ _ _ _ _ us hl => match us, hl with | [_], _ => rfl)⟩,
    d23 := ⟨fun_mk (st := s_l_end) l23 c23 k23, PySem.W.mg_of X G a23, (fun_mk (st := s_l_end) l23 c23 k23).binds (ps := ["_law_tie", "_law_name"]) (fun _ _ _ _ _ _ us hl => match us, hl with | [_, _], _ => rfl)⟩,
    d24 := ⟨fun_mk (st := s_l_walked) l24 c24 k24, PySem.W.mg_of X G a24, (fun_mk (st := s_l_walked) l24 c24 k24).binds (ps := ["_law_ties", "_law_chain", "_law_start"]) (fun _ _ _ _ _ _ us hl => match us, hl with | [_, _, _], _ => rfl)⟩,
    d25 := ⟨fun_mk (st := s_law) l25 c25 k25, PySem.W.mg_of X G a25, (fun_mk (st := s_law) l25 c25 k25).binds (ps := ["_law_script"]) (fun _ _ _ _ _ _ us hl => match us, hl with | [_], _ => rfl)⟩,
    b_bool := PySem.W.mg_none_of X G z_bool,
    b_dict := PySem.W.mg_none_of X G z_dict,
    b_int := PySem.W.mg_none_of X G z_int,
    b_isinstance := PySem.W.mg_none_of X G z_isinstance,
    b_len := PySem.W.mg_none_of X G z_len,
    b_list := PySem.W.mg_none_of X G z_list,
    b_range := PySem.W.mg_none_of X G z_range,
    b_sorted := PySem.W.mg_none_of X G z_sorted,
    b_str := PySem.W.mg_none_of X G z_str,
    b_tuple := PySem.W.mg_none_of X G z_tuple,
    g_STILL := ⟨.ref a_STILL, _, PySem.W.mg_of X G y_STILL, rfl, fun F => ⟨a_STILL, [.int 0, .int 0, .int 0], rfl, .inr ⟨_, _, _, x_STILL, rfl, rfl, by show 3 ≤ sizeLine; decide, (.cons ⟨_, rfl⟩ (.cons ⟨_, rfl⟩ (.cons ⟨_, rfl⟩ .nil)))⟩, ⟨_, _, rfl, rfl, ⟨_, _, rfl, rfl, ⟨_, _, rfl, rfl, rfl⟩⟩⟩⟩⟩ }
  exact ⟨PySem.W.fnOf "law" "law" (defArgs s_law) (defBody s_law) (defScope s_law) .none kV25 dc25 pm25 an25 cd25 ct25, fun s v => .of_eq rfl, fun base _ _ => ok_law T⟩
/-! ### operations, where they hold -/
abbrev iW (i : Int) : W := .da (.int i)
theorem tup_lst (S : Sto) (ds : List D) : tupW S (.da (.lst ds)) = none := rfl
theorem add_ii (i j : Int) (S : Sto) : addD (.da (.int i)) (.da (.int j)) S = .ok (.da (.int (i + j))) S := rfl
theorem addC_ii (i j : Int) (S : Sto) : addC (.da (.int i)) (.da (.int j)) S = .ok (.da (.int (i + j))) S := rfl
theorem add_ss (x y : Str) (S : Sto) (h : x.length + y.length ≤ sizeLine) : addD (.da (.str x)) (.da (.str y)) S = .ok (.da (.str (x ++ y))) S := by
  unfold addD addF addV
  simp only [ifc_pos h]
theorem lst_dats (a : List D) : datC (.lst (a.map .da)) = some (.lst a) := by simp only [datC, dats_da, Option.map]
theorem add_ll (a b : List D) (S : Sto) (h : a.length + b.length ≤ sizeLine) : addD (.da (.lst a)) (.da (.lst b)) S = .ok (.da (.lst (a ++ b))) S := by
  unfold addD addF addV
  simp only [tupW, catC, lstW, List.length_map, ifc_pos h, mkD, ← List.map_append, lst_dats]
theorem add_tt (x y : D) (a b : List D) (S : Sto) (h : a.length + b.length + 2 ≤ sizeLine) : addD (.da (.tup (x :: a))) (.da (.tup (y :: b))) S = .ok (.da (.tup (x :: a ++ y :: b))) S := by
  unfold addD addF addV
  simp only [tupW, List.map_cons, dats, dats_da]
  rw [ifc_pos ⟨rfl, rfl, by simp only [List.length_cons, List.length_map]; omega⟩]
theorem sub_ii (i j : Int) (S : Sto) : vl2 subW (.da (.int i)) (.da (.int j)) S = .ok (.da (.int (i - j))) S := rfl
theorem neg_i (i : Int) (S : Sto) : vl1 negW (.da (.int i)) S = .ok (.da (.int (-i))) S := rfl
theorem lt_ii (i j : Int) (S : Sto) : vl2 ltW (.da (.int i)) (.da (.int j)) S = .ok (.da (.bl (dec (i < j)))) S := rfl
theorem le_ii (i j : Int) (S : Sto) : vl2 leW (.da (.int i)) (.da (.int j)) S = .ok (.da (.bl (dec (i ≤ j)))) S := rfl
theorem gt_ii (i j : Int) (S : Sto) : vl2 gtW (.da (.int i)) (.da (.int j)) S = .ok (.da (.bl (dec (j < i)))) S := rfl
theorem ge_ii (i j : Int) (S : Sto) : vl2 geW (.da (.int i)) (.da (.int j)) S = .ok (.da (.bl (dec (j ≤ i)))) S := rfl
theorem mod_ok (i j : Int) (S : Sto) (h : 0 < j) : vl2 modW (.da (.int i)) (.da (.int j)) S = .ok (.da (.int (i % j))) S := by
  unfold vl2 modW wIg
  simp only [ifc_pos h, lift]
theorem div_ok (i j : Int) (S : Sto) (h : 0 < j) (h2 : j < 1073741824) : vl2 divW (.da (.int i)) (.da (.int j)) S = .ok (.da (.int (i / j))) S := by
  unfold vl2 divW wIg
  simp only [ifc_pos (And.intro h h2), lift]
theorem mul_r (i j : Int) (S : Sto) (h : -1000000000 < j) (h2 : j < 1000000000) : vl2 mulW (.da (.int i)) (.da (.int j)) S = .ok (.da (.int (i * j))) S := by
  have q : (-(2 ^ 64) < i ∧ i < 2 ^ 64) ∨ (-(2 ^ 64) < j ∧ j < 2 ^ 64) := .inr ⟨Int.lt_trans (by decide) h, Int.lt_trans h2 (by decide)⟩
  unfold vl2 mulW wIg
  simp only [ifc_pos q, lift]
theorem mul_l (i j : Int) (S : Sto) (h : -1000000000 < i) (h2 : i < 1000000000) : vl2 mulW (.da (.int i)) (.da (.int j)) S = .ok (.da (.int (i * j))) S := by
  have q : (-(2 ^ 64) < i ∧ i < 2 ^ 64) ∨ (-(2 ^ 64) < j ∧ j < 2 ^ 64) := .inl ⟨Int.lt_trans (by decide) h, Int.lt_trans h2 (by decide)⟩
  unfold vl2 mulW wIg
  simp only [ifc_pos q, lift]
theorem pow_ok (i j : Int) (S : Sto) (h : 0 ≤ j) (h2 : j ≤ 1000000) (h3 : i.natAbs < 2 ^ 64) : vl2 powW (.da (.int i)) (.da (.int j)) S = .ok (.da (.int (i ^ j.toNat))) S := by
  unfold vl2 powW wIg
  simp only [ifc_pos (And.intro h (And.intro h2 h3)), lift]
theorem eq_ii (i j : Int) (S : Sto) : vl2 eqW (.da (.int i)) (.da (.int j)) S = .ok (.da (.bl (dec (i = j)))) S := rfl
theorem eq_ss (i j : Str) (S : Sto) : vl2 eqW (.da (.str i)) (.da (.str j)) S = .ok (.da (.bl (dec (i = j)))) S := rfl
theorem eq_bb (i j : Bool) (S : Sto) : vl2 eqW (.da (.bl i)) (.da (.bl j)) S = .ok (.da (.bl (dec (i = j)))) S := rfl
theorem ne_ii (i j : Int) (S : Sto) : vl2 neW (.da (.int i)) (.da (.int j)) S = .ok (.da (.bl (!dec (i = j)))) S := rfl
theorem ne_ss (i j : Str) (S : Sto) : vl2 neW (.da (.str i)) (.da (.str j)) S = .ok (.da (.bl (!dec (i = j)))) S := rfl
theorem ne_bb (i j : Bool) (S : Sto) : vl2 neW (.da (.bl i)) (.da (.bl j)) S = .ok (.da (.bl (!dec (i = j)))) S := rfl
theorem is_non (x : W) (S : Sto) : vl2 isNW x (.da .non) S = lift ((isN x).map fun b => .da (.bl b)) S := rfl
theorem isnot_non (x : W) (S : Sto) : vl2 notNW x (.da .non) S = lift ((isN x).map fun b => .da (.bl (!b))) S := rfl
theorem min_ii (i j : Int) (S : Sto) : vlN min2W [.da (.int i), .da (.int j)] S = .ok (.da (.int (if j < i then j else i))) S := rfl
theorem max_ii (i j : Int) (S : Sto) : vlN max2W [.da (.int i), .da (.int j)] S = .ok (.da (.int (if j > i then j else i))) S := rfl
theorem int_i (i : Int) (S : Sto) : vlN intW [.da (.int i)] S = .ok (.da (.int i)) S := rfl
theorem int_b (b : Bool) (S : Sto) : vlN intW [.da (.bl b)] S = .ok (.da (.int (if b then 1 else 0))) S := rfl
theorem len_c (n : Nat) (S : Sto) : vlN lenW [.lo n] S = lift (lenW [.lo n] S) S := rfl
theorem rng1_ok (j : Int) (h : 0 ≤ j) (h2 : j ≤ 1000000) : rng1 [.da (.int j)] = some (0, j.toNat) := by
  exact ifc_pos ⟨by omega, by omega⟩
theorem rng2_ok (i j : Int) (h1 : -1000000 ≤ i) (h2 : i ≤ 1000000) (h3 : -1000000 ≤ j) (h4 : j ≤ 1000000) : rng2 [.da (.int i), .da (.int j)] = some (i, (j - i).toNat) := by
  exact ifc_pos ⟨by omega, by omega, by omega, by omega⟩
theorem ix_ok {x : W} {ws : List W} {S : Sto} (k : Int) (h : seqW S x = some ws) : vl2 ixW x (.da (.int k)) S = lift (atI ws k) S := by
  unfold vl2 ixW
  simp only [h]
theorem ix_tup_ (ds : List D) (k : Int) (S : Sto) : vl2 ixW (.da (.tup ds)) (.da (.int k)) S = lift (atI (ds.map W.da) k) S := ix_ok k rfl
theorem ix_wt_ (ds : List D) (k : Int) (S : Sto) : vl2 ixW (.da (.wt ds)) (.da (.int k)) S = lift (atI (ds.map W.da) k) S := ix_ok k rfl
theorem ix_lst_ (ds : List D) (k : Int) (S : Sto) : vl2 ixW (.da (.lst ds)) (.da (.int k)) S = lift (atI (ds.map W.da) k) S := ix_ok k rfl
theorem ix_scr_ (ds : List D) (k : Int) (S : Sto) : vl2 ixW (.da (.scr ds)) (.da (.int k)) S = lift (atI (ds.map W.da) k) S := ix_ok k rfl
theorem len_tup (ds : List D) (S : Sto) : vlN lenW [.da (.tup ds)] S = .ok (.da (.int ds.length)) S := by simp [vlN, lenW, seqW, lift]
theorem len_wt (ds : List D) (S : Sto) : vlN lenW [.da (.wt ds)] S = .ok (.da (.int ds.length)) S := by simp [vlN, lenW, seqW, lift]
theorem len_lst (ds : List D) (S : Sto) : vlN lenW [.da (.lst ds)] S = .ok (.da (.int ds.length)) S := by simp [vlN, lenW, seqW, lift]
theorem len_scr (ds : List D) (S : Sto) : vlN lenW [.da (.scr ds)] S = .ok (.da (.int ds.length)) S := by simp [vlN, lenW, seqW, lift]
theorem len_cell (n : Nat) (ws : List W) (S : Sto) (h : S[n]? = some (.lst ws)) : vlN lenW [.lo n] S = .ok (.da (.int ws.length)) S := by simp [vlN, lenW, seqW, lift, h]
theorem sz_lt {n : Nat} (h : n < 100000) : n < sizeLine := Nat.lt_of_lt_of_le h (by decide)
theorem sz_le {n : Nat} (h : n ≤ 100000) : n ≤ sizeLine := Nat.le_trans h (by decide)
theorem atI_lit {a : Type} (xs : List a) (k : Nat) : atI xs (k : Int) = xs[k]? := by
  unfold atI ixN
  rw [if_pos (Int.natCast_nonneg k)]
  by_cases h : k < xs.length
  · rw [if_pos (by omega)]; simp
  · rw [if_neg (by omega)]; simp; omega
theorem atI_get {a : Type} (xs : List a) (i : Int) (h : 0 ≤ i) (h2 : i < xs.length) : atI xs i = some (xs[i.toNat]'(by omega)) := by
  unfold atI ixN
  rw [if_pos h, if_pos h2]
  simp only [Option.bind_some, Option.bind]
  exact List.getElem?_eq_getElem _

theorem nc_0 : ((0 : Nat) : Int) = 0 := rfl
theorem nc_1 : ((1 : Nat) : Int) = 1 := rfl
theorem nc_2 : ((2 : Nat) : Int) = 2 := rfl
theorem nc_3 : ((3 : Nat) : Int) = 3 := rfl
theorem nc_4 : ((4 : Nat) : Int) = 4 := rfl
theorem nc_5 : ((5 : Nat) : Int) = 5 := rfl
theorem nc_6 : ((6 : Nat) : Int) = 6 := rfl
theorem nc_7 : ((7 : Nat) : Int) = 7 := rfl
theorem nc_8 : ((8 : Nat) : Int) = 8 := rfl
theorem nc_9 : ((9 : Nat) : Int) = 9 := rfl
theorem nc_10 : ((10 : Nat) : Int) = 10 := rfl
theorem nc_11 : ((11 : Nat) : Int) = 11 := rfl
theorem nc_12 : ((12 : Nat) : Int) = 12 := rfl
theorem nc_13 : ((13 : Nat) : Int) = 13 := rfl
theorem nc_14 : ((14 : Nat) : Int) = 14 := rfl
theorem nc_15 : ((15 : Nat) : Int) = 15 := rfl
theorem nc_16 : ((16 : Nat) : Int) = 16 := rfl
theorem nc_17 : ((17 : Nat) : Int) = 17 := rfl
theorem nc_18 : ((18 : Nat) : Int) = 18 := rfl
theorem nc_19 : ((19 : Nat) : Int) = 19 := rfl
theorem nc_20 : ((20 : Nat) : Int) = 20 := rfl
theorem nc_21 : ((21 : Nat) : Int) = 21 := rfl
theorem nc_22 : ((22 : Nat) : Int) = 22 := rfl
theorem nc_23 : ((23 : Nat) : Int) = 23 := rfl
theorem nc_24 : ((24 : Nat) : Int) = 24 := rfl
theorem nc_25 : ((25 : Nat) : Int) = 25 := rfl
theorem nc_26 : ((26 : Nat) : Int) = 26 := rfl
theorem nc_27 : ((27 : Nat) : Int) = 27 := rfl
theorem nc_28 : ((28 : Nat) : Int) = 28 := rfl
theorem nc_29 : ((29 : Nat) : Int) = 29 := rfl
theorem sz0 : 0 ≤ sizeLine := by decide
theorem sz1 : 1 ≤ sizeLine := by decide
theorem sz2 : 2 ≤ sizeLine := by decide
theorem sz3 : 3 ≤ sizeLine := by decide
theorem sz4 : 4 ≤ sizeLine := by decide
theorem sz5 : 5 ≤ sizeLine := by decide
theorem sz6 : 6 ≤ sizeLine := by decide
theorem sz7 : 7 ≤ sizeLine := by decide
theorem sz8 : 8 ≤ sizeLine := by decide
theorem sz9 : 9 ≤ sizeLine := by decide
theorem sz10 : 10 ≤ sizeLine := by decide
theorem sz11 : 11 ≤ sizeLine := by decide
theorem sz12 : 12 ≤ sizeLine := by decide
theorem sz13 : 13 ≤ sizeLine := by decide
theorem sz14 : 14 ≤ sizeLine := by decide
theorem sz15 : 15 ≤ sizeLine := by decide
theorem sz16 : 16 ≤ sizeLine := by decide
theorem sz17 : 17 ≤ sizeLine := by decide
theorem sz18 : 18 ≤ sizeLine := by decide
theorem sz19 : 19 ≤ sizeLine := by decide
theorem sz20 : 20 ≤ sizeLine := by decide
theorem sz21 : 21 ≤ sizeLine := by decide
theorem sz22 : 22 ≤ sizeLine := by decide
theorem sz23 : 23 ≤ sizeLine := by decide
theorem sz24 : 24 ≤ sizeLine := by decide
theorem sz25 : 25 ≤ sizeLine := by decide
theorem sz26 : 26 ≤ sizeLine := by decide
theorem sz27 : 27 ≤ sizeLine := by decide
theorem sz28 : 28 ≤ sizeLine := by decide
theorem sz29 : 29 ≤ sizeLine := by decide
theorem szl0 : 0 < sizeLine := by decide
theorem szl1 : 1 < sizeLine := by decide
theorem szl2 : 2 < sizeLine := by decide
theorem szl3 : 3 < sizeLine := by decide
theorem szl4 : 4 < sizeLine := by decide
theorem szl5 : 5 < sizeLine := by decide
theorem szl6 : 6 < sizeLine := by decide
theorem szl7 : 7 < sizeLine := by decide
theorem szl8 : 8 < sizeLine := by decide
theorem szl9 : 9 < sizeLine := by decide
theorem szl10 : 10 < sizeLine := by decide
theorem szl11 : 11 < sizeLine := by decide
theorem szl12 : 12 < sizeLine := by decide
theorem szl13 : 13 < sizeLine := by decide
theorem szl14 : 14 < sizeLine := by decide
theorem szl15 : 15 < sizeLine := by decide
theorem szl16 : 16 < sizeLine := by decide
theorem szl17 : 17 < sizeLine := by decide
theorem szl18 : 18 < sizeLine := by decide
theorem szl19 : 19 < sizeLine := by decide
theorem szl20 : 20 < sizeLine := by decide
theorem szl21 : 21 < sizeLine := by decide
theorem szl22 : 22 < sizeLine := by decide
theorem szl23 : 23 < sizeLine := by decide
theorem szl24 : 24 < sizeLine := by decide
theorem szl25 : 25 < sizeLine := by decide
theorem szl26 : 26 < sizeLine := by decide
theorem szl27 : 27 < sizeLine := by decide
theorem szl28 : 28 < sizeLine := by decide
theorem szl29 : 29 < sizeLine := by decide
theorem at_0 {a : Type} (x0 : a) (xs : List a) : atI (x0 :: xs) 0 = some x0 := (atI_lit (x0 :: xs) 0).trans rfl
theorem at_1 {a : Type} (x0 x1 : a) (xs : List a) : atI (x0 :: x1 :: xs) 1 = some x1 := (atI_lit (x0 :: x1 :: xs) 1).trans rfl
theorem at_2 {a : Type} (x0 x1 x2 : a) (xs : List a) : atI (x0 :: x1 :: x2 :: xs) 2 = some x2 := (atI_lit (x0 :: x1 :: x2 :: xs) 2).trans rfl
theorem at_3 {a : Type} (x0 x1 x2 x3 : a) (xs : List a) : atI (x0 :: x1 :: x2 :: x3 :: xs) 3 = some x3 := (atI_lit (x0 :: x1 :: x2 :: x3 :: xs) 3).trans rfl
theorem at_4 {a : Type} (x0 x1 x2 x3 x4 : a) (xs : List a) : atI (x0 :: x1 :: x2 :: x3 :: x4 :: xs) 4 = some x4 := (atI_lit (x0 :: x1 :: x2 :: x3 :: x4 :: xs) 4).trans rfl
theorem at_5 {a : Type} (x0 x1 x2 x3 x4 x5 : a) (xs : List a) : atI (x0 :: x1 :: x2 :: x3 :: x4 :: x5 :: xs) 5 = some x5 := (atI_lit (x0 :: x1 :: x2 :: x3 :: x4 :: x5 :: xs) 5).trans rfl
theorem at_6 {a : Type} (x0 x1 x2 x3 x4 x5 x6 : a) (xs : List a) : atI (x0 :: x1 :: x2 :: x3 :: x4 :: x5 :: x6 :: xs) 6 = some x6 := (atI_lit (x0 :: x1 :: x2 :: x3 :: x4 :: x5 :: x6 :: xs) 6).trans rfl
theorem at_7 {a : Type} (x0 x1 x2 x3 x4 x5 x6 x7 : a) (xs : List a) : atI (x0 :: x1 :: x2 :: x3 :: x4 :: x5 :: x6 :: x7 :: xs) 7 = some x7 := (atI_lit (x0 :: x1 :: x2 :: x3 :: x4 :: x5 :: x6 :: x7 :: xs) 7).trans rfl
theorem at_8 {a : Type} (x0 x1 x2 x3 x4 x5 x6 x7 x8 : a) (xs : List a) : atI (x0 :: x1 :: x2 :: x3 :: x4 :: x5 :: x6 :: x7 :: x8 :: xs) 8 = some x8 := (atI_lit (x0 :: x1 :: x2 :: x3 :: x4 :: x5 :: x6 :: x7 :: x8 :: xs) 8).trans rfl
theorem at_9 {a : Type} (x0 x1 x2 x3 x4 x5 x6 x7 x8 x9 : a) (xs : List a) : atI (x0 :: x1 :: x2 :: x3 :: x4 :: x5 :: x6 :: x7 :: x8 :: x9 :: xs) 9 = some x9 := (atI_lit (x0 :: x1 :: x2 :: x3 :: x4 :: x5 :: x6 :: x7 :: x8 :: x9 :: xs) 9).trans rfl
theorem at_10 {a : Type} (x0 x1 x2 x3 x4 x5 x6 x7 x8 x9 x10 : a) (xs : List a) : atI (x0 :: x1 :: x2 :: x3 :: x4 :: x5 :: x6 :: x7 :: x8 :: x9 :: x10 :: xs) 10 = some x10 := (atI_lit (x0 :: x1 :: x2 :: x3 :: x4 :: x5 :: x6 :: x7 :: x8 :: x9 :: x10 :: xs) 10).trans rfl
theorem at_11 {a : Type} (x0 x1 x2 x3 x4 x5 x6 x7 x8 x9 x10 x11 : a) (xs : List a) : atI (x0 :: x1 :: x2 :: x3 :: x4 :: x5 :: x6 :: x7 :: x8 :: x9 :: x10 :: x11 :: xs) 11 = some x11 := (atI_lit (x0 :: x1 :: x2 :: x3 :: x4 :: x5 :: x6 :: x7 :: x8 :: x9 :: x10 :: x11 :: xs) 11).trans rfl
theorem at_12 {a : Type} (x0 x1 x2 x3 x4 x5 x6 x7 x8 x9 x10 x11 x12 : a) (xs : List a) : atI (x0 :: x1 :: x2 :: x3 :: x4 :: x5 :: x6 :: x7 :: x8 :: x9 :: x10 :: x11 :: x12 :: xs) 12 = some x12 := (atI_lit (x0 :: x1 :: x2 :: x3 :: x4 :: x5 :: x6 :: x7 :: x8 :: x9 :: x10 :: x11 :: x12 :: xs) 12).trans rfl
theorem at_13 {a : Type} (x0 x1 x2 x3 x4 x5 x6 x7 x8 x9 x10 x11 x12 x13 : a) (xs : List a) : atI (x0 :: x1 :: x2 :: x3 :: x4 :: x5 :: x6 :: x7 :: x8 :: x9 :: x10 :: x11 :: x12 :: x13 :: xs) 13 = some x13 := (atI_lit (x0 :: x1 :: x2 :: x3 :: x4 :: x5 :: x6 :: x7 :: x8 :: x9 :: x10 :: x11 :: x12 :: x13 :: xs) 13).trans rfl
theorem at_14 {a : Type} (x0 x1 x2 x3 x4 x5 x6 x7 x8 x9 x10 x11 x12 x13 x14 : a) (xs : List a) : atI (x0 :: x1 :: x2 :: x3 :: x4 :: x5 :: x6 :: x7 :: x8 :: x9 :: x10 :: x11 :: x12 :: x13 :: x14 :: xs) 14 = some x14 := (atI_lit (x0 :: x1 :: x2 :: x3 :: x4 :: x5 :: x6 :: x7 :: x8 :: x9 :: x10 :: x11 :: x12 :: x13 :: x14 :: xs) 14).trans rfl
theorem at_15 {a : Type} (x0 x1 x2 x3 x4 x5 x6 x7 x8 x9 x10 x11 x12 x13 x14 x15 : a) (xs : List a) : atI (x0 :: x1 :: x2 :: x3 :: x4 :: x5 :: x6 :: x7 :: x8 :: x9 :: x10 :: x11 :: x12 :: x13 :: x14 :: x15 :: xs) 15 = some x15 := (atI_lit (x0 :: x1 :: x2 :: x3 :: x4 :: x5 :: x6 :: x7 :: x8 :: x9 :: x10 :: x11 :: x12 :: x13 :: x14 :: x15 :: xs) 15).trans rfl
theorem at_16 {a : Type} (x0 x1 x2 x3 x4 x5 x6 x7 x8 x9 x10 x11 x12 x13 x14 x15 x16 : a) (xs : List a) : atI (x0 :: x1 :: x2 :: x3 :: x4 :: x5 :: x6 :: x7 :: x8 :: x9 :: x10 :: x11 :: x12 :: x13 :: x14 :: x15 :: x16 :: xs) 16 = some x16 := (atI_lit (x0 :: x1 :: x2 :: x3 :: x4 :: x5 :: x6 :: x7 :: x8 :: x9 :: x10 :: x11 :: x12 :: x13 :: x14 :: x15 :: x16 :: xs) 16).trans rfl
theorem at_17 {a : Type} (x0 x1 x2 x3 x4 x5 x6 x7 x8 x9 x10 x11 x12 x13 x14 x15 x16 x17 : a) (xs : List a) : atI (x0 :: x1 :: x2 :: x3 :: x4 :: x5 :: x6 :: x7 :: x8 :: x9 :: x10 :: x11 :: x12 :: x13 :: x14 :: x15 :: x16 :: x17 :: xs) 17 = some x17 := (atI_lit (x0 :: x1 :: x2 :: x3 :: x4 :: x5 :: x6 :: x7 :: x8 :: x9 :: x10 :: x11 :: x12 :: x13 :: x14 :: x15 :: x16 :: x17 :: xs) 17).trans rfl
theorem at_18 {a : Type} (x0 x1 x2 x3 x4 x5 x6 x7 x8 x9 x10 x11 x12 x13 x14 x15 x16 x17 x18 : a) (xs : List a) : atI (x0 :: x1 :: x2 :: x3 :: x4 :: x5 :: x6 :: x7 :: x8 :: x9 :: x10 :: x11 :: x12 :: x13 :: x14 :: x15 :: x16 :: x17 :: x18 :: xs) 18 = some x18 := (atI_lit (x0 :: x1 :: x2 :: x3 :: x4 :: x5 :: x6 :: x7 :: x8 :: x9 :: x10 :: x11 :: x12 :: x13 :: x14 :: x15 :: x16 :: x17 :: x18 :: xs) 18).trans rfl
theorem at_19 {a : Type} (x0 x1 x2 x3 x4 x5 x6 x7 x8 x9 x10 x11 x12 x13 x14 x15 x16 x17 x18 x19 : a) (xs : List a) : atI (x0 :: x1 :: x2 :: x3 :: x4 :: x5 :: x6 :: x7 :: x8 :: x9 :: x10 :: x11 :: x12 :: x13 :: x14 :: x15 :: x16 :: x17 :: x18 :: x19 :: xs) 19 = some x19 := (atI_lit (x0 :: x1 :: x2 :: x3 :: x4 :: x5 :: x6 :: x7 :: x8 :: x9 :: x10 :: x11 :: x12 :: x13 :: x14 :: x15 :: x16 :: x17 :: x18 :: x19 :: xs) 19).trans rfl
theorem at_20 {a : Type} (x0 x1 x2 x3 x4 x5 x6 x7 x8 x9 x10 x11 x12 x13 x14 x15 x16 x17 x18 x19 x20 : a) (xs : List a) : atI (x0 :: x1 :: x2 :: x3 :: x4 :: x5 :: x6 :: x7 :: x8 :: x9 :: x10 :: x11 :: x12 :: x13 :: x14 :: x15 :: x16 :: x17 :: x18 :: x19 :: x20 :: xs) 20 = some x20 := (atI_lit (x0 :: x1 :: x2 :: x3 :: x4 :: x5 :: x6 :: x7 :: x8 :: x9 :: x10 :: x11 :: x12 :: x13 :: x14 :: x15 :: x16 :: x17 :: x18 :: x19 :: x20 :: xs) 20).trans rfl
theorem at_21 {a : Type} (x0 x1 x2 x3 x4 x5 x6 x7 x8 x9 x10 x11 x12 x13 x14 x15 x16 x17 x18 x19 x20 x21 : a) (xs : List a) : atI (x0 :: x1 :: x2 :: x3 :: x4 :: x5 :: x6 :: x7 :: x8 :: x9 :: x10 :: x11 :: x12 :: x13 :: x14 :: x15 :: x16 :: x17 :: x18 :: x19 :: x20 :: x21 :: xs) 21 = some x21 := (atI_lit (x0 :: x1 :: x2 :: x3 :: x4 :: x5 :: x6 :: x7 :: x8 :: x9 :: x10 :: x11 :: x12 :: x13 :: x14 :: x15 :: x16 :: x17 :: x18 :: x19 :: x20 :: x21 :: xs) 21).trans rfl
theorem at_22 {a : Type} (x0 x1 x2 x3 x4 x5 x6 x7 x8 x9 x10 x11 x12 x13 x14 x15 x16 x17 x18 x19 x20 x21 x22 : a) (xs : List a) : atI (x0 :: x1 :: x2 :: x3 :: x4 :: x5 :: x6 :: x7 :: x8 :: x9 :: x10 :: x11 :: x12 :: x13 :: x14 :: x15 :: x16 :: x17 :: x18 :: x19 :: x20 :: x21 :: x22 :: xs) 22 = some x22 := (atI_lit (x0 :: x1 :: x2 :: x3 :: x4 :: x5 :: x6 :: x7 :: x8 :: x9 :: x10 :: x11 :: x12 :: x13 :: x14 :: x15 :: x16 :: x17 :: x18 :: x19 :: x20 :: x21 :: x22 :: xs) 22).trans rfl
theorem at_23 {a : Type} (x0 x1 x2 x3 x4 x5 x6 x7 x8 x9 x10 x11 x12 x13 x14 x15 x16 x17 x18 x19 x20 x21 x22 x23 : a) (xs : List a) : atI (x0 :: x1 :: x2 :: x3 :: x4 :: x5 :: x6 :: x7 :: x8 :: x9 :: x10 :: x11 :: x12 :: x13 :: x14 :: x15 :: x16 :: x17 :: x18 :: x19 :: x20 :: x21 :: x22 :: x23 :: xs) 23 = some x23 := (atI_lit (x0 :: x1 :: x2 :: x3 :: x4 :: x5 :: x6 :: x7 :: x8 :: x9 :: x10 :: x11 :: x12 :: x13 :: x14 :: x15 :: x16 :: x17 :: x18 :: x19 :: x20 :: x21 :: x22 :: x23 :: xs) 23).trans rfl
theorem at_24 {a : Type} (x0 x1 x2 x3 x4 x5 x6 x7 x8 x9 x10 x11 x12 x13 x14 x15 x16 x17 x18 x19 x20 x21 x22 x23 x24 : a) (xs : List a) : atI (x0 :: x1 :: x2 :: x3 :: x4 :: x5 :: x6 :: x7 :: x8 :: x9 :: x10 :: x11 :: x12 :: x13 :: x14 :: x15 :: x16 :: x17 :: x18 :: x19 :: x20 :: x21 :: x22 :: x23 :: x24 :: xs) 24 = some x24 := (atI_lit (x0 :: x1 :: x2 :: x3 :: x4 :: x5 :: x6 :: x7 :: x8 :: x9 :: x10 :: x11 :: x12 :: x13 :: x14 :: x15 :: x16 :: x17 :: x18 :: x19 :: x20 :: x21 :: x22 :: x23 :: x24 :: xs) 24).trans rfl
theorem at_25 {a : Type} (x0 x1 x2 x3 x4 x5 x6 x7 x8 x9 x10 x11 x12 x13 x14 x15 x16 x17 x18 x19 x20 x21 x22 x23 x24 x25 : a) (xs : List a) : atI (x0 :: x1 :: x2 :: x3 :: x4 :: x5 :: x6 :: x7 :: x8 :: x9 :: x10 :: x11 :: x12 :: x13 :: x14 :: x15 :: x16 :: x17 :: x18 :: x19 :: x20 :: x21 :: x22 :: x23 :: x24 :: x25 :: xs) 25 = some x25 := (atI_lit (x0 :: x1 :: x2 :: x3 :: x4 :: x5 :: x6 :: x7 :: x8 :: x9 :: x10 :: x11 :: x12 :: x13 :: x14 :: x15 :: x16 :: x17 :: x18 :: x19 :: x20 :: x21 :: x22 :: x23 :: x24 :: x25 :: xs) 25).trans rfl
theorem at_26 {a : Type} (x0 x1 x2 x3 x4 x5 x6 x7 x8 x9 x10 x11 x12 x13 x14 x15 x16 x17 x18 x19 x20 x21 x22 x23 x24 x25 x26 : a) (xs : List a) : atI (x0 :: x1 :: x2 :: x3 :: x4 :: x5 :: x6 :: x7 :: x8 :: x9 :: x10 :: x11 :: x12 :: x13 :: x14 :: x15 :: x16 :: x17 :: x18 :: x19 :: x20 :: x21 :: x22 :: x23 :: x24 :: x25 :: x26 :: xs) 26 = some x26 := (atI_lit (x0 :: x1 :: x2 :: x3 :: x4 :: x5 :: x6 :: x7 :: x8 :: x9 :: x10 :: x11 :: x12 :: x13 :: x14 :: x15 :: x16 :: x17 :: x18 :: x19 :: x20 :: x21 :: x22 :: x23 :: x24 :: x25 :: x26 :: xs) 26).trans rfl
theorem at_27 {a : Type} (x0 x1 x2 x3 x4 x5 x6 x7 x8 x9 x10 x11 x12 x13 x14 x15 x16 x17 x18 x19 x20 x21 x22 x23 x24 x25 x26 x27 : a) (xs : List a) : atI (x0 :: x1 :: x2 :: x3 :: x4 :: x5 :: x6 :: x7 :: x8 :: x9 :: x10 :: x11 :: x12 :: x13 :: x14 :: x15 :: x16 :: x17 :: x18 :: x19 :: x20 :: x21 :: x22 :: x23 :: x24 :: x25 :: x26 :: x27 :: xs) 27 = some x27 := (atI_lit (x0 :: x1 :: x2 :: x3 :: x4 :: x5 :: x6 :: x7 :: x8 :: x9 :: x10 :: x11 :: x12 :: x13 :: x14 :: x15 :: x16 :: x17 :: x18 :: x19 :: x20 :: x21 :: x22 :: x23 :: x24 :: x25 :: x26 :: x27 :: xs) 27).trans rfl
theorem at_28 {a : Type} (x0 x1 x2 x3 x4 x5 x6 x7 x8 x9 x10 x11 x12 x13 x14 x15 x16 x17 x18 x19 x20 x21 x22 x23 x24 x25 x26 x27 x28 : a) (xs : List a) : atI (x0 :: x1 :: x2 :: x3 :: x4 :: x5 :: x6 :: x7 :: x8 :: x9 :: x10 :: x11 :: x12 :: x13 :: x14 :: x15 :: x16 :: x17 :: x18 :: x19 :: x20 :: x21 :: x22 :: x23 :: x24 :: x25 :: x26 :: x27 :: x28 :: xs) 28 = some x28 := (atI_lit (x0 :: x1 :: x2 :: x3 :: x4 :: x5 :: x6 :: x7 :: x8 :: x9 :: x10 :: x11 :: x12 :: x13 :: x14 :: x15 :: x16 :: x17 :: x18 :: x19 :: x20 :: x21 :: x22 :: x23 :: x24 :: x25 :: x26 :: x27 :: x28 :: xs) 28).trans rfl
theorem at_29 {a : Type} (x0 x1 x2 x3 x4 x5 x6 x7 x8 x9 x10 x11 x12 x13 x14 x15 x16 x17 x18 x19 x20 x21 x22 x23 x24 x25 x26 x27 x28 x29 : a) (xs : List a) : atI (x0 :: x1 :: x2 :: x3 :: x4 :: x5 :: x6 :: x7 :: x8 :: x9 :: x10 :: x11 :: x12 :: x13 :: x14 :: x15 :: x16 :: x17 :: x18 :: x19 :: x20 :: x21 :: x22 :: x23 :: x24 :: x25 :: x26 :: x27 :: x28 :: x29 :: xs) 29 = some x29 := (atI_lit (x0 :: x1 :: x2 :: x3 :: x4 :: x5 :: x6 :: x7 :: x8 :: x9 :: x10 :: x11 :: x12 :: x13 :: x14 :: x15 :: x16 :: x17 :: x18 :: x19 :: x20 :: x21 :: x22 :: x23 :: x24 :: x25 :: x26 :: x27 :: x28 :: x29 :: xs) 29).trans rfl
theorem kb_t_t : kitB "tuple" "tuple" = some true := by decide +kernel
theorem kb_t_l : kitB "tuple" "list" = some false := by decide +kernel
theorem kb_t_i : kitB "tuple" "int" = some false := by decide +kernel
theorem kb_t_b : kitB "tuple" "bool" = some false := by decide +kernel
theorem kb_t_s : kitB "tuple" "str" = some false := by decide +kernel
theorem kb_t_d : kitB "tuple" "dict" = some false := by decide +kernel
theorem kb_l_t : kitB "list" "tuple" = some false := by decide +kernel
theorem kb_l_l : kitB "list" "list" = some true := by decide +kernel
theorem kb_l_i : kitB "list" "int" = some false := by decide +kernel
theorem kb_l_b : kitB "list" "bool" = some false := by decide +kernel
theorem kb_l_s : kitB "list" "str" = some false := by decide +kernel
theorem kb_l_d : kitB "list" "dict" = some false := by decide +kernel
theorem kb_i_t : kitB "int" "tuple" = some false := by decide +kernel
theorem kb_i_l : kitB "int" "list" = some false := by decide +kernel
theorem kb_i_i : kitB "int" "int" = some true := by decide +kernel
theorem kb_i_b : kitB "int" "bool" = some false := by decide +kernel
theorem kb_i_s : kitB "int" "str" = some false := by decide +kernel
theorem kb_i_d : kitB "int" "dict" = some false := by decide +kernel
theorem kb_b_t : kitB "bool" "tuple" = some false := by decide +kernel
theorem kb_b_l : kitB "bool" "list" = some false := by decide +kernel
theorem kb_b_i : kitB "bool" "int" = some true := by decide +kernel
theorem kb_b_b : kitB "bool" "bool" = some true := by decide +kernel
theorem kb_b_s : kitB "bool" "str" = some false := by decide +kernel
theorem kb_b_d : kitB "bool" "dict" = some false := by decide +kernel
theorem kb_s_t : kitB "str" "tuple" = some false := by decide +kernel
theorem kb_s_l : kitB "str" "list" = some false := by decide +kernel
theorem kb_s_i : kitB "str" "int" = some false := by decide +kernel
theorem kb_s_b : kitB "str" "bool" = some false := by decide +kernel
theorem kb_s_s : kitB "str" "str" = some true := by decide +kernel
theorem kb_s_d : kitB "str" "dict" = some false := by decide +kernel
theorem kb_n_t : kitB "NoneType" "tuple" = some false := by decide +kernel
theorem kb_n_l : kitB "NoneType" "list" = some false := by decide +kernel
theorem kb_n_i : kitB "NoneType" "int" = some false := by decide +kernel
theorem kb_n_b : kitB "NoneType" "bool" = some false := by decide +kernel
theorem kb_n_s : kitB "NoneType" "str" = some false := by decide +kernel
theorem kb_n_d : kitB "NoneType" "dict" = some false := by decide +kernel
theorem kb_d_t : kitB "dict" "tuple" = some false := by decide +kernel
theorem kb_d_l : kitB "dict" "list" = some false := by decide +kernel
theorem kb_d_i : kitB "dict" "int" = some false := by decide +kernel
theorem kb_d_b : kitB "dict" "bool" = some false := by decide +kernel
theorem kb_d_s : kitB "dict" "str" = some false := by decide +kernel
theorem kb_d_d : kitB "dict" "dict" = some true := by decide +kernel
theorem mSeq_nx {a b : MS} {r r' : Rho} {s s' : Sto} (h : a r s = .nx r' s') : mSeq a b r s = b r' s' := by
  unfold mSeq
  rw [h]
  rfl
theorem mSeq_rt {a b : MS} {r : Rho} {s s' : Sto} {w : W} (h : a r s = .rt w s') : mSeq a b r s = .rt w s' := by
  unfold mSeq
  rw [h]
  rfl
theorem mSeq_ex {a b : MS} {r r' : Rho} {s s' : Sto} {x : Exn} (h : a r s = .ex x r' s') : mSeq a b r s = .ex x r' s' := by
  unfold mSeq
  rw [h]
  rfl
theorem mIf_t {t : MT} {a b : MS} {r : Rho} {s s' : Sto} (h : t r s = .ok true s') : mIf t a b r s = a r s' := by
  unfold mIf
  rw [h]
  rfl
theorem mIf_f {t : MT} {a b : MS} {r : Rho} {s s' : Sto} (h : t r s = .ok false s') : mIf t a b r s = b r s' := by
  unfold mIf
  rw [h]
  rfl
/-- a pure def, by its run -/
theorem runP_ok {n np : Nat} {m : MS} {ds : List D} {d : D} {S : Sto} (hl : ds.length = np) (h : m (startR n (ds.map .da)) [] = .rt (.da d) S) : runP n np m ds = .ok d := by
  unfold runP pureOf runS
  rw [if_pos (by rw [List.length_map]; exact hl), h]
  simp only [endS, trimS, List.length_nil, List.take_zero, ifc_true, eq_self]
theorem runP_ex {n np : Nat} {m : MS} {ds : List D} {x : Exn} {r : Rho} {S : Sto} (hl : ds.length = np) (h : m (startR n (ds.map .da)) [] = .ex x r S) (hx : x.ws.all isDa = true) : runP n np m ds = .ex x := by
  unfold runP pureOf runS
  rw [if_pos (by rw [List.length_map]; exact hl), h]
  simp only [endS, trimX, List.length_nil, List.take_zero, hx, and_self, ifc_true, eq_self]
theorem da_da (f : List D) : (W.da ∘ D.int) = iW := rfl

theorem ee_endS_1 : type_of% @endS.eq_1 := @endS.eq_1
theorem ee_endS_2 : type_of% @endS.eq_2 := @endS.eq_2
theorem ee_endS_3 : type_of% @endS.eq_3 := @endS.eq_3
theorem ee_seqK_1 : type_of% @seqK.eq_1 := @seqK.eq_1
theorem ee_seqK_2 : type_of% @seqK.eq_2 := @seqK.eq_2
theorem ee_seqK_3 : type_of% @seqK.eq_3 := @seqK.eq_3
theorem ee_seqK_4 : type_of% @seqK.eq_4 := @seqK.eq_4
theorem ee_seqK_5 : type_of% @seqK.eq_5 := @seqK.eq_5
theorem ee_seqK_6 : type_of% @seqK.eq_6 := @seqK.eq_6
theorem ee_reN_1 : type_of% @reN.eq_1 := @reN.eq_1
theorem ee_reN_2 : type_of% @reN.eq_2 := @reN.eq_2
theorem ee_reN_3 : type_of% @reN.eq_3 := @reN.eq_3
theorem ee_noL_1 : type_of% @noL.eq_1 := @noL.eq_1
theorem ee_noL_2 : type_of% @noL.eq_2 := @noL.eq_2
theorem ee_noL_3 : type_of% @noL.eq_3 := @noL.eq_3
theorem ee_noL_4 : type_of% @noL.eq_4 := @noL.eq_4
theorem ee_noL_5 : type_of% @noL.eq_5 := @noL.eq_5
theorem ee_noL_6 : type_of% @noL.eq_6 := @noL.eq_6
theorem ee_noL_9 : type_of% @noL.eq_9 := @noL.eq_9
theorem ee_noL_10 : type_of% @noL.eq_10 := @noL.eq_10
theorem ee_noL_11 : type_of% @noL.eq_11 := @noL.eq_11
theorem ee_noLs_1 : type_of% @noLs.eq_1 := @noLs.eq_1
theorem ee_noLs_2 : type_of% @noLs.eq_2 := @noLs.eq_2
theorem ee_noLW_1 : type_of% @noLW.eq_1 := @noLW.eq_1
theorem ee_insW_1 : type_of% @insW.eq_1 := @insW.eq_1
theorem ee_insW_2 : type_of% @insW.eq_2 := @insW.eq_2
theorem ee_look_1 : type_of% @look.eq_1 := @look.eq_1
theorem ee_look_2 : type_of% @look.eq_2 := @look.eq_2
theorem ee_putFW_1 : type_of% @putFW.eq_1 := @putFW.eq_1
theorem ee_putFW_2 : type_of% @putFW.eq_2 := @putFW.eq_2
theorem ee_pairsD_1 : type_of% @pairsD.eq_1 := @pairsD.eq_1
theorem ee_pairsD_2 : type_of% @pairsD.eq_2 := @pairsD.eq_2
theorem ee_reK_1 : type_of% @reK.eq_1 := @reK.eq_1
theorem ee_reK_2 : type_of% @reK.eq_2 := @reK.eq_2
theorem ee_reK_3 : type_of% @reK.eq_3 := @reK.eq_3
theorem ee_reF_1 : type_of% @reF.eq_1 := @reF.eq_1
theorem ee_reF_2 : type_of% @reF.eq_2 := @reF.eq_2
theorem ee_reF_3 : type_of% @reF.eq_3 := @reF.eq_3
theorem ee_valsW_1 : type_of% @valsW.eq_1 := @valsW.eq_1
theorem ee_valsW_2 : type_of% @valsW.eq_2 := @valsW.eq_2
theorem ee_valW_1 : type_of% @valW.eq_1 := @valW.eq_1
theorem ee_valW_2 : type_of% @valW.eq_2 := @valW.eq_2
theorem ee_flatD_1 : type_of% @flatD.eq_1 := @flatD.eq_1
theorem ee_flatD_2 : type_of% @flatD.eq_2 := @flatD.eq_2
theorem ee_flatD_3 : type_of% @flatD.eq_3 := @flatD.eq_3
theorem ee_flatD_4 : type_of% @flatD.eq_4 := @flatD.eq_4
theorem ee_liftB_1 : type_of% @liftB.eq_1 := @liftB.eq_1
theorem ee_boolOf_1 : type_of% @boolOf.eq_1 := @boolOf.eq_1
theorem ee_Rs_bind_1 : type_of% @Rs.bind.eq_1 := @Rs.bind.eq_1
theorem ee_Rs_bind_2 : type_of% @Rs.bind.eq_2 := @Rs.bind.eq_2
theorem ee_Rs_bind_3 : type_of% @Rs.bind.eq_3 := @Rs.bind.eq_3
theorem ee_Rs_out_1 : type_of% @Rs.out.eq_1 := @Rs.out.eq_1
theorem ee_Rs_out_2 : type_of% @Rs.out.eq_2 := @Rs.out.eq_2
theorem ee_Rs_out_3 : type_of% @Rs.out.eq_3 := @Rs.out.eq_3
theorem ee_tupW_1 : type_of% @tupW.eq_1 := @tupW.eq_1
theorem ee_tupW_2 : type_of% @tupW.eq_2 := @tupW.eq_2
theorem ee_tupW_3 : type_of% @tupW.eq_3 := @tupW.eq_3
theorem ee_lstW_1 : type_of% @lstW.eq_1 := @lstW.eq_1
theorem ee_lstW_2 : type_of% @lstW.eq_2 := @lstW.eq_2
theorem ee_itemsD_1 : type_of% @itemsD.eq_1 := @itemsD.eq_1
theorem ee_itemsD_2 : type_of% @itemsD.eq_2 := @itemsD.eq_2
theorem ee_itemsD_3 : type_of% @itemsD.eq_3 := @itemsD.eq_3
theorem ee_itemsD_4 : type_of% @itemsD.eq_4 := @itemsD.eq_4
theorem ee_itemsD_5 : type_of% @itemsD.eq_5 := @itemsD.eq_5
theorem ee_itemsD_6 : type_of% @itemsD.eq_6 := @itemsD.eq_6
theorem ee_lift_1 : type_of% @lift.eq_1 := @lift.eq_1
theorem ee_lift_2 : type_of% @lift.eq_2 := @lift.eq_2
theorem ee_mkD_1 : type_of% @mkD.eq_1 := @mkD.eq_1
theorem ee_mkD_2 : type_of% @mkD.eq_2 := @mkD.eq_2
theorem ee_mkC_1 : type_of% @mkC.eq_1 := @mkC.eq_1
theorem ee_mkC_2 : type_of% @mkC.eq_2 := @mkC.eq_2
theorem ee_datC_1 : type_of% @datC.eq_1 := @datC.eq_1
theorem ee_datC_2 : type_of% @datC.eq_2 := @datC.eq_2
theorem ee_datC_3 : type_of% @datC.eq_3 := @datC.eq_3
theorem ee_datL_1 : type_of% @datL.eq_1 := @datL.eq_1
theorem ee_datL_2 : type_of% @datL.eq_2 := @datL.eq_2
theorem ee_mkL_1 : type_of% @mkL.eq_1 := @mkL.eq_1
theorem ee_mkL_2 : type_of% @mkL.eq_2 := @mkL.eq_2
theorem ee_truW_1 : type_of% @truW.eq_1 := @truW.eq_1
theorem ee_truW_2 : type_of% @truW.eq_2 := @truW.eq_2
theorem ee_truW_3 : type_of% @truW.eq_3 := @truW.eq_3
theorem ee_truW_4 : type_of% @truW.eq_4 := @truW.eq_4
theorem ee_truW_5 : type_of% @truW.eq_5 := @truW.eq_5
theorem ee_truW_6 : type_of% @truW.eq_6 := @truW.eq_6
theorem ee_truW_7 : type_of% @truW.eq_7 := @truW.eq_7
theorem ee_truW_8 : type_of% @truW.eq_8 := @truW.eq_8
theorem ee_truW_9 : type_of% @truW.eq_9 := @truW.eq_9
theorem ee_truW_10 : type_of% @truW.eq_10 := @truW.eq_10
theorem ee_truW_11 : type_of% @truW.eq_11 := @truW.eq_11
theorem ee_tyW_1 : type_of% @tyW.eq_1 := @tyW.eq_1
theorem ee_tyW_2 : type_of% @tyW.eq_2 := @tyW.eq_2
theorem ee_tyW_3 : type_of% @tyW.eq_3 := @tyW.eq_3
theorem ee_tyD_1 : type_of% @tyD.eq_1 := @tyD.eq_1
theorem ee_tyD_2 : type_of% @tyD.eq_2 := @tyD.eq_2
theorem ee_tyD_3 : type_of% @tyD.eq_3 := @tyD.eq_3
theorem ee_tyD_4 : type_of% @tyD.eq_4 := @tyD.eq_4
theorem ee_tyD_5 : type_of% @tyD.eq_5 := @tyD.eq_5
theorem ee_tyD_6 : type_of% @tyD.eq_6 := @tyD.eq_6
theorem ee_tyD_7 : type_of% @tyD.eq_7 := @tyD.eq_7
theorem ee_tyD_8 : type_of% @tyD.eq_8 := @tyD.eq_8
theorem ee_tyD_9 : type_of% @tyD.eq_9 := @tyD.eq_9
theorem ee_tyD_10 : type_of% @tyD.eq_10 := @tyD.eq_10
theorem ee_tyD_11 : type_of% @tyD.eq_11 := @tyD.eq_11
theorem ee_isN_1 : type_of% @isN.eq_1 := @isN.eq_1
theorem ee_isN_2 : type_of% @isN.eq_2 := @isN.eq_2
theorem ee_isN_3 : type_of% @isN.eq_3 := @isN.eq_3
theorem ee_isN_4 : type_of% @isN.eq_4 := @isN.eq_4
theorem ee_dkW_1 : type_of% @dkW.eq_1 := @dkW.eq_1
theorem ee_dkW_2 : type_of% @dkW.eq_2 := @dkW.eq_2
theorem ee_datW_1 : type_of% @datW.eq_1 := @datW.eq_1
theorem ee_datW_4 : type_of% @datW.eq_4 := @datW.eq_4
theorem ee_datWs_1 : type_of% @datWs.eq_1 := @datWs.eq_1
theorem ee_datWs_2 : type_of% @datWs.eq_2 := @datWs.eq_2
theorem ee_tyM_1 : type_of% @tyM.eq_1 := @tyM.eq_1
theorem ee_tyM_2 : type_of% @tyM.eq_2 := @tyM.eq_2
theorem ee_tyM_3 : type_of% @tyM.eq_3 := @tyM.eq_3
theorem ee_hitL_1 : type_of% @hitL.eq_1 := @hitL.eq_1
theorem ee_hitL_2 : type_of% @hitL.eq_2 := @hitL.eq_2
theorem ee_outOff_1 : type_of% @outOff.eq_1 := @outOff.eq_1
theorem ee_outOff_2 : type_of% @outOff.eq_2 := @outOff.eq_2
theorem ee_outOff_3 : type_of% @outOff.eq_3 := @outOff.eq_3
theorem ee_outOff_4 : type_of% @outOff.eq_4 := @outOff.eq_4
theorem ee_seqW_1 : type_of% @seqW.eq_1 := @seqW.eq_1
theorem ee_seqW_2 : type_of% @seqW.eq_2 := @seqW.eq_2
theorem ee_seqW_3 : type_of% @seqW.eq_3 := @seqW.eq_3
theorem ee_seqW_4 : type_of% @seqW.eq_4 := @seqW.eq_4
theorem ee_seqW_5 : type_of% @seqW.eq_5 := @seqW.eq_5
local macro_rules | `(tactic| simp_arith [$args,*]) => `(tactic| all_goals try simp only [runP, pureOf, runS, startR, ee_endS_1, ee_endS_2, ee_endS_3, trimS, trimX, isDa, mSeq, ee_seqK_1, ee_seqK_2, ee_seqK_3, ee_seqK_4, ee_seqK_5, ee_seqK_6, mSet, mSkip, mAsg, mRet, mIf, mDrop, mPar, mInc, incW, mVar, mC, mOp, mUn, mCons, mNil, mCall, mCallP, callP, mCallN, callN, ee_reN_1, ee_reN_2, ee_reN_3, ee_noL_1, ee_noL_2, ee_noL_3, ee_noL_4, ee_noL_5, ee_noL_6, ee_noL_9, ee_noL_10, ee_noL_11, ee_noLs_1, ee_noLs_2, ee_noLW_1, mCallL, callL, mFld, mMeth, ee_insW_1, ee_insW_2, fldW, ee_look_1, ee_look_2, mSetF, setFW, ee_putFW_1, ee_putFW_2, mForI, mLcI, ee_pairsD_1, ee_pairsD_2, ee_reK_1, ee_reK_2, ee_reK_3, ee_reF_1, ee_reF_2, ee_reF_3, ee_valsW_1, ee_valsW_2, ee_valW_1, ee_valW_2, ee_flatD_1, ee_flatD_2, ee_flatD_3, ee_flatD_4, mTst, mTru, ee_liftB_1, mAnd, mOr, mNot, mAndV, mOrV, mNotV, mNotT, mChain, ee_boolOf_1, dats, dat, ee_Rs_bind_1, ee_Rs_bind_2, ee_Rs_bind_3, ee_Rs_out_1, ee_Rs_out_2, ee_Rs_out_3, gtName, gtTup, gtCons, gtNil, gtTupT, tup_lst, ee_tupW_1, ee_tupW_2, ee_tupW_3, ee_lstW_1, ee_lstW_2, mForR, rng1_ok, rng2_ok, mFor, ee_itemsD_1, ee_itemsD_2, ee_itemsD_3, ee_itemsD_4, ee_itemsD_5, ee_itemsD_6, add_ii, addC_ii, sub_ii, neg_i, lt_ii, le_ii, gt_ii, ge_ii, mod_ok, div_ok, mul_r, eq_ii, eq_ss, eq_bb, ne_ii, ne_ss, ne_bb, ix_tup_, ix_wt_, ix_lst_, ix_scr_, len_tup, len_wt, len_lst, len_scr, ee_lift_1, ee_lift_2, ndN, ncN, ee_mkD_1, ee_mkD_2, ee_mkC_1, ee_mkC_2, tupC, lstC, ee_datC_1, ee_datC_2, ee_datC_3, ee_datL_1, ee_datL_2, ee_mkL_1, ee_mkL_2, lkN, ee_truW_1, ee_truW_2, ee_truW_3, ee_truW_4, ee_truW_5, ee_truW_6, ee_truW_7, ee_truW_8, ee_truW_9, ee_truW_10, ee_truW_11, isiW, isiB, ee_tyW_1, ee_tyW_2, ee_tyW_3, ee_tyD_1, ee_tyD_2, ee_tyD_3, ee_tyD_4, ee_tyD_5, ee_tyD_6, ee_tyD_7, ee_tyD_8, ee_tyD_9, ee_tyD_10, ee_tyD_11, is_non, isnot_non, ee_isN_1, ee_isN_2, ee_isN_3, ee_isN_4, min_ii, max_ii, int_i, int_b, len_c, lenW, ee_dkW_1, ee_dkW_2, fzW, mFz, ee_datW_1, ee_datW_4, ee_datWs_1, ee_datWs_2, mMt, ee_tyM_1, ee_tyM_2, ee_tyM_3, chL, appL, mSetIx, setW, mRaise, mTryAs, ee_hitL_1, ee_hitL_2, ee_outOff_1, ee_outOff_2, ee_outOff_3, ee_outOff_4, mIsE, mFrz, mYes, mkLst, listC, ee_seqW_1, ee_seqW_2, ee_seqW_3, ee_seqW_4, ee_seqW_5, mLc, mLcR, wipeR, mListRg, mDisp, mpNil, mpCons, at_0, at_1, at_2, at_3, at_4, at_5, at_6, at_7, at_8, at_9, at_10, at_11, at_12, at_13, at_14, at_15, at_16, at_17, at_18, at_19, at_20, at_21, at_22, at_23, at_24, at_25, at_26, at_27, at_28, at_29, nc_0, nc_1, nc_2, nc_3, nc_4, nc_5, nc_6, nc_7, nc_8, nc_9, nc_10, nc_11, nc_12, nc_13, nc_14, nc_15, nc_16, nc_17, nc_18, nc_19, nc_20, nc_21, nc_22, nc_23, nc_24, nc_25, nc_26, nc_27, nc_28, nc_29, sz0, sz1, sz2, sz3, sz4, sz5, sz6, sz7, sz8, sz9, sz10, sz11, sz12, sz13, sz14, sz15, sz16, sz17, sz18, sz19, sz20, sz21, sz22, sz23, sz24, sz25, sz26, sz27, sz28, sz29, szl0, szl1, szl2, szl3, szl4, szl5, szl6, szl7, szl8, szl9, szl10, szl11, szl12, szl13, szl14, szl15, szl16, szl17, szl18, szl19, szl20, szl21, szl22, szl23, szl24, szl25, szl26, szl27, szl28, szl29, kb_t_t, kb_t_l, kb_t_i, kb_t_b, kb_t_s, kb_t_d, kb_l_t, kb_l_l, kb_l_i, kb_l_b, kb_l_s, kb_l_d, kb_i_t, kb_i_l, kb_i_i, kb_i_b, kb_i_s, kb_i_d, kb_b_t, kb_b_l, kb_b_i, kb_b_b, kb_b_s, kb_b_d, kb_s_t, kb_s_l, kb_s_i, kb_s_b, kb_s_s, kb_s_d, kb_n_t, kb_n_l, kb_n_i, kb_n_b, kb_n_s, kb_n_d, kb_d_t, kb_d_l, kb_d_i, kb_d_b, kb_d_s, kb_d_d,
  List.map_cons, List.map_nil, List.map_map, List.length_cons, List.length_nil, List.length_map, List.length_append, List.cons_append, List.nil_append, List.append_nil, List.replicate, List.set_cons_zero, List.set_cons_succ, List.getElem?_cons_zero, List.getElem?_cons_succ, List.getElem?_nil, List.take_zero, List.all_cons, List.all_nil, List.isEmpty_cons, List.isEmpty_nil, Option.bind_some, Option.bind, Option.map, if_true, if_false, Bool.false_eq_true, Bool.true_eq_false, ite_true, ite_false, reduceIte, Nat.reduceAdd, Nat.reduceSub, Nat.reduceEqDiff, Nat.reduceLT, Nat.reduceLeDiff, Int.reduceEq, Int.reduceLT, Int.reduceLE, Int.reduceNeg, Int.reduceAdd, Int.reduceSub, Int.reduceMul, Int.reduceDiv, Int.reduceMod, Int.reduceToNat, Int.reducePow, Nat.reducePow, Bool.not_true, Bool.not_false, Bool.and_true, Bool.and_false, Bool.true_and, Bool.false_and, Bool.or_true, Bool.or_false, Bool.true_or, Bool.false_or, ifc_true, ifc_false, dec_true, dec_false, eq_self, and_self, and_true, true_and, or_true, true_or, not_true_eq_false, not_false_eq_true, $args,*])
local macro_rules | `(tactic| simp_all_arith [$args,*]) => `(tactic| all_goals try simp only [loopM, intsW, lcM, runP, pureOf, runS, startR, ee_endS_1, ee_endS_2, ee_endS_3, trimS, trimX, isDa, mSeq, ee_seqK_1, ee_seqK_2, ee_seqK_3, ee_seqK_4, ee_seqK_5, ee_seqK_6, mSet, mSkip, mAsg, mRet, mIf, mDrop, mPar, mInc, incW, mVar, mC, mOp, mUn, mCons, mNil, mCall, mCallP, callP, mCallN, callN, ee_reN_1, ee_reN_2, ee_reN_3, ee_noL_1, ee_noL_2, ee_noL_3, ee_noL_4, ee_noL_5, ee_noL_6, ee_noL_9, ee_noL_10, ee_noL_11, ee_noLs_1, ee_noLs_2, ee_noLW_1, mCallL, callL, mFld, mMeth, ee_insW_1, ee_insW_2, fldW, ee_look_1, ee_look_2, mSetF, setFW, ee_putFW_1, ee_putFW_2, mForI, mLcI, ee_pairsD_1, ee_pairsD_2, ee_reK_1, ee_reK_2, ee_reK_3, ee_reF_1, ee_reF_2, ee_reF_3, ee_valsW_1, ee_valsW_2, ee_valW_1, ee_valW_2, ee_flatD_1, ee_flatD_2, ee_flatD_3, ee_flatD_4, mTst, mTru, ee_liftB_1, mAnd, mOr, mNot, mAndV, mOrV, mNotV, mNotT, mChain, ee_boolOf_1, dats, dat, ee_Rs_bind_1, ee_Rs_bind_2, ee_Rs_bind_3, ee_Rs_out_1, ee_Rs_out_2, ee_Rs_out_3, gtName, gtTup, gtCons, gtNil, gtTupT, tup_lst, ee_tupW_1, ee_tupW_2, ee_tupW_3, ee_lstW_1, ee_lstW_2, mForR, rng1_ok, rng2_ok, mFor, ee_itemsD_1, ee_itemsD_2, ee_itemsD_3, ee_itemsD_4, ee_itemsD_5, ee_itemsD_6, add_ii, addC_ii, sub_ii, neg_i, lt_ii, le_ii, gt_ii, ge_ii, mod_ok, div_ok, mul_r, eq_ii, eq_ss, eq_bb, ne_ii, ne_ss, ne_bb, ix_tup_, ix_wt_, ix_lst_, ix_scr_, len_tup, len_wt, len_lst, len_scr, ee_lift_1, ee_lift_2, ndN, ncN, ee_mkD_1, ee_mkD_2, ee_mkC_1, ee_mkC_2, tupC, lstC, ee_datC_1, ee_datC_2, ee_datC_3, ee_datL_1, ee_datL_2, ee_mkL_1, ee_mkL_2, lkN, ee_truW_1, ee_truW_2, ee_truW_3, ee_truW_4, ee_truW_5, ee_truW_6, ee_truW_7, ee_truW_8, ee_truW_9, ee_truW_10, ee_truW_11, isiW, isiB, ee_tyW_1, ee_tyW_2, ee_tyW_3, ee_tyD_1, ee_tyD_2, ee_tyD_3, ee_tyD_4, ee_tyD_5, ee_tyD_6, ee_tyD_7, ee_tyD_8, ee_tyD_9, ee_tyD_10, ee_tyD_11, is_non, isnot_non, ee_isN_1, ee_isN_2, ee_isN_3, ee_isN_4, min_ii, max_ii, int_i, int_b, len_c, lenW, ee_dkW_1, ee_dkW_2, fzW, mFz, ee_datW_1, ee_datW_4, ee_datWs_1, ee_datWs_2, mMt, ee_tyM_1, ee_tyM_2, ee_tyM_3, chL, appL, mSetIx, setW, mRaise, mTryAs, ee_hitL_1, ee_hitL_2, ee_outOff_1, ee_outOff_2, ee_outOff_3, ee_outOff_4, mIsE, mFrz, mYes, mkLst, listC, ee_seqW_1, ee_seqW_2, ee_seqW_3, ee_seqW_4, ee_seqW_5, mLc, mLcR, wipeR, mListRg, mDisp, mpNil, mpCons, at_0, at_1, at_2, at_3, at_4, at_5, at_6, at_7, at_8, at_9, at_10, at_11, at_12, at_13, at_14, at_15, at_16, at_17, at_18, at_19, at_20, at_21, at_22, at_23, at_24, at_25, at_26, at_27, at_28, at_29, nc_0, nc_1, nc_2, nc_3, nc_4, nc_5, nc_6, nc_7, nc_8, nc_9, nc_10, nc_11, nc_12, nc_13, nc_14, nc_15, nc_16, nc_17, nc_18, nc_19, nc_20, nc_21, nc_22, nc_23, nc_24, nc_25, nc_26, nc_27, nc_28, nc_29, sz0, sz1, sz2, sz3, sz4, sz5, sz6, sz7, sz8, sz9, sz10, sz11, sz12, sz13, sz14, sz15, sz16, sz17, sz18, sz19, sz20, sz21, sz22, sz23, sz24, sz25, sz26, sz27, sz28, sz29, szl0, szl1, szl2, szl3, szl4, szl5, szl6, szl7, szl8, szl9, szl10, szl11, szl12, szl13, szl14, szl15, szl16, szl17, szl18, szl19, szl20, szl21, szl22, szl23, szl24, szl25, szl26, szl27, szl28, szl29, kb_t_t, kb_t_l, kb_t_i, kb_t_b, kb_t_s, kb_t_d, kb_l_t, kb_l_l, kb_l_i, kb_l_b, kb_l_s, kb_l_d, kb_i_t, kb_i_l, kb_i_i, kb_i_b, kb_i_s, kb_i_d, kb_b_t, kb_b_l, kb_b_i, kb_b_b, kb_b_s, kb_b_d, kb_s_t, kb_s_l, kb_s_i, kb_s_b, kb_s_s, kb_s_d, kb_n_t, kb_n_l, kb_n_i, kb_n_b, kb_n_s, kb_n_d, kb_d_t, kb_d_l, kb_d_i, kb_d_b, kb_d_s, kb_d_d,
  List.map_cons, List.map_nil, List.map_map, List.length_cons, List.length_nil, List.length_map, List.length_append, List.cons_append, List.nil_append, List.append_nil, List.replicate, List.set_cons_zero, List.set_cons_succ, List.getElem?_cons_zero, List.getElem?_cons_succ, List.getElem?_nil, List.take_zero, List.all_cons, List.all_nil, List.isEmpty_cons, List.isEmpty_nil, Option.bind_some, Option.bind, Option.map, if_true, if_false, Bool.false_eq_true, Bool.true_eq_false, ite_true, ite_false, reduceIte, Nat.reduceAdd, Nat.reduceSub, Nat.reduceEqDiff, Nat.reduceLT, Nat.reduceLeDiff, Int.reduceEq, Int.reduceLT, Int.reduceLE, Int.reduceNeg, Int.reduceAdd, Int.reduceSub, Int.reduceMul, Int.reduceDiv, Int.reduceMod, Int.reduceToNat, Int.reducePow, Nat.reducePow, Bool.not_true, Bool.not_false, Bool.and_true, Bool.and_false, Bool.true_and, Bool.false_and, Bool.or_true, Bool.or_false, Bool.true_or, Bool.false_or, ifc_true, ifc_false, dec_true, dec_false, eq_self, and_self, and_true, true_and, or_true, true_or, not_true_eq_false, not_false_eq_true, $args,*])
/-! ### the draws: so many numbers from 0 to 1012, whatever the script is -/
abbrev rowC (row : List Int) : Cell := .lst (row.map iW)
theorem dats_ints : ∀ row : List Int, dats (row.map iW) = some (row.map .int)
  | [] => rfl
  | x :: r => by simp only [List.map_cons, dats, dats_ints r]
theorem datWs_da (k : Nat) (S : Sto) : ∀ ds : List D, datWs k S (ds.map .da) = some (ds, S)
  | [] => by unfold datWs; rfl
  | d :: ds => by
    unfold datWs
    simp only [List.map_cons]
    rw [show datW k S (.da d) = some (d, S) by unfold datW; rfl]
    simp only [datWs_da k S ds]
theorem datW_lst (k n : Nat) (S : Sto) (ds : List D) (h : S[n]? = some (.lst (ds.map .da))) : datW (k + 1) S (.lo n) = some (.lst ds, S.set n .dead) := by
  unfold datW
  simp only [h, datWs_da]
theorem app_ok (n : Nat) (ws : List W) (w : W) (S : Sto) (h : S[n]? = some (.lst ws)) (hl : ws.length < 100000) : chL appL (.lo n) [w] S = .ok (.da .non) (S.set n (.lst (ws ++ [w]))) := by
  unfold chL appL
  simp only [h, ifc_pos (sz_lt hl)]
abbrev dR (sc at_ : W) (many cell seed : Int) (mk : Option W) : Rho := [some sc, some at_, some (iW many), some (iW cell), some (iW seed), some (.lo 0), mk]
theorem c_draws_0 (sc at_ : W) (many cell seed : Int) (row : List Int) : c_l_draws_0 (dR sc at_ many cell seed none) [rowC row] = .ok (dec (0 < cell) && dec ((row.length : Int) < many)) [rowC row] := by
  unfold c_l_draws_0
  simp_arith []
  by_cases h : 0 < cell
  · rw [dec_pos h]; simp_arith []
  · rw [dec_neg h]; simp_arith []
theorem b_draws_1 (sc at_ : W) (many cell seed : Int) (row : List Int) (h : row.length < 100000) : b_l_draws_1 (dR sc at_ many cell seed none) [rowC row] = .nx (dR sc at_ many (cell / 1013) seed none) [rowC (row ++ [cell % 1013])] := by
  unfold b_l_draws_1
  simp_arith [sz_lt h]
  simp only [dR, rowC, List.map_append, List.map_cons, List.map_nil]
theorem wh_draws_1 (sc at_ : W) (many seed : Int) (hm : many ≤ 1000) : ∀ (n : Nat) (cell : Int) (row : List Int), 0 ≤ cell → (row.length : Int) + n = many → (∀ x ∈ row, 0 ≤ x ∧ x < 1013) →
    ∃ cell' row', whileN c_l_draws_0 b_l_draws_1 (n + 1) (dR sc at_ many cell seed none) [rowC row] = .nx (dR sc at_ many cell' seed none) [rowC row'] ∧ (row'.length : Int) ≤ many ∧ ∀ x ∈ row', 0 ≤ x ∧ x < 1013
  | n, cell, row, hc, hl, hr => by
    unfold whileN
    rw [c_draws_0]
    by_cases h1 : 0 < cell ∧ (row.length : Int) < many
    · cases n with
      | zero => omega
      | succ n =>
        have hx : ∀ x ∈ row ++ [cell % 1013], 0 ≤ x ∧ x < 1013 := by
          intro x hx
          rcases List.mem_append.mp hx with z | z
          · exact hr x z
          · simp at z; subst z; omega
        obtain ⟨c', r', e, h3, h4⟩ := wh_draws_1 sc at_ many seed hm n (cell / 1013) (row ++ [cell % 1013]) (Int.ediv_nonneg hc (by decide)) (by simp; omega) hx
        refine ⟨c', r', ?_, h3, h4⟩
        simp only [dec_pos h1.1, dec_pos h1.2, Bool.and_self]
        rw [b_draws_1 _ _ _ _ _ _ (by omega)]
        exact e
    · refine ⟨cell, row, ?_, by omega, hr⟩
      have hf : (dec (0 < cell) && dec ((row.length : Int) < many)) = false := by
        rw [Bool.and_eq_false_iff]
        by_cases h2 : 0 < cell
        · right; exact dec_neg (fun z => h1 ⟨h2, z⟩)
        · left; exact dec_neg h2
      rw [hf]
theorem c_draws_2 (sc at_ : W) (many cell seed : Int) (mk : Option W) (row : List Int) : c_l_draws_2 (dR sc at_ many cell seed mk) [rowC row] = .ok (dec ((row.length : Int) < many)) [rowC row] := by
  unfold c_l_draws_2
  simp_arith []
theorem b_draws_3 (sc at_ : W) (many cell seed : Int) (mk : Option W) (row : List Int) (h : row.length < 100000) : ∃ seed' mk' x, b_l_draws_3 (dR sc at_ many cell seed mk) [rowC row] = .nx (dR sc at_ many cell seed' mk') [rowC (row ++ [x])] ∧ 0 ≤ x ∧ x < 1013 := by
  have fin : ∀ z : Int, -1000000000 < z → z < 1000000000 → (row.length : Int) + 1 = z → ∃ seed' mk' x, b_l_draws_3 (dR sc at_ many cell seed mk) [rowC row] = .nx (dR sc at_ many cell seed' mk') [rowC (row ++ [x])] ∧ 0 ≤ x ∧ x < 1013 := by
    intro z z1 z2 hz
    have h4 := fun S => mul_l z z S z1 z2
    have h5 : ∀ (s : Int) (S : Sto), vl2 mulW (.da (.int (s % 65521))) (.da (.int (s / 65521 % 32749 + 1))) S = .ok (.da (.int (s % 65521 * (s / 65521 % 32749 + 1)))) S := fun s S => mul_l _ _ _ (by omega) (by omega)
    have key : ∀ s : Int, 0 ≤ s % 65521 * (s / 65521 % 32749 + 1) % 1000003 % 1013 ∧ s % 65521 * (s / 65521 % 32749 + 1) % 1000003 % 1013 < 1013 := fun s => ⟨Int.emod_nonneg _ (by decide), Int.emod_lt_of_pos _ (by decide)⟩
    refine ⟨(seed * 48271 + z * z * 6133 + 17) % 2147483647, some (iW z), _, ?_, (key ((seed * 48271 + z * z * 6133 + 17) % 2147483647)).1, (key ((seed * 48271 + z * z * 6133 + 17) % 2147483647)).2⟩
    unfold b_l_draws_3
    simp_arith [hz]
    simp_arith [h4]
    generalize (seed * 48271 + z * z * 6133 + 17) % 2147483647 = s
    simp_arith [h5, sz_lt h]
    simp only [dR, rowC, List.map_append, List.map_cons, List.map_nil]
  exact fin _ (by omega) (by omega) rfl
theorem wh_draws_3 (sc at_ : W) (many cell : Int) (hm : many ≤ 1000) : ∀ (n : Nat) (seed : Int) (mk : Option W) (row : List Int), (row.length : Int) + n = many → (∀ x ∈ row, 0 ≤ x ∧ x < 1013) →
    ∃ seed' mk' row', whileN c_l_draws_2 b_l_draws_3 (n + 1) (dR sc at_ many cell seed mk) [rowC row] = .nx (dR sc at_ many cell seed' mk') [rowC row'] ∧ (row'.length : Int) = many ∧ ∀ x ∈ row', 0 ≤ x ∧ x < 1013
  | n, seed, mk, row, hl, hr => by
    unfold whileN
    rw [c_draws_2]
    cases n with
    | zero =>
      refine ⟨seed, mk, row, ?_, by omega, hr⟩
      rw [dec_neg (by omega : ¬ (row.length : Int) < many)]
    | succ n =>
      obtain ⟨s', k', x, e, h1, h2⟩ := b_draws_3 sc at_ many cell seed mk row (by omega)
      have hx : ∀ y ∈ row ++ [x], 0 ≤ y ∧ y < 1013 := by
        intro y hy
        rcases List.mem_append.mp hy with z | z
        · exact hr y z
        · simp at z; subst z; exact ⟨h1, h2⟩
      obtain ⟨s2, k2, r2, e2, h3, h4⟩ := wh_draws_3 sc at_ many cell hm n s' k' (row ++ [x]) (by simp; omega) hx
      refine ⟨s2, k2, r2, ?_, h3, h4⟩
      rw [dec_pos (by omega : (row.length : Int) < many)]
      simp only [e]
      exact e2
/-- a row of draws -/
def Drawn (n : Nat) (row : List Int) : Prop := row.length = n ∧ ∀ x ∈ row, 0 ≤ x ∧ x < 1013
theorem draws_end (sc at_ : W) (many cell seed : Int) (row : List Int) (hm : many ≤ 1000) (hl : (row.length : Int) ≤ many) (hr : ∀ x ∈ row, 0 ≤ x ∧ x < 1013) : ∃ r' S', Drawn many.toNat r' ∧
    mSeq (mWhile c_l_draws_2 b_l_draws_3) (mRet (mFz (mVar 5))) (dR sc at_ many cell seed none) [rowC row] = .rt (.da (.lst (r'.map .int))) S' := by
  obtain ⟨s', k', r', e, h1, h2⟩ := wh_draws_3 sc at_ many cell hm (many - row.length).toNat seed none row (by omega) hr
  refine ⟨r', [.dead], ⟨by omega, h2⟩, ?_⟩
  have hw := mWhile_of _ (by rw [e]; intro z; cases z)
  rw [e] at hw
  rw [mSeq_nx hw]
  have hd := datW_lst 4 0 [rowC r'] (r'.map .int) (by simp [Function.comp_def])
  simp_arith [hd]
theorem draws_ok (ns : List Int) (at_ many : Int) (ha : 0 ≤ at_) (ha2 : at_ ≤ 1000000) (h0 : 0 ≤ many) (hm : many ≤ 1000) (hn : ns.length ≤ 1000) : ∃ row, Drawn many.toNat row ∧ p_l_draws [.scr (ns.map .int), .int at_, .int many] = .ok (.lst (row.map .int)) := by
  have m1 := fun S => mul_l at_ at_ S (by omega) (by omega)
  have m2 := fun S => mul_l 7 at_ S (by decide) (by decide)
  have m3 := fun S => mul_l 31 at_ S (by decide) (by decide)
  have e18 := fun S => pow_ok 10 18 S (by decide) (by decide) (by decide)
  suffices h : ∃ row S, Drawn many.toNat row ∧ m_l_draws [some (.da (.scr (ns.map .int))), some (iW at_), some (iW many), none, none, none, none] [] = .rt (.da (.lst (row.map .int))) S by
    obtain ⟨row, S, hd, e⟩ := h
    exact ⟨row, hd, runP_ok rfl e⟩
  unfold m_l_draws
  have s0 : ∀ m : MS, mSeq (mSet 3 (mOp addD (mOp (vl2 mulW) (mC (.int 7)) (mVar 1)) (mC (.int 1)))) m [some (.da (.scr (ns.map .int))), some (iW at_), some (iW many), none, none, none, none] [] = m [some (.da (.scr (ns.map .int))), some (iW at_), some (iW many), some (iW (7 * at_ + 1)), none, none, none] [] := fun m => by
    simp_arith [m2]
  rw [s0]
  have rest : ∀ cell : Int, ∃ row S, Drawn many.toNat row ∧ (mSeq (mSet 4 (mOp addD (mOp addD (mOp (vl2 modW) (mVar 3) (mC (.int 999983))) (mOp (vl2 mulW) (mC (.int 31)) (mVar 1))) (mC (.int 5)))) (mSeq (mSet 5 (mCall (ncN lstC) mNil)) (mSeq (mIf (mTst (mOp (vl2 geW) (mVar 3) (mOp (vl2 powW) (mC (.int 10)) (mC (.int 18))))) (mWhile c_l_draws_0 b_l_draws_1) mSkip) (mSeq (mWhile c_l_draws_2 b_l_draws_3) (mRet (mFz (mVar 5))))))) [some (.da (.scr (ns.map .int))), some (iW at_), some (iW many), some (iW cell), none, none, none] [] = .rt (.da (.lst (row.map .int))) S := by
    intro cell
    have t1 : ∀ m : MS, mSeq (mSet 4 (mOp addD (mOp addD (mOp (vl2 modW) (mVar 3) (mC (.int 999983))) (mOp (vl2 mulW) (mC (.int 31)) (mVar 1))) (mC (.int 5)))) (mSeq (mSet 5 (mCall (ncN lstC) mNil)) m) [some (.da (.scr (ns.map .int))), some (iW at_), some (iW many), some (iW cell), none, none, none] [] = m (dR (.da (.scr (ns.map .int))) (iW at_) many cell (cell % 999983 + 31 * at_ + 5) none) [rowC []] := fun m => by
      simp_arith [m3]
      rfl
    rw [t1]
    generalize cell % 999983 + 31 * at_ + 5 = seed
    have t2 : mTst (mOp (vl2 geW) (mVar 3) (mOp (vl2 powW) (mC (.int 10)) (mC (.int 18)))) (dR (.da (.scr (ns.map .int))) (iW at_) many cell seed none) [rowC []] = .ok (dec ((10 : Int) ^ 18 ≤ cell)) [rowC []] := by
      unfold mTst mOp
      simp only [mVar, mC, Rs.bind, List.getElem?_cons_succ, List.getElem?_cons_zero, e18, ge_ii, boolOf]
      rfl
    by_cases hc : (10 : Int) ^ 18 ≤ cell
    · rw [dec_pos hc] at t2
      obtain ⟨c', r', e, h1, h2⟩ := wh_draws_1 (.da (.scr (ns.map .int))) (iW at_) many seed hm many.toNat cell [] (Int.le_trans (by decide) hc) (by simp; omega) (by simp)
      have hw := mWhile_of _ (by rw [e]; intro z; cases z)
      rw [e] at hw
      rw [mSeq_nx ((mIf_t t2).trans hw)]
      exact let ⟨r, S, a, b⟩ := draws_end _ _ many c' seed r' hm h1 h2; ⟨r, S, a, b⟩
    · rw [dec_neg hc] at t2
      rw [mSeq_nx (r' := dR (.da (.scr (ns.map .int))) (iW at_) many cell seed none) (s' := [rowC []]) (mIf_f (b := mSkip) t2)]
      exact let ⟨r, S, a, b⟩ := draws_end _ _ many cell seed [] hm (by simpa using h0) (by simp); ⟨r, S, a, b⟩
  by_cases h1 : at_ < (ns.length : Int)
  · have e1 : atI (List.map (W.da ∘ D.int) ns) at_ = some (iW (ns[at_.toNat]'(by omega))) := by
      rw [atI_get _ _ ha (by simpa using h1)]; simp
    refine (?_ : ∃ row S, Drawn many.toNat row ∧ _ = _)
    have t : mIf (mTst (mOp (vl2 ltW) (mVar 1) (mCall (vlN lenW) (mCons (mVar 0) mNil)))) (mSet 3 (mOp (vl2 ixW) (mVar 0) (mVar 1))) (mIf (mTst (mOp (vl2 gtW) (mCall (vlN lenW) (mCons (mVar 0) mNil)) (mC (.int 0)))) (mSet 3 (mOp addD (mOp addD (mOp (vl2 modW) (mOp (vl2 ixW) (mVar 0) (mOp (vl2 modW) (mVar 1) (mCall (vlN lenW) (mCons (mVar 0) mNil)))) (mC (.int 999983))) (mOp (vl2 mulW) (mOp (vl2 mulW) (mVar 1) (mVar 1)) (mC (.int 97)))) (mC (.int 1)))) mSkip) [some (.da (.scr (ns.map .int))), some (iW at_), some (iW many), some (iW (7 * at_ + 1)), none, none, none] [] = .nx [some (.da (.scr (ns.map .int))), some (iW at_), some (iW many), some (iW (ns[at_.toNat]'(by omega))), none, none, none] [] := by
      refine (mIf_t (s' := []) (by simp_arith [dec_pos h1])).trans ?_
      simp_arith [e1]
    rw [mSeq_nx t]
    exact rest _
  · by_cases h2 : (0 : Int) < (ns.length : Int)
    · have hq : 0 ≤ at_ % (ns.length : Int) := Int.emod_nonneg _ (by omega)
      have hq2 : at_ % (ns.length : Int) < (ns.length : Int) := Int.emod_lt_of_pos _ h2
      have e1 : atI (List.map (W.da ∘ D.int) ns) (at_ % (ns.length : Int)) = some (iW (ns[(at_ % (ns.length : Int)).toNat]'(by omega))) := by
        rw [atI_get _ _ hq (by simpa using hq2)]; simp
      have hm3 := fun S => mod_ok at_ (ns.length : Int) S h2
      have t : ∃ c : Int, mIf (mTst (mOp (vl2 ltW) (mVar 1) (mCall (vlN lenW) (mCons (mVar 0) mNil)))) (mSet 3 (mOp (vl2 ixW) (mVar 0) (mVar 1))) (mIf (mTst (mOp (vl2 gtW) (mCall (vlN lenW) (mCons (mVar 0) mNil)) (mC (.int 0)))) (mSet 3 (mOp addD (mOp addD (mOp (vl2 modW) (mOp (vl2 ixW) (mVar 0) (mOp (vl2 modW) (mVar 1) (mCall (vlN lenW) (mCons (mVar 0) mNil)))) (mC (.int 999983))) (mOp (vl2 mulW) (mOp (vl2 mulW) (mVar 1) (mVar 1)) (mC (.int 97)))) (mC (.int 1)))) mSkip) [some (.da (.scr (ns.map .int))), some (iW at_), some (iW many), some (iW (7 * at_ + 1)), none, none, none] [] = .nx [some (.da (.scr (ns.map .int))), some (iW at_), some (iW many), some (iW c), none, none, none] [] := by
        refine ⟨_, (mIf_f (s' := []) (by simp_arith [dec_neg h1])).trans ((mIf_t (s' := []) (by simp_arith [dec_pos h2])).trans (?_ : _ = Out.nx [_, _, _, some (iW (ns[(at_ % (ns.length : Int)).toNat]'(by omega) % 999983 + at_ * at_ * 97 + 1)), _, _, _] _))⟩
        simp_arith [hm3, e1, m1]
      obtain ⟨c, t⟩ := t
      rw [mSeq_nx t]
      exact rest c
    · have t : mIf (mTst (mOp (vl2 ltW) (mVar 1) (mCall (vlN lenW) (mCons (mVar 0) mNil)))) (mSet 3 (mOp (vl2 ixW) (mVar 0) (mVar 1))) (mIf (mTst (mOp (vl2 gtW) (mCall (vlN lenW) (mCons (mVar 0) mNil)) (mC (.int 0)))) (mSet 3 (mOp addD (mOp addD (mOp (vl2 modW) (mOp (vl2 ixW) (mVar 0) (mOp (vl2 modW) (mVar 1) (mCall (vlN lenW) (mCons (mVar 0) mNil)))) (mC (.int 999983))) (mOp (vl2 mulW) (mOp (vl2 mulW) (mVar 1) (mVar 1)) (mC (.int 97)))) (mC (.int 1)))) mSkip) [some (.da (.scr (ns.map .int))), some (iW at_), some (iW many), some (iW (7 * at_ + 1)), none, none, none] [] = .nx [some (.da (.scr (ns.map .int))), some (iW at_), some (iW many), some (iW (7 * at_ + 1)), none, none, none] [] := by
        refine (mIf_f (s' := []) (by simp_arith [dec_neg h1])).trans ?_
        exact mIf_f (s' := []) (by simp_arith [dec_neg h2])
      rw [mSeq_nx t]
      exact rest _
/-! ### the very same -/
def kindD : D → Option (Bool × List D)
  | .tup ds => some (true, ds)
  | .wt ds => some (true, ds)
  | .lst ds => some (false, ds)
  | .scr ds => some (false, ds)
  | _ => none
def Sm : Nat → D → D → Prop
  | 0, _, _ => False
  | n + 1, a, b => (a = b ∧ flatD a = true) ∨ ∃ k xs ys, kindD a = some (k, xs) ∧ kindD b = some (k, ys) ∧ xs.length = ys.length ∧ xs.length ≤ 100000 ∧ ∀ (i : Nat) (x y : D), xs[i]? = some x → ys[i]? = some y → Sm n x y
/-- data of some depth, not too long -/
def Gd : Nat → D → Prop
  | 0, _ => False
  | n + 1, a => flatD a = true ∨ ∃ k xs, kindD a = some (k, xs) ∧ xs.length ≤ 100000 ∧ ∀ x ∈ xs, Gd n x
theorem Gd.sm : ∀ {n : Nat} {a : D}, Gd n a → Sm n a a
  | 0, _, h => h.elim
  | n + 1, a, h => by
    rcases h with h | ⟨k, xs, h1, h2, h3⟩
    · exact .inl ⟨rfl, h⟩
    · refine .inr ⟨k, xs, xs, h1, h1, rfl, h2, fun i x y e1 e2 => ?_⟩
      rw [e1] at e2
      cases e2
      exact (h3 x (List.mem_of_getElem? e1)).sm
theorem kind_seq {a : D} {k : Bool} {xs : List D} (S : Sto) (h : kindD a = some (k, xs)) : seqW S (.da a) = some (xs.map .da) ∧ tyD a = some (if k then "tuple" else "list") := by
  cases a <;> simp [kindD] at h <;> obtain ⟨rfl, rfl⟩ := h <;> exact ⟨rfl, rfl⟩
theorem len_seq {a : D} {xs : List D} {S : Sto} (h : seqW S (.da a) = some (xs.map .da)) : vlN lenW [.da a] S = .ok (.da (.int xs.length)) S := by
  simp only [vlN, lenW, h, List.length_map, lift]
/-- the loop over the places -/
theorem same_loop (p : List D → Re D) (a b : D) (xs ys : List D) (ha : seqW [] (.da a) = some (xs.map .da)) (hb : seqW [] (.da b) = some (ys.map .da)) (hl : xs.length = ys.length) (h : ∀ (i : Nat) (x y : D), xs[i]? = some x → ys[i]? = some y → p [x, y] = .ok (.bl true)) :
    ∀ (n k : Nat) (o : Option W), k + n = xs.length → ∃ o', loopM (gtName 2) (b_l_same_0 p) (intsW (k : Int) n) [some (.da a), some (.da b), o] [] = .nx [some (.da a), some (.da b), o'] []
  | 0, k, o, _ => ⟨o, rfl⟩
  | n + 1, k, o, hk => by
    have h1 : k < xs.length := by omega
    have h2 : k < ys.length := by omega
    have e1 : atI (xs.map W.da) (k : Int) = some (.da xs[k]) := by rw [atI_lit]; simp [h1]
    have e2 : atI (ys.map W.da) (k : Int) = some (.da ys[k]) := by rw [atI_lit]; simp [h2]
    have e3 := h k xs[k] ys[k] (by simp [h1]) (by simp [h2])
    obtain ⟨o', e⟩ := same_loop p a b xs ys ha hb hl h n (k + 1) (some (iW k)) (by omega)
    refine ⟨o', ?_⟩
    rw [← e]
    have eb : b_l_same_0 p [some (.da a), some (.da b), some (iW k)] [] = .nx [some (.da a), some (.da b), some (iW k)] [] := by
      unfold b_l_same_0
      simp_arith [ix_ok (k : Int) ha, ix_ok (k : Int) hb, e1, e2, e3]
    show loopM (gtName 2) (b_l_same_0 p) (iW (k : Int) :: intsW ((k : Int) + 1) n) _ _ = _
    conv => lhs; unfold loopM
    simp only [gtName, List.set_cons_succ, List.set_cons_zero, eb]
    rfl
theorem same_flat (p : List D → Re D) (a : D) (h : flatD a = true) : m_l_same p [some (.da a), some (.da a), none] [] = .rt (.da (.bl true)) [] := by
  unfold m_l_same
  cases a <;> simp [flatD] at h <;> simp_arith []
theorem same_seq (p : List D → Re D) (a b : D) (k : Bool) (xs ys : List D) (ha : kindD a = some (k, xs)) (hb : kindD b = some (k, ys)) (hl : xs.length = ys.length) (hz : xs.length ≤ 100000) (h : ∀ (i : Nat) (x y : D), xs[i]? = some x → ys[i]? = some y → p [x, y] = .ok (.bl true)) :
    m_l_same p [some (.da a), some (.da b), none] [] = .rt (.da (.bl true)) [] := by
  obtain ⟨sa, ta⟩ := kind_seq [] ha
  obtain ⟨sb, tb⟩ := kind_seq [] hb
  obtain ⟨o', e⟩ := same_loop p a b xs ys sa sb hl h xs.length 0 none (by omega)
  rw [nc_0] at e
  have r1 : rng1 [iW (ys.length : Int)] = some (0, xs.length) := by
    rw [rng1_ok _ (by omega) (by omega), hl]
    rfl
  have la := len_seq sa
  have lb := len_seq sb
  unfold m_l_same
  generalize hn : (ys.length : Int) = n at *
  have hl' : (xs.length : Int) = n := by omega
  rw [hl'] at la
  cases k <;> simp_arith [ta, tb, la, lb, r1, e]
theorem same_ok : ∀ (n : Nat) (a b : D), Sm n a b → p_l_same n [a, b] = .ok (.bl true)
  | 0, _, _, h => h.elim
  | n + 1, a, b, h => by
    refine runP_ok (S := []) rfl ?_
    rcases h with ⟨rfl, h⟩ | ⟨k, xs, ys, h1, h2, h3, h4, h5⟩
    · exact same_flat _ _ h
    · exact same_seq _ a b k xs ys h1 h2 h3 h4 fun i x y e1 e2 => same_ok n x y (h5 i x y e1 e2)
theorem sm_flat {n : Nat} {a : D} (h : flatD a = true) : Sm (n + 1) a a := .inl ⟨rfl, h⟩
theorem same_refl {a : D} (n : Nat) (h : Gd n a) : p_l_same n [a, a] = .ok (.bl true) := same_ok n a a h.sm
theorem gd_flat {n : Nat} {a : D} (h : flatD a = true) : Gd (n + 1) a := .inl h
theorem gd_lst {n : Nat} {xs : List D} (h : xs.length ≤ 100000) (k : ∀ x ∈ xs, Gd n x) : Gd (n + 1) (.lst xs) := .inr ⟨false, xs, rfl, h, k⟩
theorem gd_tup {n : Nat} {xs : List D} (h : xs.length ≤ 100000) (k : ∀ x ∈ xs, Gd n x) : Gd (n + 1) (.tup xs) := .inr ⟨true, xs, rfl, h, k⟩
theorem sm_tups {n : Nat} {xs ys : List D} (h : xs.length = ys.length) (hz : xs.length ≤ 100000) (k : ∀ (i : Nat) (x y : D), xs[i]? = some x → ys[i]? = some y → Sm n x y) : Sm (n + 1) (.tup xs) (.tup ys) := .inr ⟨true, xs, ys, rfl, rfl, h, hz, k⟩
/-! ### lists of whole numbers -/
def intsL (lo : Int) : Nat → List Int
  | 0 => []
  | n + 1 => lo :: intsL (lo + 1) n
theorem ints_map : ∀ (n : Nat) (lo : Int), intsW lo n = (intsL lo n).map iW
  | 0, _ => rfl
  | n + 1, lo => by simp only [intsW, intsL, ints_map n, List.map_cons]
theorem mem_intsL : ∀ (n : Nat) (lo b : Int), b ∈ intsL lo n ↔ lo ≤ b ∧ b < lo + n
  | 0, lo, b => by simp only [intsL, List.not_mem_nil, false_iff]; omega
  | n + 1, lo, b => by simp only [intsL, List.mem_cons, mem_intsL n]; omega
theorem len_intsL : ∀ (n : Nat) (lo : Int), (intsL lo n).length = n
  | 0, _ => rfl
  | n + 1, lo => by simp [intsL, len_intsL n]
theorem lay_ints : ∀ row : List Int, PyData.canLayAll0 (toPyL (row.map .int)) = true
  | [] => rfl
  | x :: r => by simp [toPyL, toPy, PyData.canLayAll0, PyData.canLay0, lay_ints r]
theorem depth_ints : ∀ row : List Int, PyData.depthAll (toPyL (row.map .int)) ≤ 1
  | [] => by simp [toPyL, PyData.depthAll]
  | x :: r => by
    have := depth_ints r
    simp [toPyL, toPy, PyData.depthAll, PyData.depth]
    omega
theorem shaped_ints (row : List Int) : SeqAt.shaped (.list (toPyL (row.map .int))) = true := by
  have := depth_ints row
  have e : (PyData.list (toPyL (row.map .int))).canLay0 = true := by simp only [PyData.canLay0, lay_ints]
  have f : (PyData.list (toPyL (row.map .int))).depth ≤ 64 := by
    simp only [PyData.depth]
    omega
  unfold SeqAt.shaped
  rw [e, decide_eq_true f]
  rfl
theorem any_ints (b : Int) : ∀ row : List Int, ((row.map D.int).any fun z => PyData.eqv (toPy z) (.int b)) = row.any (· == b)
  | [] => rfl
  | x :: r => by
    have := any_ints b r
    simp only [List.map_cons, List.any_cons, toPy, PyData.eqv, this]
theorem in_ints (b : Int) (row : List Int) (S : Sto) : vl2 inW (.da (.int b)) (.da (.lst (row.map .int))) S = .ok (.da (.bl (row.any (· == b)))) S := by
  unfold vl2 inW inB dget
  simp only [dkW, dtW, valW, toPy]
  rw [ifc_pos ⟨by rfl, shaped_ints row⟩]
  simp only [any_ints, Option.map, lift]
theorem notin_ints (b : Int) (row : List Int) (S : Sto) : vl2 notinW (.da (.int b)) (.da (.lst (row.map .int))) S = .ok (.da (.bl (!row.any (· == b)))) S := by
  unfold vl2 notinW inB dget
  simp only [dkW, dtW, valW, toPy]
  rw [ifc_pos ⟨by rfl, shaped_ints row⟩]
  simp only [any_ints, Option.map, lift]
theorem eqvL_ints : ∀ a b : List Int, PyData.eqvAll (toPyL (a.map .int)) (toPyL (b.map .int)) = decide (a = b)
  | [], [] => by simp [toPyL, PyData.eqvAll]
  | [], _ :: _ => by simp [toPyL, PyData.eqvAll]
  | _ :: _, [] => by simp [toPyL, PyData.eqvAll]
  | x :: a, y :: b => by
    have := eqvL_ints a b
    simp only [List.map_cons, toPyL, toPy, PyData.eqvAll, PyData.eqv, this]
    by_cases h : x = y
    · subst h; simp
    · simp [h]
theorem eq_ints (a b : List Int) (S : Sto) : vl2 eqW (.da (.lst (a.map .int))) (.da (.lst (b.map .int))) S = .ok (.da (.bl (decide (a = b)))) S := by
  unfold vl2 eqW eqB
  simp only [valW, eqD, toPy]
  rw [ifc_pos ⟨shaped_ints a, shaped_ints b⟩]
  simp only [PyData.eqv, eqvL_ints, Option.map, lift]
theorem ne_ints (a b : List Int) (S : Sto) : vl2 neW (.da (.lst (a.map .int))) (.da (.lst (b.map .int))) S = .ok (.da (.bl (!decide (a = b)))) S := by
  unfold vl2 neW eqB
  simp only [valW, eqD, toPy]
  rw [ifc_pos ⟨shaped_ints a, shaped_ints b⟩]
  simp only [PyData.eqv, eqvL_ints, Option.map, lift]
/-! ### loops and comprehensions, by what holds between the turns -/
theorem lc_gen {α β : Type} (wx : α → W) (wy : β → W) (f : α → Option β) {g : MG} {mt : MT} {me : ME} {ρw : Rho} {S : Sto} : ∀ (xs : List α) (acc : List W), acc.length + xs.length ≤ 100000 →
    (∀ x ∈ xs, ∃ ρ2, g (wx x) ρw S = some ρ2 ∧ match f x with
      | some y => mt ρ2 S = .ok true S ∧ me ρ2 S = .ok (wy y) S
      | none => mt ρ2 S = .ok false S) →
    lcM g mt me ρw (xs.map wx) acc S = .ok (acc ++ (xs.filterMap f).map wy) S
  | [], acc, _, _ => by simp [lcM]
  | x :: xs, acc, hl, h => by
    obtain ⟨ρ2, e1, e2⟩ := h x (List.mem_cons_self)
    have ih := fun acc hl => lc_gen wx wy f (g := g) (mt := mt) (me := me) (ρw := ρw) (S := S) xs acc hl fun y hy => h y (List.mem_cons_of_mem _ hy)
    simp only [List.map_cons, lcM, e1]
    simp only [List.length_cons] at hl
    cases hf : f x with
    | some y =>
      rw [hf] at e2
      simp only [e2.1, e2.2]
      rw [ifc_pos (sz_lt (by omega)), ih _ (by simp; omega)]
      simp [hf]
    | none =>
      rw [hf] at e2
      simp only [e2]
      rw [ih _ (by omega)]
      simp [hf]
theorem filterMap_ite {α : Type} (f : α → Bool) : ∀ xs : List α, xs.filterMap (fun x => if f x = true then some x else none) = xs.filter f
  | [] => rfl
  | x :: xs => by
    have ih := filterMap_ite f xs
    cases h : f x <;> simp [List.filterMap_cons, List.filter_cons, h, ih]
theorem lc_filter {α : Type} (wx : α → W) (f : α → Bool) {g : MG} {mt : MT} {me : ME} {ρw : Rho} {S : Sto} (xs : List α) (hl : xs.length ≤ 100000)
    (h : ∀ x ∈ xs, ∃ ρ2, g (wx x) ρw S = some ρ2 ∧ mt ρ2 S = .ok (f x) S ∧ (f x = true → me ρ2 S = .ok (wx x) S)) : lcM g mt me ρw (xs.map wx) [] S = .ok ((xs.filter f).map wx) S := by
  rw [lc_gen wx wx (fun x => if f x = true then some x else none) xs [] (by simpa using hl), filterMap_ite]
  · rfl
  · intro x hx
    obtain ⟨ρ2, e1, e2, e3⟩ := h x hx
    refine ⟨ρ2, e1, ?_⟩
    cases q : f x with
    | true => rw [q] at e2; simp only [if_true]; exact ⟨e2, e3 q⟩
    | false => rw [q] at e2; simp only [Bool.false_eq_true, if_false]; exact e2
theorem lc_map {α β : Type} (wx : α → W) (wy : β → W) (f : α → β) {g : MG} {me : ME} {ρw : Rho} {S : Sto} (xs : List α) (hl : xs.length ≤ 100000)
    (h : ∀ x ∈ xs, ∃ ρ2, g (wx x) ρw S = some ρ2 ∧ me ρ2 S = .ok (wy (f x)) S) : lcM g mYes me ρw (xs.map wx) [] S = .ok ((xs.map f).map wy) S := by
  rw [lc_gen wx wy (fun x => some (f x)) xs [] (by simpa using hl)]
  · simp
  · intro x hx
    obtain ⟨ρ2, e1, e2⟩ := h x hx
    exact ⟨ρ2, e1, rfl, e2⟩
theorem loop_all {α : Type} (wx : α → W) {g : MG} {b : MS} (I : List α → Rho → Sto → Prop) : ∀ (rest done : List α) (ρ : Rho) (S : Sto),
    (∀ (dn : List α) (x : α) (r : List α) ρ S, done ++ rest = dn ++ x :: r → I dn ρ S → ∃ ρ1, g (wx x) ρ S = some ρ1 ∧ ∃ ρ2 S2, (b ρ1 S = .nx ρ2 S2 ∨ b ρ1 S = .ct ρ2 S2) ∧ I (dn ++ [x]) ρ2 S2) →
    I done ρ S → ∃ ρ' S', loopM g b (rest.map wx) ρ S = .nx ρ' S' ∧ I (done ++ rest) ρ' S'
  | [], done, ρ, S, _, h => ⟨ρ, S, rfl, by simpa using h⟩
  | x :: rest, done, ρ, S, st, h => by
    obtain ⟨ρ1, e1, ρ2, S2, e2, h2⟩ := st done x rest ρ S rfl h
    obtain ⟨ρ', S', e3, h3⟩ := loop_all wx I rest (done ++ [x]) ρ2 S2 (fun dn y r ρ S e => st dn y r ρ S (by simpa using e)) h2
    refine ⟨ρ', S', ?_, by simpa using h3⟩
    simp only [List.map_cons, loopM, e1]
    rcases e2 with e2 | e2 <;> simp only [e2, e3]
/-- a loop that may return -/
theorem loop_or {α : Type} (wx : α → W) {g : MG} {b : MS} (I : List α → Rho → Sto → Prop) (R : W → Sto → Prop) : ∀ (rest done : List α) (ρ : Rho) (S : Sto),
    (∀ (dn : List α) (x : α) (r : List α) ρ S, done ++ rest = dn ++ x :: r → I dn ρ S → ∃ ρ1, g (wx x) ρ S = some ρ1 ∧ ((∃ ρ2 S2, (b ρ1 S = .nx ρ2 S2 ∨ b ρ1 S = .ct ρ2 S2) ∧ I (dn ++ [x]) ρ2 S2) ∨ ∃ w S2, b ρ1 S = .rt w S2 ∧ R w S2)) →
    I done ρ S → (∃ ρ' S', loopM g b (rest.map wx) ρ S = .nx ρ' S' ∧ I (done ++ rest) ρ' S') ∨ ∃ w S', loopM g b (rest.map wx) ρ S = .rt w S' ∧ R w S'
  | [], done, ρ, S, _, h => .inl ⟨ρ, S, rfl, by simpa using h⟩
  | x :: rest, done, ρ, S, st, h => by
    obtain ⟨ρ1, e1, e2⟩ := st done x rest ρ S rfl h
    rcases e2 with ⟨ρ2, S2, e2, h2⟩ | ⟨w, S2, e2, h2⟩
    · rcases loop_or wx I R rest (done ++ [x]) ρ2 S2 (fun dn y r ρ S e => st dn y r ρ S (by simpa using e)) h2 with ⟨ρ', S', e3, h3⟩ | ⟨w, S', e3, h3⟩
      · refine .inl ⟨ρ', S', ?_, by simpa using h3⟩
        simp only [List.map_cons, loopM, e1]
        rcases e2 with e2 | e2 <;> simp only [e2, e3]
      · refine .inr ⟨w, S', ?_, h3⟩
        simp only [List.map_cons, loopM, e1]
        rcases e2 with e2 | e2 <;> simp only [e2, e3]
    · exact .inr ⟨w, S2, by simp only [List.map_cons, loopM, e1, e2], h2⟩
/-! ### turns and motions, by the program and by the law -/
def turnP (t : Int) (x y : Int) : Int × Int :=
  if t = 0 then (x, y) else if t = 1 then (-y, x) else if t = 2 then (-x, -y) else if t = 3 then (y, -x)
  else if t = 4 then (-x, y) else if t = 5 then (-y, -x) else if t = 6 then (x, -y) else (y, x)
theorem turn8 {t : Int} (h0 : 0 ≤ t) (h7 : t ≤ 7) : t = 0 ∨ t = 1 ∨ t = 2 ∨ t = 3 ∨ t = 4 ∨ t = 5 ∨ t = 6 ∨ t = 7 := by omega
theorem turn_add (t x y r u : Int) (h0 : 0 ≤ t) (h7 : t ≤ 7) : turnP t (x + r) (y + u) = ((turnP t x y).1 + (turnP t r u).1, (turnP t x y).2 + (turnP t r u).2) := by
  rcases turn8 h0 h7 with rfl | rfl | rfl | rfl | rfl | rfl | rfl | rfl <;> simp [turnP] <;> omega
def tbP (t1 t2 : Int) : Int := ((if 4 ≤ t2 then -(t1 % 4) else t1 % 4) + t2) % 4 + 4 * ((t1 / 4 + t2 / 4) % 2)
theorem tb_range (t1 t2 : Int) : 0 ≤ tbP t1 t2 ∧ tbP t1 t2 ≤ 7 := by unfold tbP; omega
theorem turn_turn (t1 t2 x y : Int) (h0 : 0 ≤ t1) (h7 : t1 ≤ 7) (k0 : 0 ≤ t2) (k7 : t2 ≤ 7) : turnP (tbP t1 t2) x y = turnP t2 (turnP t1 x y).1 (turnP t1 x y).2 := by
  rcases turn8 h0 h7 with rfl | rfl | rfl | rfl | rfl | rfl | rfl | rfl <;> rcases turn8 k0 k7 with rfl | rfl | rfl | rfl | rfl | rfl | rfl | rfl <;> simp [turnP, tbP]
def bkP (t : Int) : Int := if 4 ≤ t then t else (4 - t) % 4
theorem bk_range (t : Int) (h0 : 0 ≤ t) (h7 : t ≤ 7) : 0 ≤ bkP t ∧ bkP t ≤ 7 := by
  unfold bkP
  split <;> omega
theorem turn_bk (t x y : Int) (h0 : 0 ≤ t) (h7 : t ≤ 7) : turnP (bkP t) (turnP t x y).1 (turnP t x y).2 = (x, y) := by
  rcases turn8 h0 h7 with rfl | rfl | rfl | rfl | rfl | rfl | rfl | rfl <;> simp [turnP, bkP]
/-! ### motions as things that act -/
abbrev Mo := Int × Int × Int
def okM (m : Mo) : Prop := 0 ≤ m.1 ∧ m.1 ≤ 7
abbrev moL (m : Mo) : List D := [.int m.1, .int m.2.1, .int m.2.2]
abbrev moD (m : Mo) : D := .tup (moL m)
/-- such a motion, as data -/
def IsMo (d : D) (m : Mo) : Prop := d = .tup (moL m) ∨ d = .wt (moL m)
def still : Mo := (0, 0, 0)
def bh (m n : Mo) : Mo := (tbP m.1 n.1, (turnP n.1 m.2.1 m.2.2).1 + n.2.1, (turnP n.1 m.2.1 m.2.2).2 + n.2.2)
def act (m : Mo) (p : Int × Int) : Int × Int := ((turnP m.1 p.1 p.2).1 + m.2.1, (turnP m.1 p.1 p.2).2 + m.2.2)
theorem ok_still : okM still := ⟨by decide, by decide⟩
theorem ok_bh (m n : Mo) : okM (bh m n) := tb_range _ _
theorem act_still (p : Int × Int) : act still p = p := by
  obtain ⟨x, y⟩ := p
  simp [act, still, turnP]
theorem act_bh (m n : Mo) (p : Int × Int) (hm : okM m) (hn : okM n) : act (bh m n) p = act n (act m p) := by
  obtain ⟨x, y⟩ := p
  obtain ⟨t1, r1, u1⟩ := m
  obtain ⟨t2, r2, u2⟩ := n
  simp only [act, bh]
  rw [turn_turn t1 t2 x y hm.1 hm.2 hn.1 hn.2, turn_add t2 _ _ _ _ hn.1 hn.2]
  simp only [Prod.mk.injEq]
  omega
theorem turn_inj {a b : Int} (a0 : 0 ≤ a) (a7 : a ≤ 7) (b0 : 0 ≤ b) (b7 : b ≤ 7) (h : turnP a 1 2 = turnP b 1 2) : a = b := by
  rcases turn8 a0 a7 with rfl | rfl | rfl | rfl | rfl | rfl | rfl | rfl <;> rcases turn8 b0 b7 with rfl | rfl | rfl | rfl | rfl | rfl | rfl | rfl <;> simp [turnP] at h ⊢
theorem turn_00 {a : Int} (a0 : 0 ≤ a) (a7 : a ≤ 7) : turnP a 0 0 = (0, 0) := by
  rcases turn8 a0 a7 with rfl | rfl | rfl | rfl | rfl | rfl | rfl | rfl <;> simp [turnP]
theorem act_inj {m n : Mo} (hm : okM m) (hn : okM n) (h : ∀ p, act m p = act n p) : m = n := by
  obtain ⟨t1, r1, u1⟩ := m
  obtain ⟨t2, r2, u2⟩ := n
  have h0 := h (0, 0)
  have h1 := h (1, 2)
  simp only [act] at h0 h1
  rw [turn_00 hm.1 hm.2, turn_00 hn.1 hn.2] at h0
  simp only [Prod.mk.injEq] at h0 h1
  have e := turn_inj (a := t1) (b := t2) hm.1 hm.2 hn.1 hn.2 (Prod.ext (by have := h0.1; have := h1.1; omega) (by have := h0.2; have := h1.2; omega))
  simp only [Prod.mk.injEq]
  exact ⟨e, by omega, by omega⟩
def bkM (m : Mo) : Mo := (bkP m.1, -(turnP (bkP m.1) m.2.1 m.2.2).1, -(turnP (bkP m.1) m.2.1 m.2.2).2)
theorem ok_bk {m : Mo} (h : okM m) : okM (bkM m) := bk_range _ h.1 h.2
theorem turn_bk2 (t x y : Int) (h0 : 0 ≤ t) (h7 : t ≤ 7) : turnP t (turnP (bkP t) x y).1 (turnP (bkP t) x y).2 = (x, y) := by
  rcases turn8 h0 h7 with rfl | rfl | rfl | rfl | rfl | rfl | rfl | rfl <;> simp [turnP, bkP]
theorem act_bk (m : Mo) (p : Int × Int) (hm : okM m) : act (bkM m) (act m p) = p := by
  obtain ⟨x, y⟩ := p
  obtain ⟨t, r, u⟩ := m
  have hb := bk_range t hm.1 hm.2
  simp only [act, bkM]
  rw [turn_add (bkP t) _ _ _ _ hb.1 hb.2, turn_bk t x y hm.1 hm.2]
  simp only [Prod.mk.injEq]
  omega
theorem turn_neg (t x y : Int) (h0 : 0 ≤ t) (h7 : t ≤ 7) : turnP t (-x) (-y) = (-(turnP t x y).1, -(turnP t x y).2) := by
  rcases turn8 h0 h7 with rfl | rfl | rfl | rfl | rfl | rfl | rfl | rfl <;> simp [turnP]
theorem act_bk2 (m : Mo) (p : Int × Int) (hm : okM m) : act m (act (bkM m) p) = p := by
  obtain ⟨x, y⟩ := p
  obtain ⟨t, r, u⟩ := m
  have hb := bk_range t hm.1 hm.2
  simp only [act, bkM]
  rw [turn_add t _ _ _ _ hm.1 hm.2, turn_neg t _ _ hm.1 hm.2, turn_bk2 t x y hm.1 hm.2, turn_bk2 t r u hm.1 hm.2]
  simp only [Prod.mk.injEq]
  omega
theorem bh_still (m : Mo) (hm : okM m) : bh m still = m := act_inj (ok_bh _ _) hm fun p => by rw [act_bh _ _ _ hm ok_still, act_still]
theorem still_bh (m : Mo) (hm : okM m) : bh still m = m := act_inj (ok_bh _ _) hm fun p => by rw [act_bh _ _ _ ok_still hm, act_still]
theorem bh_assoc (a b c : Mo) (ha : okM a) (hb : okM b) (hc : okM c) : bh (bh a b) c = bh a (bh b c) := act_inj (ok_bh _ _) (ok_bh _ _) fun p => by
  rw [act_bh _ _ _ (ok_bh _ _) hc, act_bh _ _ _ ha hb, act_bh _ _ _ ha (ok_bh _ _), act_bh _ _ _ hb hc]
theorem bh_bk (m : Mo) (hm : okM m) : bh m (bkM m) = still := act_inj (ok_bh _ _) ok_still fun p => by rw [act_bh _ _ _ hm (ok_bk hm), act_bk _ _ hm, act_still]
theorem bk_bh (a m : Mo) (ha : okM a) (hm : okM m) : bkM (bh a m) = bh (bkM m) (bkM a) := act_inj (ok_bk (ok_bh _ _)) (ok_bh _ _) fun p => by
  have e := act_bk (bh a m) (act (bkM a) (act (bkM m) p)) (ok_bh _ _)
  rw [act_bh _ _ _ ha hm, act_bk2 _ _ ha, act_bk2 _ _ hm] at e
  rw [e, act_bh _ _ _ (ok_bk hm) (ok_bk ha)]
theorem bk_still : bkM still = still := by decide
theorem turned_eq (t x y : Int) (h0 : 0 ≤ t) (h7 : t ≤ 7) : p_turned [.int t, .tup [.int x, .int y]] = .ok (.tup [.int (turnP t x y).1, .int (turnP t x y).2]) := by
  unfold p_turned m_turned
  rcases turn8 h0 h7 with rfl | rfl | rfl | rfl | rfl | rfl | rfl | rfl <;> simp_all_arith [b_turned_0, mPar] <;> simp [turnP]
theorem turn_behind_eq (t1 t2 : Int) : p_turn_behind [.int t1, .int t2] = .ok (.int (tbP t1 t2)) := by
  have hm : ∀ (z : Int) (S : Sto), vl2 mulW (.da (.int 4)) (.da (.int z)) S = .ok (.da (.int (4 * z))) S := fun z S => mul_l _ _ _ (by decide) (by decide)
  unfold p_turn_behind m_turn_behind tbP
  by_cases h : 4 ≤ t2
  · simp_arith [h, hm]
  · simp_arith [h, hm]
theorem behind_mo (m n : Mo) (d e : D) (hd : IsMo d m) (he : IsMo e n) (hn : okM n) : p_behind [d, e] = .ok (moD (bh m n)) := by
  unfold p_behind m_behind bh
  rcases hd with rfl | rfl <;> rcases he with rfl | rfl <;> simp_arith [turned_eq n.1 m.2.1 m.2.2 hn.1 hn.2, turn_behind_eq]
theorem turn_back_eq (t : Int) : p_turn_back [.int t] = .ok (.int (bkP t)) := by
  unfold p_turn_back m_turn_back bkP
  by_cases h : 4 ≤ t
  · simp_arith [h]
  · simp_arith [h]
theorem back_mo (m : Mo) (d : D) (hd : IsMo d m) (hm : okM m) : p_back [d] = .ok (moD (bkM m)) := by
  have hb := bk_range m.1 hm.1 hm.2
  unfold p_back m_back bkM
  rcases hd with rfl | rfl <;> simp_arith [turn_back_eq, turned_eq (bkP m.1) m.2.1 m.2.2 hb.1 hb.2]
theorem l_turned_eq (t x y : Int) (h0 : 0 ≤ t) (h7 : t ≤ 7) : p_l_turned [.int t, .int x, .int y] = .ok (.tup [.int (turnP t x y).1, .int (turnP t x y).2]) := by
  unfold p_l_turned m_l_turned
  rcases turn8 h0 h7 with rfl | rfl | rfl | rfl | rfl | rfl | rfl | rfl <;> simp_arith [] <;> simp [turnP]
theorem l_behind_mo (m n : Mo) (d e : D) (hd : IsMo d m) (he : IsMo e n) (hn : okM n) : p_l_behind [d, e] = .ok (moD (bh m n)) := by
  have hm : ∀ (z : Int) (S : Sto), vl2 mulW (.da (.int 4)) (.da (.int z)) S = .ok (.da (.int (4 * z))) S := fun z S => mul_l _ _ _ (by decide) (by decide)
  unfold p_l_behind m_l_behind bh tbP
  by_cases h : 4 ≤ n.1
  · have h' : 3 < n.1 := by omega
    rcases hd with rfl | rfl <;> rcases he with rfl | rfl <;> simp_arith [l_turned_eq n.1 m.2.1 m.2.2 hn.1 hn.2, hm, h, h']
  · have h' : ¬ 3 < n.1 := by omega
    rcases hd with rfl | rfl <;> rcases he with rfl | rfl <;> simp_arith [l_turned_eq n.1 m.2.1 m.2.2 hn.1 hn.2, hm, h, h']
theorem l_back_mo (m : Mo) (d : D) (hd : IsMo d m) (hm : okM m) : p_l_back [d] = .ok (moD (bkM m)) := by
  have hb := bk_range m.1 hm.1 hm.2
  obtain ⟨t, r, u⟩ := m
  have k : atI [iW 0, iW 3, iW 2, iW 1, iW 4, iW 5, iW 6, iW 7] t = some (iW (bkP t)) := by
    have h : 0 ≤ t ∧ t ≤ 7 := hm
    rcases turn8 h.1 h.2 with rfl | rfl | rfl | rfl | rfl | rfl | rfl | rfl <;> rfl
  have lt := l_turned_eq (bkP t) r u hb.1 hb.2
  unfold p_l_back m_l_back bkM
  rcases hd with rfl | rfl <;> simp_arith [k, lt]
/-! ### numbers far and near: some number -/
theorem far_ok (a b : Int) (ha : 0 ≤ a) (ha2 : a < 1013) (hb : 0 ≤ b) (hb2 : b < 1013) : ∃ r, p_l_far [.int a, .int b] = .ok (.int r) := by
  have hp := fun S => pow_ok 10 27 S (by decide) (by decide) (by decide)
  have hm : ∀ (j : Int) (S : Sto), vl2 mulW (.da (.int (b - 506))) (.da (.int j)) S = .ok (.da (.int ((b - 506) * j))) S := fun j S => mul_l _ _ _ (by omega) (by omega)
  unfold p_l_far m_l_far
  by_cases h1 : a % 5 < 3
  · exact ⟨_, by simp_arith [h1]; rfl⟩
  · by_cases h2 : a % 5 = 3
    · have h3 : ¬ ((3 : Int) < 3) := by omega
      exact ⟨_, by simp_arith [h2, h3]; rfl⟩
    · exact ⟨_, by simp_arith [h1, h2, hm, hp]; rfl⟩
theorem l_motion_at (x0 x1 x2 x3 x4 : Int) (row : List D) (k : Int) (h0 : atI (row.map W.da) k = some (iW x0)) (h1 : atI (row.map W.da) (k + 1) = some (iW x1)) (h2 : atI (row.map W.da) (k + 2) = some (iW x2)) (h3 : atI (row.map W.da) (k + 3) = some (iW x3)) (h4 : atI (row.map W.da) (k + 4) = some (iW x4))
    (b1 : 0 ≤ x1 ∧ x1 < 1013) (b2 : 0 ≤ x2 ∧ x2 < 1013) (b3 : 0 ≤ x3 ∧ x3 < 1013) (b4 : 0 ≤ x4 ∧ x4 < 1013) :
    ∃ m : Mo, okM m ∧ p_l_motion [.lst row, .int k] = .ok (moD m) := by
  obtain ⟨r, er⟩ := far_ok x1 x2 b1.1 b1.2 b2.1 b2.2
  obtain ⟨u, eu⟩ := far_ok x3 x4 b3.1 b3.2 b4.1 b4.2
  refine ⟨(x0 % 8, r, u), ⟨by show 0 ≤ x0 % 8; omega, by show x0 % 8 ≤ 7; omega⟩, ?_⟩
  unfold p_l_motion m_l_motion
  simp_arith [h0, h1, h2, h3, h4, er, eu]
/-! ### a drawn row, asked at a place -/
theorem at_row {n : Nat} {row : List Int} (h : Drawn n row) (i : Int) (h0 : 0 ≤ i) (h1 : i < n) : ∃ x : Int, (0 ≤ x ∧ x < 1013) ∧ atI (row.map (W.da ∘ D.int)) i = some (iW x) := by
  have hl : i.toNat < row.length := by rw [h.1]; omega
  refine ⟨row[i.toNat], h.2 _ (List.getElem_mem hl), ?_⟩
  rw [atI_get _ _ h0 (by rw [List.length_map, h.1]; exact h1)]
  simp
theorem at_list {α : Type} (f : α → W) (xs : List α) (i : Int) (h0 : 0 ≤ i) (h1 : i < xs.length) : ∃ x ∈ xs, atI (xs.map f) i = some (f x) := by
  have hl : i.toNat < xs.length := by omega
  refine ⟨xs[i.toNat], List.getElem_mem hl, ?_⟩
  rw [atI_get _ _ h0 (by rw [List.length_map]; exact h1)]
  simp
/-! ### names -/
abbrev abc : Str := "abcdefghijklmnopqrstuvwxyz"
def letS (i : Int) : Str := ⟨#[abc.cps.toList.getD i.toNat 97]⟩
theorem abc_len : abc.cps.toList.length = 26 := by decide +kernel
theorem abc_len2 : abc.length = 26 := by decide +kernel
theorem let_ok (i : Int) (h0 : 0 ≤ i) (h1 : i < 26) (S : Sto) : vl2 ixW (.da (.str abc)) (.da (.int i)) S = .ok (.da (.str (letS i))) S := by
  unfold vl2 ixW
  simp only [seqW]
  rw [ifc_pos (by rw [abc_len2]; decide), atI_get _ _ h0 (by rw [abc_len]; exact h1)]
  have hl : i.toNat < abc.cps.toList.length := by rw [abc_len]; omega
  simp only [Option.map, lift, letS, List.getD, List.getElem?_eq_getElem hl, Option.getD_some]
theorem let_len (i : Int) : (letS i).length = 1 := rfl
theorem str_len_append (x y : Str) : (x ++ y).length = x.length + y.length := by
  show (x ++ y).cps.size = x.cps.size + y.cps.size
  rw [Str.cps_append, Array.size_append]
theorem join0_len : ∀ ys : List Str, (∀ y ∈ ys, y.length = 1) → (Str.join "" ys).length = ys.length
  | [], _ => rfl
  | [x], h => h x (by simp)
  | x :: y :: r, h => by
    show (x ++ "" ++ Str.join "" (y :: r)).length = _
    rw [str_len_append, str_len_append, join0_len (y :: r) (fun z hz => h z (List.mem_cons_of_mem _ hz)), h x (by simp)]
    show 1 + ("" : Str).length + (y :: r).length = _
    rw [show ("" : Str).length = 0 by decide +kernel]
    simp; omega
theorem strsW_map : ∀ ys : List Str, strsW (ys.map (fun s => W.da (.str s))) = some ys
  | [] => rfl
  | y :: ys => by simp only [List.map_cons, strsW, strsW_map ys]
theorem sum_one : ∀ ys : List Str, (∀ y ∈ ys, y.length = 1) → (ys.map (·.length)).sum = ys.length
  | [], _ => rfl
  | y :: ys, h => by
    simp only [List.map_cons, List.sum_cons, List.length_cons, h y (by simp), sum_one ys (fun z hz => h z (List.mem_cons_of_mem _ hz))]
    omega
theorem join0_ok (ys : List Str) (h : ∀ y ∈ ys, y.length = 1) (hl : ys.length ≤ 1000) (S : Sto) : vmt joinW (.da (.str "")) [.da (.lst (ys.map .str))] S = .ok (.da (.str (Str.join "" ys))) S := by
  have e : (ys.map D.str).map W.da = ys.map (fun s => W.da (.str s)) := by simp [Function.comp_def]
  have z : ("" : Str).length = 0 := by decide +kernel
  unfold vmt joinW
  simp only [seqW, e, strsW_map]
  rw [ifc_pos (by rw [sum_one ys h, z]; omega), TL.join_eq]
  rfl
theorem dats_strs (ys : List Str) : dats (ys.map (fun s => W.da (.str s))) = some (ys.map .str) := by
  rw [show ys.map (fun s => W.da (.str s)) = (ys.map D.str).map .da by simp [Function.comp_def], dats_da]
abbrev nR (row : List Int) (o3 o4 o5 o6 : Option W) : Rho := [some (.da (.lst (row.map .int))), some (.da (.str abc)), some (.lo 0), o3, o4, o5, o6, none]
abbrev nW (s : Str) : W := .da (.str s)
theorem names_body (row : List Int) (h : Drawn 18 row) (k : Int) (h0 : 0 ≤ k) (h1 : k < 12) (o4 o5 o6 : Option W) (ns : List Str) (hn : ns.length < 1000) :
    ∃ o4' o5' o6' s, Str.length s ≤ 20 ∧ b_l_names_1 (nR row (some (iW k)) o4 o5 o6) [.lst (ns.map nW)] = .nx (nR row (some (iW k)) o4' o5' o6') [.lst ((ns ++ [s]).map nW)] := by
  obtain ⟨x2, b2, e2⟩ := at_row h 2 (by decide) (by decide)
  obtain ⟨x3, b3, e3⟩ := at_row h 3 (by decide) (by decide)
  obtain ⟨x4, b4, e4⟩ := at_row h 4 (by decide) (by decide)
  obtain ⟨x5, b5, e5⟩ := at_row h (5 + k) (by omega) (by omega)
  obtain ⟨y, hy, ey⟩ : ∃ y : Int, (1 ≤ y ∧ y ≤ 11) ∧ atI [iW 1, iW 3, iW 5, iW 7, iW 9, iW 11] (x2 % 6) = some (iW y) := by
    obtain ⟨y, hy, e⟩ := at_list iW [1, 3, 5, 7, 9, 11] (x2 % 6) (by omega) (by simp; omega)
    refine ⟨y, ?_, e⟩
    simp only [List.mem_cons, List.not_mem_nil, or_false] at hy
    omega
  have m1 := fun S => mul_l k y S (by omega) (by omega)
  have lc : ∀ (z : Int) (o4 o5 o6 : Option W) (S : Sto), 0 ≤ z → z < 8 → lcM (gtName 7) mYes e_l_names_0 (nR row (some (iW k)) o4 o5 o6) (intsW 0 z.toNat) [] S = .ok (((intsL 0 z.toNat).map (fun a => letS ((x3 + a * x4) % 26))).map nW) S := fun z o4 o5 o6 S z0 z8 => by
    rw [ints_map]
    refine lc_map iW nW (fun a => letS ((x3 + a * x4) % 26)) (intsL 0 z.toNat) (by rw [len_intsL]; omega) fun a ha => ⟨_, rfl, ?_⟩
    have m2 := fun S => mul_r a x4 S (by omega) (by omega)
    unfold e_l_names_0
    simp_arith [e3, e4, m2, let_ok ((x3 + a * x4) % 26) (by omega) (by omega)]
  have rg : ∀ z : Int, 0 ≤ z → z < 8 → rng1 [iW z] = some (0, z.toNat) := fun z z0 z8 => rng1_ok z z0 (by omega)
  have dl : ∀ z : Int, dats (((intsL 0 z.toNat).map (fun a => letS ((x3 + a * x4) % 26))).map nW) = some (((intsL 0 z.toNat).map (fun a => letS ((x3 + a * x4) % 26))).map .str) := fun z => dats_strs _
  have one : ∀ z : Int, ∀ s ∈ (intsL 0 z.toNat).map (fun a => letS ((x3 + a * x4) % 26)), Str.length s = 1 := fun z s hs => by
    obtain ⟨a, _, rfl⟩ := List.mem_map.mp hs
    rfl
  have jl : ∀ z : Int, 0 ≤ z → z < 8 → (Str.join "" ((intsL 0 z.toNat).map (fun a => letS ((x3 + a * x4) % 26)))).length ≤ 8 := fun z z0 z8 => by
    rw [join0_len _ (one z), List.length_map, len_intsL]
    omega
  have jo : ∀ (z : Int) (S : Sto), z < 8 → vmt joinW (.da (.str "")) [.da (.lst (((intsL 0 z.toNat).map (fun a => letS ((x3 + a * x4) % 26))).map .str))] S = .ok (.da (.str (Str.join "" ((intsL 0 z.toNat).map (fun a => letS ((x3 + a * x4) % 26)))))) S := fun z S z8 => join0_ok _ (one z) (by rw [List.length_map, len_intsL]; omega) S
  obtain ⟨own, ho, eo⟩ : ∃ own : Str, own.length = 1 ∧ ∀ S, vl2 ixW (.da (.str abc)) (.da (.int ((k * y + x3) % 26))) S = .ok (.da (.str own)) S := ⟨_, rfl, fun S => let_ok _ (by omega) (by omega) S⟩
  have fin : ∀ (z : Int), 0 ≤ z → z < 8 → ∃ (rest : Str) (ds : List D), rest.length ≤ 8 ∧ (∀ S : Sto, vmt joinW (.da (.str "")) [.da (.lst ds)] S = .ok (.da (.str rest)) S) ∧ ∀ (o4 o5 o6 : Option W) (S : Sto), (lcM (gtName 7) mYes e_l_names_0 (nR row (some (iW k)) o4 o5 o6) (intsW 0 z.toNat) [] S).bind (mkLst mkD) = .ok (.da (.lst ds)) S := fun z z0 z8 => by
    refine ⟨_, _, jl z z0 z8, fun S => jo z S z8, fun o4 o5 o6 S => ?_⟩
    rw [lc z o4 o5 o6 S z0 z8]
    simp only [Rs.bind, mkLst, mkD, datC, dl, Option.map]
  have pick : ∀ z : Int, 0 ≤ z → z < 8 → (if x4 % 2 = 1 then x5 % 8 else x4 / 4 % 8) = z → ∃ o4' o5' o6' s, Str.length s ≤ 20 ∧ b_l_names_1 (nR row (some (iW k)) o4 o5 o6) [.lst (ns.map nW)] = .nx (nR row (some (iW k)) o4' o5' o6') [.lst ((ns ++ [s]).map nW)] := fun z z0 z8 hz => by
    obtain ⟨rest, ds, hr, ej, er⟩ := fin z z0 z8
    by_cases q : x4 % 2 = 1
    · rw [if_pos q] at hz
      by_cases q2 : x4 / 2 % 2 = 1
      · exact ⟨_, _, _, own ++ rest, by rw [str_len_append]; omega, by
          unfold b_l_names_1
          simp_arith [e2, e3, e4, e5, ey, m1, eo, q, hz, rg z z0 z8, er, ej, q2, add_ss own rest _ (sz_le (by omega)), sz_lt (show ns.length < 100000 by omega), List.map_append]
          rfl⟩
      · exact ⟨_, _, _, rest ++ own, by rw [str_len_append]; omega, by
          unfold b_l_names_1
          simp_arith [e2, e3, e4, e5, ey, m1, eo, q, hz, rg z z0 z8, er, ej, q2, add_ss rest own _ (sz_le (by omega)), sz_lt (show ns.length < 100000 by omega), List.map_append]
          rfl⟩
    · rw [if_neg q] at hz
      by_cases q2 : x4 / 2 % 2 = 1
      · exact ⟨_, _, _, own ++ rest, by rw [str_len_append]; omega, by
          unfold b_l_names_1
          simp_arith [e2, e3, e4, e5, ey, m1, eo, q, hz, rg z z0 z8, er, ej, q2, add_ss own rest _ (sz_le (by omega)), sz_lt (show ns.length < 100000 by omega), List.map_append]
          rfl⟩
      · exact ⟨_, _, _, rest ++ own, by rw [str_len_append]; omega, by
          unfold b_l_names_1
          simp_arith [e2, e3, e4, e5, ey, m1, eo, q, hz, rg z z0 z8, er, ej, q2, add_ss rest own _ (sz_le (by omega)), sz_lt (show ns.length < 100000 by omega), List.map_append]
          rfl⟩
  exact pick _ (by split <;> omega) (by split <;> omega) rfl
theorem names_ok (row : List Int) (h : Drawn 18 row) : ∃ ns : List Str, 1 ≤ ns.length ∧ ns.length ≤ 12 ∧ (∀ s ∈ ns, s.length ≤ 20) ∧ p_l_names [.lst (row.map .int)] = .ok (.lst (ns.map .str)) := by
  obtain ⟨x1, b1, e1⟩ := at_row h 1 (by decide) (by decide)
  obtain ⟨y, hy, ey⟩ : ∃ y : Int, (1 ≤ y ∧ y ≤ 12) ∧ atI [iW 2, iW 3, iW 3, iW 4, iW 4, iW 5, iW 6, iW 7, iW 12, iW 1] (x1 % 10) = some (iW y) := by
    obtain ⟨y, hy, e⟩ := at_list iW [2, 3, 3, 4, 4, 5, 6, 7, 12, 1] (x1 % 10) (by omega) (by simp; omega)
    refine ⟨y, ?_, e⟩
    simp only [List.mem_cons, List.not_mem_nil, or_false] at hy
    omega
  obtain ⟨ρ', S', el, o3, o4, o5, o6, ns, e2, e3, hs, hz⟩ := loop_all (g := gtName 3) (b := b_l_names_1) iW (fun dn ρ S => ∃ o3 o4 o5 o6 ns, ρ = nR row o3 o4 o5 o6 ∧ S = [.lst (ns.map nW)] ∧ (∀ s ∈ ns, Str.length s ≤ 20) ∧ ns.length = dn.length) (intsL 0 y.toNat) [] (nR row none none none none) [.lst []]
    (by
      intro dn k r ρ S e ⟨o3, o4, o5, o6, ns, e2, e3, hs, hz⟩
      subst e2 e3
      have hk : k ∈ intsL 0 y.toNat := by
        rw [show intsL 0 y.toNat = dn ++ k :: r from e]
        simp
      have hk' := (mem_intsL _ _ _).mp hk
      have hlen := congrArg List.length e
      simp only [List.nil_append, List.length_append, List.length_cons, len_intsL] at hlen
      obtain ⟨p4, p5, p6, s, h1, h2⟩ := names_body row h k (by omega) (by omega) o4 o5 o6 ns (by omega)
      refine ⟨_, rfl, _, _, .inl h2, _, p4, p5, p6, ns ++ [s], rfl, rfl, ?_, by simp [hz]⟩
      intro x hx
      rcases List.mem_append.mp hx with hx | hx
      · exact hs x hx
      · simp at hx; subst hx; exact h1)
    ⟨none, none, none, none, [], rfl, rfl, by simp, rfl⟩
  subst e2 e3
  simp only [List.nil_append, len_intsL] at hz
  rw [← ints_map] at el
  refine ⟨ns, by omega, by omega, hs, ?_⟩
  have fz : datW 5 [Cell.lst (ns.map nW)] (.lo 0) = some (.lst (ns.map .str), [.dead]) := datW_lst 4 0 _ (ns.map .str) (by simp [Function.comp_def])
  have r1 : rng1 [iW y] = some (0, y.toNat) := rng1_ok y (by omega) (by omega)
  refine runP_ok (S := [.dead]) rfl ?_
  unfold m_l_names
  simp_arith [e1, ey, r1, el, fz]
/-! ### webs of ties -/
structure Tie where
  num : Int
  one : Str
  other : Str
  mo : Mo
abbrev tieL (t : Tie) : List D := [.int t.num, .str t.one, .str t.other, moD t.mo]
abbrev tieD (t : Tie) : D := .tup (tieL t)
abbrev tieW (t : Tie) : W := .da (tieD t)
structure Web (names : List Str) (ties : List Tie) : Prop where
  few : ties.length ≤ 16
  ok : ∀ t ∈ ties, t.one ∈ names ∧ t.other ∈ names ∧ t.one ≠ t.other ∧ okM t.mo ∧ 1 ≤ t.num ∧ t.num ≤ 1009
  nums : ties.Pairwise fun a b => a.num ≠ b.num
theorem at_strs (xs : List Str) (i : Int) (h0 : 0 ≤ i) (h1 : i < xs.length) : ∃ x ∈ xs, atI (xs.map (W.da ∘ D.str)) i = some (.da (.str x)) := at_list (W.da ∘ D.str) xs i h0 h1
theorem num_inj (s c i j : Int) (hs : s = 1 ∨ s = 5 ∨ s = 100 ∨ s = 1008 ∨ s = 503) (hi : 0 ≤ i) (hij : i < j) (hj : j < 17) : 1 + (i * s + c) % 1009 ≠ 1 + (j * s + c) % 1009 := by
  rcases hs with rfl | rfl | rfl | rfl | rfl <;> omega
abbrev wR (ns row : List Int) (names : List Str) (o4 o5 o6 o7 o8 : Option W) : Rho := [some (.da (.scr (ns.map .int))), some (.da (.lst (row.map .int))), some (.da (.lst (names.map .str))), some (.lo 0), o4, o5, o6, o7, o8]
theorem web_body (ns row : List Int) (hn : ns.length ≤ 63) (hrow : Drawn 18 row) (names : List Str) (hl : 1 ≤ names.length) (s c : Int) (hs : s = 1 ∨ s = 5 ∨ s = 100 ∨ s = 1008 ∨ s = 503)
    (e16 : atI (row.map (W.da ∘ D.int)) 16 = some (iW c)) (x17 : Int) (e17 : atI (row.map (W.da ∘ D.int)) 17 = some (iW x17)) (es : atI [iW 1, iW 5, iW 100, iW 1008, iW 503] (x17 % 5) = some (iW s))
    (k : Int) (h0 : 0 ≤ k) (h1 : k < 17) (o5 o6 o7 o8 : Option W) (ties : List Tie) (ht : ties.length < 1000) :
    ∃ o5' o6' o7' o8' ties', (ties' = ties ∨ ∃ t : Tie, ties' = ties ++ [t] ∧ t.num = 1 + (k * s + c) % 1009 ∧ t.one ∈ names ∧ t.other ∈ names ∧ t.one ≠ t.other ∧ okM t.mo) ∧
      b_l_web_0 (wR ns row names (some (iW k)) o5 o6 o7 o8) [.lst (ties.map tieW)] = .nx (wR ns row names (some (iW k)) o5' o6' o7' o8') [.lst (ties'.map tieW)] := by
  obtain ⟨r, hr, ed⟩ := draws_ok ns (1 + k) 8 (by omega) (by omega) (by decide) (by decide) (by omega)
  obtain ⟨y0, b0, e0⟩ := at_row hr 0 (by decide) (by decide)
  obtain ⟨y1, b1, e1⟩ := at_row hr 1 (by decide) (by decide)
  obtain ⟨y2, b2, e2⟩ := at_row hr 2 (by decide) (by decide)
  obtain ⟨y3, b3, e3⟩ := at_row hr (2 + 1) (by decide) (by decide)
  obtain ⟨y4, b4, e4⟩ := at_row hr (2 + 2) (by decide) (by decide)
  obtain ⟨y5, b5, e5⟩ := at_row hr (2 + 3) (by decide) (by decide)
  obtain ⟨y6, b6, e6⟩ := at_row hr (2 + 4) (by decide) (by decide)
  obtain ⟨y7, b7, e7⟩ := at_row hr 7 (by decide) (by decide)
  obtain ⟨m, hm, em⟩ := l_motion_at y2 y3 y4 y5 y6 (r.map .int) 2 (by rw [List.map_map]; exact e2) (by rw [List.map_map]; exact e3) (by rw [List.map_map]; exact e4) (by rw [List.map_map]; exact e5) (by rw [List.map_map]; exact e6) b3 b4 b5 b6
  have hp : (0 : Int) < (names.length : Int) := by omega
  have rng : ∀ z : Int, 0 ≤ z % (names.length : Int) ∧ z % (names.length : Int) < names.length := fun z => ⟨Int.emod_nonneg _ (by omega), Int.emod_lt_of_pos _ hp⟩
  have md := fun z S => mod_ok z (names.length : Int) S hp
  obtain ⟨n0, hn0, en0⟩ := at_strs names (y0 % names.length) (rng _).1 (rng _).2
  obtain ⟨n1, hn1, en1⟩ := at_strs names (y1 % names.length) (rng _).1 (rng _).2
  obtain ⟨n2, hn2, en2⟩ := at_strs names (k % names.length) (rng _).1 (rng _).2
  obtain ⟨n3, hn3, en3⟩ := at_strs names ((k + 1) % names.length) (rng _).1 (rng _).2
  have mk := fun S => mul_l k s S (by omega) (by omega)
  by_cases q : y7 % 3 = 0
  · by_cases q2 : n2 = n3
    · subst q2
      exact ⟨_, _, _, _, ties, .inl rfl, by
        unfold b_l_web_0
        simp_arith [ed, e0, e1, e7, md, en0, en1, q, en2, en3, e16, e17, es, mk]
        rfl⟩
    · exact ⟨_, _, _, _, ties ++ [⟨1 + (k * s + c) % 1009, n2, n3, m⟩], .inr ⟨_, rfl, rfl, hn2, hn3, q2, hm⟩, by
        unfold b_l_web_0
        simp_arith [ed, e0, e1, e7, md, en0, en1, q, en2, en3, e16, e17, es, mk, q2, em, sz_lt (show ties.length < 100000 by omega), List.map_append]
        rfl⟩
  · by_cases q2 : n0 = n1
    · subst q2
      exact ⟨_, _, _, _, ties, .inl rfl, by
        unfold b_l_web_0
        simp_arith [ed, e0, e1, e7, md, en0, en1, q, e16, e17, es, mk]
        rfl⟩
    · exact ⟨_, _, _, _, ties ++ [⟨1 + (k * s + c) % 1009, n0, n1, m⟩], .inr ⟨_, rfl, rfl, hn0, hn1, q2, hm⟩, by
        unfold b_l_web_0
        simp_arith [ed, e0, e1, e7, md, en0, en1, q, e16, e17, es, mk, q2, em, sz_lt (show ties.length < 100000 by omega), List.map_append]
        rfl⟩
theorem web_ok (ns : List Int) (hn : ns.length ≤ 63) : ∃ (row : List Int) (names : List Str) (ties : List Tie), Drawn 18 row ∧ 1 ≤ names.length ∧ names.length ≤ 12 ∧ (∀ s ∈ names, s.length ≤ 20) ∧ Web names ties ∧
    p_l_draws [.scr (ns.map .int), .int 0, .int 18] = .ok (.lst (row.map .int)) ∧ p_l_names [.lst (row.map .int)] = .ok (.lst (names.map .str)) ∧ p_l_web [.scr (ns.map .int)] = .ok (.lst (ties.map tieD)) := by
  obtain ⟨row, hrow, ed⟩ := draws_ok ns 0 18 (by decide) (by decide) (by decide) (by decide) (by omega)
  have hrow : Drawn 18 row := hrow
  obtain ⟨names, l1, l12, hs, en⟩ := names_ok row hrow
  obtain ⟨x0, b0, e0⟩ := at_row hrow 0 (by decide) (by decide)
  obtain ⟨c, b16, e16⟩ := at_row hrow 16 (by decide) (by decide)
  obtain ⟨x17, b17, e17⟩ := at_row hrow 17 (by decide) (by decide)
  obtain ⟨s, hs', es⟩ : ∃ s : Int, (s = 1 ∨ s = 5 ∨ s = 100 ∨ s = 1008 ∨ s = 503) ∧ atI [iW 1, iW 5, iW 100, iW 1008, iW 503] (x17 % 5) = some (iW s) := by
    obtain ⟨y, hy, e⟩ := at_list iW [1, 5, 100, 1008, 503] (x17 % 5) (by omega) (by simp; omega)
    refine ⟨y, ?_, e⟩
    simpa only [List.mem_cons, List.not_mem_nil, or_false] using hy
  obtain ⟨ρ', S', el, o4, o5, o6, o7, o8, ties, e2, e3, hz, ho, hp⟩ := loop_all (g := gtName 4) (b := b_l_web_0) iW (fun dn ρ S => ∃ o4 o5 o6 o7 o8 ties, ρ = wR ns row names o4 o5 o6 o7 o8 ∧ S = [.lst (ties.map tieW)] ∧ ties.length ≤ dn.length ∧ (∀ t ∈ ties, t.one ∈ names ∧ t.other ∈ names ∧ t.one ≠ t.other ∧ okM t.mo ∧ ∃ j : Int, j ∈ dn ∧ t.num = 1 + (j * s + c) % 1009) ∧ ties.Pairwise (fun a b => a.num ≠ b.num)) (intsL 0 (x0 % 17).toNat) [] (wR ns row names none none none none none) [.lst []]
    (by
      intro dn k r ρ S e ⟨o4, o5, o6, o7, o8, ties, e2, e3, hz, ho, hp⟩
      subst e2 e3
      have hk : k ∈ intsL 0 (x0 % 17).toNat := by
        rw [show intsL 0 (x0 % 17).toNat = dn ++ k :: r from e]
        simp
      have hk' := (mem_intsL _ _ _).mp hk
      have hlen := congrArg List.length e
      simp only [List.nil_append, List.length_append, List.length_cons, len_intsL] at hlen
      have srt : ∀ (n : Nat) (lo : Int) (a b : List Int) (x : Int), intsL lo n = a ++ x :: b → ∀ j ∈ a, lo ≤ j ∧ j < x := by
        intro n
        induction n with
        | zero => intro lo a b x h; cases a <;> simp [intsL] at h
        | succ n ih =>
          intro lo a b x h j hj
          cases a with
          | nil => cases hj
          | cons a0 a =>
            simp only [intsL, List.cons_append, List.cons.injEq] at h
            obtain ⟨rfl, h⟩ := h
            have hx : x ∈ intsL (lo + 1) n := by rw [h]; simp
            have hx' := (mem_intsL _ _ _).mp hx
            rcases List.mem_cons.mp hj with rfl | hj
            · omega
            · have := ih (lo + 1) a b x h j hj
              omega
      obtain ⟨p5, p6, p7, p8, ties', ht', hb⟩ := web_body ns row hn hrow names l1 s c hs' e16 x17 e17 es k (by omega) (by omega) o5 o6 o7 o8 ties (by omega)
      refine ⟨_, rfl, _, _, .inl hb, _, p5, p6, p7, p8, ties', rfl, rfl, ?_⟩
      rcases ht' with rfl | ⟨t, rfl, t1, t2, t3, t4, t5⟩
      · refine ⟨by simp; omega, fun t h => ?_, hp⟩
        obtain ⟨a1, a2, a3, a4, j, hj, ej⟩ := ho t h
        exact ⟨a1, a2, a3, a4, j, by simp [hj], ej⟩
      · refine ⟨by simp; omega, fun u h => ?_, ?_⟩
        · rcases List.mem_append.mp h with h | h
          · obtain ⟨a1, a2, a3, a4, j, hj, ej⟩ := ho u h
            exact ⟨a1, a2, a3, a4, j, by simp [hj], ej⟩
          · simp only [List.mem_singleton] at h
            subst h
            exact ⟨t2, t3, t4, t5, k, by simp, t1⟩
        · rw [List.pairwise_append]
          refine ⟨hp, by simp, fun u hu v hv => ?_⟩
          simp only [List.mem_singleton] at hv
          subst hv
          obtain ⟨_, _, _, _, j, hj, ej⟩ := ho u hu
          have := srt _ _ _ _ _ (show intsL 0 (x0 % 17).toNat = dn ++ k :: r from e) j hj
          rw [ej, t1]
          exact num_inj s c j k hs' this.1 this.2 (by omega))
    ⟨none, none, none, none, none, [], rfl, rfl, by simp, by simp, by simp⟩
  subst e2 e3
  simp only [List.nil_append, len_intsL] at hz ho
  rw [← ints_map] at el
  refine ⟨row, names, ties, hrow, l1, l12, hs, ⟨by omega, fun t h => ?_, hp⟩, ed, en, ?_⟩
  · obtain ⟨a1, a2, a3, a4, j, hj, ej⟩ := ho t h
    exact ⟨a1, a2, a3, a4, by omega, by omega⟩
  · have fz : datW 5 [Cell.lst (ties.map tieW)] (.lo 0) = some (.lst (ties.map tieD), [.dead]) := datW_lst 4 0 _ (ties.map tieD) (by simp [Function.comp_def])
    have r1 : rng1 [iW (x0 % 17)] = some (0, (x0 % 17).toNat) := rng1_ok _ (by omega) (by omega)
    refine runP_ok (S := [.dead]) rfl ?_
    unfold m_l_web
    simp_arith [ed, en, e0, r1, el, fz]
/-! ### the end of a tie -/
def endT (t : Tie) (n : Str) : Option Str := if t.one = n then some t.other else if t.other = n then some t.one else none
def oD : Option Str → D
  | some s => .str s
  | none => .non
theorem l_end_ok (t : Tie) (n : Str) : p_l_end [tieD t, .str n] = .ok (oD (endT t n)) := by
  unfold p_l_end m_l_end endT
  by_cases h : t.one = n
  · simp_arith [h]
    rfl
  · by_cases h2 : t.other = n
    · simp_arith [h, h2]
      rfl
    · simp_arith [h, h2]
      rfl
/-! ### dicts, as data -/
theorem datW_dk (k n : Nat) (S : Sto) (kds : List (Key × D)) (h : S[n]? = some (.dk (kds.map fun q => (q.1, W.da q.2)))) : datW (k + 1) S (.lo n) = some (.dk (kds.map (·.1)) (kds.map (·.2)), S.set n .dead) := by
  unfold datW
  have e : ((kds.map fun q => (q.1, W.da q.2)).map (·.2)) = (kds.map (·.2)).map .da := by simp [Function.comp_def]
  simp only [h, e, datWs_da]
  simp [Function.comp_def]
def lookD {κ : Type} [DecidableEq κ] : List (κ × D) → κ → Option D
  | [], _ => none
  | (k, w) :: r, j => if k = j then some w else lookD r j
theorem look_map {κ : Type} [DecidableEq κ] (j : κ) : ∀ kds : List (κ × D), look ((kds.map (·.1)).zip ((kds.map (·.2)).map W.da)) j = (lookD kds j).map .da
  | [] => rfl
  | (k, d) :: r => by
    simp only [List.map_cons, List.zip_cons_cons, look, lookD, look_map j r]
    split <;> rfl
theorem look_cell {κ : Type} [DecidableEq κ] (j : κ) : ∀ kds : List (κ × D), look (kds.map fun q => (q.1, W.da q.2)) j = (lookD kds j).map .da
  | [] => rfl
  | (k, d) :: r => by
    simp only [List.map_cons, look, lookD, look_cell j r]
    split <;> rfl
theorem dk_get (kds : List (Key × D)) (w : W) (j : Key) (hw : keyW w = some j) (S : Sto) : dget (.da (.dk (kds.map (·.1)) (kds.map (·.2)))) w S = some ((lookD kds j).map .da) := by
  unfold dget
  simp only [dkW, hw, Option.map, look_map]
theorem dk_ix (kds : List (Key × D)) (w : W) (j : Key) (d : D) (hw : keyW w = some j) (h : lookD kds j = some d) (S : Sto) : vl2 ixW (.da (.dk (kds.map (·.1)) (kds.map (·.2)))) w S = .ok (.da d) S := by
  unfold vl2 ixW
  simp only [seqW, dk_get kds w j hw, h, Option.map, lift]
theorem dk_in (kds : List (Key × D)) (w : W) (j : Key) (hw : keyW w = some j) (S : Sto) : vl2 inW w (.da (.dk (kds.map (·.1)) (kds.map (·.2)))) S = .ok (.da (.bl (lookD kds j).isSome)) S := by
  unfold vl2 inW inB
  rw [dk_get kds w j hw]
  cases lookD kds j <;> rfl
theorem dk_notin (kds : List (Key × D)) (w : W) (j : Key) (hw : keyW w = some j) (S : Sto) : vl2 notinW w (.da (.dk (kds.map (·.1)) (kds.map (·.2)))) S = .ok (.da (.bl (!(lookD kds j).isSome))) S := by
  unfold vl2 notinW inB
  rw [dk_get kds w j hw]
  cases lookD kds j <;> rfl
theorem put_new {κ : Type} [DecidableEq κ] (kws : List (κ × W)) (k : κ) (w : W) (h : ∀ q ∈ kws, q.1 ≠ k) : putW kws k w = kws ++ [(k, w)] := by
  unfold putW
  rw [if_neg]
  rw [List.any_eq_true]
  intro ⟨q, hq, e⟩
  exact h q hq (of_decide_eq_true e)
/-! ### a step, a walk -/
def stepT (t : Tie) (n : Str) : Option (Str × Mo) := if t.one = n then some (t.other, t.mo) else if t.other = n then some (t.one, bkM t.mo) else none
def stepD : Option (Str × Mo) → D
  | some (s, m) => .tup [.str s, moD m]
  | none => .non
theorem step_ok (t : Tie) (n : Str) (h : okM t.mo) : p_step [tieD t, .str n] = .ok (stepD (stepT t n)) := by
  have hb := back_mo t.mo (moD t.mo) (.inl rfl) h
  unfold p_step m_step stepT
  by_cases h1 : t.one = n
  · simp_arith [h1]
    rfl
  · by_cases h2 : t.other = n
    · simp_arith [h1, h2, hb]
      rfl
    · simp_arith [h1, h2]
      rfl
theorem stepT_ok {t : Tie} {n s : Str} {m : Mo} (h : okM t.mo) (e : stepT t n = some (s, m)) : okM m := by
  unfold stepT at e
  split at e
  · cases e; exact h
  · split at e
    · cases e; exact ok_bk h
    · cases e
theorem step_end (t : Tie) (n : Str) : (stepT t n).map (·.1) = endT t n := by
  unfold stepT endT
  split
  · rfl
  · split <;> rfl
def findT (ties : List Tie) (k : Int) : Option Tie := ties.find? fun t => decide (t.num = k)
def walkP (ties : List Tie) : List Int → Str → Mo → Option (Str × Mo)
  | [], n, f => some (n, f)
  | k :: r, n, f => match findT ties k with
    | none => none
    | some t => match stepT t n with
      | none => none
      | some (n', m) => walkP ties r n' (bh m f)
theorem find_mem {ties : List Tie} {k : Int} {t : Tie} (h : findT ties k = some t) : t ∈ ties := List.mem_of_find?_eq_some h
/-! ### the law's own walk -/
abbrev vR (ties : List Tie) (ch : D) (st : Str) (o3 o4 o5 o6 o7 : Option W) : Rho := [some (.da (.lst (ties.map tieD))), some (.da ch), some (nW st), o3, o4, o5, o6, o7, none]
theorem dats_ties (xs : List Tie) : dats (xs.map tieW) = some (xs.map tieD) := by
  rw [show xs.map tieW = (xs.map tieD).map .da by simp [Function.comp_def], dats_da]
theorem find_filter (k : Int) : ∀ ties : List Tie, (findT ties k = none ∧ ties.filter (fun t => decide (t.num = k)) = []) ∨ ∃ t r, findT ties k = some t ∧ ties.filter (fun t => decide (t.num = k)) = t :: r
  | [] => .inl ⟨rfl, rfl⟩
  | t :: ties => by
    by_cases h : t.num = k
    · refine .inr ⟨t, ties.filter (fun t => decide (t.num = k)), ?_, ?_⟩
      · simp [findT, h]
      · simp [h]
    · rcases find_filter k ties with ⟨a, b⟩ | ⟨u, r, a, b⟩
      · exact .inl ⟨by simpa [findT, h] using a, by simpa [h] using b⟩
      · exact .inr ⟨u, r, by simpa [findT, h] using a, by simpa [h] using b⟩
theorem dec_decide (p : Prop) [Decidable p] : dec p = decide p := by
  by_cases h : p
  · rw [dec_pos h, decide_eq_true h]
  · rw [dec_neg h, decide_eq_false h]
theorem num_lc (ties : List Tie) (hl : ties.length ≤ 1000) (ch : D) (st : Str) (o3 o4 o6 o7 : Option W) (k : Int) (S : Sto) : lcM (gtName 8) t_l_walked_0 e_l_walked_1 (vR ties ch st o3 o4 (some (iW k)) o6 o7) (ties.map tieW) [] S = .ok ((ties.filter (fun t => decide (t.num = k))).map tieW) S := by
  refine lc_filter tieW (fun t => decide (t.num = k)) ties (by omega) fun t _ => ⟨_, rfl, ?_, fun _ => ?_⟩
  · unfold t_l_walked_0
    simp_arith [dec_decide]
  · unfold e_l_walked_1
    simp_arith []
theorem walked_loop (ties : List Tie) (hl : ties.length ≤ 1000) (ok : ∀ t ∈ ties, okM t.mo ∧ t.one ≠ t.other) (ch : D) (st : Str) (S : Sto) : ∀ (ks : List Int) (n : Str) (f : Mo) (o5 o6 o7 : Option W), okM f →
    (∃ n' f' o5' o6' o7', walkP ties ks n f = some (n', f') ∧ loopM (gtName 5) b_l_walked_2 (ks.map iW) (vR ties ch st (some (nW n)) (some (.da (moD f))) o5 o6 o7) S = .nx (vR ties ch st (some (nW n')) (some (.da (moD f'))) o5' o6' o7') S) ∨
    (walkP ties ks n f = none ∧ loopM (gtName 5) b_l_walked_2 (ks.map iW) (vR ties ch st (some (nW n)) (some (.da (moD f))) o5 o6 o7) S = .rt (.da .non) S)
  | [], n, f, o5, o6, o7, hf => .inl ⟨n, f, o5, o6, o7, rfl, rfl⟩
  | k :: ks, n, f, o5, o6, o7, hf => by
    have lc := num_lc ties hl ch st (some (nW n)) (some (.da (moD f))) o6 o7 k S
    have m1 : List.map (W.da ∘ tieD) ties = ties.map tieW := rfl
    simp only [List.map_cons, loopM, walkP]
    rcases find_filter k ties with ⟨a, b⟩ | ⟨t, r, a, b⟩
    · rw [b] at lc
      have e1 : b_l_walked_2 (vR ties ch st (some (nW n)) (some (.da (moD f))) (some (iW k)) o6 o7) S = .rt (.da .non) S := by
        unfold b_l_walked_2
        simp_arith []
        rw [m1]
        simp_arith [lc, dats_ties]
      rw [a]
      simp_arith [e1]
    · rw [b] at lc
      have ht := ok t (find_mem a)
      have en := l_end_ok t n
      have se := step_end t n
      rw [a]
      cases hs : stepT t n with
      | none =>
        rw [hs] at se
        rw [← se] at en
        simp only [Option.map, oD] at en
        have e1 : b_l_walked_2 (vR ties ch st (some (nW n)) (some (.da (moD f))) (some (iW k)) o6 o7) S = .rt (.da .non) S := by
          unfold b_l_walked_2
          simp_arith []
          rw [m1]
          simp_arith [lc, dats_ties, en]
        simp_arith [e1, hs]
      | some p =>
        obtain ⟨n', m⟩ := p
        rw [hs] at se
        rw [← se] at en
        simp only [Option.map, oD] at en
        have hb := l_behind_mo m f (moD m) (moD f) (.inl rfl) (.inl rfl) hf
        have e1 : ∃ o6' o7', b_l_walked_2 (vR ties ch st (some (nW n)) (some (.da (moD f))) (some (iW k)) o6 o7) S = .nx (vR ties ch st (some (nW n')) (some (.da (moD (bh m f)))) (some (iW k)) o6' o7') S := by
          unfold stepT at hs
          by_cases h1 : t.one = n
          · rw [if_pos h1] at hs
            cases hs
            have h2 : ¬ t.other = n := fun z => ht.2 (h1.trans z.symm)
            exact ⟨_, _, by
              unfold b_l_walked_2
              simp_arith []
              rw [m1]
              simp_arith [lc, dats_ties, en, h2, hb]
              rfl⟩
          · rw [if_neg h1] at hs
            by_cases h2 : t.other = n
            · rw [if_pos h2] at hs
              cases hs
              have bk := l_back_mo t.mo (moD t.mo) (.inl rfl) ht.1
              exact ⟨_, _, by
                unfold b_l_walked_2
                simp_arith []
                rw [m1]
                simp_arith [lc, dats_ties, en, h2, bk, hb]
                rfl⟩
            · rw [if_neg h2] at hs; cases hs
        obtain ⟨o6', o7', e1⟩ := e1
        have ih := walked_loop ties hl ok ch st S ks n' (bh m f) (some (iW k)) o6' o7' (ok_bh _ _)
        simp_arith [e1, hs]
        exact ih
def walkD : Option (Str × Mo) → D
  | some (s, m) => .tup [.str s, moD m]
  | none => .non
theorem walked_ok (names : List Str) (ties : List Tie) (hw : Web names ties) (ks : List Int) (st : Str) : p_l_walked [.lst (ties.map tieD), .lst (ks.map .int), .str st] = .ok (walkD (walkP ties ks st still)) := by
  have few := hw.few
  have e2 := walked_loop ties (by omega) (fun t h => ⟨(hw.ok t h).2.2.2.1, (hw.ok t h).2.2.1⟩) (.lst (ks.map .int)) st [] ks st still none none none ok_still
  have m2 : List.map (W.da ∘ D.int) ks = ks.map iW := rfl
  rcases e2 with ⟨n', f', o5, o6, o7, w1, e2⟩ | ⟨w1, e2⟩
  · rw [w1]
    refine runP_ok (S := []) rfl ?_
    unfold m_l_walked
    simp_arith []
    rw [m2]
    have e2' : loopM (gtName 5) b_l_walked_2 (ks.map iW) [some (.da (.lst (ties.map tieD))), some (.da (.lst (ks.map .int))), some (nW st), some (nW st), some (.da (.tup [.int 0, .int 0, .int 0])), none, none, none, none] [] = .nx (vR ties (.lst (ks.map .int)) st (some (nW n')) (some (.da (moD f'))) o5 o6 o7) [] := e2
    simp_arith [e2']
    rfl
  · rw [w1]
    refine runP_ok (S := []) rfl ?_
    unfold m_l_walked
    simp_arith []
    rw [m2]
    have e2' : loopM (gtName 5) b_l_walked_2 (ks.map iW) [some (.da (.lst (ties.map tieD))), some (.da (.lst (ks.map .int))), some (nW st), some (nW st), some (.da (.tup [.int 0, .int 0, .int 0])), none, none, none, none] [] = .rt (.da .non) [] := e2
    simp_arith [e2']
    rfl
theorem gd_int (n : Nat) (i : Int) : Gd (n + 1) (.int i) := .inl rfl
theorem gd_str (n : Nat) (i : Str) : Gd (n + 1) (.str i) := .inl rfl
theorem gd_mo (n : Nat) (m : Mo) : Gd (n + 2) (moD m) := .inr ⟨true, _, rfl, by show 3 ≤ 100000; omega, fun x hx => by
  simp only [moL, List.mem_cons, List.not_mem_nil, or_false] at hx
  rcases hx with rfl | rfl | rfl <;> exact gd_int _ _⟩
theorem gd_tie (n : Nat) (t : Tie) : Gd (n + 3) (tieD t) := .inr ⟨true, _, rfl, by show 4 ≤ 100000; omega, fun x hx => by
  simp only [tieL, List.mem_cons, List.not_mem_nil, or_false] at hx
  rcases hx with rfl | rfl | rfl | rfl
  · exact gd_int _ _
  · exact gd_str _ _
  · exact gd_str _ _
  · exact gd_mo _ _⟩
theorem sm_mo {n : Nat} {d : D} {m : Mo} (h : IsMo d m) : Sm (n + 2) d (moD m) := by
  have hh : ∀ (i : Nat) (x y : D), (moL m)[i]? = some x → (moL m)[i]? = some y → Sm (n + 1) x y := fun i x y h1 h2 => by
    rw [h1] at h2
    cases h2
    have hm := List.mem_of_getElem? h1
    simp only [moL, List.mem_cons, List.not_mem_nil, or_false] at hm
    rcases hm with rfl | rfl | rfl <;> exact .inl ⟨rfl, rfl⟩
  rcases h with rfl | rfl <;> exact .inr ⟨true, moL m, moL m, rfl, rfl, rfl, (by show 3 ≤ 100000; omega), hh⟩
/-! ### what chains reach -/
structure Ent where
  n : Str
  ch : List Int
  m : Mo
  d : D
abbrev kE (e : Ent) : Key := .inr e.n
abbrev vE (e : Ent) : D := .tup [.lst (e.ch.map .int), e.d]
abbrev eKW (e : Ent) : Key × W := (kE e, .da (vE e))
def stepE (e : Ent) (es : List Ent) (t : Tie) : List Ent := match stepT t e.n with
  | none => es
  | some (s, mo) => if s ∈ es.map (·.n) then es else es ++ [⟨s, e.ch ++ [t.num], bh mo e.m, moD (bh mo e.m)⟩]
structure Good (names : List Str) (ties : List Tie) (st : Str) (es : List Ent) : Prop where
  walk : ∀ e ∈ es, walkP ties e.ch st still = some (e.n, e.m)
  mo : ∀ e ∈ es, okM e.m ∧ IsMo e.d e.m
  len : ∀ e ∈ es, e.ch.length ≤ es.length
  nd : (es.map (·.n)).Nodup
  sub : ∀ e ∈ es, e.n ∈ names
theorem nodup_le {α : Type} [DecidableEq α] : ∀ {l m : List α}, l.Nodup → (∀ a ∈ l, a ∈ m) → l.length ≤ m.length
  | [], m, _, _ => Nat.zero_le _
  | a :: l, m, nd, h => by
    rw [List.nodup_cons] at nd
    have ha := h a (by simp)
    have := nodup_le (l := l) (m := m.erase a) nd.2 fun b hb => (List.mem_erase_of_ne (fun z => nd.1 (by rw [← z]; exact hb))).mpr (h b (by simp [hb]))
    rw [List.length_erase_of_mem ha] at this
    have : 0 < m.length := List.length_pos_of_mem ha
    simp only [List.length_cons]
    omega
theorem Good.few {names : List Str} {ties : List Tie} {st : Str} {es : List Ent} (g : Good names ties st es) : es.length ≤ names.length := by
  have := nodup_le g.nd (m := names) fun a ha => by
    obtain ⟨e, he, rfl⟩ := List.mem_map.mp ha
    exact g.sub e he
  simpa using this
theorem walk_snoc (ties : List Tie) : ∀ (ch : List Int) (n : Str) (f : Mo) (n' : Str) (f' : Mo) (k : Int) (t : Tie) (s : Str) (mo : Mo), walkP ties ch n f = some (n', f') → findT ties k = some t → stepT t n' = some (s, mo) → walkP ties (ch ++ [k]) n f = some (s, bh mo f')
  | [], n, f, n', f', k, t, s, mo, h, hf, hs => by
    cases h
    simp only [List.nil_append, walkP, hf, hs]
  | c :: ch, n, f, n', f', k, t, s, mo, h, hf, hs => by
    simp only [List.cons_append, walkP] at h ⊢
    cases e1 : findT ties c with
    | none => rw [e1] at h; cases h
    | some u =>
      rw [e1] at h
      simp only at h ⊢
      cases e2 : stepT u n with
      | none => rw [e2] at h; cases h
      | some q =>
        rw [e2] at h
        exact walk_snoc ties ch _ _ n' f' k t s mo h hf hs
theorem find_num {ties : List Tie} (hp : ties.Pairwise fun a b => a.num ≠ b.num) {t : Tie} (ht : t ∈ ties) : findT ties t.num = some t := by
  induction ties with
  | nil => cases ht
  | cons u r ih =>
    rw [List.pairwise_cons] at hp
    unfold findT at ih ⊢
    rw [List.find?_cons]
    rcases List.mem_cons.mp ht with rfl | ht
    · rw [decide_eq_true rfl]
    · rw [decide_eq_false (hp.1 t ht)]
      exact ih hp.2 ht
theorem step_in {names : List Str} {ties : List Tie} (hw : Web names ties) {t : Tie} (ht : t ∈ ties) {n s : Str} {mo : Mo} (h : stepT t n = some (s, mo)) : s ∈ names ∧ okM mo := by
  have o := hw.ok t ht
  refine ⟨?_, stepT_ok o.2.2.2.1 h⟩
  unfold stepT at h
  split at h
  · cases h; exact o.2.1
  · split at h
    · cases h; exact o.1
    · cases h
theorem good_step {names : List Str} {ties : List Tie} (hw : Web names ties) {st : Str} {es : List Ent} (g : Good names ties st es) {e : Ent} (he : e ∈ es) {t : Tie} (ht : t ∈ ties) : Good names ties st (stepE e es t) ∧ es <+: stepE e es t := by
  unfold stepE
  cases hs : stepT t e.n with
  | none => exact ⟨g, List.prefix_refl _⟩
  | some q =>
    obtain ⟨s, mo⟩ := q
    simp only
    by_cases hm : s ∈ es.map (·.n)
    · rw [if_pos hm]; exact ⟨g, List.prefix_refl _⟩
    · rw [if_neg hm]
      obtain ⟨sn, om⟩ := step_in hw ht hs
      refine ⟨⟨fun x hx => ?_, fun x hx => ?_, fun x hx => ?_, ?_, fun x hx => ?_⟩, List.prefix_append _ _⟩
      · rcases List.mem_append.mp hx with hx | hx
        · exact g.walk x hx
        · simp only [List.mem_singleton] at hx
          subst hx
          exact walk_snoc ties e.ch st still e.n e.m t.num t s mo (g.walk e he) (find_num hw.nums ht) hs
      · rcases List.mem_append.mp hx with hx | hx
        · exact g.mo x hx
        · simp only [List.mem_singleton] at hx
          subst hx
          exact ⟨ok_bh _ _, .inl rfl⟩
      · rw [List.length_append]
        rcases List.mem_append.mp hx with hx | hx
        · have := g.len x hx; omega
        · simp only [List.mem_singleton] at hx
          subst hx
          have := g.len e he
          simp only [List.length_append, List.length_cons, List.length_nil]
          omega
      · rw [List.map_append, List.nodup_append]
        refine ⟨g.nd, by simp, fun a ha b hb => ?_⟩
        simp only [List.map_cons, List.map_nil, List.mem_singleton] at hb
        subst hb
        exact fun z => hm (by rw [← z]; exact ha)
      · rcases List.mem_append.mp hx with hx | hx
        · exact g.sub x hx
        · simp only [List.mem_singleton] at hx
          subst hx
          exact sn
theorem good_fold {names : List Str} {ties : List Tie} (hw : Web names ties) {st : Str} {e : Ent} : ∀ (rs : List Tie) {es : List Ent}, (∀ t ∈ rs, t ∈ ties) → Good names ties st es → e ∈ es → Good names ties st (rs.foldl (stepE e) es) ∧ es <+: rs.foldl (stepE e) es
  | [], es, _, g, he => ⟨g, List.prefix_refl _⟩
  | t :: rs, es, h, g, he => by
    obtain ⟨g1, p1⟩ := good_step hw g he (h t (by simp))
    obtain ⟨g2, p2⟩ := good_fold hw rs (fun x hx => h x (by simp [hx])) g1 (p1.subset he)
    exact ⟨g2, p1.trans p2⟩
/-! the loops -/
abbrev rcR (ties rs : List Tie) (st : Str) (o5 o6 o7 o8 o9 o10 : Option W) : Rho := [some (.da (.lst (ties.map tieD))), some (nW st), some (.da (.lst (rs.map tieD))), some (.lo 0), some (.lo 1), o5, o6, o7, o8, o9, o10]
abbrev rcS (es : List Ent) : Sto := [.dk (es.map eKW), .lst (es.map fun e => nW e.n)]
theorem look_ent (s : Str) : ∀ es : List Ent, (look (es.map eKW) (.inr s)).isSome = dec (s ∈ es.map (·.n))
  | [] => by simp [look, dec_neg]
  | e :: es => by
    simp only [List.map_cons, look]
    by_cases h : e.n = s
    · rw [if_pos (congrArg Sum.inr h), dec_pos (by simp [h])]
      rfl
    · rw [if_neg (fun z => h (Sum.inr.inj z)), look_ent s es]
      by_cases h2 : s ∈ es.map (·.n)
      · rw [dec_pos h2, dec_pos (by simp only [List.mem_cons]; exact .inr h2)]
      · rw [dec_neg h2, dec_neg (by simp only [List.mem_cons]; rintro (z | z); exact h z.symm; exact h2 z)]
theorem notin_found (s : Str) (es : List Ent) (c : Cell) : vl2 notinW (nW s) (.lo 0) [.dk (es.map eKW), c] = .ok (.da (.bl (!dec (s ∈ es.map (·.n))))) [.dk (es.map eKW), c] := by
  have h := look_ent s es
  unfold vl2 notinW inB
  simp only [dget, dkW, List.getElem?_cons_zero, keyW, keyD, Option.map]
  rw [← h]
  cases look (es.map eKW) (.inr s) <;> rfl
theorem put_ent (s : Str) (v : D) (es : List Ent) (h : s ∉ es.map (·.n)) : putW (es.map eKW) (.inr s) (.da v) = es.map eKW ++ [(.inr s, .da v)] := by
  rw [put_new]
  intro q hq
  obtain ⟨u, hu, rfl⟩ := List.mem_map.mp hq
  exact fun z => h (List.mem_map.mpr ⟨u, hu, Sum.inr.inj z⟩)
theorem rc_body {names : List Str} {ties : List Tie} (hw : Web names ties) (hn : names.length ≤ 12) {st : Str} {es : List Ent} (g : Good names ties st es) {e : Ent} (he : e ∈ es) {t : Tie} (ht : t ∈ ties) (rs : List Tie) (o5 o10 : Option W) :
    ∃ o, b_reached_0 (rcR ties rs st o5 (some (nW e.n)) (some (tieW t)) (some (.da (.lst (e.ch.map .int)))) (some (.da e.d)) o10) (rcS es) = .nx (rcR ties rs st o5 (some (nW e.n)) (some (tieW t)) (some (.da (.lst (e.ch.map .int)))) (some (.da e.d)) o) (rcS (stepE e es t)) := by
  have o := hw.ok t ht
  have e1 := step_ok t e.n o.2.2.2.1
  have fw := g.few
  unfold stepE
  cases hs : stepT t e.n with
  | none =>
    rw [hs] at e1
    simp only [stepD] at e1
    refine ⟨some (.da .non), ?_⟩
    unfold b_reached_0
    simp_arith [e1]
  | some q =>
    obtain ⟨s, mo⟩ := q
    rw [hs] at e1
    simp only [stepD] at e1
    refine ⟨some (.da (.tup [.str s, moD mo])), ?_⟩
    have ni := notin_found s es (.lst (es.map fun e => nW e.n))
    by_cases hm : s ∈ es.map (·.n)
    · rw [dec_pos hm] at ni
      simp only [if_pos hm]
      unfold b_reached_0
      simp_arith [e1, ni]
    · rw [dec_neg hm] at ni
      simp only [if_neg hm]
      have om := (step_in hw ht hs).2
      obtain ⟨om2, im⟩ := g.mo e he
      have eb := behind_mo mo e.m (moD mo) e.d (.inl rfl) im om2
      have lc := g.len e he
      have ad := fun S => add_ll (e.ch.map D.int) [.int t.num] S (Nat.le_trans (show _ ≤ 100 by simp; omega) (by rw [sizeLine_eq]; decide))
      have pe := put_ent s (.tup [.lst (e.ch.map .int ++ [.int t.num]), moD (bh mo e.m)]) es hm
      have kk : keyW (.da (.str s)) = some (.inr s) := rfl
      unfold b_reached_0 mSetIx
      simp_arith [e1, ni, ad, eb, kk, ifc_pos (sz_lt (show es.length < 100000 by omega)), pe, tyM, List.map_append]
      simp [rcS, List.map_append]
theorem rc_in {names : List Str} {ties : List Tie} (hw : Web names ties) (hn : names.length ≤ 12) {st : Str} {e : Ent} (rs0 : List Tie) (o5 : Option W) : ∀ (rs : List Tie) (es : List Ent) (o7 o10 : Option W), (∀ t ∈ rs, t ∈ ties) → Good names ties st es → e ∈ es →
    ∃ a b, loopM (gtName 7) b_reached_0 (rs.map tieW) (rcR ties rs0 st o5 (some (nW e.n)) o7 (some (.da (.lst (e.ch.map .int)))) (some (.da e.d)) o10) (rcS es) = .nx (rcR ties rs0 st o5 (some (nW e.n)) a (some (.da (.lst (e.ch.map .int)))) (some (.da e.d)) b) (rcS (rs.foldl (stepE e) es))
  | [], es, o7, o10, _, _, _ => ⟨o7, o10, rfl⟩
  | t :: rs, es, o7, o10, h, g, he => by
    have ht := h t (by simp)
    have gg : gtName 7 (tieW t) (rcR ties rs0 st o5 (some (nW e.n)) o7 (some (.da (.lst (e.ch.map .int)))) (some (.da e.d)) o10) (rcS es) = some (rcR ties rs0 st o5 (some (nW e.n)) (some (tieW t)) (some (.da (.lst (e.ch.map .int)))) (some (.da e.d)) o10) := rfl
    obtain ⟨o, b⟩ := rc_body hw hn g he ht rs0 o5 o10
    obtain ⟨g1, p1⟩ := good_step hw g he ht
    obtain ⟨x, y, e2⟩ := rc_in hw hn rs0 o5 rs (stepE e es t) (some (tieW t)) o (fun x hx => h x (by simp [hx])) g1 (p1.subset he)
    exact ⟨x, y, by simp only [List.map_cons, loopM, gg, b, e2, List.foldl_cons]⟩
theorem tie_map (l : List Tie) : List.map (W.da ∘ tieD) l = l.map tieW := rfl
theorem look_at (e : Ent) : ∀ es : List Ent, (es.map (·.n)).Nodup → e ∈ es → look (es.map eKW) (.inr e.n) = some (.da (vE e))
  | [], _, h => by cases h
  | x :: es, nd, h => by
    simp only [List.map_cons, List.nodup_cons] at nd
    simp only [List.map_cons, look]
    rcases List.mem_cons.mp h with rfl | h
    · rw [if_pos rfl]
    · rw [if_neg (fun z => nd.1 (by rw [Sum.inr.inj z]; exact List.mem_map.mpr ⟨e, h, rfl⟩))]
      exact look_at e es nd.2 h
theorem rc_turn {names : List Str} {ties : List Tie} (hw : Web names ties) (hn : names.length ≤ 12) {st : Str} (rs : List Tie) (hrs : ∀ t ∈ rs, t ∈ ties) {es : List Ent} (g : Good names ties st es) (i : Nat) (e : Ent) (hi : es[i]? = some e) (o6 o7 o8 o9 o10 : Option W) :
    ∃ a7 a10, b_reached_2 (rcR ties rs st (some (iW i)) o6 o7 o8 o9 o10) (rcS es) = .nx (rcR ties rs st (some (iW ((i + 1 : Nat) : Int))) (some (nW e.n)) a7 (some (.da (.lst (e.ch.map .int)))) (some (.da e.d)) a10) (rcS (rs.foldl (stepE e) es)) := by
  have he := List.mem_of_getElem? hi
  obtain ⟨x, y, e2⟩ := rc_in hw hn (e := e) rs (some (iW ((i + 1 : Nat) : Int))) rs es o7 o10 hrs g he
  refine ⟨x, y, ?_⟩
  have q1 : atI (es.map fun e => nW e.n) (i : Int) = some (nW e.n) := by
    rw [atI_lit, List.getElem?_map, hi]; rfl
  have lk := look_at e es g.nd he
  have ix3 : vl2 ixW (.lo 0) (nW e.n) (rcS es) = .ok (.da (vE e)) (rcS es) := by
    unfold vl2 ixW
    simp only [seqW, lstW, tupW, List.getElem?_cons_zero, dget, dkW, keyW, keyD, Option.map, lk, lift]
  have ix4 : vl2 ixW (.lo 1) (iW i) (rcS es) = .ok (nW e.n) (rcS es) := by
    unfold vl2 ixW
    simp only [seqW, lstW, tupW, List.getElem?_cons_zero, List.getElem?_cons_succ, q1, lift]
  have ec : ((i : Int) + 1) = ((i + 1 : Nat) : Int) := by omega
  generalize hS : rcS es = S at ix3 ix4 e2 ⊢
  unfold b_reached_2
  simp_arith [ix3, ix4, ec, tie_map, e2]
theorem rc_while {names : List Str} {ties : List Tie} (hw : Web names ties) (hn : names.length ≤ 12) {st : Str} (rs : List Tie) (hrs : ∀ t ∈ rs, t ∈ ties) : ∀ (fuel i : Nat) (es : List Ent) (o6 o7 o8 o9 o10 : Option W), Good names ties st es → 13 ≤ fuel + i → i ≤ 12 →
    ∃ es' ρ', Good names ties st es' ∧ es <+: es' ∧ ρ'[3]? = some (some (.lo 0)) ∧ whileN c_reached_1 b_reached_2 (fuel + 1) (rcR ties rs st (some (iW i)) o6 o7 o8 o9 o10) (rcS es) = .nx ρ' (rcS es')
  | fuel, i, es, o6, o7, o8, o9, o10, g, hf, hi => by
    have fw := g.few
    have ct : c_reached_1 (rcR ties rs st (some (iW i)) o6 o7 o8 o9 o10) (rcS es) = .ok (dec ((i : Int) < (es.length : Int))) (rcS es) := by
      unfold c_reached_1
      simp_arith [List.length_map]
    by_cases h : i < es.length
    · have hi2 : es[i]? = some es[i] := List.getElem?_eq_getElem h
      obtain ⟨a7, a10, e⟩ := rc_turn hw hn rs hrs g i es[i] hi2 o6 o7 o8 o9 o10
      obtain ⟨g1, p1⟩ := good_fold hw (e := es[i]) rs hrs g (List.getElem_mem h)
      rw [dec_pos (by omega)] at ct
      cases fuel with
      | zero => omega
      | succ fuel =>
        obtain ⟨es', ρ', k1, k2, k3, k4⟩ := rc_while hw hn rs hrs fuel (i + 1) _ (some (nW es[i].n)) a7 (some (.da (.lst (es[i].ch.map .int)))) (some (.da es[i].d)) a10 g1 (by omega) (by omega)
        exact ⟨es', ρ', k1, p1.trans k2, k3, by rw [whileN, ct]; simp only [e]; exact k4⟩
    · rw [dec_neg (by omega)] at ct
      exact ⟨es, _, g, List.prefix_refl _, rfl, by rw [whileN, ct]⟩
/-! the ties by their numbers -/
abbrev nuE (t : Tie) : D := .int t.num
noncomputable abbrev sortT (ties : List Tie) : List Tie := sortE nuE ties
theorem number_of_eq (t : Tie) : p_number_of [tieD t] = .ok (.int t.num) := by
  unfold p_number_of m_number_of
  simp_arith []
theorem kys_ties : ∀ ties : List Tie, kysD p_number_of (ties.map tieD) = some (ties.map nuE)
  | [] => rfl
  | r :: ties => by simp only [List.map_cons, kysD, number_of_eq, kyD, if_true, kys_ties ties, Option.map]
theorem zip_selfT {α β γ : Type} (f : α → β) (g : α → γ) : ∀ l : List α, (l.map f).zip (l.map g) = l.map fun a => (f a, g a)
  | [] => rfl
  | a :: l => by simp [zip_selfT f g l]
theorem sortZ_ties (ties : List Tie) : sortZ (ties.map tieD) (ties.map nuE) = (sortT ties).map tieD := by
  unfold sortZ sortT sortE
  rw [zip_selfT, ← List.map_mergeSort (r := leE nuE) (s := PySem.W.dataLe false (fun q : D × D => toPy q.2)) (f := fun r => (tieD r, nuE r)) (fun a _ b _ => rfl), List.map_map]
  rfl
theorem sortK_ties (ties : List Tie) : sortK p_number_of [.lst (ties.map tieD)] = .ok (.lst ((sortT ties).map tieW)) := by
  unfold sortK
  simp only [kys_ties]
  rw [ifc_pos, sortZ_ties, List.map_map]
  · rfl
  · rw [List.map_map]
    refine ⟨fun d hd d' hd' => ?_, .inr fun d hd => ?_⟩
    · obtain ⟨a, _, rfl⟩ := List.mem_map.mp hd
      obtain ⟨b, _, rfl⟩ := List.mem_map.mp hd'
      rfl
    · obtain ⟨a, _, rfl⟩ := List.mem_map.mp hd
      exact ⟨by simp [toPy], by simp [toPy]⟩
theorem good_start (names : List Str) (ties : List Tie) (st : Str) (h : st ∈ names) : Good names ties st [⟨st, [], still, .wt [.int 0, .int 0, .int 0]⟩] := by
  refine ⟨fun e he => ?_, fun e he => ?_, fun e he => ?_, by simp, fun e he => ?_⟩ <;> simp only [List.mem_singleton] at he <;> subst he
  · rfl
  · exact ⟨ok_still, .inr rfl⟩
  · exact Nat.zero_le _
  · exact h
theorem reached_ok {names : List Str} {ties : List Tie} (hw : Web names ties) (hn : names.length ≤ 12) {st : Str} (hst : st ∈ names) : ∃ es, Good names ties st es ∧ p_reached [.lst (ties.map tieD), .str st] = .ok (.dk (es.map kE) (es.map vE)) := by
  obtain ⟨es, ρ', g, p, r3, e⟩ := rc_while hw hn (sortT ties) (fun t ht => sortE_mem.mp ht) 13 0 [⟨st, [], still, .wt [.int 0, .int 0, .int 0]⟩] none none none none none (good_start names ties st hst) (by omega) (by omega)
  refine ⟨es, g, ?_⟩
  have wh : mWhile c_reached_1 b_reached_2 (rcR ties (sortT ties) st (some (iW ((0 : Nat) : Int))) none none none none none) (rcS [⟨st, [], still, .wt [.int 0, .int 0, .int 0]⟩]) = .nx ρ' (rcS es) := by
    rw [mWhile_of 14 (by rw [e]; simp), e]
  have sk := sortK_ties ties
  have dt := dats_ties (sortT ties)
  generalize sortT ties = so at wh sk dt
  have fz : ∀ S, datWs 4 S (List.map ((fun x : Key × W => x.snd) ∘ eKW) es) = some (es.map vE, S) := fun S => by
    rw [show List.map ((fun x : Key × W => x.snd) ∘ eKW) es = (es.map vE).map .da by simp [Function.comp_def]]
    exact datWs_da 4 S _
  have kz : List.map ((fun x : Key × W => x.fst) ∘ eKW) es = es.map kE := rfl
  unfold p_reached m_reached
  have dc : dispC [(W.da (.str st), W.da (.tup [.lst [], .wt [.int 0, .int 0, .int 0]]))] = some (.dk [(.inr st, W.da (.tup [.lst [], .wt [.int 0, .int 0, .int 0]]))]) := rfl
  simp_arith [sk, dt, dc]
  have wh' : mWhile c_reached_1 b_reached_2 [some (.da (.lst (ties.map tieD))), some (.da (.str st)), some (.da (.lst (so.map tieD))), some (.lo 0), some (.lo 1), some (.da (.int 0)), none, none, none, none, none] [.dk [(.inr st, .da (.tup [.lst [], .wt [.int 0, .int 0, .int 0]]))], .lst [.da (.str st)]] = .nx ρ' (rcS es) := wh
  rw [wh']
  simp_arith [r3]
  simp_arith [rcS, fz, kz]
/-! chains and frames -/
abbrev vC (e : Ent) : D := .lst (e.ch.map .int)
abbrev prE (e : Ent) : W := .da (.tup [.str e.n, vE e])
abbrev cKW (e : Ent) : Key × W := (kE e, .da (vC e))
abbrev fKW (e : Ent) : Key × W := (kE e, .da e.d)
theorem pairs_ent (es : List Ent) : (((es.map kE).zip (es.map vE)).map fun p => W.da (.tup [kD p.1, p.2])) = es.map prE := by
  rw [zip_selfT, List.map_map]
  rfl
theorem put_f (f : Ent → W) (r : Ent) (dn : List Ent) (h : r.n ∉ dn.map (·.n)) : putW (dn.map fun r => (kE r, f r)) (kE r) (f r) = (dn ++ [r]).map fun r => (kE r, f r) := by
  rw [put_new]
  · simp
  · intro q hq
    obtain ⟨u, hu, rfl⟩ := List.mem_map.mp hq
    exact fun z => h (List.mem_map.mpr ⟨u, hu, Sum.inr.inj z⟩)
abbrev cfR (td : D) (st : Str) (o3 o4 o5 : Option W) : Rho := [some (.da td), some (nW st), some (.lo 0), o3, o4, o5]
theorem ch_loop (td : D) (st : Str) : ∀ (rs dn : List Ent) (o3 o4 o5 : Option W), ((dn ++ rs).map (·.n)).Nodup → (dn ++ rs).length ≤ 1000 →
    ∃ a b c, loopM (gtTup 2 (gtCons (gtName 3) (gtCons (gtTup 2 (gtCons (gtName 4) (gtCons (gtName 5) gtNil))) gtNil))) b_chains_0 (rs.map prE) (cfR td st o3 o4 o5) [.dk (dn.map cKW)] = .nx (cfR td st a b c) [.dk ((dn ++ rs).map cKW)]
  | [], dn, o3, o4, o5, _, _ => ⟨o3, o4, o5, by simp [loopM]⟩
  | r :: rs, dn, o3, o4, o5, nd, hl => by
    have g : (gtTup 2 (gtCons (gtName 3) (gtCons (gtTup 2 (gtCons (gtName 4) (gtCons (gtName 5) gtNil))) gtNil))) (prE r) (cfR td st o3 o4 o5) [.dk (dn.map cKW)] = some (cfR td st (some (nW r.n)) (some (.da (vC r))) (some (.da r.d))) := by
      simp_arith []
    have hn : r.n ∉ dn.map (·.n) := by
      rw [List.map_append, List.nodup_append] at nd
      exact fun z => nd.2.2 _ z _ (List.mem_map.mpr ⟨r, by simp, rfl⟩) rfl
    have p1 := put_f (fun r => .da (vC r)) r dn hn
    simp only [List.length_append, List.length_cons] at hl
    have kk : keyW (nW r.n) = some (kE r) := rfl
    have b : b_chains_0 (cfR td st (some (nW r.n)) (some (.da (vC r))) (some (.da r.d))) [.dk (dn.map cKW)] = .nx (cfR td st (some (nW r.n)) (some (.da (vC r))) (some (.da r.d))) [.dk ((dn ++ [r]).map cKW)] := by
      unfold b_chains_0 mSetIx
      simp_arith [kk, ifc_pos (sz_lt (show dn.length < 100000 by omega)), p1]
    obtain ⟨x, y, z, e⟩ := ch_loop td st rs (dn ++ [r]) (some (nW r.n)) (some (.da (vC r))) (some (.da r.d)) (by simpa using nd) (by simp; omega)
    refine ⟨x, y, z, ?_⟩
    simp only [List.map_cons, loopM, g, b, e]
    simp
theorem fr_loop (td : D) (st : Str) : ∀ (rs dn : List Ent) (o3 o4 o5 : Option W), ((dn ++ rs).map (·.n)).Nodup → (dn ++ rs).length ≤ 1000 →
    ∃ a b c, loopM (gtTup 2 (gtCons (gtName 3) (gtCons (gtTup 2 (gtCons (gtName 4) (gtCons (gtName 5) gtNil))) gtNil))) b_frames_0 (rs.map prE) (cfR td st o3 o4 o5) [.dk (dn.map fKW)] = .nx (cfR td st a b c) [.dk ((dn ++ rs).map fKW)]
  | [], dn, o3, o4, o5, _, _ => ⟨o3, o4, o5, by simp [loopM]⟩
  | r :: rs, dn, o3, o4, o5, nd, hl => by
    have g : (gtTup 2 (gtCons (gtName 3) (gtCons (gtTup 2 (gtCons (gtName 4) (gtCons (gtName 5) gtNil))) gtNil))) (prE r) (cfR td st o3 o4 o5) [.dk (dn.map fKW)] = some (cfR td st (some (nW r.n)) (some (.da (vC r))) (some (.da r.d))) := by
      simp_arith []
    have hn : r.n ∉ dn.map (·.n) := by
      rw [List.map_append, List.nodup_append] at nd
      exact fun z => nd.2.2 _ z _ (List.mem_map.mpr ⟨r, by simp, rfl⟩) rfl
    have p1 := put_f (fun r => .da r.d) r dn hn
    simp only [List.length_append, List.length_cons] at hl
    have kk : keyW (nW r.n) = some (kE r) := rfl
    have b : b_frames_0 (cfR td st (some (nW r.n)) (some (.da (vC r))) (some (.da r.d))) [.dk (dn.map fKW)] = .nx (cfR td st (some (nW r.n)) (some (.da (vC r))) (some (.da r.d))) [.dk ((dn ++ [r]).map fKW)] := by
      unfold b_frames_0 mSetIx
      simp_arith [kk, ifc_pos (sz_lt (show dn.length < 100000 by omega)), p1]
    obtain ⟨x, y, z, e⟩ := fr_loop td st rs (dn ++ [r]) (some (nW r.n)) (some (.da (vC r))) (some (.da r.d)) (by simpa using nd) (by simp; omega)
    refine ⟨x, y, z, ?_⟩
    simp only [List.map_cons, loopM, g, b, e]
    simp
theorem chains_ok (td : D) (st : Str) (es : List Ent) (nd : (es.map (·.n)).Nodup) (hl : es.length ≤ 1000) (hr : p_reached [td, .str st] = .ok (.dk (es.map kE) (es.map vE))) : p_chains [td, .str st] = .ok (.dk (es.map kE) (es.map vC)) := by
  obtain ⟨a, b, c, e⟩ := ch_loop td st es [] none none none (by simpa using nd) (by simpa using hl)
  rw [List.nil_append] at e
  have pe := pairs_ent es
  have fz : ∀ S, datWs 4 S (List.map ((fun x : Key × W => x.snd) ∘ cKW) es) = some (es.map vC, S) := fun S => by
    rw [show List.map ((fun x : Key × W => x.snd) ∘ cKW) es = (es.map vC).map .da by simp [Function.comp_def]]
    exact datWs_da 4 S _
  have kz : List.map ((fun x : Key × W => x.fst) ∘ cKW) es = es.map kE := rfl
  generalize es.map kE = KK at hr pe kz ⊢
  generalize es.map vE = VV at hr pe
  unfold p_chains m_chains
  simp_arith [hr, pe, newDK]
  rw [show ([Cell.dk []] : Sto) = [.dk (([] : List Ent).map cKW)] from rfl, e]
  unfold mFz fzW
  simp_arith [fz, kz]
theorem frames_ok (td : D) (st : Str) (es : List Ent) (nd : (es.map (·.n)).Nodup) (hl : es.length ≤ 1000) (hr : p_reached [td, .str st] = .ok (.dk (es.map kE) (es.map vE))) : l_frames [td, .str st] = .ok (.dk (es.map fKW)) := by
  obtain ⟨a, b, c, e⟩ := fr_loop td st es [] none none none (by simpa using nd) (by simpa using hl)
  rw [List.nil_append] at e
  have pe := pairs_ent es
  have da : daC (.dk (es.map fKW)) = true := by simp [daC, isDa, Function.comp_def]
  generalize es.map kE = KK at hr pe
  generalize es.map vE = VV at hr pe
  unfold l_frames newOf q_frames m_frames
  simp_arith [hr, pe, newDK]
  rw [show ([Cell.dk []] : Sto) = [.dk (([] : List Ent).map fKW)] from rfl, e]
  simp_arith [da]
/-! ### law k14 -/
theorem look_f (e : Ent) : ∀ es : List Ent, (es.map (·.n)).Nodup → e ∈ es → look (es.map fKW) (.inr e.n) = some (.da e.d)
  | [], _, h => by cases h
  | x :: es, nd, h => by
    simp only [List.map_cons, List.nodup_cons] at nd
    simp only [List.map_cons, look]
    rcases List.mem_cons.mp h with rfl | h
    · rw [if_pos rfl]
    · rw [if_neg (fun z => nd.1 (by rw [Sum.inr.inj z]; exact List.mem_map.mpr ⟨e, h, rfl⟩))]
      exact look_f e es nd.2 h
abbrev tcE (e : Ent) : W := .da (.tup [.str e.n, vC e])
theorem pairs_told (es : List Ent) : (((es.map kE).zip (es.map vC)).map fun p => W.da (.tup [kD p.1, p.2])) = es.map tcE := by
  rw [zip_selfT, List.map_map]
  rfl
abbrev l4R (sc : W) (ties : List Tie) (names : List Str) (st : Str) (hd td : D) (o8 o9 o10 : Option W) : Rho := [some sc, some (.da (.lst (ties.map tieD))), some (.da (.lst (names.map .str))), some (nW st), some (.da hd), some (.da td), some (.lo 0), none, o8, o9, o10]
theorem lw_loop (sc : W) {names : List Str} {ties : List Tie} (hw : Web names ties) {st : Str} (hd td : D) (es0 : List Ent) (g : Good names ties st es0) : ∀ (es : List Ent) (o8 o9 o10 : Option W), (∀ e ∈ es, e ∈ es0) →
    ∃ a b c, loopM (gtTup 2 (gtCons (gtName 8) (gtCons (gtName 9) gtNil))) b_law_0 (es.map tcE) (l4R sc ties names st hd td o8 o9 o10) [.dk (es0.map fKW)] = .nx (l4R sc ties names st hd td a b c) [.dk (es0.map fKW)]
  | [], o8, o9, o10, _ => ⟨o8, o9, o10, rfl⟩
  | e :: es, o8, o9, o10, h => by
    have he := h e (by simp)
    have gg : (gtTup 2 (gtCons (gtName 8) (gtCons (gtName 9) gtNil))) (tcE e) (l4R sc ties names st hd td o8 o9 o10) [.dk (es0.map fKW)] = some (l4R sc ties names st hd td (some (nW e.n)) (some (.da (vC e))) o10) := by
      simp_arith []
    have wd := walked_ok names ties hw e.ch st
    rw [g.walk e he] at wd
    simp only [walkD] at wd
    have lk := look_f e es0 g.nd he
    have ni : vl2 notinW (nW e.n) (.lo 0) [.dk (es0.map fKW)] = .ok (.da (.bl false)) [.dk (es0.map fKW)] := by
      unfold vl2 notinW inB
      simp only [dget, dkW, List.getElem?_cons_zero, keyW, keyD, Option.map, lk]
      rfl
    have ix : vl2 ixW (.lo 0) (nW e.n) [.dk (es0.map fKW)] = .ok (.da e.d) [.dk (es0.map fKW)] := by
      unfold vl2 ixW
      simp only [seqW, lstW, tupW, List.getElem?_cons_zero, dget, dkW, keyW, keyD, Option.map, lk, lift]
    have sm : p_l_same 6 [e.d, moD e.m] = .ok (.bl true) := same_ok 6 _ _ (sm_mo (g.mo e he).2)
    have b : b_law_0 (l4R sc ties names st hd td (some (nW e.n)) (some (.da (vC e))) o10) [.dk (es0.map fKW)] = .nx (l4R sc ties names st hd td (some (nW e.n)) (some (.da (vC e))) (some (.da (.tup [.str e.n, moD e.m])))) [.dk (es0.map fKW)] := by
      generalize es0.map fKW = FF at ni ix ⊢
      unfold b_law_0
      simp_arith [wd, ni, ix, sm]
    obtain ⟨x, y, z, e2⟩ := lw_loop sc hw hd td es0 g es (some (nW e.n)) (some (.da (vC e))) (some (.da (.tup [.str e.n, moD e.m]))) (fun x hx => h x (by simp [hx]))
    exact ⟨x, y, z, by simp only [List.map_cons, loopM, gg, b, e2]⟩
theorem put_das (k : Key) (x : D) (es : List Ent) : ∃ ds : List D, (putW (es.map fKW) k (.da x)).map (·.2) = ds.map .da := by
  unfold putW
  split
  · refine ⟨es.map fun e => if kE e = k then x else e.d, ?_⟩
    rw [List.map_map, List.map_map, List.map_map]
    refine List.map_congr_left fun e _ => ?_
    simp only [Function.comp]
    split <;> rfl
  · exact ⟨es.map (·.d) ++ [x], by simp [Function.comp_def]⟩
theorem self_mo {d : D} {m : Mo} (h : IsMo d m) : selfD d = true := by
  rcases h with rfl | rfl <;> simp [selfD, toPy, toPyL, PySem.W.alike, PySem.W.alikeAll, PyData.eqv, PyData.eqvAll, PyData.canLay0, PyData.canLayAll0, PyData.depth, PyData.depthAll]
theorem law_true (ns : List Int) (hl : ns.length ≤ 63) : p_law [.scr (ns.map .int)] = .ok (.bl true) := by
  obtain ⟨row, names, ties, hrow, l1, l12, hs, hw, ed, en, ew⟩ := web_ok ns hl
  obtain ⟨d, hd, ed2⟩ := draws_ok ns 20 1 (by decide) (by decide) (by decide) (by decide) (by omega)
  have hd : Drawn 1 d := hd
  obtain ⟨x0, b0, e0⟩ := at_row hd 0 (by decide) (by decide)
  have hp : (0 : Int) < (names.length : Int) := by omega
  have md := fun S => mod_ok x0 (names.length : Int) S hp
  obtain ⟨st, hst, est⟩ := at_strs names (x0 % names.length) (Int.emod_nonneg _ (by omega)) (Int.emod_lt_of_pos _ hp)
  have few := hw.few
  obtain ⟨es, g, er⟩ := reached_ok hw l12 hst
  have ef := g.few
  have ch := chains_ok _ st es g.nd (by omega) er
  have fr := frames_ok _ st es g.nd (by omega) er
  have sm : p_l_same 6 [.lst (ties.map tieD), .lst (ties.map tieD)] = .ok (.bl true) := same_refl 6 (gd_lst (by simp; omega) fun z hz => by
    obtain ⟨t, _, rfl⟩ := List.mem_map.mp hz
    exact gd_tie 2 t)
  have pt := pairs_told es
  obtain ⟨a8, a9, a10, el⟩ := lw_loop (.da (.scr (ns.map .int))) hw (.lst (ties.map tieD)) (.dk (es.map kE) (es.map vC)) es g es none none none (fun e he => he)
  obtain ⟨ds, hds⟩ := put_das (.inr "Zz") (.tup [.int 0, .int 0, .int 0]) es
  have fz : ∀ S, datWs 4 S (List.map (fun x : Key × W => x.snd) (putW (es.map fKW) (.inr "Zz") (.da (.tup [.int 0, .int 0, .int 0])))) = some (ds, S) := fun S => by
    rw [hds]
    exact datWs_da 4 S _
  have dk1 : List.map ((fun x : Key × W => x.snd) ∘ fKW) es = es.map (fun e => .da e.d) := rfl
  have dd1 : dats (es.map fun e => W.da e.d) = some (es.map (·.d)) := by
    rw [show (es.map fun e => W.da e.d) = (es.map (·.d)).map .da by simp [Function.comp_def], dats_da]
  have kz : List.map ((fun x : Key × W => x.fst) ∘ fKW) es = es.map kE := rfl
  have m1 : List.map (W.da ∘ tieD) ties = ties.map tieW := rfl
  have kk : keyW (.da (.str "Zz")) = some (.inr "Zz") := rfl
  have ndk : (es.map kE).Nodup := by
    have := g.nd
    rw [List.Nodup, List.pairwise_map] at this ⊢
    exact this.imp fun h z => h (Sum.inr.inj z)
  have eqd : ∀ S, vl2 eqDkW (.da (.dk (es.map kE) (es.map (·.d)))) (.da (.dk (es.map kE) (es.map (·.d)))) S = .ok (.da (.bl true)) S := fun S => by
    show lift (ifc (es.map kE = es.map kE ∧ es.map (·.d) = es.map (·.d) ∧ (es.map kE).Nodup ∧ ∀ d ∈ es.map (·.d), selfD d = true) (some (.da (.bl true))) none) S = _
    rw [ifc_pos ⟨rfl, rfl, ndk, fun d hd => by
      obtain ⟨e, he, rfl⟩ := List.mem_map.mp hd
      exact self_mo (g.mo e he).2⟩]
    rfl
  have len5 : ∀ S, vlN lenW [.da (.dk (es.map kE) (es.map vC))] S = .ok (iW es.length) S := fun S => by
    unfold vlN lenW
    simp [seqW, lstW, tupW, dkW, lift]
  have zk : (es.map fKW).map (·.1) = es.map kE := by rw [List.map_map]; rfl
  have zd : (es.map fKW).map (·.2) = es.map fun e => .da e.d := by rw [List.map_map]; rfl
  unfold p_law m_law
  simp_arith [ew, ed, en, ed2, e0, md, est, m1, dats_ties, ch, fr, sm, List.length_map, len5, dec_pos (rfl : (es.length : Int) = es.length), pt]
  have el' := el
  simp only [l4R] at el'
  rw [el']
  simp_arith [dictC, kk, dk1, dd1, kz, m1, dats_ties, fr, ifc_pos (sz_lt (show es.length < 100000 by omega)), fz, eqd]
end Ng
open PySem PySem.W PyProof.Rows
set_option maxRecDepth 100000 in
set_option maxHeartbeats 0 in
theorem PySem.Challenge.cw_nightglass_k14_whole_frames_of_a_web_holds : PySem.Challenge.rw_nightglass_k14_whole_frames_of_a_web.Holds := by
  w_on; o_law; k_head; (case hw => w_witness2)
  k_fill
  refine Ng.walk_ng (l := PySem.Challenge.rw_nightglass_k14_whole_frames_of_a_web) (k := 7) (x := "_law_script") (p := Ng.p_law) rfl rfl ⟨rfl, by decide, by decide⟩ (fun w h Y => PySem.W.kIn_of Y) ?F Ng.law_true
  case F =>
    intro w mg fa h KX G hmg
    refine' Ng.all_mk KX G hmg ?a2 ?l2 ?c2 ?k2 ?a3 ?l3 ?c3 ?k3 ?a4 ?l4 ?c4 ?k4 ?a5 ?l5 ?c5 ?k5 ?a6 ?l6 ?c6 ?k6 ?a8 ?l8 ?c8 ?k8 ?a9 ?l9 ?c9 ?k9 ?a10 ?l10 ?c10 ?k10 ?a11 ?l11 ?c11 ?k11 ?a12 ?l12 ?c12 ?k12 ?a14 ?l14 ?c14 ?k14 ?a15 ?l15 ?c15 ?k15 ?a16 ?l16 ?c16 ?k16 ?a17 ?l17 ?c17 ?k17 ?a18 ?l18 ?c18 ?k18 ?a19 ?l19 ?c19 ?k19 ?a20 ?l20 ?c20 ?k20 ?a21 ?l21 ?c21 ?k21 ?a22 ?l22 ?c22 ?k22 ?a23 ?l23 ?c23 ?k23 ?a24 ?l24 ?c24 ?k24 ?a25 ?l25 ?c25 ?k25 ?z_bool ?z_dict ?z_int ?z_isinstance ?z_len ?z_list ?z_range ?z_sorted ?z_str ?z_tuple ?y_STILL ?x_STILL
    (case a2 => k_is); (case l2 => k_is); (case c2 => k_is); (case k2 => k_is); (case a3 => k_is); (case l3 => k_is); (case c3 => k_is); (case k3 => k_is); (case a4 => k_is); (case l4 => k_is); (case c4 => k_is); (case k4 => k_is); (case a5 => k_is); (case l5 => k_is); (case c5 => k_is); (case k5 => k_is); (case a6 => k_is); (case l6 => k_is); (case c6 => k_is); (case k6 => k_is); (case a8 => k_is); (case l8 => k_is); (case c8 => k_is); (case k8 => k_is); (case a9 => k_is); (case l9 => k_is); (case c9 => k_is); (case k9 => k_is); (case a10 => k_is); (case l10 => k_is); (case c10 => k_is); (case k10 => k_is); (case a11 => k_is); (case l11 => k_is); (case c11 => k_is); (case k11 => k_is); (case a12 => k_is); (case l12 => k_is); (case c12 => k_is); (case k12 => k_is); (case a14 => k_is); (case l14 => k_is); (case c14 => k_is); (case k14 => k_is); (case a15 => k_is); (case l15 => k_is); (case c15 => k_is); (case k15 => k_is); (case a16 => k_is); (case l16 => k_is); (case c16 => k_is); (case k16 => k_is); (case a17 => k_is); (case l17 => k_is); (case c17 => k_is); (case k17 => k_is); (case a18 => k_is); (case l18 => k_is); (case c18 => k_is); (case k18 => k_is); (case a19 => k_is); (case l19 => k_is); (case c19 => k_is); (case k19 => k_is); (case a20 => k_is); (case l20 => k_is); (case c20 => k_is); (case k20 => k_is); (case a21 => k_is); (case l21 => k_is); (case c21 => k_is); (case k21 => k_is); (case a22 => k_is); (case l22 => k_is); (case c22 => k_is); (case k22 => k_is); (case a23 => k_is); (case l23 => k_is); (case c23 => k_is); (case k23 => k_is); (case a24 => k_is); (case l24 => k_is); (case c24 => k_is); (case k24 => k_is); (case a25 => k_is); (case l25 => k_is); (case c25 => k_is); (case k25 => k_is); (case z_bool => k_is); (case z_dict => k_is); (case z_int => k_is); (case z_isinstance => k_is); (case z_len => k_is); (case z_list => k_is); (case z_range => k_is); (case z_sorted => k_is); (case z_str => k_is); (case z_tuple => k_is); (case y_STILL => k_is); (case x_STILL => k_is)
