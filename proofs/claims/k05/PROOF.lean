import PyProof.Rows.All
import Wide.All
import OpenK.AllK
import Wide.FinOn
import HandS.ForMost
import HandS.ForExc
import HandS.Flow
import HandS.IsInst
import HandS.Conv
import HandS.Wide
import HandS.Deep
import PySem.Challenge.RW_nightglass_k05_whole_rows_of_motions
set_option Elab.async false
set_option linter.all false
set_option maxRecDepth 100000
set_option maxHeartbeats 4000000
/-! The simulation layer: plain data D, cells, and what it means that a heap bears them. -/
namespace Ng
open PySem L2

/-- plain data, frozen -/
inductive D where
  | non | bl (b : Bool) | int (i : Int) | str (x : Str)
  | tup (g : Bool) (ds : List D) | lst (g : Bool) (ds : List D)
  | dk (ks : List Key) (ds : List D) | dt (ks : List (List Key)) (ds : List D)
  | obj (c : Str) (fs : List Str) (ds : List D)

/-- what a slot holds: data, or the place of a cell -/
inductive W where
  | da (d : D) | lo (n : Nat)

/-- a cell: a thing that may be changed -/
inductive Cell where
  | lst (ws : List W) | dk (kws : List (Key × W)) | dt (kws : List (List Key × W))
  | ins (c : Str) (fws : List (Str × W)) | dead

abbrev Rho := List (Option W)
abbrev Sto := List Cell

structure Exn where
  c : Str
  fs : List Str
  ds : List D

inductive Re (a : Type) where
  | ok (x : a) | ex (x : Exn) | stuck
def Re.bind {a b : Type} (r : Re a) (f : a → Re b) : Re b := match r with
  | .ok x => f x
  | .ex x => .ex x
  | .stuck => .stuck
inductive Out where
  | nx (r : Rho) (s : Sto) | rt (w : W) (s : Sto) | bk (r : Rho) (s : Sto) | ct (r : Rho) (s : Sto) | ex (x : Exn) (r : Rho) (s : Sto) | stuck
abbrev ME := Rho → Sto → Re W
abbrev MA := Rho → Sto → Re (List W)
abbrev MT := Rho → Sto → Re Bool
abbrev MS := Rho → Sto → Out

/-! ### heaps that grow -/
def isDict : HO → Prop
  | .dK _ => True
  | .dT _ => True
  | _ => False
def Ex (H H' : Hp) : Prop := ∀ b o, H b = some o → H' b = some o
/-- the frozen part within the heap: a dict may be locked -/
def Xt (F H : Hp) : Prop := ∀ b o, F b = some o → H b = some o ∨ (isDict o ∧ ∃ u, H b = some (.frz u o))
theorem Ex.refl (H : Hp) : Ex H H := fun _ _ h => h
theorem Ex.trans {A B C : Hp} (x : Ex A B) (y : Ex B C) : Ex A C := fun b o h => y b o (x b o h)
theorem Ex.xt {A B : Hp} (x : Ex A B) : Xt A B := fun b o h => .inl (x b o h)
theorem Xt.of_ex {A B C : Hp} (x : Ex A B) (y : Xt B C) : Xt A C := fun b o h => y b o (x b o h)
theorem Xt.ex {A B C : Hp} (x : Xt A B) (y : Ex B C) : Xt A C := fun b o h => (x b o h).imp (y b o) fun ⟨d, u, e⟩ => ⟨d, u, y b _ e⟩
theorem Xt.none {F H : Hp} (x : Xt F H) {p : Addr} (h : H p = none) : F p = none := by
  cases e : F p with
  | none => rfl
  | some o =>
    rcases x p o e with z | ⟨_, u, z⟩ <;> rw [h] at z <;> cases z
theorem Ex.new {H : Hp} {p : Addr} {o : HO} (h : H p = none) : Ex H (upd H p o) := fun a u e => by
  rw [upd_ne (ne_of_none e h)]
  exact e
theorem Rd.xt {F H : Hp} (x : Xt F H) {a : Addr} {o : HO} (h : Rd F a o) : Rd H a o := by
  rcases h with h | ⟨u, h⟩
  · rcases x a o h with z | ⟨_, u, z⟩
    · exact .inl z
    · exact .inr ⟨u, z⟩
  · rcases x a _ h with z | ⟨d, _, _⟩
    · exact .inr ⟨u, z⟩
    · exact d.elim
theorem sqL_xt {K : PySem.W.Frag} {F H : Hp} (x : Xt F H) {a : Addr} {vs : List V} (h : SqL K F a vs) : SqL K H a vs := h.imp (Rd.xt x) id
theorem sqT_xt {K : PySem.W.Frag} {F H : Hp} (x : Xt F H) {a : Addr} {vs : List V} (h : SqT K F a vs) : SqT K H a vs := h.imp (Rd.xt x) id

/-- a tuple, a list that is known: tracked (g), or to be read alone -/
def TupAt (K : PySem.W.Frag) (F : Hp) (g : Bool) (a : Addr) (vs : List V) : Prop := if g = true then F a = some (.tup vs) else SqT K F a vs
def LstAt (K : PySem.W.Frag) (F : Hp) (g : Bool) (a : Addr) (vs : List V) : Prop := if g = true then F a = some (.lst vs) else SqL K F a vs
theorem TupAt.sq {K : PySem.W.Frag} {F : Hp} {g : Bool} {a : Addr} {vs : List V} (h : TupAt K F g a vs) : SqT K F a vs := by
  cases g with
  | true => exact .inl (.inl h)
  | false => exact h
theorem LstAt.sq {K : PySem.W.Frag} {F : Hp} {g : Bool} {a : Addr} {vs : List V} (h : LstAt K F g a vs) : SqL K F a vs := by
  cases g with
  | true => exact .inl (.inl h)
  | false => exact h
theorem TupAt.xt {K : PySem.W.Frag} {F H : Hp} {g : Bool} {a : Addr} {vs : List V} (x : Xt F H) (h : TupAt K F g a vs) : TupAt K H g a vs := by
  cases g with
  | true =>
    rcases x a _ h with z | ⟨z, _⟩
    · exact z
    · exact z.elim
  | false => exact sqT_xt x h
theorem LstAt.xt {K : PySem.W.Frag} {F H : Hp} {g : Bool} {a : Addr} {vs : List V} (x : Xt F H) (h : LstAt K F g a vs) : LstAt K H g a vs := by
  cases g with
  | true =>
    rcases x a _ h with z | ⟨z, _⟩
    · exact z
    · exact z.elim
  | false => exact sqL_xt x h

/-! ### what a heap bears -/
section
variable (K : PySem.W.Frag) (cl : Str → Option Addr) (F : Hp)
mutual
def Rp : D → V → Prop
  | .non, v => v = .non
  | .bl b, v => v = .bl b
  | .int i, v => v = .int i
  | .str x, v => v = .str x
  | .tup g ds, v => ∃ a vs, v = .ref a ∧ TupAt K F g a vs ∧ RpL ds vs
  | .lst g ds, v => ∃ a vs, v = .ref a ∧ LstAt K F g a vs ∧ RpL ds vs
  | .dk ks ds, v => ∃ a vs, v = .ref a ∧ Rd F a (.dK (ks.zip vs)) ∧ ks.length = vs.length ∧ RpL ds vs
  | .dt ks ds, v => ∃ a vs, v = .ref a ∧ Rd F a (.dT (ks.zip vs)) ∧ ks.length = vs.length ∧ RpL ds vs
  | .obj c fs ds, v => ∃ a C dx vs, v = .ref a ∧ cl c = some C ∧ F a = some (.ins C dx (fs.zip vs)) ∧ fs.length = vs.length ∧ RpL ds vs
def RpL : List D → List V → Prop
  | [], vs => vs = []
  | d :: ds, vs => ∃ v r, vs = v :: r ∧ Rp d v ∧ RpL ds r
end
end
section
variable {K : PySem.W.Frag} {cl : Str → Option Addr} {F H : Hp}
mutual
theorem Rp.xt (x : Xt F H) : ∀ (d : D) (v : V), Rp K cl F d v → Rp K cl H d v
  | .non, v, h => h
  | .bl b, v, h => h
  | .int i, v, h => h
  | .str s, v, h => h
  | .tup g ds, v, h => by
    obtain ⟨a, vs, e, q, r⟩ := h
    exact ⟨a, vs, e, TupAt.xt x q, RpL.xt x ds vs r⟩
  | .lst g ds, v, h => by
    obtain ⟨a, vs, e, q, r⟩ := h
    exact ⟨a, vs, e, LstAt.xt x q, RpL.xt x ds vs r⟩
  | .dk ks ds, v, h => by
    obtain ⟨a, vs, e, q, l, r⟩ := h
    exact ⟨a, vs, e, Rd.xt x q, l, RpL.xt x ds vs r⟩
  | .dt ks ds, v, h => by
    obtain ⟨a, vs, e, q, l, r⟩ := h
    exact ⟨a, vs, e, Rd.xt x q, l, RpL.xt x ds vs r⟩
  | .obj c fs ds, v, h => by
    obtain ⟨a, C, dx, vs, e, q, l, n, r⟩ := h
    refine ⟨a, C, dx, vs, e, q, ?_, n, RpL.xt x ds vs r⟩
    rcases x a _ l with z | ⟨z, _⟩
    · exact z
    · exact z.elim
theorem RpL.xt (x : Xt F H) : ∀ (ds : List D) (vs : List V), RpL K cl F ds vs → RpL K cl H ds vs
  | [], vs, h => h
  | d :: ds, vs, h => by
    obtain ⟨v, r, e, q, t⟩ := h
    exact ⟨v, r, e, Rp.xt x d v q, RpL.xt x ds r t⟩
end
theorem RpL.length : ∀ {ds : List D} {vs : List V}, RpL K cl F ds vs → ds.length = vs.length
  | [], vs, h => by cases (show vs = [] from h); rfl
  | d :: ds, vs, h => by
    obtain ⟨v, r, e, q, t⟩ := h
    subst e
    simp [RpL.length t]
theorem RpL.get : ∀ {ds : List D} {vs : List V} {i : Nat} {d : D}, RpL K cl F ds vs → ds[i]? = some d → ∃ v, vs[i]? = some v ∧ Rp K cl F d v
  | [], _, _, _, _, e => by simp at e
  | d :: ds, vs, 0, _, h, e => by
    obtain ⟨v, r, rfl, q, t⟩ := h
    simp at e
    subst e
    exact ⟨v, rfl, q⟩
  | d :: ds, vs, i + 1, _, h, e => by
    obtain ⟨v, r, rfl, q, t⟩ := h
    obtain ⟨u, e1, e2⟩ := RpL.get (i := i) t (by simpa using e)
    exact ⟨u, by simpa using e1, e2⟩
theorem RpL.append : ∀ {ds es : List D} {vs us : List V}, RpL K cl F ds vs → RpL K cl F es us → RpL K cl F (ds ++ es) (vs ++ us)
  | [], _, vs, _, h, k => by cases (show vs = [] from h); exact k
  | d :: ds, _, vs, _, h, k => by
    obtain ⟨v, r, rfl, q, t⟩ := h
    exact ⟨v, _, rfl, q, RpL.append t k⟩
theorem RpL.split : ∀ {ds es : List D} {vs : List V}, RpL K cl F (ds ++ es) vs → ∃ us ws, vs = us ++ ws ∧ RpL K cl F ds us ∧ RpL K cl F es ws
  | [], _, vs, h => ⟨[], vs, rfl, rfl, h⟩
  | d :: ds, _, vs, h => by
    obtain ⟨v, r, rfl, q, t⟩ := h
    obtain ⟨us, ws, rfl, a, b⟩ := RpL.split t
    exact ⟨v :: us, ws, rfl, ⟨v, us, rfl, q, a⟩, b⟩
theorem RpL.drop : ∀ {ds : List D} {vs : List V} (n : Nat), RpL K cl F ds vs → RpL K cl F (ds.drop n) (vs.drop n)
  | _, _, 0, h => h
  | [], vs, n + 1, h => by cases (show vs = [] from h); exact rfl
  | d :: ds, vs, n + 1, h => by
    obtain ⟨v, r, rfl, q, t⟩ := h
    exact RpL.drop n t
theorem RpL.take : ∀ {ds : List D} {vs : List V} (n : Nat), RpL K cl F ds vs → RpL K cl F (ds.take n) (vs.take n)
  | _, _, 0, h => by simp only [List.take_zero]; exact rfl
  | [], vs, n + 1, h => by cases (show vs = [] from h); exact rfl
  | d :: ds, vs, n + 1, h => by
    obtain ⟨v, r, rfl, q, t⟩ := h
    exact ⟨v, _, rfl, q, RpL.take n t⟩
theorem RpL.reverse : ∀ {ds : List D} {vs : List V}, RpL K cl F ds vs → RpL K cl F ds.reverse vs.reverse
  | [], vs, h => by cases (show vs = [] from h); exact rfl
  | d :: ds, vs, h => by
    obtain ⟨v, r, rfl, q, t⟩ := h
    rw [List.reverse_cons, List.reverse_cons]
    exact RpL.append (RpL.reverse t) ⟨v, [], rfl, q, rfl⟩
theorem RpL.set : ∀ {ds : List D} {vs : List V} {d : D} {v : V} (n : Nat), RpL K cl F ds vs → Rp K cl F d v → RpL K cl F (ds.set n d) (vs.set n v)
  | [], vs, _, _, n, h, _ => by cases (show vs = [] from h); exact rfl
  | _ :: ds, vs, d, v, 0, h, k => by
    obtain ⟨u, r, rfl, q, t⟩ := h
    exact ⟨v, r, rfl, k, t⟩
  | _ :: ds, vs, d, v, n + 1, h, k => by
    obtain ⟨u, r, rfl, q, t⟩ := h
    exact ⟨u, _, rfl, q, RpL.set n t k⟩
end

/-- a slot's value -/
def RW (K : PySem.W.Frag) (cl : Str → Option Addr) (F : Hp) (ms : List Addr) : W → V → Prop
  | .da d, v => Rp K cl F d v
  | .lo n, v => ∃ a, ms[n]? = some a ∧ v = .ref a
def RWL (K : PySem.W.Frag) (cl : Str → Option Addr) (F : Hp) (ms : List Addr) (ws : List W) (vs : List V) : Prop := Paired (RW K cl F ms) ws vs
def RWP {κ : Type} (K : PySem.W.Frag) (cl : Str → Option Addr) (F : Hp) (ms : List Addr) (kws : List (κ × W)) (kvs : List (κ × V)) : Prop := Paired (fun p q => p.1 = q.1 ∧ RW K cl F ms p.2 q.2) kws kvs
theorem RW.grow {K : PySem.W.Frag} {cl : Str → Option Addr} {F F' : Hp} {ms ms' : List Addr} (x : Ex F F') (p : ms <+: ms') : ∀ {w : W} {v : V}, RW K cl F ms w v → RW K cl F' ms' w v
  | .da d, v, h => Rp.xt x.xt d v h
  | .lo n, v, h => by
    obtain ⟨a, e, rfl⟩ := h
    obtain ⟨t, rfl⟩ := p
    exact ⟨a, by rw [List.getElem?_append_left (List.getElem?_eq_some_iff.mp e).1]; exact e, rfl⟩
theorem RWL.grow {K : PySem.W.Frag} {cl : Str → Option Addr} {F F' : Hp} {ms ms' : List Addr} (x : Ex F F') (p : ms <+: ms') {ws : List W} {vs : List V} (h : RWL K cl F ms ws vs) : RWL K cl F' ms' ws vs :=
  Paired.mapP h fun _ _ q => q.grow x p
theorem RWP.grow {κ : Type} {K : PySem.W.Frag} {cl : Str → Option Addr} {F F' : Hp} {ms ms' : List Addr} (x : Ex F F') (p : ms <+: ms') {ws : List (κ × W)} {vs : List (κ × V)} (h : RWP K cl F ms ws vs) : RWP K cl F' ms' ws vs :=
  Paired.mapP h fun _ _ q => ⟨q.1, q.2.grow x p⟩

def CellR (K : PySem.W.Frag) (cl : Str → Option Addr) (F : Hp) (ms : List Addr) (H : Hp) (a : Addr) : Cell → Prop
  | .lst ws => ∃ vs, H a = some (.lst vs) ∧ RWL K cl F ms ws vs
  | .dk kws => ∃ kvs, H a = some (.dK kvs) ∧ RWP K cl F ms kws kvs
  | .dt kws => ∃ kvs, H a = some (.dT kvs) ∧ RWP K cl F ms kws kvs
  | .ins c fws => ∃ C dx fvs, cl c = some C ∧ H a = some (.ins C dx fvs) ∧ RWP K cl F ms fws fvs
  | .dead => True
theorem CellR.there {K : PySem.W.Frag} {cl : Str → Option Addr} {F : Hp} {ms : List Addr} {H : Hp} {a : Addr} : ∀ {c : Cell}, c ≠ .dead → CellR K cl F ms H a c → ∃ o, H a = some o
  | .lst _, _, ⟨_, e, _⟩ => ⟨_, e⟩
  | .dk _, _, ⟨_, e, _⟩ => ⟨_, e⟩
  | .dt _, _, ⟨_, e, _⟩ => ⟨_, e⟩
  | .ins _ _, _, ⟨_, _, _, _, e, _⟩ => ⟨_, e⟩
  | .dead, h, _ => absurd rfl h
theorem CellR.grow {K : PySem.W.Frag} {cl : Str → Option Addr} {F F' : Hp} {ms ms' : List Addr} {H H' : Hp} {a : Addr} (x : Ex F F') (p : ms <+: ms') (e : ∀ o, H a = some o → H' a = some o) : ∀ {c : Cell}, CellR K cl F ms H a c → CellR K cl F' ms' H' a c
  | .lst _, ⟨vs, h, r⟩ => ⟨vs, e _ h, r.grow x p⟩
  | .dk _, ⟨vs, h, r⟩ => ⟨vs, e _ h, r.grow x p⟩
  | .dt _, ⟨vs, h, r⟩ => ⟨vs, e _ h, r.grow x p⟩
  | .ins _ _, ⟨C, dx, vs, k, h, r⟩ => ⟨C, dx, vs, k, e _ h, r.grow x p⟩
  | .dead, _ => trivial

/-- the heap bears the store -/
structure Bs (K : PySem.W.Frag) (cl : Str → Option Addr) (F H : Hp) (ms : List Addr) (S : Sto) : Prop where
  fz : Xt F H
  len : ms.length = S.length
  nd : ms.Nodup
  has : ∀ a ∈ ms, H a ≠ none
  cell : ∀ (n : Nat) (c : Cell), S[n]? = some c → c ≠ .dead → ∃ a, ms[n]? = some a ∧ F a = none ∧ CellR K cl F ms H a c

/-- what stood at the entry -/
structure Cn where
  H0 : Hp
  F0 : Hp
  m0 : List Addr
structure Fm (C : Cn) (L : List Addr) (F H : Hp) (ms : List Addr) : Prop where
  hf : Ex C.F0 F
  keep : ∀ b o, C.H0 b = some o → b ∉ C.m0 → H b = some o ∨ (b ∈ L ∧ isDict o ∧ ∃ u, H b = some (.frz u o))
  dom : ∀ b, H b = none → C.H0 b = none
  newF : ∀ b o, F b = some o → C.F0 b = some o ∨ C.H0 b = none ∨ b ∈ C.m0
  newC : ∀ a ∈ ms, a ∈ C.m0 ∨ C.H0 a = none
  pre : C.m0 <+: ms
structure Sim (K : PySem.W.Frag) (cl : Str → Option Addr) (C : Cn) (L : List Addr) (F H : Hp) (ms : List Addr) (σ : St) (ρ : Rho) (S : Sto) : Prop where
  bs : Bs K cl F H ms S
  fm : Fm C L F H ms
  len : σ.length = ρ.length
  slot : ∀ (i : Nat) (w : W), ρ[i]? = some (some w) → ∃ v, σ[i]? = some (some v) ∧ RW K cl F ms w v

/-- new frozen things alone -/
structure Al (F H F' H' : Hp) : Prop where
  f : Ex F F'
  h : Ex H H'
  x : Xt F' H'
  n : ∀ b o, F' b = some o → F b = some o ∨ H b = none
theorem Al.refl {F H : Hp} (x : Xt F H) : Al F H F H := ⟨Ex.refl _, Ex.refl _, x, fun _ _ e => .inl e⟩
theorem Al.trans {F H F' H' G I : Hp} (a : Al F H F' H') (b : Al F' H' G I) : Al F H G I :=
  ⟨a.f.trans b.f, a.h.trans b.h, b.x, fun c o e => by
    rcases b.n c o e with z | z
    · exact a.n c o z
    · refine .inr ?_
      cases q : H c with
      | none => rfl
      | some u => rw [a.h c u q] at z; cases z⟩
theorem Al.new {F H : Hp} {p : Addr} {o : HO} (x : Xt F H) (h : H p = none) : Al F H (upd F p o) (upd H p o) :=
  ⟨Ex.new (x.none h), Ex.new h, fun b u e => by
    by_cases z : b = p
    · subst z; rw [upd_same] at e ⊢; exact .inl e
    · rw [upd_ne z] at e ⊢; exact x b u e, fun b u e => by
    by_cases z : b = p
    · subst z; exact .inr h
    · rw [upd_ne z] at e; exact .inl e⟩
/-- a new thing that is not frozen -/
theorem Al.own {F H : Hp} {p : Addr} {o : HO} (x : Xt F H) (h : H p = none) : Al F H F (upd H p o) :=
  ⟨Ex.refl _, Ex.new h, x.ex (Ex.new h), fun b u e => .inl e⟩

section
variable {K : PySem.W.Frag} {cl : Str → Option Addr} {C : Cn} {L : List Addr} {F H F' H' : Hp} {ms : List Addr} {σ : St} {ρ : Rho} {S : Sto}
theorem Bs.al (b : Bs K cl F H ms S) (a : Al F H F' H') : Bs K cl F' H' ms S :=
  ⟨a.x, b.len, b.nd, (fun q hq e => b.has q hq (by
    cases z : H q with
    | none => rfl
    | some u => rw [a.h q u z] at e; cases e)), fun n c e d => by
    obtain ⟨q, e1, e2, e3⟩ := b.cell n c e d
    refine ⟨q, e1, ?_, CellR.grow a.f (List.prefix_refl _) (fun o z => a.h q o z) e3⟩
    cases z : F' q with
    | none => rfl
    | some o =>
      obtain ⟨u, hu⟩ := CellR.there d e3
      rcases a.n q o z with y | y
      · rw [e2] at y; cases y
      · rw [hu] at y; cases y⟩
theorem Fm.al (f : Fm C L F H ms) (a : Al F H F' H') : Fm C L F' H' ms :=
  ⟨f.hf.trans a.f, fun b o e n => (f.keep b o e n).imp (a.h b o) fun ⟨l, d, u, z⟩ => ⟨l, d, u, a.h b _ z⟩, (fun b e => f.dom b (by
    cases q : H b with
    | none => rfl
    | some u => rw [a.h b u q] at e; cases e)),
   (fun b o e => by
    rcases a.n b o e with z | z
    · exact f.newF b o z
    · exact .inr (.inl (f.dom b z))), f.newC, f.pre⟩
theorem Sim.al (s : Sim K cl C L F H ms σ ρ S) (a : Al F H F' H') : Sim K cl C L F' H' ms σ ρ S :=
  ⟨s.bs.al a, s.fm.al a, s.len, fun i w e => by
    obtain ⟨v, h1, h2⟩ := s.slot i w e
    exact ⟨v, h1, h2.grow a.f (List.prefix_refl _)⟩⟩
end

/-! ### exceptions -/
def XR (K : PySem.W.Frag) (cl : Str → Option Addr) (F : Hp) (x : Exn) (cls : Value) (dd : Option Addr) : Prop :=
  ∃ C, cl x.c = some C ∧ cls = .ref C ∧ ((x.fs = [] ∧ dd = none) ∨ ∃ d vs, dd = some d ∧ F d = some (.xd (x.fs.zip vs)) ∧ x.fs.length = vs.length ∧ RpL K cl F x.ds vs)

/-! ### the judgements over readings -/
def PostG {a : Type} (K : PySem.W.Frag) (cl : Str → Option Addr) (C : Cn) (L : List Addr) (Wx : WX) (F : Hp) (ms : List Addr) (σ : St) (ρ : Rho) (S : Sto) (r : Re a) (P : a → Prop) : Prop := match r with
  | .ok w => P w
  | .ex x => ∀ cls dd F' H', Sim K cl C L F' H' ms σ ρ S → Ex F F' → XR K cl F' x cls dd → Wx cls dd σ H'
  | .stuck => False
section
variable {a b : Type} {K : PySem.W.Frag} {cl : Str → Option Addr} {C : Cn} {L : List Addr} {Wx : WX} {F F' : Hp} {ms : List Addr} {σ : St} {ρ : Rho} {S : Sto} {r : Re a} {P P' : a → Prop}
theorem PostG.bind {k : a → Re b} {P : b → Prop} (h : PostG K cl C L Wx F ms σ ρ S (r.bind k) P) : PostG K cl C L Wx F ms σ ρ S r (fun w => PostG K cl C L Wx F ms σ ρ S (k w) P) := by
  cases r <;> exact h
theorem PostG.imp (h : PostG K cl C L Wx F ms σ ρ S r P) (k : ∀ w, P w → P' w) : PostG K cl C L Wx F ms σ ρ S r P' := by
  cases r with
  | ok w => exact k w h
  | ex x => exact h
  | stuck => exact h
theorem PostG.mono (x : Ex F F') (h : PostG K cl C L Wx F ms σ ρ S r P) : PostG K cl C L Wx F' ms σ ρ S r P := by
  cases r with
  | ok w => exact h
  | ex e => exact fun cls dd F2 H2 s y z => h cls dd F2 H2 s (x.trans y) z
  | stuck => exact h
/-- on: with what is known behind -/
theorem PostG.go {k : a → Re b} {P : b → Prop} (h : PostG K cl C L Wx F ms σ ρ S (r.bind k) P) (f : ∀ w, (∀ F', Ex F F' → PostG K cl C L Wx F' ms σ ρ S (k w) P) → P' w) : PostG K cl C L Wx F ms σ ρ S r P' :=
  PostG.imp (PostG.bind h) fun w z => f w fun _ y => z.mono y
end
abbrev OkE (K : PySem.W.Frag) (cl : Str → Option Addr) (C : Cn) (L : List Addr) (F : Hp) (ms : List Addr) (σ : St) (ρ : Rho) (S : Sto) (Q : VK) : W → Prop := fun w => ∀ v F' H', Sim K cl C L F' H' ms σ ρ S → Ex F F' → RW K cl F' ms w v → Q v H'
abbrev OkA (K : PySem.W.Frag) (cl : Str → Option Addr) (C : Cn) (L : List Addr) (F : Hp) (ms : List Addr) (σ : St) (ρ : Rho) (S : Sto) (Q : List V → Hp → Prop) : List W → Prop := fun ws => ∀ vs F' H', Sim K cl C L F' H' ms σ ρ S → Ex F F' → RWL K cl F' ms ws vs → Q vs H'
abbrev OkT (K : PySem.W.Frag) (cl : Str → Option Addr) (C : Cn) (L : List Addr) (F : Hp) (ms : List Addr) (σ : St) (ρ : Rho) (S : Sto) (Q : Bool → Hp → Prop) : Bool → Prop := fun b => ∀ F' H', Sim K cl C L F' H' ms σ ρ S → Ex F F' → Q b H'
def SE (K : PySem.W.Frag) (cl : Str → Option Addr) (C : Cn) (Wx : WX) (te : TE) (m : ME) : Prop := ∀ L F H ms σ ρ S, Sim K cl C L F H ms σ ρ S → ∀ Q, PostG K cl C L Wx F ms σ ρ S (m ρ S) (OkE K cl C L F ms σ ρ S Q) → te σ H Q
def SA (K : PySem.W.Frag) (cl : Str → Option Addr) (C : Cn) (Wx : WX) (ta : TA) (m : MA) : Prop := ∀ L F H ms σ ρ S, Sim K cl C L F H ms σ ρ S → ∀ Q, PostG K cl C L Wx F ms σ ρ S (m ρ S) (OkA K cl C L F ms σ ρ S Q) → ta σ H Q
def ST (K : PySem.W.Frag) (cl : Str → Option Addr) (C : Cn) (Wx : WX) (tt : TT) (m : MT) : Prop := ∀ L F H ms σ ρ S, Sim K cl C L F H ms σ ρ S → ∀ Q, PostG K cl C L Wx F ms σ ρ S (m ρ S) (OkT K cl C L F ms σ ρ S Q) → tt σ H Q
def PostS (K : PySem.W.Frag) (cl : Str → Option Addr) (C : Cn) (L : List Addr) (Wx : WX) (F : Hp) (ms : List Addr) (r : Out) (Z : Ends) : Prop := match r with
  | .nx ρ S => ∀ σ' F' H' ms', Sim K cl C L F' H' ms' σ' ρ S → Ex F F' → ms <+: ms' → Z.nx σ' H'
  | .rt w S => ∀ v σ' ρ' F' H' ms', Sim K cl C L F' H' ms' σ' ρ' S → Ex F F' → ms <+: ms' → RW K cl F' ms' w v → Z.rt v H'
  | .bk ρ S => ∀ σ' F' H' ms', Sim K cl C L F' H' ms' σ' ρ S → Ex F F' → ms <+: ms' → Z.bk σ' H'
  | .ct ρ S => ∀ σ' F' H' ms', Sim K cl C L F' H' ms' σ' ρ S → Ex F F' → ms <+: ms' → Z.ct σ' H'
  | .ex x ρ S => ∀ cls dd σ' F' H' ms', Sim K cl C L F' H' ms' σ' ρ S → Ex F F' → ms <+: ms' → XR K cl F' x cls dd → Wx cls dd σ' H'
  | .stuck => False
theorem PostS.mono {K : PySem.W.Frag} {cl : Str → Option Addr} {C : Cn} {L : List Addr} {Wx : WX} {F F' : Hp} {ms ms' : List Addr} {r : Out} {Z : Ends} (x : Ex F F') (p : ms <+: ms') (h : PostS K cl C L Wx F ms r Z) : PostS K cl C L Wx F' ms' r Z := by
  cases r with
  | nx ρ S => exact fun a b c d e f g => h a b c d e (x.trans f) (p.trans g)
  | rt w S => exact fun v a r b c d e f g k => h v a r b c d e (x.trans f) (p.trans g) k
  | bk ρ S => exact fun a b c d e f g => h a b c d e (x.trans f) (p.trans g)
  | ct ρ S => exact fun a b c d e f g => h a b c d e (x.trans f) (p.trans g)
  | ex e ρ S => exact fun c1 c2 a b c d e f g k => h c1 c2 a b c d e (x.trans f) (p.trans g) k
  | stuck => exact h
def Re.out {a : Type} (r : Re a) (ρ : Rho) (S : Sto) (k : a → Out) : Out := match r with
  | .ok w => k w
  | .ex x => .ex x ρ S
  | .stuck => .stuck
theorem PostS.go {a : Type} {K : PySem.W.Frag} {cl : Str → Option Addr} {C : Cn} {L : List Addr} {Wx : WX} {F : Hp} {ms : List Addr} {σ : St} {ρ : Rho} {S : Sto} {r : Re a} {k : a → Out} {Z : Ends} {P : a → Prop}
    (h : PostS K cl C L Wx F ms (r.out ρ S k) Z) (f : ∀ w, (∀ F' ms', Ex F F' → ms <+: ms' → PostS K cl C L Wx F' ms' (k w) Z) → P w) : PostG K cl C L Wx F ms σ ρ S r P := by
  cases r with
  | ok w => exact f w fun F' ms' x p => PostS.mono x p h
  | ex x => exact fun cls dd F' H' s y z => h cls dd σ F' H' ms s y (List.prefix_refl _) z
  | stuck => exact h
def SS (K : PySem.W.Frag) (cl : Str → Option Addr) (C : Cn) (Wx : WX) (ts : TS) (m : MS) : Prop := ∀ L F H ms σ ρ S, Sim K cl C L F H ms σ ρ S → ∀ Z, PostS K cl C L Wx F ms (m ρ S) Z → ts Z σ H

/-! ### fused: a piece of syntax and its plain meaning -/
def QE (X : Cx) (cl : Str → Option Addr) (C : Cn) (Wx : WX) (e : Expr) (m : ME) : Prop := ∃ te, PE X e te ∧ SE X.K cl C Wx te m
def QA (X : Cx) (cl : Str → Option Addr) (C : Cn) (Wx : WX) (es : List Expr) (m : MA) : Prop := ∃ ta, PA X es ta ∧ SA X.K cl C Wx ta m
def QT (X : Cx) (cl : Str → Option Addr) (C : Cn) (Wx : WX) (e : Expr) (m : MT) : Prop := ∃ tt, PT X e tt ∧ ST X.K cl C Wx tt m
def QW (X : Cx) (cl : Str → Option Addr) (C : Cn) (Wx : WX) (e : Expr) (m : MT) : Prop := ∃ tt, PW X e tt ∧ ST X.K cl C Wx tt m
def QS (X : Cx) (cl : Str → Option Addr) (C : Cn) (Wx : WX) (st : Stmt) (m : MS) : Prop := ∃ ts, PS X st ts ∧ SS X.K cl C Wx ts m
def QB (X : Cx) (cl : Str → Option Addr) (C : Cn) (Wx : WX) (st : List Stmt) (m : MS) : Prop := ∃ ts, PSs X st ts ∧ SS X.K cl C Wx ts m
end Ng
namespace Ng
open PySem L2

/-- tests that nothing computes -/
noncomputable def ifc {a : Type} (c : Prop) (x y : a) : a := @ite a c (Classical.propDecidable c) x y
noncomputable def dec (c : Prop) : Bool := @decide c (Classical.propDecidable c)
theorem ifc_pos {a : Type} {c : Prop} {x y : a} (h : c) : ifc c x y = x := by unfold ifc; exact if_pos h
theorem ifc_neg {a : Type} {c : Prop} {x y : a} (h : ¬ c) : ifc c x y = y := by unfold ifc; exact if_neg h
theorem ifc_true {a : Type} {x y : a} : ifc True x y = x := ifc_pos trivial
theorem ifc_false {a : Type} {x y : a} : ifc False x y = y := ifc_neg (fun h => h)
theorem dec_true : dec True = true := by unfold dec; simp
theorem dec_false : dec False = false := by unfold dec; simp
theorem dec_pos {c : Prop} (h : c) : dec c = true := by unfold dec; simp [h]
theorem dec_neg {c : Prop} (h : ¬ c) : dec c = false := by unfold dec; simp [h]
theorem dec_eq (c : Prop) [i : Decidable c] : dec c = decide c := by
  by_cases h : c
  · rw [dec_pos h, decide_eq_true h]
  · rw [dec_neg h, decide_eq_false h]
theorem ifc_cases {a : Type} {c : Prop} {x y : a} {P : a → Prop} (h : P (ifc c x y)) : (c ∧ P x) ∨ (¬ c ∧ P y) := by
  by_cases e : c
  · rw [ifc_pos e] at h; exact .inl ⟨e, h⟩
  · rw [ifc_neg e] at h; exact .inr ⟨e, h⟩

/-! ### plain meanings -/
def mVar (i : Nat) : ME := fun ρ _ => match ρ[i]? with
  | some (some w) => .ok w
  | _ => .stuck
def mC (d : D) : ME := fun _ _ => .ok (.da d)
def mOp (f : W → W → Sto → Re W) (ma mb : ME) : ME := fun ρ S => (ma ρ S).bind fun x => (mb ρ S).bind fun y => f x y S
def mUn (f : W → Sto → Re W) (ma : ME) : ME := fun ρ S => (ma ρ S).bind fun x => f x S
def mNil : MA := fun _ _ => .ok []
def mCons (ma : ME) (mr : MA) : MA := fun ρ S => (ma ρ S).bind fun x => (mr ρ S).bind fun xs => .ok (x :: xs)
def mCall (f : List W → Sto → Re W) (ma : MA) : ME := fun ρ S => (ma ρ S).bind fun ws => f ws S
/-- data alone -/
def dat : W → Re D
  | .da d => .ok d
  | .lo _ => .stuck
def dats : List W → Re (List D)
  | [] => .ok []
  | w :: ws => (dat w).bind fun d => (dats ws).bind fun ds => .ok (d :: ds)
noncomputable def mTup (ma : MA) : ME := fun ρ S => (ma ρ S).bind fun ws => (dats ws).bind fun ds => ifc (ds.length ≤ sizeLine) (.ok (.da (.tup true ds))) .stuck
noncomputable def mLst (ma : MA) : ME := fun ρ S => (ma ρ S).bind fun ws => (dats ws).bind fun ds => ifc (ds.length ≤ sizeLine) (.ok (.da (.lst true ds))) .stuck
/-- truth -/
noncomputable def truW (S : Sto) : W → Re Bool
  | .da .non => .ok false
  | .da (.bl b) => .ok b
  | .da (.int i) => .ok (i != 0)
  | .da (.str x) => ifc (x.length ≤ sizeLine) (.ok ((x.length : Int) != 0)) .stuck
  | .da (.tup _ ds) => .ok (!ds.isEmpty)
  | .da (.lst _ ds) => .ok (!ds.isEmpty)
  | .da _ => .stuck
  | .lo n => match S[n]? with
    | some (.lst ws) => .ok (!ws.isEmpty)
    | some (.dk kws) => .ok (!kws.isEmpty)
    | _ => .stuck
noncomputable def mTru (me : ME) : MT := fun ρ S => (me ρ S).bind fun w => truW S w
def boolOf : W → Re Bool
  | .da (.bl b) => .ok b
  | _ => .stuck
def mTst (me : ME) : MT := fun ρ S => (me ρ S).bind boolOf
def mAnd (a b : MT) : MT := fun ρ S => (a ρ S).bind fun c => if c = true then b ρ S else .ok false
def mOr (a b : MT) : MT := fun ρ S => (a ρ S).bind fun c => if c = true then .ok true else b ρ S
def mNot (a : MT) : MT := fun ρ S => (a ρ S).bind fun c => .ok (!c)
def mAndV (a b : ME) : ME := fun ρ S => (a ρ S).bind fun x => (boolOf x).bind fun c => if c = true then b ρ S else .ok (.da (.bl false))
def mOrV (a b : ME) : ME := fun ρ S => (a ρ S).bind fun x => (boolOf x).bind fun c => if c = true then .ok (.da (.bl true)) else b ρ S
def mNotV (a : ME) : ME := fun ρ S => (a ρ S).bind fun x => (boolOf x).bind fun c => .ok (.da (.bl (!c)))
def mChain (f g : W → W → Sto → Re W) (ma mb mc : ME) : ME := fun ρ S => (ma ρ S).bind fun x => (mb ρ S).bind fun y => (f x y S).bind fun z => (boolOf z).bind fun k =>
  if k = true then (mc ρ S).bind fun w => g y w S else .ok (.da (.bl false))
/-! statements -/
def mSkip : MS := fun ρ S => .nx ρ S
def mSeq (a b : MS) : MS := fun ρ S => match a ρ S with
  | .nx ρ' S' => b ρ' S'
  | o => o
def mSet (i : Nat) (e : ME) : MS := fun ρ S => (e ρ S).out ρ S fun w => .nx (ρ.set i (some w)) S
def mRet (e : ME) : MS := fun ρ S => (e ρ S).out ρ S fun w => .rt w S
def mDrop (e : ME) : MS := fun ρ S => (e ρ S).out ρ S fun _ => .nx ρ S
def mIf (t : MT) (a b : MS) : MS := fun ρ S => (t ρ S).out ρ S fun c => if c = true then a ρ S else b ρ S
def mBreak : MS := fun ρ S => .bk ρ S
def mContinue : MS := fun ρ S => .ct ρ S

/-! ### any rule of an operation -/
def rAny (X : Cx) (g : Value → Value → Sem Value) : R2 := fun x y H Q => ∃ r, OpR X g r ∧ r x y H Q
theorem op_any {X : Cx} {g : Value → Value → Sem Value} : OpR X g (rAny X g) := fun pins s σ H x y v u Q I rx ry ⟨_, o, h⟩ => o pins s σ H x y v u Q I rx ry h
def uAny (X : Cx) (g : Value → Sem Value) : V → Hp → VK → Prop := fun x H Q => ∃ r, UnR X g r ∧ r x H Q
theorem un_any {X : Cx} {g : Value → Sem Value} : UnR X g (uAny X g) := fun pins s σ H x v Q I rx ⟨_, o, h⟩ => o pins s σ H x v Q I rx h
def cAny (X : Cx) (f : Value) : List V → Hp → VK → Prop := fun xs H Q => ∃ r, CallR X f r ∧ r xs H Q
theorem call_any {X : Cx} {f : Value} : CallR X f (cAny X f) := fun pins s σ H xs us Q I r ⟨_, o, h⟩ => o pins s σ H xs us Q I r h
def xAny (X : Cx) : R2 := fun x y H Q => ∃ r, IxR X r ∧ r x y H Q
theorem ix_any {X : Cx} : IxR X (xAny X) := fun value slice pins s σ H x y v u Q I rx ry ⟨_, o, h⟩ e => o value slice pins s σ H x y v u Q I rx ry h e
def mtAny (X : Cx) (id : String) : V → List V → Hp → VK → Prop := fun x xs H Q => ∃ r, MtR X id r ∧ r x xs H Q
theorem mt_any {X : Cx} {id : String} : MtR X id (mtAny X id) := fun pins s σ H x xs v us Q I rx r ⟨_, o, h⟩ => o pins s σ H x xs v us Q I rx r h

section
variable {X : Cx} {cl : Str → Option Addr} {C : Cn} {Wx : WX} {pos : Pos} {a b c e : Expr} {es : List Expr} {ma mb mc me : ME} {mr : MA} {ta tb tc : MT}
abbrev G (X : Cx) (cl : Str → Option Addr) (C : Cn) (L : List Addr) (Wx : WX) (F : Hp) (ms : List Addr) (σ : St) (ρ : Rho) (S : Sto) {α : Type} (r : Re α) (P : α → Prop) : Prop := PostG X.K cl C L Wx F ms σ ρ S r P
/-- a two-place operation on values -/
def OpW (X : Cx) (cl : Str → Option Addr) (g : Value → Value → Sem Value) (f : W → W → Sto → Re W) : Prop := ∀ C Wx L F H ms σ ρ S, Sim X.K cl C L F H ms σ ρ S → ∀ wx wy x y, RW X.K cl F ms wx x → RW X.K cl F ms wy y →
  ∀ Q, PostG X.K cl C L Wx F ms σ ρ S (f wx wy S) (OkE X.K cl C L F ms σ ρ S Q) → rAny X g x y H Q
def UnW (X : Cx) (cl : Str → Option Addr) (g : Value → Sem Value) (f : W → Sto → Re W) : Prop := ∀ C Wx L F H ms σ ρ S, Sim X.K cl C L F H ms σ ρ S → ∀ wx x, RW X.K cl F ms wx x →
  ∀ Q, PostG X.K cl C L Wx F ms σ ρ S (f wx S) (OkE X.K cl C L F ms σ ρ S Q) → uAny X g x H Q
def CallW (X : Cx) (cl : Str → Option Addr) (g : Value) (f : List W → Sto → Re W) : Prop := ∀ C Wx L F H ms σ ρ S, Sim X.K cl C L F H ms σ ρ S → ∀ ws xs, RWL X.K cl F ms ws xs →
  ∀ Q, PostG X.K cl C L Wx F ms σ ρ S (f ws S) (OkE X.K cl C L F ms σ ρ S Q) → cAny X g xs H Q
def IxW (X : Cx) (cl : Str → Option Addr) (f : W → W → Sto → Re W) : Prop := ∀ C Wx L F H ms σ ρ S, Sim X.K cl C L F H ms σ ρ S → ∀ wx wy x y, RW X.K cl F ms wx x → RW X.K cl F ms wy y →
  ∀ Q, PostG X.K cl C L Wx F ms σ ρ S (f wx wy S) (OkE X.K cl C L F ms σ ρ S Q) → xAny X x y H Q

theorem se_op {K : PySem.W.Frag} {r : R2} {t u : TE} {f : W → W → Sto → Re W}
    (ho : ∀ L F H ms σ ρ S, Sim K cl C L F H ms σ ρ S → ∀ wx wy x y, RW K cl F ms wx x → RW K cl F ms wy y → ∀ Q, PostG K cl C L Wx F ms σ ρ S (f wx wy S) (OkE K cl C L F ms σ ρ S Q) → r x y H Q)
    (ha : SE K cl C Wx t ma) (hb : SE K cl C Wx u mb) : SE K cl C Wx (tOp r t u) (mOp f ma mb) := by
  intro L F H ms σ ρ S s Q h
  refine ha L F H ms σ ρ S s _ (PostG.go h fun w h1 v F1 H1 s1 x1 r1 => ?_)
  refine hb L F1 H1 ms σ ρ S s1 _ (PostG.go (h1 F1 x1) fun w2 h2 u F2 H2 s2 x2 r2 => ?_)
  exact ho L F2 H2 ms σ ρ S s2 w w2 v u (r1.grow x2 (List.prefix_refl _)) r2 Q (PostG.imp (h2 F2 x2) fun w3 h3 v3 F3 H3 s3 x3 => h3 v3 F3 H3 s3 ((x1.trans x2).trans x3))
theorem se_un {K : PySem.W.Frag} {r : V → Hp → VK → Prop} {t : TE} {f : W → Sto → Re W}
    (ho : ∀ L F H ms σ ρ S, Sim K cl C L F H ms σ ρ S → ∀ wx x, RW K cl F ms wx x → ∀ Q, PostG K cl C L Wx F ms σ ρ S (f wx S) (OkE K cl C L F ms σ ρ S Q) → r x H Q)
    (ha : SE K cl C Wx t ma) : SE K cl C Wx (tUn r t) (mUn f ma) := by
  intro L F H ms σ ρ S s Q h
  refine ha L F H ms σ ρ S s _ (PostG.go h fun w h1 v F1 H1 s1 x1 r1 => ?_)
  exact ho L F1 H1 ms σ ρ S s1 w v r1 Q (PostG.imp (h1 F1 x1) fun w3 h3 v3 F3 H3 s3 x3 => h3 v3 F3 H3 s3 (x1.trans x3))
theorem sa_nil {K : PySem.W.Frag} : SA K cl C Wx tNil mNil := fun L F H ms σ ρ S s Q h => h [] F H s (Ex.refl _) .nil
theorem sa_cons {K : PySem.W.Frag} {t : TE} {u : TA} (ha : SE K cl C Wx t ma) (hr : SA K cl C Wx u mr) : SA K cl C Wx (tCons t u) (mCons ma mr) := by
  intro L F H ms σ ρ S s Q h
  refine ha L F H ms σ ρ S s _ (PostG.go h fun w h1 v F1 H1 s1 x1 r1 => ?_)
  refine hr L F1 H1 ms σ ρ S s1 _ (PostG.go (h1 F1 x1) fun ws h2 vs F2 H2 s2 x2 r2 => ?_)
  exact h2 F2 x2 (v :: vs) F2 H2 s2 (x1.trans x2) (.cons (r1.grow x2 (List.prefix_refl _)) r2)
theorem se_call {K : PySem.W.Frag} {r : List V → Hp → VK → Prop} {t : TA} {f : List W → Sto → Re W}
    (ho : ∀ L F H ms σ ρ S, Sim K cl C L F H ms σ ρ S → ∀ ws xs, RWL K cl F ms ws xs → ∀ Q, PostG K cl C L Wx F ms σ ρ S (f ws S) (OkE K cl C L F ms σ ρ S Q) → r xs H Q)
    (ha : SA K cl C Wx t mr) : SE K cl C Wx (tCB r t) (mCall f mr) := by
  intro L F H ms σ ρ S s Q h
  refine ha L F H ms σ ρ S s _ (PostG.go h fun w h1 v F1 H1 s1 x1 r1 => ?_)
  exact ho L F1 H1 ms σ ρ S s1 w v r1 Q (PostG.imp (h1 F1 x1) fun w3 h3 v3 F3 H3 s3 x3 => h3 v3 F3 H3 s3 (x1.trans x3))

/-! ### names, constants -/
theorem qe_var (i : Nat) {x : Str} (hN : X.N[i]? = some x := by rfl) (hv : Vis X.env.scope x := by first | exact Or.inl rfl | exact Or.inr (Or.inl rfl) | exact Or.inr (Or.inr rfl)) (hd : (x == ("__debug__" : Str)) = false := by decide)
    (hcd : (x == ("__classdict__" : Str)) = false := by decide) : QE X cl C Wx (.Name x pos) (mVar i) :=
  ⟨_, pe_var hN hv hd hcd, fun L F H ms σ ρ S s Q h => by
    unfold mVar at h
    cases e : ρ[i]? with
    | none => rw [e] at h; exact h.elim
    | some o =>
      cases o with
      | none => rw [e] at h; exact h.elim
      | some w =>
        rw [e] at h
        obtain ⟨v, e1, e2⟩ := s.slot i w e
        exact ⟨v, e1, h v F H s (Ex.refl _) e2⟩⟩
theorem se_c {K : PySem.W.Frag} {d : D} {v : V} (h : ∀ F, Rp K cl F d v) : SE K cl C Wx (tC v) (mC d) := fun L F H ms σ ρ S s Q q => q v F H s (Ex.refl _) (h F)
theorem qe_int {i : Int} {j} : QE X cl C Wx (.Constant (.int i) j pos) (mC (.int i)) := ⟨_, pe_int, se_c fun _ => rfl⟩
theorem qe_str {x : Str} {j} : QE X cl C Wx (.Constant (.str x) j pos) (mC (.str x)) := ⟨_, pe_str, se_c fun _ => rfl⟩
theorem qe_bl {x : Bool} {j} : QE X cl C Wx (.Constant (.bool x) j pos) (mC (.bl x)) := ⟨_, pe_bl, se_c fun _ => rfl⟩
theorem qe_non {j} : QE X cl C Wx (.Constant .none j pos) (mC .non) := ⟨_, pe_non, se_c fun _ => rfl⟩
theorem qe_glob {x : Str} {v : V} {u : Value} {d : D} (hg : Gl X x) (hm : X.mg x = some u) (r : RelV v u) (h : ∀ F, Rp X.K cl F d v) (hd : (x == ("__debug__" : Str)) = false := by decide) : QE X cl C Wx (.Name x pos) (mC d) :=
  ⟨_, pe_glob hg hm r hd, se_c h⟩

/-! ### operations -/
theorem qe_bin {op : Operator} {f : W → W → Sto → Re W} (ho : OpW X cl (binaryOp op) f) (ha : QE X cl C Wx a ma) (hb : QE X cl C Wx b mb) : QE X cl C Wx (.BinOp a op b pos) (mOp f ma mb) := by
  obtain ⟨t, p, q⟩ := ha
  obtain ⟨t2, p2, q2⟩ := hb
  exact ⟨_, pe_op op_any p p2, se_op (ho C Wx) q q2⟩
theorem qe_un {op : UnaryOp} {f : W → Sto → Re W} (ho : UnW X cl (unaryOp op) f) (ha : QE X cl C Wx a ma) : QE X cl C Wx (.UnaryOp op a pos) (mUn f ma) := by
  obtain ⟨t, p, q⟩ := ha
  exact ⟨_, pe_un un_any p, se_un (ho C Wx) q⟩
theorem qe_cmp {op : CmpOp} {f : W → W → Sto → Re W} (ho : OpW X cl (compareOp op) f) (ha : QE X cl C Wx a ma) (hb : QE X cl C Wx b mb) (hm : behindInMarks op b = false) : QE X cl C Wx (.Compare a [op] [b] pos) (mOp f ma mb) := by
  obtain ⟨t, p, q⟩ := ha
  obtain ⟨t2, p2, q2⟩ := hb
  exact ⟨_, pe_cmpR op_any p p2 hm, se_op (ho C Wx) q q2⟩
theorem st_test {K : PySem.W.Frag} {t : TE} (h : SE K cl C Wx t me) : ST K cl C Wx (tTest t) (mTst me) := by
  intro L F H ms σ ρ S s Q q
  refine h L F H ms σ ρ S s _ (PostG.go q fun w h1 v F1 H1 s1 x1 r1 => ?_)
  have h2 := h1 F1 x1
  match w, h2, r1 with
  | .da (.bl k), h2, r1 =>
    cases (show v = .bl k from r1)
    exact ⟨k, rfl, h2 F1 H1 s1 x1⟩
theorem qt_cmp {op : CmpOp} {f : W → W → Sto → Re W} (ho : OpW X cl (compareOp op) f) (ha : QE X cl C Wx a ma) (hb : QE X cl C Wx b mb) (hm : behindInMarks op b = false) : QT X cl C Wx (.Compare a [op] [b] pos) (mTst (mOp f ma mb)) := by
  obtain ⟨t, p, q⟩ := ha
  obtain ⟨t2, p2, q2⟩ := hb
  exact ⟨_, pt_cmpR op_any p p2 hm, st_test (se_op (ho C Wx) q q2)⟩
theorem se_chain {K : PySem.W.Frag} {r r' : R2} {t u v : TE} {f g : W → W → Sto → Re W}
    (ho : ∀ L F H ms σ ρ S, Sim K cl C L F H ms σ ρ S → ∀ wx wy x y, RW K cl F ms wx x → RW K cl F ms wy y → ∀ Q, PostG K cl C L Wx F ms σ ρ S (f wx wy S) (OkE K cl C L F ms σ ρ S Q) → r x y H Q)
    (ho' : ∀ L F H ms σ ρ S, Sim K cl C L F H ms σ ρ S → ∀ wx wy x y, RW K cl F ms wx x → RW K cl F ms wy y → ∀ Q, PostG K cl C L Wx F ms σ ρ S (g wx wy S) (OkE K cl C L F ms σ ρ S Q) → r' x y H Q)
    (ha : SE K cl C Wx t ma) (hb : SE K cl C Wx u mb) (hc : SE K cl C Wx v mc) : SE K cl C Wx (tChain r r' t u v) (mChain f g ma mb mc) := by
  intro L F H ms σ ρ S s Q h
  refine ha L F H ms σ ρ S s _ (PostG.go h fun w h1 v F1 H1 s1 x1 r1 => ?_)
  refine hb L F1 H1 ms σ ρ S s1 _ (PostG.go (h1 F1 x1) fun w2 h2 u F2 H2 s2 x2 r2 => ?_)
  refine ho L F2 H2 ms σ ρ S s2 w w2 v u (r1.grow x2 (List.prefix_refl _)) r2 _ (PostG.go (h2 F2 x2) fun w3 h3 v3 F3 H3 s3 x3 r3 => ?_)
  have h4 := h3 F3 x3
  match w3, h4, r3 with
  | .da (.bl k), h4, r3 =>
    cases (show v3 = .bl k from r3)
    refine ⟨k, rfl, ?_⟩
    cases k with
    | false => exact h4 _ F3 H3 s3 ((x1.trans x2).trans x3) rfl
    | true =>
      refine hc L F3 H3 ms σ ρ S s3 _ (PostG.go h4 fun w4 h5 v4 F4 H4 s4 x4 r4 => ?_)
      exact ho' L F4 H4 ms σ ρ S s4 w2 w4 u v4 (r2.grow (x3.trans x4) (List.prefix_refl _)) r4 Q (PostG.imp (h5 F4 x4) fun w5 h6 v5 F5 H5 s5 x5 => h6 v5 F5 H5 s5 (((x1.trans x2).trans x3).trans (x4.trans x5)))
theorem qe_chain {op op' : CmpOp} {f g : W → W → Sto → Re W} (ho : OpW X cl (compareOp op) f) (ho' : OpW X cl (compareOp op') g) (ha : QE X cl C Wx a ma) (hb : QE X cl C Wx b mb) (hc : QE X cl C Wx c mc)
    (hm : lastMarks [op, op'] [b, c] = false := by with_unfolding_all rfl) : QE X cl C Wx (.Compare a [op, op'] [b, c] pos) (mChain f g ma mb mc) := by
  obtain ⟨t, p, q⟩ := ha
  obtain ⟨t2, p2, q2⟩ := hb
  obtain ⟨t3, p3, q3⟩ := hc
  exact ⟨_, pe_chain op_any op_any p p2 p3 hm, se_chain (ho C Wx) (ho' C Wx) q q2 q3⟩
theorem qt_chain {op op' : CmpOp} {f g : W → W → Sto → Re W} (ho : OpW X cl (compareOp op) f) (ho' : OpW X cl (compareOp op') g) (ha : QE X cl C Wx a ma) (hb : QE X cl C Wx b mb) (hc : QE X cl C Wx c mc)
    (hm : lastMarks [op, op'] [b, c] = false := by with_unfolding_all rfl) : QT X cl C Wx (.Compare a [op, op'] [b, c] pos) (mTst (mChain f g ma mb mc)) := by
  obtain ⟨t, p, q⟩ := ha
  obtain ⟨t2, p2, q2⟩ := hb
  obtain ⟨t3, p3, q3⟩ := hc
  exact ⟨_, pt_chain op_any op_any p p2 p3 hm, st_test (se_chain (ho C Wx) (ho' C Wx) q q2 q3)⟩

/-! ### truth -/
theorem tru_ok {K : PySem.W.Frag} {L : List Addr} {F H : Hp} {ms : List Addr} {σ : St} {ρ : Rho} {S : Sto} (s : Sim K cl C L F H ms σ ρ S) {w : W} {v : V} {k : Bool} (r : RW K cl F ms w v) (h : truW S w = .ok k) : TruV K v H k := by
  match w, h, r with
  | .da .non, h, r => cases (show v = .non from r); cases h; exact rfl
  | .da (.bl b), h, r => cases (show v = .bl b from r); cases h; exact rfl
  | .da (.int i), h, r => cases (show v = .int i from r); cases h; exact rfl
  | .da (.str x), h, r =>
    cases (show v = .str x from r)
    simp only [truW] at h
    rcases ifc_cases (P := fun r => r = Re.ok k) h with ⟨hc, h⟩ | ⟨_, h⟩
    · cases h; exact ⟨hc, rfl⟩
    · cases h
  | .da (.tup g ds), h, r =>
    obtain ⟨p, vs, rfl, t, l⟩ := r
    cases h
    refine .inr (.inl ⟨vs, sqT_xt s.bs.fz t.sq, ?_⟩)
    have := l.length
    cases ds <;> cases vs <;> simp_all
  | .da (.lst g ds), h, r =>
    obtain ⟨p, vs, rfl, t, l⟩ := r
    cases h
    refine .inl ⟨vs, sqL_xt s.bs.fz t.sq, ?_⟩
    have := l.length
    cases ds <;> cases vs <;> simp_all
  | .lo n, h, r =>
    obtain ⟨p, e, rfl⟩ := r
    simp only [truW] at h
    cases q : S[n]? with
    | none => simp [q] at h
    | some c =>
      simp only [q] at h
      match c, h with
      | .lst ws, h =>
        cases h
        obtain ⟨a', e1, _, vs, e2, l⟩ := s.bs.cell n _ q (by intro z; cases z)
        rw [e] at e1; cases e1
        refine .inl ⟨vs, .inl (.inl e2), ?_⟩
        cases l <;> rfl
      | .dk kws, h =>
        cases h
        obtain ⟨a', e1, _, vs, e2, l⟩ := s.bs.cell n _ q (by intro z; cases z)
        rw [e] at e1; cases e1
        refine .inr (.inr ⟨vs, e2, ?_⟩)
        cases l <;> rfl
theorem qt_truth (ha : QE X cl C Wx a ma) (he : ∀ whole, isTrue a X.env whole = (do let v ← whole; standAt a.pos; holding [v] (truthy v)) := by intro _; rfl) : QT X cl C Wx a (mTru ma) := by
  obtain ⟨t, p, q⟩ := ha
  refine ⟨_, pt_truth p he, fun L F H ms σ ρ S s Q h => ?_⟩
  refine q L F H ms σ ρ S s _ (PostG.go h fun w h1 v F1 H1 s1 x1 r1 => ?_)
  have h2 := h1 F1 x1
  cases e : truW S w with
  | ok k =>
    rw [e] at h2
    exact ⟨k, tru_ok s1 r1 e, h2 F1 H1 s1 x1⟩
  | ex x =>
    exfalso
    match w, e with
    | .da .non, e => cases e
    | .da (.bl _), e => cases e
    | .da (.int _), e => cases e
    | .da (.str _), e =>
      simp only [truW] at e
      rcases ifc_cases (P := fun r => r = Re.ex x) e with ⟨_, e⟩ | ⟨_, e⟩ <;> cases e
    | .da (.tup _ _), e => cases e
    | .da (.lst _ _), e => cases e
    | .lo n, e => simp only [truW] at e; split at e <;> cases e
  | stuck => rw [e] at h2; exact h2.elim
theorem qt_not (ha : QT X cl C Wx a ta) : QT X cl C Wx (.UnaryOp .Not a pos) (mNot ta) := by
  obtain ⟨t, p, q⟩ := ha
  exact ⟨_, pt_not p, fun L F H ms σ ρ S s Q h => q L F H ms σ ρ S s _ (PostG.go h fun w h1 F1 H1 s1 x1 => h1 F1 x1 F1 H1 s1 x1)⟩
theorem st_and {K : PySem.W.Frag} {t u : TT} (ha : ST K cl C Wx t ta) (hb : ST K cl C Wx u tb) : ST K cl C Wx (tAnd t u) (mAnd ta tb) := by
  intro L F H ms σ ρ S s Q h
  refine ha L F H ms σ ρ S s _ (PostG.go h fun w h1 F1 H1 s1 x1 => ?_)
  cases w with
  | true =>
    refine hb L F1 H1 ms σ ρ S s1 _ (PostG.imp (h1 F1 x1) fun w2 h2 F2 H2 s2 x2 => h2 F2 H2 s2 (x1.trans x2))
  | false => exact h1 F1 x1 F1 H1 s1 x1
theorem st_or {K : PySem.W.Frag} {t u : TT} (ha : ST K cl C Wx t ta) (hb : ST K cl C Wx u tb) : ST K cl C Wx (tOr t u) (mOr ta tb) := by
  intro L F H ms σ ρ S s Q h
  refine ha L F H ms σ ρ S s _ (PostG.go h fun w h1 F1 H1 s1 x1 => ?_)
  cases w with
  | false =>
    refine hb L F1 H1 ms σ ρ S s1 _ (PostG.imp (h1 F1 x1) fun w2 h2 F2 H2 s2 x2 => h2 F2 H2 s2 (x1.trans x2))
  | true => exact h1 F1 x1 F1 H1 s1 x1
theorem qw_and {rest : List Expr} (ha : QT X cl C Wx a ta) (hb : QW X cl C Wx (.BoolOp .And (b :: rest) pos) tb) : QW X cl C Wx (.BoolOp .And (a :: b :: rest) pos) (mAnd ta tb) := by
  obtain ⟨t, p, q⟩ := ha
  obtain ⟨t2, p2, q2⟩ := hb
  exact ⟨_, pw_and p p2, st_and q q2⟩
theorem qw_or {rest : List Expr} (ha : QT X cl C Wx a ta) (hb : QW X cl C Wx (.BoolOp .Or (b :: rest) pos) tb) : QW X cl C Wx (.BoolOp .Or (a :: b :: rest) pos) (mOr ta tb) := by
  obtain ⟨t, p, q⟩ := ha
  obtain ⟨t2, p2, q2⟩ := hb
  exact ⟨_, pw_or p p2, st_or q q2⟩
theorem qw_and1 (ha : QT X cl C Wx a ta) : QW X cl C Wx (.BoolOp .And [a] pos) ta := by
  obtain ⟨t, p, q⟩ := ha
  exact ⟨_, pw_and1 p, q⟩
theorem qw_or1 (ha : QT X cl C Wx a ta) : QW X cl C Wx (.BoolOp .Or [a] pos) ta := by
  obtain ⟨t, p, q⟩ := ha
  exact ⟨_, pw_or1 p, q⟩
theorem QW.qt {m : MT} (h : QW X cl C Wx e m) : QT X cl C Wx e m := by
  obtain ⟨t, p, q⟩ := h
  exact ⟨_, p.pt, q⟩
theorem bool_ok {K : PySem.W.Frag} {F : Hp} {ms : List Addr} {w : W} {v : V} {α : Type} {k : Bool → Re α} {L : List Addr} {σ : St} {ρ : Rho} {S : Sto} {P : α → Prop} (r : RW K cl F ms w v) (h : PostG K cl C L Wx F ms σ ρ S ((boolOf w).bind k) P) :
    ∃ c, v = .bl c ∧ w = .da (.bl c) ∧ PostG K cl C L Wx F ms σ ρ S (k c) P := by
  match w, h, r with
  | .da (.bl c), h, r => exact ⟨c, r, rfl, h⟩
theorem qe_and {rest : List Expr} (ha : QE X cl C Wx a ma) (hb : QE X cl C Wx (.BoolOp .And (b :: rest) pos) mb) : QE X cl C Wx (.BoolOp .And (a :: b :: rest) pos) (mAndV ma mb) := by
  obtain ⟨t, p, q⟩ := ha
  obtain ⟨t2, p2, q2⟩ := hb
  refine ⟨_, pe_and p p2, fun L F H ms σ ρ S s Q h => ?_⟩
  refine q L F H ms σ ρ S s _ (PostG.go h fun w h1 v F1 H1 s1 x1 r1 => ?_)
  obtain ⟨c, rfl, _, h2⟩ := bool_ok r1 (h1 F1 x1)
  refine ⟨c, rfl, ?_⟩
  cases c with
  | true => exact q2 L F1 H1 ms σ ρ S s1 _ (PostG.imp h2 fun w2 h2 v2 F2 H2 s2 x2 => h2 v2 F2 H2 s2 (x1.trans x2))
  | false => exact h2 _ F1 H1 s1 x1 rfl
theorem qe_or {rest : List Expr} (ha : QE X cl C Wx a ma) (hb : QE X cl C Wx (.BoolOp .Or (b :: rest) pos) mb) : QE X cl C Wx (.BoolOp .Or (a :: b :: rest) pos) (mOrV ma mb) := by
  obtain ⟨t, p, q⟩ := ha
  obtain ⟨t2, p2, q2⟩ := hb
  refine ⟨_, pe_or p p2, fun L F H ms σ ρ S s Q h => ?_⟩
  refine q L F H ms σ ρ S s _ (PostG.go h fun w h1 v F1 H1 s1 x1 r1 => ?_)
  obtain ⟨c, rfl, _, h2⟩ := bool_ok r1 (h1 F1 x1)
  refine ⟨c, rfl, ?_⟩
  cases c with
  | false => exact q2 L F1 H1 ms σ ρ S s1 _ (PostG.imp h2 fun w2 h2 v2 F2 H2 s2 x2 => h2 v2 F2 H2 s2 (x1.trans x2))
  | true => exact h2 _ F1 H1 s1 x1 rfl
theorem qe_one {op} (ha : QE X cl C Wx a ma) : QE X cl C Wx (.BoolOp op [a] pos) ma := by
  obtain ⟨t, p, q⟩ := ha
  exact ⟨_, pe_one p, q⟩
theorem qe_not (ha : QE X cl C Wx a ma) : QE X cl C Wx (.UnaryOp .Not a pos) (mNotV ma) := by
  obtain ⟨t, p, q⟩ := ha
  refine ⟨_, pe_not p, fun L F H ms σ ρ S s Q h => ?_⟩
  refine q L F H ms σ ρ S s _ (PostG.go h fun w h1 v F1 H1 s1 x1 r1 => ?_)
  obtain ⟨c, rfl, _, h2⟩ := bool_ok r1 (h1 F1 x1)
  exact ⟨c, rfl, h2 _ F1 H1 s1 x1 rfl⟩

/-! ### arguments, displays -/
theorem qa_nil : QA X cl C Wx [] mNil := ⟨_, pa_nil, sa_nil⟩
theorem qa_cons (ha : QE X cl C Wx e me) (hr : QA X cl C Wx es mr) (hs : starEach (e :: es) X.env = (false, eval e X.env) :: starEach es X.env := by rfl) : QA X cl C Wx (e :: es) (mCons me mr) := by
  obtain ⟨t, p, q⟩ := ha
  obtain ⟨t2, p2, q2⟩ := hr
  exact ⟨_, pa_cons p p2 hs, sa_cons q q2⟩
theorem dats_ok {K : PySem.W.Frag} {F : Hp} {ms : List Addr} : ∀ {ws : List W} {vs : List V} {ds : List D}, RWL K cl F ms ws vs → dats ws = .ok ds → RpL K cl F ds vs
  | [], _, ds, r, h => by cases r; cases h; exact rfl
  | w :: ws, _, ds, .cons r1 r2, h => by
    match w, r1, h with
    | .da d, r1, h =>
      cases e : dats ws with
      | ok ds' =>
        have h' : (Re.ok (d :: ds') : Re (List D)) = .ok ds := by rw [← h]; simp [dats, dat, Re.bind, e]
        cases h'
        exact ⟨_, _, rfl, r1, dats_ok r2 e⟩
      | ex x => simp [dats, dat, Re.bind, e] at h
      | stuck => simp [dats, dat, Re.bind, e] at h
    | .lo n, r1, h => simp [dats, dat, Re.bind] at h
theorem dats_noex : ∀ {ws : List W} {x : Exn}, dats ws ≠ .ex x
  | [], x => by intro h; cases h
  | .da d :: ws, x => by
    intro h
    cases e : dats ws with
    | ok ds' => simp [dats, dat, Re.bind, e] at h
    | ex y => exact dats_noex e
    | stuck => simp [dats, dat, Re.bind, e] at h
  | .lo n :: ws, x => by intro h; simp [dats, dat, Re.bind] at h
theorem dats_go {K : PySem.W.Frag} {F : Hp} {ms : List Addr} {ws : List W} {vs : List V} {α : Type} {k : List D → Re α} {L : List Addr} {σ : St} {ρ : Rho} {S : Sto} {P : α → Prop} (r : RWL K cl F ms ws vs) (h : PostG K cl C L Wx F ms σ ρ S ((dats ws).bind k) P) :
    ∃ ds, dats ws = .ok ds ∧ RpL K cl F ds vs ∧ PostG K cl C L Wx F ms σ ρ S (k ds) P := by
  cases e : dats ws with
  | ok ds => rw [e] at h; exact ⟨ds, rfl, dats_ok r e, h⟩
  | ex x => exact absurd e dats_noex
  | stuck => rw [e] at h; exact h.elim
theorem qe_tup {x1} (h : QA X cl C Wx es mr) : QE X cl C Wx (.Tuple es x1 pos) (mTup mr) := by
  obtain ⟨t, p, q⟩ := h
  refine ⟨_, pe_tup p, fun L F H ms σ ρ S s Q h => ?_⟩
  refine q L F H ms σ ρ S s _ (PostG.go h fun ws h1 vs F1 H1 s1 x1 r1 => ?_)
  obtain ⟨ds, _, rd, h2⟩ := dats_go r1 (h1 F1 x1)
  by_cases hl : ds.length ≤ sizeLine
  · rw [ifc_pos hl] at h2
    refine ⟨by rw [← rd.length]; exact hl, fun p hp => ?_⟩
    have al := Al.new (o := .tup vs) s1.bs.fz hp
    exact h2 _ _ _ (s1.al al) (x1.trans al.f) ⟨p, vs, rfl, upd_same, RpL.xt al.f.xt ds vs rd⟩
  · rw [ifc_neg hl] at h2; exact h2.elim
theorem qe_lst (h : QA X cl C Wx es mr) : QE X cl C Wx (.List es pos) (mLst mr) := by
  obtain ⟨t, p, q⟩ := h
  refine ⟨_, pe_lst p, fun L F H ms σ ρ S s Q h => ?_⟩
  refine q L F H ms σ ρ S s _ (PostG.go h fun ws h1 vs F1 H1 s1 x1 r1 => ?_)
  obtain ⟨ds, _, rd, h2⟩ := dats_go r1 (h1 F1 x1)
  by_cases hl : ds.length ≤ sizeLine
  · rw [ifc_pos hl] at h2
    refine ⟨by rw [← rd.length]; exact hl, fun p hp => ?_⟩
    have al := Al.new (o := .lst vs) s1.bs.fz hp
    exact h2 _ _ _ (s1.al al) (x1.trans al.f) ⟨p, vs, rfl, upd_same, RpL.xt al.f.xt ds vs rd⟩
  · rw [ifc_neg hl] at h2; exact h2.elim
end
end Ng
namespace Ng
open PySem L2

/-! ### operations on what slots hold -/
def wI (f : Int → Int → D) : W → W → Sto → Re W
  | .da (.int i), .da (.int j), _ => .ok (.da (f i j))
  | _, _, _ => .stuck
noncomputable def wIg (c : Int → Int → Prop) (f : Int → Int → D) : W → W → Sto → Re W
  | .da (.int i), .da (.int j), _ => ifc (c i j) (.ok (.da (f i j))) .stuck
  | _, _, _ => .stuck
def subW := wI fun i j => .int (i - j)
noncomputable def ltW := wI fun i j => .bl (dec (i < j))
noncomputable def leW := wI fun i j => .bl (dec (i ≤ j))
noncomputable def gtW := wI fun i j => .bl (dec (j < i))
noncomputable def geW := wI fun i j => .bl (dec (j ≤ i))
noncomputable def mulW := wIg (fun i j => (-(2 ^ 64) < i ∧ i < 2 ^ 64) ∨ (-(2 ^ 64) < j ∧ j < 2 ^ 64)) fun i j => .int (i * j)
noncomputable def modW := wIg (fun _ j => 0 < j) fun i j => .int (i % j)
noncomputable def divW := wIg (fun _ j => 0 < j ∧ j < 1073741824) fun i j => .int (i / j)
noncomputable def powW := wIg (fun i j => 0 ≤ j ∧ j ≤ 1000000 ∧ i.natAbs < 2 ^ 64) fun i j => .int (i ^ j.toNat)
def negW : W → Sto → Re W
  | .da (.int i), _ => .ok (.da (.int (-i)))
  | _, _ => .stuck
/-- a list that is tracked, as data -/
def catL (S : Sto) : W → Re (List D)
  | .da (.lst true ds) => .ok ds
  | .lo n => match S[n]? with
    | some (.lst ws) => dats ws
    | _ => .stuck
  | _ => .stuck
noncomputable def addW : W → W → Sto → Re W
  | .da (.int i), .da (.int j), _ => .ok (.da (.int (i + j)))
  | .da (.str x), .da (.str y), _ => ifc (x.length + y.length ≤ sizeLine) (.ok (.da (.str (x ++ y)))) .stuck
  | .da (.tup _ a), .da (.tup _ b), _ => ifc (a.isEmpty = false ∧ b.isEmpty = false ∧ a.length + b.length ≤ sizeLine) (.ok (.da (.tup true (a ++ b)))) .stuck
  | x, y, S => (catL S x).bind fun a => (catL S y).bind fun b => ifc (a.length + b.length ≤ sizeLine) (.ok (.da (.lst true (a ++ b)))) .stuck

section
variable {X : Cx} {cl : Str → Option Addr} {C : Cn} {Wx : WX}
theorem okda {K : PySem.W.Frag} {L : List Addr} {F H : Hp} {ms : List Addr} {σ : St} {ρ : Rho} {S : Sto} {d : D} {v : V} {Q : VK} (s : Sim K cl C L F H ms σ ρ S) (h : PostG K cl C L Wx F ms σ ρ S (Re.ok (W.da d)) (OkE K cl C L F ms σ ρ S Q)) (r : Rp K cl F d v) : Q v H :=
  h v F H s (Ex.refl _) r
theorem opw_I {g : Value → Value → Sem Value} {f : Int → Int → D} {fv : Int → Int → V} (ho : OpR X g (rI0 fv)) (hf : ∀ i j K F, Rp K cl F (f i j) (fv i j)) : OpW X cl g (wI f) := by
  intro C Wx L F H ms σ ρ S s wx wy x y rx ry Q h
  unfold wI at h
  split at h
  · rename_i i j
    have q := okda (Q := Q) (Wx := Wx) s h (hf i j X.K F)
    refine ⟨_, ho, ?_⟩
    refine ⟨i, j, rx, ry, ?_⟩
    exact q
  · exact h.elim
theorem opw_Ig {g : Value → Value → Sem Value} {c P : Int → Int → Prop} {f : Int → Int → D} {fv : Int → Int → V} (ho : OpR X g (rI P fv)) (hc : ∀ i j, c i j → P i j) (hf : ∀ i j K F, Rp K cl F (f i j) (fv i j)) : OpW X cl g (wIg c f) := by
  intro C Wx L F H ms σ ρ S s wx wy x y rx ry Q h
  unfold wIg at h
  split at h
  · rename_i i j
    rcases ifc_cases (P := fun r => PostG X.K cl C L Wx F ms σ ρ S r (OkE X.K cl C L F ms σ ρ S Q)) h with ⟨e, h⟩ | ⟨_, h⟩
    · have q := okda (Q := Q) (Wx := Wx) s h (hf i j X.K F)
      refine ⟨_, ho, ?_⟩
      refine ⟨i, j, rx, ry, hc i j e, ?_⟩
      exact q
    · exact h.elim
  · exact h.elim
theorem ow_sub : OpW X cl (binaryOp .Sub) subW := opw_I op_sub fun _ _ _ _ => rfl
theorem ow_lt : OpW X cl (compareOp .Lt) ltW := opw_I op_lt fun _ _ _ _ => by simp only [dec_eq]; exact rfl
theorem ow_le : OpW X cl (compareOp .LtE) leW := opw_I op_le fun _ _ _ _ => by simp only [dec_eq]; exact rfl
theorem ow_gt : OpW X cl (compareOp .Gt) gtW := opw_I op_gt fun _ _ _ _ => by simp only [dec_eq]; exact rfl
theorem ow_ge : OpW X cl (compareOp .GtE) geW := opw_I op_ge fun _ _ _ _ => by simp only [dec_eq]; exact rfl
theorem ow_mul : OpW X cl (binaryOp .Mult) mulW := opw_Ig op_mul (fun _ _ e => e) fun _ _ _ _ => rfl
theorem ow_mod : OpW X cl (binaryOp .Mod) modW := opw_Ig op_mod (fun _ _ e => e) fun _ _ _ _ => rfl
theorem ow_div : OpW X cl (binaryOp .FloorDiv) divW := opw_Ig op_fdiv (fun _ _ e => e) fun _ _ _ _ => rfl
theorem ow_pow : OpW X cl (binaryOp .Pow) powW := opw_Ig op_pow (fun _ _ e => e) fun _ _ _ _ => rfl
theorem uw_neg : UnW X cl (unaryOp .USub) negW := by
  intro C Wx L F H ms σ ρ S s wx x rx Q h
  unfold negW at h
  split at h
  · rename_i i
    have q := okda (Q := Q) (Wx := Wx) (v := .int (-i)) s h rfl
    refine ⟨_, un_neg, ?_⟩
    refine ⟨i, rx, ?_⟩
    exact q
  · exact h.elim
theorem catL_ok {K : PySem.W.Frag} {L : List Addr} {F H : Hp} {ms : List Addr} {σ : St} {ρ : Rho} {S : Sto} (s : Sim K cl C L F H ms σ ρ S) {w : W} {v : V} {ds : List D} (r : RW K cl F ms w v) (h : catL S w = .ok ds) : ∃ a vs, v = .ref a ∧ H a = some (.lst vs) ∧ RpL K cl F ds vs := by
  unfold catL at h
  split at h
  · rename_i ds'
    cases h
    obtain ⟨a, vs, e, t, l⟩ := r
    refine ⟨a, vs, e, ?_, l⟩
    rcases s.bs.fz a _ (show F a = some (.lst vs) from t) with z | ⟨z, _⟩
    · exact z
    · exact z.elim
  · rename_i n
    obtain ⟨a, e, rfl⟩ := r
    split at h
    · rename_i ws q
      obtain ⟨a', e1, _, vs, e2, l⟩ := s.bs.cell n _ q (by intro z; cases z)
      rw [e] at e1; cases e1
      exact ⟨a, vs, rfl, e2, dats_ok l h⟩
    · cases h
  · cases h
theorem catL_noex {S : Sto} {w : W} {x : Exn} : catL S w ≠ .ex x := by
  intro h
  unfold catL at h
  split at h
  · cases h
  · split at h
    · exact dats_noex h
    · cases h
  · cases h
theorem ow_add : OpW X cl (binaryOp .Add) addW := by
  intro C Wx L F H ms σ ρ S s wx wy x y rx ry Q h
  unfold addW at h
  split at h
  · rename_i i j
    have q := okda (Q := Q) (Wx := Wx) (v := .int (i + j)) s h rfl
    refine ⟨_, op_add, ?_⟩
    refine ⟨i, j, rx, ry, ?_⟩
    exact q
  · rename_i a b
    rcases ifc_cases (P := fun r => PostG X.K cl C L Wx F ms σ ρ S r (OkE X.K cl C L F ms σ ρ S Q)) h with ⟨e, h⟩ | ⟨_, h⟩
    · have q := okda (Q := Q) (Wx := Wx) (v := .str (a ++ b)) s h rfl
      refine ⟨_, op_add_str, ?_⟩
      refine ⟨a, b, rx, ry, e, ?_⟩
      exact q
    · exact h.elim
  · rename_i g1 a g2 b
    rcases ifc_cases (P := fun r => PostG X.K cl C L Wx F ms σ ρ S r (OkE X.K cl C L F ms σ ρ S Q)) h with ⟨hc, h⟩ | ⟨_, h⟩
    · obtain ⟨p, vs, rfl, t1, l1⟩ := rx
      obtain ⟨q, us, rfl, t2, l2⟩ := ry
      have e1 := l1.length
      have e2 := l2.length
      refine ⟨_, op_catT, ?_⟩
      refine ⟨p, q, vs, us, rfl, rfl, sqT_xt s.bs.fz t1.sq, sqT_xt s.bs.fz t2.sq, ?_, by rw [← e1, ← e2]; exact hc.2.2, fun z => ?_, fun _ r hr => ?_⟩
      · intro z; subst z
        have := hc.1
        cases a <;> simp_all
      · subst z
        have := hc.2.1
        cases b <;> simp_all
      · have al := Al.new (o := .tup (vs ++ us)) s.bs.fz hr
        exact h _ _ _ (s.al al) al.f ⟨r, _, rfl, upd_same, RpL.append (RpL.xt al.f.xt _ _ l1) (RpL.xt al.f.xt _ _ l2)⟩
    · exact h.elim
  · cases e1 : catL S wx with
    | stuck => rw [e1] at h; exact h.elim
    | ex z => exact absurd e1 catL_noex
    | ok a =>
      rw [e1] at h
      simp only [Re.bind] at h
      cases e2 : catL S wy with
      | stuck => rw [e2] at h; exact h.elim
      | ex z => exact absurd e2 catL_noex
      | ok b =>
        rw [e2] at h
        simp only at h
        obtain ⟨p, vs, rfl, t1, l1⟩ := catL_ok s rx e1
        obtain ⟨q, us, rfl, t2, l2⟩ := catL_ok s ry e2
        rcases ifc_cases (P := fun r => PostG X.K cl C L Wx F ms σ ρ S r (OkE X.K cl C L F ms σ ρ S Q)) h with ⟨hc, h⟩ | ⟨_, h⟩
        · refine ⟨_, op_cat, ?_⟩
          refine ⟨p, q, vs, us, rfl, rfl, t1, t2, by rw [← l1.length, ← l2.length]; exact hc, fun r hr => ?_⟩
          have al := Al.new (o := .lst (vs ++ us)) s.bs.fz hr
          exact h _ _ _ (s.al al) al.f ⟨r, _, rfl, upd_same, RpL.append (RpL.xt al.f.xt _ _ l1) (RpL.xt al.f.xt _ _ l2)⟩
        · exact h.elim
end

/-! ### data compared -/
mutual
def toPy : D → PyData
  | .non => .none
  | .bl b => .bool b
  | .int i => .int i
  | .str x => .str x
  | .tup _ ds => .tuple (toPyL ds)
  | .lst _ ds => .list (toPyL ds)
  | .dk _ _ => .dict []
  | .dt _ _ => .dict []
  | .obj _ _ _ => .dict []
def toPyL : List D → List PyData
  | [] => []
  | d :: ds => toPy d :: toPyL ds
end
theorem toPyL_map : ∀ ds : List D, toPyL ds = ds.map toPy
  | [] => rfl
  | d :: ds => by simp [toPyL, toPyL_map ds]
mutual
theorem toPy_ok {K : PySem.W.Frag} {cl : Str → Option Addr} {H : Hp} : ∀ (d : D) (v : V), (toPy d).canLay0 = true → Rp K cl H d v → Dp K H v (toPy d)
  | .non, v, _, r => by cases (show v = .non from r); exact .non
  | .bl b, v, _, r => by cases (show v = .bl b from r); exact .bl b
  | .int i, v, _, r => by cases (show v = .int i from r); exact .int i
  | .str x, v, _, r => by cases (show v = .str x from r); exact .str x
  | .tup g ds, v, h, r => by
    obtain ⟨a, vs, rfl, t, l⟩ := r
    exact .tup t.sq (toPyL_ok ds vs (by simpa [toPy, PyData.canLay0] using h) l)
  | .lst g ds, v, h, r => by
    obtain ⟨a, vs, rfl, t, l⟩ := r
    exact .lst t.sq (toPyL_ok ds vs (by simpa [toPy, PyData.canLay0] using h) l)
  | .dk _ _, v, h, r => by simp [toPy, PyData.canLay0] at h
  | .dt _ _, v, h, r => by simp [toPy, PyData.canLay0] at h
  | .obj _ _ _, v, h, r => by simp [toPy, PyData.canLay0] at h
theorem toPyL_ok {K : PySem.W.Frag} {cl : Str → Option Addr} {H : Hp} : ∀ (ds : List D) (vs : List V), PyData.canLayAll0 (toPyL ds) = true → RpL K cl H ds vs → DpAll K H vs (toPyL ds)
  | [], vs, _, r => by cases (show vs = [] from r); exact .nil
  | d :: ds, vs, h, r => by
    obtain ⟨v, t, rfl, r1, r2⟩ := r
    have h' : (toPy d).canLay0 = true ∧ PyData.canLayAll0 (toPyL ds) = true := by simpa [toPyL, PyData.canLayAll0] using h
    exact .cons (toPy_ok d v h'.1 r1) (toPyL_ok ds t h'.2 r2)
end
def pyW (S : Sto) : W → Re PyData
  | .da d => .ok (toPy d)
  | .lo n => match S[n]? with
    | some (.lst ws) => (dats ws).bind fun ds => .ok (.list (toPyL ds))
    | _ => .stuck
/-- the very same by plain ways, or by the data's own == -/
noncomputable def eqD : D → D → Re Bool
  | .int i, .int j => .ok (dec (i = j))
  | .str x, .str y => .ok (dec (x = y))
  | .bl a, .bl b => .ok (dec (a = b))
  | a, b => ifc (SeqAt.shaped (toPy a) = true ∧ SeqAt.shaped (toPy b) = true) (.ok (PyData.eqv (toPy a) (toPy b))) .stuck
noncomputable def eqP (S : Sto) (x y : W) : Re Bool := (pyW S x).bind fun p => (pyW S y).bind fun q => ifc (SeqAt.shaped p = true ∧ SeqAt.shaped q = true) (.ok (PyData.eqv p q)) .stuck
noncomputable def eqB : W → W → Sto → Re Bool
  | .da a, .da b, _ => eqD a b
  | x, y, S => eqP S x y
noncomputable def eqW (x y : W) (S : Sto) : Re W := (eqB x y S).bind fun b => .ok (.da (.bl b))
noncomputable def neW (x y : W) (S : Sto) : Re W := (eqB x y S).bind fun b => .ok (.da (.bl (!b)))
/-- room for nested data -/
abbrev Hu (X : Cx) : Prop := X.A.units + 200 < cLine
section
variable {X : Cx} {cl : Str → Option Addr} {C : Cn} {Wx : WX}
theorem pyW_ok {K : PySem.W.Frag} {L : List Addr} {F H : Hp} {ms : List Addr} {σ : St} {ρ : Rho} {S : Sto} (s : Sim K cl C L F H ms σ ρ S) {w : W} {v : V} {p : PyData} (r : RW K cl F ms w v) (h : pyW S w = .ok p) (hp : p.canLay0 = true) : Dp K H v p := by
  unfold pyW at h
  split at h
  · rename_i d
    cases h
    exact toPy_ok d v hp (Rp.xt s.bs.fz d v r)
  · rename_i n
    obtain ⟨a, e, rfl⟩ := r
    split at h
    · rename_i ws q
      obtain ⟨a', e1, _, vs, e2, l⟩ := s.bs.cell n _ q (by intro z; cases z)
      rw [e] at e1; cases e1
      cases q2 : dats ws with
      | ok ds =>
        rw [q2] at h
        cases h
        exact .lst (.inl (.inl e2)) (toPyL_ok ds vs (by simpa [PyData.canLay0] using hp) (RpL.xt s.bs.fz _ _ (dats_ok l q2)))
      | ex x => exact absurd q2 dats_noex
      | stuck => rw [q2] at h; cases h
    · cases h
theorem pyW_noex {S : Sto} {w : W} {x : Exn} : pyW S w ≠ .ex x := by
  intro h
  unfold pyW at h
  split at h
  · cases h
  · split at h
    · rename_i ws _
      cases q : dats ws with
      | ok ds => rw [q] at h; cases h
      | ex y => exact absurd q dats_noex
      | stuck => rw [q] at h; cases h
    · cases h
/-- what == gives -/
theorem eqP_ok {K : PySem.W.Frag} {L : List Addr} {F H : Hp} {ms : List Addr} {σ : St} {ρ : Rho} {S : Sto} (s : Sim K cl C L F H ms σ ρ S) {wx wy : W} {x y : V} {b : Bool} (rx : RW K cl F ms wx x) (ry : RW K cl F ms wy y) (h : eqP S wx wy = .ok b) :
    ∃ d e, Dp K H x d ∧ Dp K H y e ∧ SeqAt.shaped d = true ∧ SeqAt.shaped e = true ∧ b = PyData.eqv d e := by
  unfold eqP at h
  cases e1 : pyW S wx with
  | stuck => rw [e1] at h; cases h
  | ex z => exact absurd e1 pyW_noex
  | ok p =>
    rw [e1] at h
    simp only [Re.bind] at h
    cases e2 : pyW S wy with
    | stuck => rw [e2] at h; cases h
    | ex z => exact absurd e2 pyW_noex
    | ok q =>
      rw [e2] at h
      simp only at h
      rcases ifc_cases (P := fun r => r = Re.ok b) h with ⟨hs, h⟩ | ⟨_, h⟩
      · cases h
        exact ⟨p, q, pyW_ok s rx e1 (SeqAt.canLay_of_shaped hs.1), pyW_ok s ry e2 (SeqAt.canLay_of_shaped hs.2), hs.1, hs.2, rfl⟩
      · cases h
theorem eqP_noex {S : Sto} {x y : W} {z : Exn} : eqP S x y ≠ .ex z := by
  intro h
  unfold eqP at h
  cases e1 : pyW S x with
  | stuck => rw [e1] at h; cases h
  | ex z => exact absurd e1 pyW_noex
  | ok p =>
    rw [e1] at h
    simp only [Re.bind] at h
    cases e2 : pyW S y with
    | stuck => rw [e2] at h; cases h
    | ex z => exact absurd e2 pyW_noex
    | ok q =>
      rw [e2] at h
      simp only at h
      rcases ifc_cases (P := fun r => r = Re.ex z) h with ⟨_, h⟩ | ⟨_, h⟩ <;> cases h
theorem eqB_ok {K : PySem.W.Frag} {L : List Addr} {F H : Hp} {ms : List Addr} {σ : St} {ρ : Rho} {S : Sto} (s : Sim K cl C L F H ms σ ρ S) {wx wy : W} {x y : V} {b : Bool} (rx : RW K cl F ms wx x) (ry : RW K cl F ms wy y) (h : eqB wx wy S = .ok b) :
    (scal x y = true ∧ b = decide (x = y)) ∨ ∃ d e, Dp K H x d ∧ Dp K H y e ∧ SeqAt.shaped d = true ∧ SeqAt.shaped e = true ∧ b = PyData.eqv d e := by
  unfold eqB at h
  split at h
  · rename_i a c
    unfold eqD at h
    split at h
    · rename_i i j
      cases h
      cases (show x = .int i from rx); cases (show y = .int j from ry)
      exact .inl ⟨rfl, by rw [dec_eq]; by_cases e : i = j <;> simp [e]⟩
    · rename_i i j
      cases h
      cases (show x = .str i from rx); cases (show y = .str j from ry)
      exact .inl ⟨rfl, by rw [dec_eq]; by_cases e : i = j <;> simp [e]⟩
    · rename_i i j
      cases h
      cases (show x = .bl i from rx); cases (show y = .bl j from ry)
      exact .inl ⟨rfl, by rw [dec_eq]; by_cases e : i = j <;> simp [e]⟩
    · refine .inr (eqP_ok s rx ry ?_)
      exact h
  · exact .inr (eqP_ok s rx ry h)
theorem eqB_noex {S : Sto} {x y : W} {z : Exn} : eqB x y S ≠ .ex z := by
  intro h
  unfold eqB at h
  split at h
  · unfold eqD at h
    split at h
    · cases h
    · cases h
    · cases h
    · rcases ifc_cases (P := fun r => r = Re.ex z) h with ⟨_, h⟩ | ⟨_, h⟩ <;> cases h
  · exact eqP_noex h
theorem ow_eq (hu : Hu X) : OpW X cl (compareOp .Eq) eqW := by
  intro C Wx L F H ms σ ρ S s wx wy x y rx ry Q h
  unfold eqW at h
  cases e : eqB wx wy S with
  | stuck => rw [e] at h; exact h.elim
  | ex z => exact absurd e eqB_noex
  | ok b =>
    rw [e] at h
    rcases eqB_ok s rx ry e with ⟨k, rfl⟩ | ⟨d, e', h1, h2, h3, h4, rfl⟩
    · have q := okda (Q := Q) (Wx := Wx) (v := .bl (decide (x = y))) s h rfl
      refine ⟨_, op_eq, ?_⟩
      refine ⟨k, ?_⟩
      exact q
    · have q := okda (Q := Q) (Wx := Wx) (v := .bl (PyData.eqv d e')) s h rfl
      refine ⟨_, op_eqD (by have : X.A.units + 200 < cLine := hu; omega), ?_⟩
      refine ⟨d, e', h1, h2, h3, h4, ?_⟩
      exact q
theorem ow_ne (hu : Hu X) : OpW X cl (compareOp .NotEq) neW := by
  intro C Wx L F H ms σ ρ S s wx wy x y rx ry Q h
  unfold neW at h
  cases e : eqB wx wy S with
  | stuck => rw [e] at h; exact h.elim
  | ex z => exact absurd e eqB_noex
  | ok b =>
    rw [e] at h
    rcases eqB_ok s rx ry e with ⟨k, rfl⟩ | ⟨d, e', h1, h2, h3, h4, rfl⟩
    · have q := okda (Q := Q) (Wx := Wx) (v := .bl (!decide (x = y))) s h rfl
      refine ⟨_, op_ne, ?_⟩
      refine ⟨k, ?_⟩
      exact q
    · have q := okda (Q := Q) (Wx := Wx) (v := .bl (!PyData.eqv d e')) s h rfl
      refine ⟨_, op_neD (by have : X.A.units + 200 < cLine := hu; omega), ?_⟩
      refine ⟨d, e', h1, h2, h3, h4, ?_⟩
      exact q
/-- x is None -/
def isNW (x y : W) (_ : Sto) : Re W := match x, y with
  | .da .non, .da .non => .ok (.da (.bl true))
  | .da _, .da .non => .ok (.da (.bl false))
  | .lo _, .da .non => .ok (.da (.bl false))
  | _, _ => .stuck
def notNW (x y : W) (_ : Sto) : Re W := match x, y with
  | .da .non, .da .non => .ok (.da (.bl false))
  | .da _, .da .non => .ok (.da (.bl true))
  | .lo _, .da .non => .ok (.da (.bl true))
  | _, _ => .stuck
theorem rw_non {K : PySem.W.Frag} {F : Hp} {ms : List Addr} {d : D} {v : V} (r : Rp K cl F d v) (h : d ≠ .non) : v ≠ .non := by
  intro e
  subst e
  cases d with
  | non => exact h rfl
  | bl b => cases (show V.non = V.bl b from r)
  | int b => cases (show V.non = V.int b from r)
  | str b => cases (show V.non = V.str b from r)
  | tup g ds => obtain ⟨_, _, z, _⟩ := r; cases z
  | lst g ds => obtain ⟨_, _, z, _⟩ := r; cases z
  | dk g ds => obtain ⟨_, _, z, _⟩ := r; cases z
  | dt g ds => obtain ⟨_, _, z, _⟩ := r; cases z
  | obj c g ds => obtain ⟨_, _, _, _, z, _⟩ := r; cases z
theorem ow_is : OpW X cl (compareOp .Is) isNW := by
  intro C Wx L F H ms σ ρ S s wx wy x y rx ry Q h
  unfold isNW at h
  split at h
  · cases (show x = .non from rx)
    have q := okda (Q := Q) (Wx := Wx) (v := .bl true) s h rfl
    refine ⟨_, op_isN, ?_⟩
    refine ⟨ry, ?_⟩
    exact q
  · rename_i d hd
    have e : decide (x = .non) = false := decide_eq_false (rw_non (ms := ms) rx hd)
    have q := okda (Q := Q) (Wx := Wx) (v := .bl false) s h rfl
    refine ⟨_, op_isN, ?_⟩
    refine ⟨ry, ?_⟩
    rw [e]; exact q
  · obtain ⟨a, _, rfl⟩ := rx
    have q := okda (Q := Q) (Wx := Wx) (v := .bl false) s h rfl
    refine ⟨_, op_isN, ?_⟩
    refine ⟨ry, ?_⟩
    exact q
  · exact h.elim
theorem ow_isnot : OpW X cl (compareOp .IsNot) notNW := by
  intro C Wx L F H ms σ ρ S s wx wy x y rx ry Q h
  unfold notNW at h
  split at h
  · cases (show x = .non from rx)
    have q := okda (Q := Q) (Wx := Wx) (v := .bl false) s h rfl
    refine ⟨_, op_notN, ?_⟩
    refine ⟨ry, ?_⟩
    exact q
  · rename_i d hd
    have e : decide (x = .non) = false := decide_eq_false (rw_non (ms := ms) rx hd)
    have q := okda (Q := Q) (Wx := Wx) (v := .bl true) s h rfl
    refine ⟨_, op_notN, ?_⟩
    refine ⟨ry, ?_⟩
    rw [e]; exact q
  · obtain ⟨a, _, rfl⟩ := rx
    have q := okda (Q := Q) (Wx := Wx) (v := .bl true) s h rfl
    refine ⟨_, op_notN, ?_⟩
    refine ⟨ry, ?_⟩
    exact q
  · exact h.elim
end
end Ng
namespace Ng
open PySem L2

/-! ### sequences, items -/
def seqW (S : Sto) : W → Option (List W)
  | .da (.tup _ ds) => some (ds.map .da)
  | .da (.lst _ ds) => some (ds.map .da)
  | .lo n => match S[n]? with
    | some (.lst ws) => some ws
    | _ => none
  | _ => none
theorem rwl_da {K : PySem.W.Frag} {cl : Str → Option Addr} {F : Hp} {ms : List Addr} : ∀ {ds : List D} {vs : List V}, RpL K cl F ds vs → RWL K cl F ms (ds.map .da) vs
  | [], vs, h => by cases (show vs = [] from h); exact .nil
  | d :: ds, vs, h => by
    obtain ⟨v, r, rfl, q, t⟩ := h
    exact .cons q (rwl_da t)
theorem RWL.len {K : PySem.W.Frag} {cl : Str → Option Addr} {F : Hp} {ms : List Addr} {ws : List W} {vs : List V} (h : RWL K cl F ms ws vs) : ws.length = vs.length := Paired.length h
theorem RWL.get {K : PySem.W.Frag} {cl : Str → Option Addr} {F : Hp} {ms : List Addr} : ∀ {ws : List W} {vs : List V} {i : Nat} {w : W}, RWL K cl F ms ws vs → ws[i]? = some w → ∃ v, vs[i]? = some v ∧ RW K cl F ms w v
  | _, _, _, _, .nil, e => by simp at e
  | _, _, 0, _, .cons r _, e => by simp at e; subst e; exact ⟨_, rfl, r⟩
  | _, _, i + 1, w, .cons _ t, e => by
    obtain ⟨u, h1, h2⟩ := RWL.get (i := i) (w := w) t (by simpa using e)
    exact ⟨u, by simpa using h1, h2⟩
theorem RWL.at {K : PySem.W.Frag} {cl : Str → Option Addr} {F : Hp} {ms : List Addr} {ws : List W} {vs : List V} {i : Int} {w : W} (h : RWL K cl F ms ws vs) (e : atI ws i = some w) : ∃ v, atI vs i = some v ∧ RW K cl F ms w v := by
  unfold atI at e ⊢
  rw [← h.len]
  cases q : ixN ws.length i with
  | none => rw [q] at e; cases e
  | some j =>
    rw [q] at e
    exact h.get e
section
variable {X : Cx} {cl : Str → Option Addr} {C : Cn} {Wx : WX} {pos : Pos} {a b c e : Expr} {es : List Expr} {ma mb mc me : ME} {mr : MA} {ta tb tc : MT}
theorem seqW_ok {K : PySem.W.Frag} {L : List Addr} {F H : Hp} {ms : List Addr} {σ : St} {ρ : Rho} {S : Sto} (s : Sim K cl C L F H ms σ ρ S) {w : W} {v : V} {ws : List W} (r : RW K cl F ms w v) (h : seqW S w = some ws) : ∃ a vs, v = .ref a ∧ (SqL K H a vs ∨ SqT K H a vs) ∧ RWL K cl F ms ws vs := by
  unfold seqW at h
  split at h
  · cases h
    obtain ⟨a, vs, e, t, l⟩ := r
    exact ⟨a, vs, e, .inr (sqT_xt s.bs.fz t.sq), rwl_da l⟩
  · cases h
    obtain ⟨a, vs, e, t, l⟩ := r
    exact ⟨a, vs, e, .inl (sqL_xt s.bs.fz t.sq), rwl_da l⟩
  · rename_i n
    obtain ⟨a, e, rfl⟩ := r
    split at h
    · rename_i ws' q
      cases h
      obtain ⟨a', e1, _, vs, e2, l⟩ := s.bs.cell n _ q (by intro z; cases z)
      rw [e] at e1; cases e1
      exact ⟨a, vs, rfl, .inl (.inl (.inl e2)), l⟩
    · cases h
  · cases h
/-- x[i]: a sequence's item, a text's sign -/
noncomputable def ixSeq (x i : W) (S : Sto) : Re W := match i with
  | .da (.int k) => match seqW S x with
    | some ws => match atI ws k with
      | some w => .ok w
      | none => .stuck
    | none => match x with
      | .da (.str z) => ifc (z.length ≤ sizeLine) (match atI z.cps.toList k with
        | some c => .ok (.da (.str ⟨#[c]⟩))
        | none => .stuck) .stuck
      | _ => .stuck
  | _ => .stuck
theorem xw_seq : IxW X cl ixSeq := by
  intro C Wx L F H ms σ ρ S s wx wy x y rx ry Q h
  unfold ixSeq at h
  split at h
  · rename_i k
    cases (show y = .int k from ry)
    split at h
    · rename_i ws q
      obtain ⟨p, vs, rfl, t, l⟩ := seqW_ok s rx q
      split at h
      · rename_i w e
        obtain ⟨v, e1, e2⟩ := l.at e
        have z : Q v H := h v F H s (Ex.refl _) e2
        rcases t with t | t
        · refine ⟨_, ix_list, ?_⟩
          exact ⟨p, vs, k, v, rfl, rfl, t, e1, z⟩
        · refine ⟨_, ix_tup, ?_⟩
          exact ⟨p, vs, k, v, rfl, rfl, t, e1, z⟩
      · exact h.elim
    · split at h
      · rename_i z _
        cases (show x = .str z from rx)
        rcases ifc_cases (P := fun r => PostG X.K cl C L Wx F ms σ ρ S r (OkE X.K cl C L F ms σ ρ S Q)) h with ⟨hl, h⟩ | ⟨_, h⟩
        · split at h
          · rename_i c e
            have q : Q (.str ⟨#[c]⟩) H := h _ F H s (Ex.refl _) rfl
            refine ⟨_, ix_str, ?_⟩
            exact ⟨z, k, c, rfl, rfl, hl, e, q⟩
          · exact h.elim
        · exact h.elim
      · exact h.elim
  · exact h.elim
theorem qe_ix {f : W → W → Sto → Re W} (ho : IxW X cl f) (ha : QE X cl C Wx a ma) (hb : QE X cl C Wx b mb) (hs : PlainIx b) : QE X cl C Wx (.Subscript a b pos) (mOp f ma mb) := by
  obtain ⟨t, p, q⟩ := ha
  obtain ⟨t2, p2, q2⟩ := hb
  exact ⟨_, pe_ix ix_any p p2 hs, se_op (ho C Wx) q q2⟩

/-! ### built-ins by name -/
theorem qe_callB {x : Str} {id : String} {p : Pos} {f : List W → Sto → Re W} (ho : CallW X cl (.builtin id) f) (hg : Gl X x) (hm : X.mg x = none) (hv : bootBuiltins x = some (.builtin id)) (ha : QA X cl C Wx (e :: es) mr) (hn : x ≠ "__name__" := by decide) (hdb : (x == ("__debug__" : Str)) = false := by decide)
    (he : starEach (e :: es) X.env = (false, eval e X.env) :: starEach es X.env := by rfl) (hpl : (backTo pos (starEach es X.env)).any (·.1) = false := by rfl) : QE X cl C Wx (.Call (.Name x p) (e :: es) [] pos) (mCall f mr) := by
  obtain ⟨t, p, q⟩ := ha
  exact ⟨_, pe_callB call_any hg hm hv p hn hdb he hpl, se_call (ho C Wx) q⟩
theorem qe_callTy {x : Str} {T : String} {p : Pos} {f : List W → Sto → Re W} (ho : CallW X cl (.type T) f) (hg : Gl X x) (hm : X.mg x = none) (hv : bootBuiltins x = some (.type T)) (ha : QA X cl C Wx (e :: es) mr) (hn : x ≠ "__name__" := by decide) (hdb : (x == ("__debug__" : Str)) = false := by decide)
    (he : starEach (e :: es) X.env = (false, eval e X.env) :: starEach es X.env := by rfl) (hpl : (backTo pos (starEach es X.env)).any (·.1) = false := by rfl) : QE X cl C Wx (.Call (.Name x p) (e :: es) [] pos) (mCall f mr) := by
  obtain ⟨t, p, q⟩ := ha
  exact ⟨_, pe_callTy call_any hg hm hv p hn hdb he hpl, se_call (ho C Wx) q⟩
/-- len -/
noncomputable def lenW : List W → Sto → Re W
  | [w], S => match seqW S w with
    | some ws => .ok (.da (.int ws.length))
    | none => match w with
      | .da (.str z) => ifc (z.length ≤ sizeLine) (.ok (.da (.int z.length))) .stuck
      | .lo n => match S[n]? with
        | some (.dk kws) => .ok (.da (.int kws.length))
        | _ => .stuck
      | _ => .stuck
  | _, _ => .stuck
theorem rwl1 {K : PySem.W.Frag} {F : Hp} {ms : List Addr} {w : W} {vs : List V} (h : RWL K cl F ms [w] vs) : ∃ v, vs = [v] ∧ RW K cl F ms w v := by
  cases h with
  | cons r t => cases t; exact ⟨_, rfl, r⟩
theorem rwl2 {K : PySem.W.Frag} {F : Hp} {ms : List Addr} {w u : W} {vs : List V} (h : RWL K cl F ms [w, u] vs) : ∃ v z, vs = [v, z] ∧ RW K cl F ms w v ∧ RW K cl F ms u z := by
  cases h with
  | cons r t =>
    cases t with
    | cons r2 t2 => cases t2; exact ⟨_, _, rfl, r, r2⟩
theorem cw_len : CallW X cl (.builtin "len") lenW := by
  intro C Wx L F H ms σ ρ S s ws xs rs Q h
  unfold lenW at h
  split at h
  · rename_i w
    obtain ⟨v, rfl, r⟩ := rwl1 rs
    split at h
    · rename_i us q
      obtain ⟨p, vs, rfl, t, l⟩ := seqW_ok s r q
      have z : Q (.int us.length) H := h _ F H s (Ex.refl _) rfl
      rw [l.len] at z
      refine ⟨_, call_len_seq, ?_⟩
      exact ⟨p, vs, rfl, t, z⟩
    · split at h
      · rename_i z _
        cases (show v = .str z from r)
        rcases ifc_cases (P := fun r => PostG X.K cl C L Wx F ms σ ρ S r (OkE X.K cl C L F ms σ ρ S Q)) h with ⟨hl, h⟩ | ⟨_, h⟩
        · have q : Q (.int z.length) H := h _ F H s (Ex.refl _) rfl
          refine ⟨_, call_len, ?_⟩
          exact ⟨_, z.length, rfl, ⟨hl, rfl⟩, q⟩
        · exact h.elim
      · rename_i n _
        obtain ⟨a, e, rfl⟩ := r
        split at h
        · rename_i kws q
          obtain ⟨a', e1, _, kvs, e2, l⟩ := s.bs.cell n _ q (by intro z; cases z)
          rw [e] at e1; cases e1
          have z : Q (.int kws.length) H := h _ F H s (Ex.refl _) rfl
          rw [show kws.length = kvs.length from Paired.length l] at z
          refine ⟨_, call_lenD, ?_⟩
          exact ⟨a, kvs, rfl, e2, z⟩
        · exact h.elim
      · exact h.elim
  · exact h.elim
def min2W : List W → Sto → Re W
  | [.da (.int i), .da (.int j)], _ => .ok (.da (.int (if j < i then j else i)))
  | _, _ => .stuck
def max2W : List W → Sto → Re W
  | [.da (.int i), .da (.int j)], _ => .ok (.da (.int (if j > i then j else i)))
  | _, _ => .stuck
theorem cw_min2 (hc : X.calm = true) : CallW X cl (.builtin "min") min2W := by
  intro C Wx L F H ms σ ρ S s ws xs rs Q h
  unfold min2W at h
  split at h
  · rename_i i j
    obtain ⟨v, z, rfl, r1, r2⟩ := rwl2 rs
    cases (show v = .int i from r1); cases (show z = .int j from r2)
    have q : Q (.int (if j < i then j else i)) H := h _ F H s (Ex.refl _) rfl
    refine ⟨_, call_min2 hc, ?_⟩
    exact ⟨i, j, rfl, q⟩
  · exact h.elim
theorem cw_max2 (hc : X.calm = true) : CallW X cl (.builtin "max") max2W := by
  intro C Wx L F H ms σ ρ S s ws xs rs Q h
  unfold max2W at h
  split at h
  · rename_i i j
    obtain ⟨v, z, rfl, r1, r2⟩ := rwl2 rs
    cases (show v = .int i from r1); cases (show z = .int j from r2)
    have q : Q (.int (if j > i then j else i)) H := h _ F H s (Ex.refl _) rfl
    refine ⟨_, call_max2 hc, ?_⟩
    exact ⟨i, j, rfl, q⟩
  · exact h.elim

/-! ### isinstance -/
def tyD : D → Option String
  | .non => some "NoneType"
  | .bl _ => some "bool"
  | .int _ => some "int"
  | .str _ => some "str"
  | .tup _ _ => some "tuple"
  | .lst _ _ => some "list"
  | .dk _ _ => some "dict"
  | .dt _ _ => none
  | .obj _ _ _ => none
def tyW (S : Sto) : W → Option String
  | .da d => tyD d
  | .lo n => match S[n]? with
    | some (.lst _) => some "list"
    | some (.dk _) => some "dict"
    | some (.dt _) => some "dict"
    | _ => none
theorem tyX_rdL {K : PySem.W.Frag} {H : Hp} {a : Addr} {vs : List V} (h : SqL K H a vs) : TyX K H (.ref a) (.type "list") := by
  rcases h with (h | ⟨o, h⟩) | ⟨o, _, _, h, c, _⟩
  · exact .base (.lst h)
  · exact .base (.frz h)
  · exact .kList h c
theorem tyX_rdT {K : PySem.W.Frag} {H : Hp} {a : Addr} {vs : List V} (h : SqT K H a vs) : TyX K H (.ref a) (.type "tuple") := by
  rcases h with (h | ⟨o, h⟩) | ⟨o, _, _, h, c, _⟩
  · exact .base (.tup h)
  · exact .fTuple h
  · exact .kTuple h c
theorem tyW_ok {K : PySem.W.Frag} {L : List Addr} {F H : Hp} {ms : List Addr} {σ : St} {ρ : Rho} {S : Sto} (s : Sim K cl C L F H ms σ ρ S) {w : W} {v : V} {n : String} (r : RW K cl F ms w v) (h : tyW S w = some n) : TyX K H v (.type n) := by
  cases w with
  | da d =>
    cases d with
    | non => cases h; cases (show v = .non from r); exact .base .non
    | bl b => cases h; cases (show v = .bl b from r); exact .base (.bl b)
    | int b => cases h; cases (show v = .int b from r); exact .base (.int b)
    | str b => cases h; cases (show v = .str b from r); exact .base (.str b)
    | tup g ds => cases h; obtain ⟨a, vs, rfl, t, l⟩ := r; exact tyX_rdT (sqT_xt s.bs.fz t.sq)
    | lst g ds => cases h; obtain ⟨a, vs, rfl, t, l⟩ := r; exact tyX_rdL (sqL_xt s.bs.fz t.sq)
    | dk ks ds =>
      cases h
      obtain ⟨a, vs, rfl, t, _, l⟩ := r
      rcases Rd.xt s.bs.fz t with z | ⟨o, z⟩
      · exact .base (.dK z)
      · exact .fDict z
    | dt ks ds => cases h
    | obj c fs ds => cases h
  | lo m =>
    obtain ⟨a, e, rfl⟩ := r
    simp only [tyW] at h
    split at h
    · rename_i ws q
      cases h
      obtain ⟨a', e1, _, vs, e2, l⟩ := s.bs.cell _ _ q (by intro z; cases z)
      rw [e] at e1; cases e1
      exact .base (.lst e2)
    · rename_i ws q
      cases h
      obtain ⟨a', e1, _, vs, e2, l⟩ := s.bs.cell _ _ q (by intro z; cases z)
      rw [e] at e1; cases e1
      exact .base (.dK e2)
    · rename_i ws q
      cases h
      obtain ⟨a', e1, _, vs, e2, l⟩ := s.bs.cell _ _ q (by intro z; cases z)
      rw [e] at e1; cases e1
      exact .base (.dT e2)
    · cases h
/-- isinstance(x, T) and isinstance(x, (T, U)): built-in classes by their names -/
def isTy (a b : String) : Option Bool := kitB a b
def isiW (ns : List String) (w : W) (S : Sto) : Re W := match tyW S w with
  | some t => match ns with
    | [n] => match kitB t n with
      | some b => .ok (.da (.bl b))
      | none => .stuck
    | [n, k] => match kitB t n, kitB t k with
      | some b, some c => .ok (.da (.bl (b || c)))
      | _, _ => .stuck
    | _ => .stuck
  | none => .stuck
theorem qe_isi {x : Str} {n : String} {p p2 : Pos} (hg : Gl X "isinstance") (hm : X.mg "isinstance" = none) (hg2 : Gl X x) (hm2 : X.mg x = none) (hb2 : bootBuiltins x = some (.type n)) (ha : QE X cl C Wx e me)
    (hs : starEach [e, .Name x p2] X.env = (false, eval e X.env) :: starEach [.Name x p2] X.env := by rfl) (hs2 : starEach [.Name x p2] X.env = (false, eval (.Name x p2) X.env) :: starEach [] X.env := by rfl)
    (hpl : (backTo pos (starEach [.Name x p2] X.env)).any (·.1) = false := by rfl) (hn : x ≠ "__name__" := by decide) (hdb : (x == ("__debug__" : Str)) = false := by decide) (hv : bootBuiltins "isinstance" = some (.builtin "isinstance") := by decide +kernel) :
    QE X cl C Wx (.Call (.Name "isinstance" p) [e, .Name x p2] [] pos) (mUn (isiW [n]) me) := by
  obtain ⟨t, pe, q⟩ := ha
  refine ⟨_, pe_callB call_isi hg hm hv (pa_cons pe (pa_cons (pe_bltn hg2 hm2 hb2 (v := .ty n) rfl hn hdb) pa_nil hs2) hs) (by decide) (by decide) hs hpl, fun L F H ms σ ρ S s Q h => ?_⟩
  refine q L F H ms σ ρ S s _ (PostG.go h fun w h1 v F1 H1 s1 x1 r1 => ?_)
  have h2 := h1 F1 x1
  unfold isiW at h2
  split at h2
  · rename_i ty ht
    simp only at h2
    split at h2
    · rename_i b hb
      have z : Q (.bl b) H1 := h2 _ F1 H1 s1 x1 rfl
      exact ⟨v, .ty n, .type ty, .type n, b, rfl, .ty n, tyW_ok s1 r1 ht, kit_ty hb, z⟩
    · exact h2.elim
  · exact h2.elim
theorem qe_isi2 {x y : Str} {n k : String} {p p2 p3 p4 : Pos} {x1} (hg : Gl X "isinstance") (hm : X.mg "isinstance" = none) (hg2 : Gl X x) (hm2 : X.mg x = none) (hb2 : bootBuiltins x = some (.type n)) (hg3 : Gl X y) (hm3 : X.mg y = none) (hb3 : bootBuiltins y = some (.type k)) (ha : QE X cl C Wx e me)
    (hs : starEach [e, .Tuple [.Name x p2, .Name y p3] x1 p4] X.env = (false, eval e X.env) :: starEach [.Tuple [.Name x p2, .Name y p3] x1 p4] X.env := by rfl) (hs2 : starEach [.Tuple [.Name x p2, .Name y p3] x1 p4] X.env = (false, eval (.Tuple [.Name x p2, .Name y p3] x1 p4) X.env) :: starEach [] X.env := by rfl)
    (hs3 : starEach [.Name x p2, .Name y p3] X.env = (false, eval (.Name x p2) X.env) :: starEach [.Name y p3] X.env := by rfl) (hs4 : starEach [.Name y p3] X.env = (false, eval (.Name y p3) X.env) :: starEach [] X.env := by rfl)
    (hpl : (backTo pos (starEach [.Tuple [.Name x p2, .Name y p3] x1 p4] X.env)).any (·.1) = false := by rfl) (hn : x ≠ "__name__" := by decide) (hdb : (x == ("__debug__" : Str)) = false := by decide) (hn2 : y ≠ "__name__" := by decide) (hdb2 : (y == ("__debug__" : Str)) = false := by decide) (hv : bootBuiltins "isinstance" = some (.builtin "isinstance") := by decide +kernel) :
    QE X cl C Wx (.Call (.Name "isinstance" p) [e, .Tuple [.Name x p2, .Name y p3] x1 p4] [] pos) (mUn (isiW [n, k]) me) := by
  obtain ⟨t, pe, q⟩ := ha
  refine ⟨_, pe_callB call_isiT hg hm hv (pa_cons pe (pa_cons (pe_tup (pa_cons (pe_bltn hg2 hm2 hb2 (v := .ty n) rfl hn hdb) (pa_cons (pe_bltn hg3 hm3 hb3 (v := .ty k) rfl hn2 hdb2) pa_nil hs4) hs3)) pa_nil hs2) hs) (by decide) (by decide) hs hpl, fun L F H ms σ ρ S s Q h => ?_⟩
  refine q L F H ms σ ρ S s _ (PostG.go h fun w h1 v F1 H1 s1 x1 r1 => ?_)
  have h2 := h1 F1 x1
  refine ⟨by show 2 ≤ sizeLine; decide, fun tp htp => ?_⟩
  have al := Al.new (o := .tup [.ty n, .ty k]) s1.bs.fz htp
  have s2 := s1.al al
  unfold isiW at h2
  split at h2
  · rename_i ty ht
    simp only at h2
    split at h2
    · rename_i b c hb hc
      have z : Q (.bl (b || c)) (upd H1 tp (.tup [.ty n, .ty k])) := h2 _ _ _ s2 (x1.trans al.f) rfl
      refine ⟨v, tp, [.ty n, .ty k], .type ty, [.type n, .type k], (b || c), rfl, upd_same, .cons (.ty n) (.cons (.ty k) .nil), tyW_ok s2 (r1.grow al.f (List.prefix_refl _)) ht, ?_, z⟩
      refine kitAny_cons (kit_ty hb) (fun e => kitAny_cons (kit_ty hc) (fun e2 => ?_) (fun e2 => ?_)) (fun e => by rw [e]; rfl)
      · rw [e, e2]; exact kitAny_nil
      · rw [e, e2]; rfl
    · exact h2.elim
  · exact h2.elim
end
end Ng
namespace Ng
open PySem L2

/-! ### slots set -/
section
variable {K : PySem.W.Frag} {cl : Str → Option Addr} {C : Cn} {L : List Addr} {F H : Hp} {ms : List Addr} {σ : St} {ρ : Rho} {S : Sto}
theorem Sim.set (s : Sim K cl C L F H ms σ ρ S) {w : W} {v : V} (i : Nat) (r : RW K cl F ms w v) : Sim K cl C L F H ms (σ.set i (some v)) (ρ.set i (some w)) S :=
  ⟨s.bs, s.fm, by rw [List.length_set, List.length_set]; exact s.len, fun j u e => by
    by_cases h : i = j
    · subst h
      by_cases hl : i < ρ.length
      · rw [List.getElem?_set_self hl] at e
        cases e
        exact ⟨v, List.getElem?_set_self (by rw [s.len]; exact hl), r⟩
      · rw [List.getElem?_eq_none (by rw [List.length_set]; omega)] at e
        cases e
    · rw [List.getElem?_set_ne h] at e
      obtain ⟨u', e1, e2⟩ := s.slot j u e
      exact ⟨u', by rw [List.getElem?_set_ne h]; exact e1, e2⟩⟩
end

/-! ### targets -/
abbrev MG := W → Rho → Option Rho
abbrev MGs := List W → Rho → Option Rho
def SG (K : PySem.W.Frag) (cl : Str → Option Addr) (C : Cn) (tg : TG) (m : MG) : Prop := ∀ L F H ms σ ρ S, Sim K cl C L F H ms σ ρ S → ∀ w v, RW K cl F ms w v → ∀ Q : St → Hp → Prop,
  (∃ ρ', m w ρ = some ρ' ∧ ∀ σ', Sim K cl C L F H ms σ' ρ' S → Q σ' H) → tg v σ H Q
def SGs (K : PySem.W.Frag) (cl : Str → Option Addr) (C : Cn) (tg : TGs) (m : MGs) : Prop := ∀ L F H ms σ ρ S, Sim K cl C L F H ms σ ρ S → ∀ ws vs, RWL K cl F ms ws vs → ∀ Q : St → Hp → Prop,
  (∃ ρ', m ws ρ = some ρ' ∧ ∀ σ', Sim K cl C L F H ms σ' ρ' S → Q σ' H) → tg vs σ H Q
def QG (X : Cx) (cl : Str → Option Addr) (C : Cn) (e : Expr) (m : MG) : Prop := ∃ t, PG X e t ∧ SG X.K cl C t m
def QGs (X : Cx) (cl : Str → Option Addr) (C : Cn) (es : List Expr) (m : MGs) : Prop := ∃ t, PGs X es t ∧ SGs X.K cl C t m
def gtName (i : Nat) : MG := fun w ρ => some (ρ.set i (some w))
def gtNil : MGs := fun ws ρ => match ws with
  | [] => some ρ
  | _ => none
def gtCons (m : MG) (n : MGs) : MGs := fun ws ρ => match ws with
  | w :: r => (m w ρ).bind fun ρ' => n r ρ'
  | _ => none
/-- a tuple unpacked -/
def gtTup (n : Nat) (m : MGs) : MG := fun w ρ => match w with
  | .da (.tup _ ds) => if ds.length = n then m (ds.map .da) ρ else none
  | _ => none
def mAsg (g : MG) (e : ME) : MS := fun ρ S => (e ρ S).out ρ S fun w => match g w ρ with
  | some ρ' => .nx ρ' S
  | none => .stuck
section
variable {X : Cx} {cl : Str → Option Addr} {C : Cn} {Wx : WX} {pos : Pos} {a b c e : Expr} {es : List Expr} {ma mb mc me : ME} {mr : MA} {ta tb tc : MT} {st : Stmt} {rest body : List Stmt} {m n : MS}
theorem qg_name {i : Nat} {x : Str} (hN : X.N.Nodup) (hi : X.N[i]? = some x) (hx : Loc X.env.scope x) (hf : X.fn x = true ∨ X.env.scope.names.lookup x = some .local := by first | exact .inl rfl | exact .inr rfl | assumption) : QG X cl C (.Name x pos) (gtName i) :=
  ⟨_, pg_name hN hi hx hf, fun L F H ms σ ρ S s w v r Q ⟨ρ', e, k⟩ => by
    cases e
    exact k _ (s.set i r)⟩
theorem qgs_nil : QGs X cl C [] gtNil := ⟨_, pgs_nil, fun L F H ms σ ρ S s ws vs r Q ⟨ρ', e, k⟩ => by
  unfold gtNil at e
  split at e
  · cases e
    cases r
    exact ⟨rfl, k _ s⟩
  · cases e⟩
theorem qgs_cons {g : MG} {gs : MGs} (h1 : QG X cl C e g) (h2 : QGs X cl C es gs) (hs : (assignEach (e :: es) X.env).map (·.2) = assign e X.env :: (assignEach es X.env).map (·.2) := by rfl) : QGs X cl C (e :: es) (gtCons g gs) := by
  obtain ⟨t, p, q⟩ := h1
  obtain ⟨t2, p2, q2⟩ := h2
  refine ⟨_, pgs_cons p p2 hs, fun L F H ms σ ρ S s ws vs r Q ⟨ρ', e, k⟩ => ?_⟩
  match ws, vs, r, e with
  | [], _, _, e => cases e
  | w :: rs, _, .cons r1 r2, e =>
    simp only [gtCons] at e
    cases e1 : g w ρ with
    | some ρ1 =>
      rw [e1] at e
      refine ⟨_, _, rfl, ?_⟩
      exact q L F H ms σ ρ S s w _ r1 _ ⟨ρ1, e1, fun σ1 s1 => q2 L F H ms σ1 ρ1 S s1 rs _ r2 Q ⟨ρ', e, k⟩⟩
    | none => rw [e1] at e; cases e
theorem qg_tup {k : Nat} {nn : Nat} {gs : MGs} (hc : X.calm = true) (h : QGs X cl C es gs) (hn : (assignEach es X.env).length = nn := by rfl) (hst : (assignEach es X.env).findIdx? (·.1) = none := by rfl) : QG X cl C (.Tuple es k pos) (gtTup nn gs) := by
  obtain ⟨t, p, q⟩ := h
  refine ⟨_, pg_tup hc p hn hst, fun L F H ms σ ρ S s w v r Q ⟨ρ', e, k⟩ => ?_⟩
  unfold gtTup at e
  split at e
  · split at e
    · rename_i ds hl
      obtain ⟨a, vs, rfl, t, l⟩ := r
      refine ⟨a, vs, rfl, sqT_xt s.bs.fz t.sq, by rw [← l.length]; exact hl, ?_⟩
      exact q L F H ms σ ρ S s _ vs (rwl_da l) Q ⟨ρ', e, k⟩
    · cases e
  · cases e

/-! ### statements -/
theorem qb_nil : QB X cl C Wx [] mSkip := ⟨_, pss_nil, fun L F H ms σ ρ S s Z h => h σ F H ms s (Ex.refl _) (List.prefix_refl _)⟩
theorem ss_seq {K : PySem.W.Frag} {t u : TS} (h1 : SS K cl C Wx t m) (h2 : SS K cl C Wx u n) : SS K cl C Wx (tSeq t u) (mSeq m n) := by
  intro L F H ms σ ρ S s Z h
  refine h1 L F H ms σ ρ S s _ ?_
  unfold mSeq at h
  cases e : m ρ S with
  | nx ρ1 S1 =>
    rw [e] at h
    exact fun σ1 F1 H1 ms1 s1 x1 p1 => h2 L F1 H1 ms1 σ1 ρ1 S1 s1 Z (PostS.mono x1 p1 h)
  | rt w S1 => rw [e] at h; exact h
  | bk ρ1 S1 => rw [e] at h; exact h
  | ct ρ1 S1 => rw [e] at h; exact h
  | ex x ρ1 S1 => rw [e] at h; exact h
  | stuck => rw [e] at h; exact h
theorem qb_cons (h1 : QS X cl C Wx st m) (h2 : QB X cl C Wx rest n) : QB X cl C Wx (st :: rest) (mSeq m n) := by
  obtain ⟨t, p, q⟩ := h1
  obtain ⟨t2, p2, q2⟩ := h2
  exact ⟨_, pss_cons p p2, ss_seq q q2⟩
theorem qb_one (h1 : QS X cl C Wx st m) : QB X cl C Wx [st] m := by
  obtain ⟨t, p, q⟩ := h1
  exact ⟨_, pss_one p, q⟩
theorem qs_set {i : Nat} {x : Str} {pos' : Pos} (hN : X.N.Nodup) (hi : X.N[i]? = some x) (hx : Loc X.env.scope x) (he : QE X cl C Wx e me) (hs : swapsWith e (some (.Name x pos')) pos.line X.env = pure false := by rfl)
    (hf : X.fn x = true ∨ X.env.scope.names.lookup x = some .local := by first | exact .inl rfl | exact .inr rfl | assumption) : QS X cl C Wx (.Assign [.Name x pos'] e pos) (mSet i me) := by
  obtain ⟨t, p, q⟩ := he
  refine ⟨_, ps_set hN hi hx p hs hf, fun L F H ms σ ρ S s Z h => ?_⟩
  refine q L F H ms σ ρ S s _ (PostS.go h fun w h1 v F1 H1 s1 x1 r1 => ?_)
  exact h1 F ms (Ex.refl _) (List.prefix_refl _) _ F1 H1 ms (s1.set i r1) x1 (List.prefix_refl _)
theorem qs_asg {tg : Expr} {g : MG} (he : QE X cl C Wx e me) (hg : QG X cl C tg g) (hs : swapsWithSole [tg] e pos.line X.env = pure false := by rfl) (hw : swappedStores [tg] e X.env = pure none := by rfl)
    (h1 : (assignEach [tg] X.env).map (·.2) = [assign tg X.env] := by rfl) : QS X cl C Wx (.Assign [tg] e pos) (mAsg g me) := by
  obtain ⟨t, p, q⟩ := he
  obtain ⟨t2, p2, q2⟩ := hg
  refine ⟨_, ps_asg p p2 hs hw h1, fun L F H ms σ ρ S s Z h => ?_⟩
  refine q L F H ms σ ρ S s _ (PostS.go h fun w h1 v F1 H1 s1 x1 r1 => ?_)
  have h2 := h1 F ms (Ex.refl _) (List.prefix_refl _)
  cases e2 : g w ρ with
  | some ρ' =>
    rw [e2] at h2
    exact q2 L F1 H1 ms σ ρ S s1 w v r1 _ ⟨ρ', e2, fun σ' s' => h2 σ' F1 H1 ms s' x1 (List.prefix_refl _)⟩
  | none => rw [e2] at h2; exact h2.elim
theorem qs_ret (he : QE X cl C Wx e me) : QS X cl C Wx (.Return (some e) pos) (mRet me) := by
  obtain ⟨t, p, q⟩ := he
  refine ⟨_, ps_ret p, fun L F H ms σ ρ S s Z h => ?_⟩
  refine q L F H ms σ ρ S s _ (PostS.go h fun w h1 v F1 H1 s1 x1 r1 => ?_)
  exact h1 F ms (Ex.refl _) (List.prefix_refl _) v σ ρ F1 H1 ms s1 x1 (List.prefix_refl _) r1
theorem qs_expr (he : QE X cl C Wx e me) (hs : swapsWith e none pos.line X.env = pure false := by rfl) : QS X cl C Wx (.Expr e pos) (mDrop me) := by
  obtain ⟨t, p, q⟩ := he
  refine ⟨_, ps_expr p hs, fun L F H ms σ ρ S s Z h => ?_⟩
  refine q L F H ms σ ρ S s _ (PostS.go h fun w h1 v F1 H1 s1 x1 r1 => ?_)
  exact h1 F ms (Ex.refl _) (List.prefix_refl _) σ F1 H1 ms s1 x1 (List.prefix_refl _)
theorem qs_if {sa sb : List Stmt} (hc : QT X cl C Wx c tc) (ha : QB X cl C Wx sa m) (hb : QB X cl C Wx sb n) : QS X cl C Wx (.If c sa sb pos) (mIf tc m n) := by
  obtain ⟨t, p, q⟩ := hc
  obtain ⟨t2, p2, q2⟩ := ha
  obtain ⟨t3, p3, q3⟩ := hb
  refine ⟨_, ps_if p p2 p3, fun L F H ms σ ρ S s Z h => ?_⟩
  refine q L F H ms σ ρ S s _ (PostS.go h fun w h1 F1 H1 s1 x1 => ?_)
  cases w with
  | true => exact q2 L F1 H1 ms σ ρ S s1 Z (h1 F1 ms x1 (List.prefix_refl _))
  | false => exact q3 L F1 H1 ms σ ρ S s1 Z (h1 F1 ms x1 (List.prefix_refl _))
theorem qs_pass : QS X cl C Wx (.Pass pos) mSkip := ⟨_, ps_pass, fun L F H ms σ ρ S s Z h => h σ F H ms s (Ex.refl _) (List.prefix_refl _)⟩
theorem qs_break : QS X cl C Wx (.Break pos) mBreak := ⟨_, ps_break, fun L F H ms σ ρ S s Z h => h σ F H ms s (Ex.refl _) (List.prefix_refl _)⟩
theorem qs_continue : QS X cl C Wx (.Continue pos) mContinue := ⟨_, ps_continue, fun L F H ms σ ρ S s Z h => h σ F H ms s (Ex.refl _) (List.prefix_refl _)⟩
end

/-! ### loops -/
def loopM (g : MG) (body : MS) : List D → Rho → Sto → Out
  | [], ρ, S => .nx ρ S
  | d :: ds, ρ, S => match g (.da d) ρ with
    | none => .stuck
    | some ρ1 => match body ρ1 S with
      | .nx ρ2 S2 => loopM g body ds ρ2 S2
      | .ct ρ2 S2 => loopM g body ds ρ2 S2
      | .bk ρ2 S2 => .nx ρ2 S2
      | .rt w S2 => .rt w S2
      | .ex x ρ2 S2 => .ex x ρ2 S2
      | .stuck => .stuck
def listOf : W → Option (List D)
  | .da (.lst _ ds) => some ds
  | _ => none
def tupOf : W → Option (List D)
  | .da (.tup _ ds) => some ds
  | _ => none
def mFor (src : W → Option (List D)) (e : ME) (g : MG) (body : MS) : MS := fun ρ S => (e ρ S).out ρ S fun w => match src w with
  | some ds => loopM g body ds ρ S
  | none => .stuck
def intsD (lo : Int) : Nat → List D
  | 0 => []
  | n + 1 => .int lo :: intsD (lo + 1) n
noncomputable def rng1 : List W → Option (Int × Nat)
  | [.da (.int j)] => ifc (-(2 ^ 62) ≤ j ∧ j < 2 ^ 62) (some (0, j.toNat)) none
  | _ => none
noncomputable def rng2 : List W → Option (Int × Nat)
  | [.da (.int i), .da (.int j)] => ifc (-(2 ^ 62) ≤ i ∧ i < 2 ^ 62 ∧ -(2 ^ 62) ≤ j ∧ j < 2 ^ 62) (some (i, (j - i).toNat)) none
  | _ => none
def mForR (rg : List W → Option (Int × Nat)) (a : MA) (g : MG) (body : MS) : MS := fun ρ S => (a ρ S).out ρ S fun ws => match rg ws with
  | some (lo, n) => loopM g body (intsD lo n) ρ S
  | none => .stuck
theorem ints_get : ∀ (n : Nat) (lo : Int) (i : Nat), i < n → (intsD lo n)[i]? = some (.int (lo + i))
  | 0, _, _, h => by omega
  | n + 1, lo, 0, _ => by simp [intsD]
  | n + 1, lo, i + 1, h => by
    simp only [intsD, List.getElem?_cons_succ]
    rw [ints_get n (lo + 1) i (by omega)]
    congr 2
    omega
theorem ints_len : ∀ (n : Nat) (lo : Int), (intsD lo n).length = n
  | 0, _ => rfl
  | n + 1, lo => by simp [intsD, ints_len n]
section
variable {X : Cx} {cl : Str → Option Addr} {C : Cn} {Wx : WX} {pos : Pos} {a b c e : Expr} {es : List Expr} {ma mb mc me : ME} {mr : MA} {ta tb tc : MT} {st : Stmt} {rest body : List Stmt} {m n : MS}
/-- what is left of a loop -/
def Left (K : PySem.W.Frag) (cl : Str → Option Addr) (C : Cn) (L : List Addr) (Wx : WX) (F0 : Hp) (m0 : List Addr) (g : MG) (body : MS) (Z : Ends) (ds : List D) (σ : St) (H : Hp) : Prop :=
  ∃ F ms ρ S, Sim K cl C L F H ms σ ρ S ∧ Ex F0 F ∧ m0 <+: ms ∧ PostS K cl C L Wx F ms (loopM g body ds ρ S) Z
theorem left_turn {K : PySem.W.Frag} {L : List Addr} {F0 : Hp} {m0 : List Addr} {g : MG} {tg : TG} {tb : TS} {Z : Ends} {d : D} {ds : List D} {σ : St} {H : Hp} {v : V} (hg : SG K cl C tg g) (hb : SS K cl C Wx tb m)
    (h : Left K cl C L Wx F0 m0 g m Z (d :: ds) σ H) (rv : ∀ F, Ex F0 F → Rp K cl F d v) :
    tg v σ H fun σ2 H2 => tb { Z with nx := Left K cl C L Wx F0 m0 g m Z ds, ct := Left K cl C L Wx F0 m0 g m Z ds, bk := Z.nx } σ2 H2 := by
  obtain ⟨F, ms, ρ, S, s, x, p, q⟩ := h
  unfold loopM at q
  cases e1 : g (.da d) ρ with
  | none => rw [e1] at q; exact q.elim
  | some ρ1 =>
    rw [e1] at q
    simp only at q
    refine hg L F H ms σ ρ S s (.da d) v (rv F x) _ ⟨ρ1, e1, fun σ1 s1 => hb L F H ms σ1 ρ1 S s1 _ ?_⟩
    cases e2 : m ρ1 S with
    | nx ρ2 S2 =>
      rw [e2] at q
      exact fun σ2 F2 H2 ms2 s2 x2 p2 => ⟨F2, ms2, ρ2, S2, s2, x.trans x2, p.trans p2, PostS.mono x2 p2 q⟩
    | ct ρ2 S2 =>
      rw [e2] at q
      exact fun σ2 F2 H2 ms2 s2 x2 p2 => ⟨F2, ms2, ρ2, S2, s2, x.trans x2, p.trans p2, PostS.mono x2 p2 q⟩
    | bk ρ2 S2 => rw [e2] at q; exact q
    | rt w S2 => rw [e2] at q; exact q
    | ex x ρ2 S2 => rw [e2] at q; exact q
    | stuck => rw [e2] at q; exact q
theorem left_done {K : PySem.W.Frag} {L : List Addr} {F0 : Hp} {m0 : List Addr} {g : MG} {Z : Ends} {σ : St} {H : Hp} (h : Left K cl C L Wx F0 m0 g m Z [] σ H) : Z.nx σ H := by
  obtain ⟨F, ms, ρ, S, s, x, p, q⟩ := h
  exact q σ F H ms s (Ex.refl _) (List.prefix_refl _)
theorem drop_cons {ds : List D} {i : Nat} {d : D} (h : ds[i]? = some d) : ds.drop i = d :: ds.drop (i + 1) := by
  obtain ⟨hl, e⟩ := List.getElem?_eq_some_iff.mp h
  rw [List.drop_eq_getElem_cons hl, e]
theorem qs_for {iter tg : Expr} {g : MG} (hp : PassesOwn (model X.prog X.w) X.A X.env X.xe) (hc : X.calm = true) (hi : QE X cl C Wx iter me) (hg : QG X cl C tg g) (hb : QB X cl C Wx body m)
    (hs : ∀ x, foldedSetIterable iter X.env x = pure x := by intro _; rfl) : QS X cl C Wx (.For tg iter body [] pos) (mFor listOf me g m) := by
  obtain ⟨t, p, q⟩ := hi
  obtain ⟨t2, p2, q2⟩ := hg
  obtain ⟨t3, p3, q3⟩ := hb
  refine ⟨_, ps_for hp hc (pi_list p) p2 p3 hs, fun L F H ms σ ρ S s Z h => ?_⟩
  refine q L F H ms σ ρ S s _ (PostS.go h fun w h1 v F1 H1 s1 x1 r1 => ?_)
  have h2 := h1 F1 ms x1 (List.prefix_refl _)
  cases e : listOf w with
  | none => rw [e] at h2; exact h2.elim
  | some ds =>
    rw [e] at h2
    unfold listOf at e
    split at e
    · cases e
      obtain ⟨a, vs, rfl, tl, l⟩ := r1
      have hq : ∀ F H, Xt F H → Ex F1 F → SqL X.K H a vs := fun F H y z => sqL_xt (Xt.of_ex z y) tl.sq
      refine ⟨a, rfl, ⟨vs, hq F1 H1 s1.bs.fz (Ex.refl _)⟩, for_list (K := X.K) (a := a) (xs := vs) (fun i σ H => Left X.K cl C L Wx F1 ms g m Z (ds.drop i) σ H) ⟨F1, ms, ρ, S, s1, Ex.refl _, List.prefix_refl _, h2⟩ ?_ ?_ ?_⟩
      · rintro i σ' H' _ ⟨F2, ms2, ρ2, S2, s2, y2, _⟩
        exact hq F2 H' s2.bs.fz y2
      · intro i x σ' H' ex hl
        have hi : i < vs.length := (List.getElem?_eq_some_iff.mp ex).1
        have hi2 : i < ds.length := by rw [l.length]; exact hi
        have ed : ds[i]? = some ds[i] := List.getElem?_eq_getElem hi2
        rw [drop_cons ed] at hl
        obtain ⟨v', e1, e2⟩ := l.get ed
        rw [ex] at e1; cases e1
        exact left_turn (v := x) q2 q3 hl (fun F y => Rp.xt y.xt _ _ e2)
      · intro σ' H' hl
        rw [← l.length, List.drop_length] at hl
        exact left_done hl
    · cases e
theorem qs_forT {iter tg : Expr} {g : MG} (hp : PassesOwn (model X.prog X.w) X.A X.env X.xe) (hc : X.calm = true) (hi : QE X cl C Wx iter me) (hg : QG X cl C tg g) (hb : QB X cl C Wx body m)
    (hs : ∀ x, foldedSetIterable iter X.env x = pure x := by intro _; rfl) : QS X cl C Wx (.For tg iter body [] pos) (mFor tupOf me g m) := by
  obtain ⟨t, p, q⟩ := hi
  obtain ⟨t2, p2, q2⟩ := hg
  obtain ⟨t3, p3, q3⟩ := hb
  refine ⟨_, ps_for hp hc (pi_tup p) p2 p3 hs, fun L F H ms σ ρ S s Z h => ?_⟩
  refine q L F H ms σ ρ S s _ (PostS.go h fun w h1 v F1 H1 s1 x1 r1 => ?_)
  have h2 := h1 F1 ms x1 (List.prefix_refl _)
  cases e : tupOf w with
  | none => rw [e] at h2; exact h2.elim
  | some ds =>
    rw [e] at h2
    unfold tupOf at e
    split at e
    · cases e
      obtain ⟨a, vs, rfl, tl, l⟩ := r1
      have hq : ∀ F H, Xt F H → Ex F1 F → SqT X.K H a vs := fun F H y z => sqT_xt (Xt.of_ex z y) tl.sq
      refine ⟨a, rfl, ⟨vs, hq F1 H1 s1.bs.fz (Ex.refl _)⟩, for_tup (K := X.K) (a := a) (xs := vs) (fun i σ H => Left X.K cl C L Wx F1 ms g m Z (ds.drop i) σ H) ⟨F1, ms, ρ, S, s1, Ex.refl _, List.prefix_refl _, h2⟩ ?_ ?_ ?_⟩
      · rintro i σ' H' _ ⟨F2, ms2, ρ2, S2, s2, y2, _⟩
        exact hq F2 H' s2.bs.fz y2
      · intro i x σ' H' ex hl
        have hi : i < vs.length := (List.getElem?_eq_some_iff.mp ex).1
        have hi2 : i < ds.length := by rw [l.length]; exact hi
        have ed : ds[i]? = some ds[i] := List.getElem?_eq_getElem hi2
        rw [drop_cons ed] at hl
        obtain ⟨v', e1, e2⟩ := l.get ed
        rw [ex] at e1; cases e1
        exact left_turn (v := x) q2 q3 hl (fun F y => Rp.xt y.xt _ _ e2)
      · intro σ' H' hl
        rw [← l.length, List.drop_length] at hl
        exact left_done hl
    · cases e
theorem left_range {L : List Addr} {F1 : Hp} {ms : List Addr} {g : MG} {Z : Ends} {lo : Int} {k : Nat} {t2 : TG} {t3 : TS} {σ : St} {H : Hp} {K : PySem.W.Frag} (q2 : SG K cl C t2 g) (q3 : SS K cl C Wx t3 m)
    (h : Left K cl C L Wx F1 ms g m Z (intsD lo k) σ H) : ∃ W : Nat → Nat → St → Hp → Prop, (∃ m, W 0 m σ H) ∧ ∀ i m σ H, W i m σ H →
      ((Itr lo k).stop i H ∧ Z.nx σ H) ∨ ((Itr lo k).go i H ∧ ∃ N : St → Hp → Prop, (∀ σ' H', N σ' H' → ∃ m', m' < m ∧ W (i + 1) m' σ' H') ∧ ∀ x H', (Itr lo k).yld i H x H' → t2 x σ H' fun σ2 H2 => t3 { Z with nx := N, ct := N, bk := Z.nx } σ2 H2) := by
  refine for_range (lo := lo) (n := k) (fun i σ H => Left K cl C L Wx F1 ms g m Z ((intsD lo k).drop i) σ H) h ?_ ?_
  · intro i σ' H' hi hl
    rw [drop_cons (ints_get k lo i hi)] at hl
    exact left_turn q2 q3 hl (fun F y => rfl)
  · intro σ' H' hl
    rw [show (intsD lo k).drop k = [] by
      have := ints_len k lo
      rw [List.drop_eq_nil_iff]; omega] at hl
    exact left_done hl
theorem qs_range1 {tg : Expr} {g : MG} {p p' : Pos} (hp : PassesOwn (model X.prog X.w) X.A X.env X.xe) (hc : X.calm = true) (hgl : Gl X "range") (hm : X.mg "range" = none) (ha : QA X cl C Wx [a] mr) (hg : QG X cl C tg g) (hb : QB X cl C Wx body m)
    (hs : starEach [a] X.env = [(false, eval a X.env)] := by rfl) (hf : ∀ x, foldedSetIterable (.Call (.Name "range" p) [a] [] p') X.env x = pure x := by intro _; rfl) :
    QS X cl C Wx (.For tg (.Call (.Name "range" p) [a] [] p') body [] pos) (mForR rng1 mr g m) := by
  obtain ⟨t, p, q⟩ := ha
  obtain ⟨t2, p2, q2⟩ := hg
  obtain ⟨t3, p3, q3⟩ := hb
  refine ⟨_, ps_for hp hc (pi_range1 hgl hm p hs) p2 p3 hf, fun L F H ms σ ρ S s Z h => ?_⟩
  refine q L F H ms σ ρ S s _ (PostS.go h fun ws h1 vs F1 H1 s1 x1 r1 => ?_)
  have h2 := h1 F1 ms x1 (List.prefix_refl _)
  cases e : rng1 ws with
  | none => rw [e] at h2; exact h2.elim
  | some lk =>
    obtain ⟨lo, k⟩ := lk
    rw [e] at h2
    unfold rng1 at e
    split at e
    · rename_i j
      rcases ifc_cases (P := fun r => r = some (lo, k)) e with ⟨hj, e⟩ | ⟨_, e⟩
      · cases e
        obtain ⟨v, rfl, rv⟩ := rwl1 r1
        cases (show v = .int j from rv)
        exact ⟨j, rfl, hj.1, hj.2, left_range q2 q3 ⟨F1, ms, ρ, S, s1, Ex.refl _, List.prefix_refl _, h2⟩⟩
      · cases e
    · cases e
theorem qs_range2 {tg : Expr} {g : MG} {p p' : Pos} (hp : PassesOwn (model X.prog X.w) X.A X.env X.xe) (hc : X.calm = true) (hgl : Gl X "range") (hm : X.mg "range" = none) (ha : QA X cl C Wx [a, b] mr) (hg : QG X cl C tg g) (hb : QB X cl C Wx body m)
    (hs : starEach [a, b] X.env = [(false, eval a X.env), (false, eval b X.env)] := by rfl) (hs2 : starEach [b] X.env = [(false, eval b X.env)] := by rfl) (hf : ∀ x, foldedSetIterable (.Call (.Name "range" p) [a, b] [] p') X.env x = pure x := by intro _; rfl) :
    QS X cl C Wx (.For tg (.Call (.Name "range" p) [a, b] [] p') body [] pos) (mForR rng2 mr g m) := by
  obtain ⟨t, p, q⟩ := ha
  obtain ⟨t2, p2, q2⟩ := hg
  obtain ⟨t3, p3, q3⟩ := hb
  refine ⟨_, ps_for hp hc (pi_range2 hgl hm p hs hs2) p2 p3 hf, fun L F H ms σ ρ S s Z h => ?_⟩
  refine q L F H ms σ ρ S s _ (PostS.go h fun ws h1 vs F1 H1 s1 x1 r1 => ?_)
  have h2 := h1 F1 ms x1 (List.prefix_refl _)
  cases e : rng2 ws with
  | none => rw [e] at h2; exact h2.elim
  | some lk =>
    obtain ⟨lo, k⟩ := lk
    rw [e] at h2
    unfold rng2 at e
    split at e
    · rename_i i j
      rcases ifc_cases (P := fun r => r = some (lo, k)) e with ⟨hj, e⟩ | ⟨_, e⟩
      · cases e
        obtain ⟨v, z, rfl, rv, rz⟩ := rwl2 r1
        cases (show v = .int lo from rv)
        cases (show z = .int j from rz)
        exact ⟨lo, j, rfl, hj, left_range q2 q3 ⟨F1, ms, ρ, S, s1, Ex.refl _, List.prefix_refl _, h2⟩⟩
      · cases e
    · cases e

/-! ### while -/
end
def whileN (c : MT) (b : MS) : Nat → Rho → Sto → Out
  | 0, _, _ => .stuck
  | k + 1, ρ, S => match c ρ S with
    | .stuck => .stuck
    | .ex x => .ex x ρ S
    | .ok false => .nx ρ S
    | .ok true => match b ρ S with
      | .nx ρ2 S2 => whileN c b k ρ2 S2
      | .ct ρ2 S2 => whileN c b k ρ2 S2
      | .bk ρ2 S2 => .nx ρ2 S2
      | .rt w S2 => .rt w S2
      | .ex x ρ2 S2 => .ex x ρ2 S2
      | .stuck => .stuck
open Classical in
/-- a while: where some number of turns ends it -/
noncomputable def mWhile (c : MT) (b : MS) : MS := fun ρ S => if h : ∃ k, whileN c b k ρ S ≠ .stuck then whileN c b h.choose ρ S else .stuck
theorem whileN_more (c : MT) (b : MS) : ∀ (k : Nat) (ρ : Rho) (S : Sto), whileN c b k ρ S ≠ .stuck → ∀ j, k ≤ j → whileN c b j ρ S = whileN c b k ρ S
  | 0, ρ, S, h, _, _ => absurd rfl h
  | k + 1, ρ, S, h, 0, hj => by omega
  | k + 1, ρ, S, h, j + 1, hj => by
    unfold whileN at h ⊢
    cases e : c ρ S with
    | stuck => rfl
    | ex x => rfl
    | ok v =>
      rw [e] at h
      cases v with
      | false => rfl
      | true =>
        simp only at h ⊢
        cases e2 : b ρ S with
        | nx ρ2 S2 => rw [e2] at h; exact whileN_more c b k ρ2 S2 h j (by omega)
        | ct ρ2 S2 => rw [e2] at h; exact whileN_more c b k ρ2 S2 h j (by omega)
        | bk ρ2 S2 => rfl
        | rt w S2 => rfl
        | ex x ρ2 S2 => rfl
        | stuck => rfl
theorem mWhile_of {c : MT} {b : MS} {ρ : Rho} {S : Sto} (k : Nat) (h : whileN c b k ρ S ≠ .stuck) : mWhile c b ρ S = whileN c b k ρ S := by
  unfold mWhile
  have h' : ∃ k, whileN c b k ρ S ≠ .stuck := ⟨k, h⟩
  rw [dif_pos h']
  rcases Nat.le_total k h'.choose with z | z
  · exact whileN_more c b k ρ S h _ z
  · exact (whileN_more c b _ ρ S h'.choose_spec _ z).symm
section
variable {X : Cx} {cl : Str → Option Addr} {C : Cn} {Wx : WX} {pos : Pos} {a b c e : Expr} {es : List Expr} {ma mb mc me : ME} {mr : MA} {ta tb tc : MT} {st : Stmt} {rest body : List Stmt} {m n : MS}
theorem qs_while (hp : PassesOwn (model X.prog X.w) X.A X.env X.xe) (hc : QT X cl C Wx c tc) (hb : QB X cl C Wx body m) : QS X cl C Wx (.While c body [] pos) (mWhile tc m) := by
  obtain ⟨t, p, q⟩ := hc
  obtain ⟨t2, p2, q2⟩ := hb
  refine ⟨_, ps_while hp p p2, fun L F H ms σ ρ S s Z h => ?_⟩
  have hk : ∃ k, PostS X.K cl C L Wx F ms (whileN tc m k ρ S) Z := by
    unfold mWhile at h
    split at h
    · exact ⟨_, h⟩
    · exact h.elim
  obtain ⟨k, hk⟩ := hk
  refine ⟨fun j σ H => ∃ F' ms' ρ S, Sim X.K cl C L F' H ms' σ ρ S ∧ Ex F F' ∧ ms <+: ms' ∧ PostS X.K cl C L Wx F' ms' (whileN tc m j ρ S) Z, ⟨k, F, ms, ρ, S, s, Ex.refl _, List.prefix_refl _, hk⟩, ?_⟩
  rintro j σ' H' ⟨F1, ms1, ρ1, S1, s1, x1, p1, h1⟩
  cases j with
  | zero => exact h1.elim
  | succ j =>
    unfold whileN at h1
    refine q L F1 H' ms1 σ' ρ1 S1 s1 _ ?_
    cases e : tc ρ1 S1 with
    | stuck => rw [e] at h1; exact h1.elim
    | ex x => rw [e] at h1; exact fun cls dd F2 H2 s2 x2 r2 => h1 cls dd σ' F2 H2 ms1 s2 x2 (List.prefix_refl _) r2
    | ok v =>
      rw [e] at h1
      intro F2 H2 s2 x2
      cases v with
      | false => exact h1 σ' F2 H2 ms1 s2 x2 (List.prefix_refl _)
      | true =>
        refine ⟨fun σ3 H3 => ∃ F' ms' ρ S, Sim X.K cl C L F' H3 ms' σ3 ρ S ∧ Ex F F' ∧ ms <+: ms' ∧ PostS X.K cl C L Wx F' ms' (whileN tc m j ρ S) Z, fun σ3 H3 z => ⟨j, Nat.lt_succ_self _, z⟩, ?_⟩
        refine q2 L F2 H2 ms1 σ' ρ1 S1 s2 _ ?_
        simp only at h1
        cases e2 : m ρ1 S1 with
        | nx ρ2 S2 =>
          rw [e2] at h1
          exact fun σ3 F3 H3 ms3 s3 x3 p3 => ⟨F3, ms3, ρ2, S2, s3, x1.trans (x2.trans x3), p1.trans p3, PostS.mono (x2.trans x3) p3 h1⟩
        | ct ρ2 S2 =>
          rw [e2] at h1
          exact fun σ3 F3 H3 ms3 s3 x3 p3 => ⟨F3, ms3, ρ2, S2, s3, x1.trans (x2.trans x3), p1.trans p3, PostS.mono (x2.trans x3) p3 h1⟩
        | bk ρ2 S2 => rw [e2] at h1; exact fun σ3 F3 H3 ms3 s3 x3 p3 => h1 σ3 F3 H3 ms3 s3 (x2.trans x3) p3
        | rt w S2 => rw [e2] at h1; exact fun v σ3 ρ3 F3 H3 ms3 s3 x3 p3 r3 => h1 v σ3 ρ3 F3 H3 ms3 s3 (x2.trans x3) p3 r3
        | ex x ρ2 S2 => rw [e2] at h1; exact fun cls dd σ3 F3 H3 ms3 s3 x3 p3 r3 => h1 cls dd σ3 F3 H3 ms3 s3 (x2.trans x3) p3 r3
        | stuck => rw [e2] at h1; exact h1.elim
end
end Ng
namespace Ng
open PySem L2

/-! ### cells made, changed, frozen -/
section
variable {K : PySem.W.Frag} {cl : Str → Option Addr} {C : Cn} {L : List Addr} {F H : Hp} {ms : List Addr} {σ : St} {ρ : Rho} {S : Sto}
theorem Sim.newCell (s : Sim K cl C L F H ms σ ρ S) {p : Addr} {o : HO} {c : Cell} (hp : H p = none) (hc : CellR K cl F (ms ++ [p]) (upd H p o) p c) : Sim K cl C L F (upd H p o) (ms ++ [p]) σ ρ (S ++ [c]) := by
  have ne : ∀ a ∈ ms, a ≠ p := fun a ha e => s.bs.has a ha (by rw [e]; exact hp)
  have ex : Ex H (upd H p o) := Ex.new hp
  have pf : ms <+: ms ++ [p] := List.prefix_append _ _
  refine ⟨⟨s.bs.fz.ex ex, by simp [s.bs.len], ?_, ?_, ?_⟩, ⟨s.fm.hf, fun b u e n => (s.fm.keep b u e n).imp (ex b u) fun ⟨l, d, q, z⟩ => ⟨l, d, q, ex b _ z⟩, fun b e => ?_, s.fm.newF, fun a ha => ?_, s.fm.pre.trans pf⟩, s.len, fun i w e => ?_⟩
  · rw [List.nodup_append]
    exact ⟨s.bs.nd, by simp, fun a ha b hb => by simp at hb; subst hb; exact ne a ha⟩
  · intro a ha
    rcases List.mem_append.mp ha with h | h
    · rw [upd_ne (ne a h)]; exact s.bs.has a h
    · simp at h; subst h; rw [upd_same]; simp
  · intro n c' e d
    by_cases hn : n < S.length
    · rw [List.getElem?_append_left hn] at e
      obtain ⟨a, e1, e2, e3⟩ := s.bs.cell n c' e d
      refine ⟨a, by rw [List.getElem?_append_left (by rw [s.bs.len]; exact hn)]; exact e1, e2, CellR.grow (Ex.refl _) pf (fun u z => ex a u z) e3⟩
    · have hl : n = S.length := by
        have := (List.getElem?_eq_some_iff.mp e).1
        simp at this; omega
      subst hl
      rw [List.getElem?_append_right (Nat.le_refl _)] at e
      simp at e
      subst e
      exact ⟨p, by rw [← s.bs.len, List.getElem?_append_right (Nat.le_refl _)]; simp, s.bs.fz.none hp, hc⟩
  · refine s.fm.dom b ?_
    cases z : H b with
    | none => rfl
    | some u => rw [ex b u z] at e; cases e
  · rcases List.mem_append.mp ha with h | h
    · exact s.fm.newC a h
    · simp at h; subst h; exact .inr (s.fm.dom a hp)
  · obtain ⟨v, e1, e2⟩ := s.slot i w e
    exact ⟨v, e1, e2.grow (Ex.refl _) pf⟩
theorem nd_ix {ms : List Addr} (h : ms.Nodup) {i j : Nat} {a : Addr} (e1 : ms[i]? = some a) (e2 : ms[j]? = some a) : i = j := by
  obtain ⟨h1, q1⟩ := List.getElem?_eq_some_iff.mp e1
  obtain ⟨h2, q2⟩ := List.getElem?_eq_some_iff.mp e2
  exact (List.getElem_inj h).mp (q1.trans q2.symm)
theorem Sim.upCell (s : Sim K cl C L F H ms σ ρ S) {n : Nat} {a : Addr} {o : HO} {c c' : Cell} (e : S[n]? = some c) (hl : c ≠ .dead) (ea : ms[n]? = some a) (hc : CellR K cl F ms (upd H a o) a c') : Sim K cl C L F (upd H a o) ms σ ρ (S.set n c') := by
  obtain ⟨a', e1, e2, e3⟩ := s.bs.cell n c e hl
  rw [ea] at e1; cases e1
  have ham : a ∈ ms := List.mem_of_getElem? ea
  have neF : ∀ b o, F b = some o → b ≠ a := fun b o h z => by rw [z, e2] at h; cases h
  have hn : n < S.length := (List.getElem?_eq_some_iff.mp e).1
  refine ⟨⟨fun b u h => ?_, by simp [s.bs.len], s.bs.nd, fun b hb => ?_, fun k d ek hd => ?_⟩, ⟨s.fm.hf, fun b u h1 h2 => ?_, fun b h => ?_, s.fm.newF, s.fm.newC, s.fm.pre⟩, s.len, s.slot⟩
  · rw [upd_ne (neF b u h)]; exact s.bs.fz b u h
  · by_cases z : b = a
    · subst z; rw [upd_same]; simp
    · rw [upd_ne z]; exact s.bs.has b hb
  · by_cases z : n = k
    · subst z
      rw [List.getElem?_set_self hn] at ek
      cases ek
      exact ⟨a, ea, e2, hc⟩
    · rw [List.getElem?_set_ne z] at ek
      obtain ⟨b, f1, f2, f3⟩ := s.bs.cell k d ek hd
      have nb : b ≠ a := fun y => z (nd_ix s.bs.nd ea (by rw [← y]; exact f1))
      exact ⟨b, f1, f2, CellR.grow (Ex.refl _) (List.prefix_refl _) (fun u y => by rw [upd_ne nb]; exact y) f3⟩
  · have nb : b ≠ a := fun y => by
      subst y
      rcases s.fm.newC b ham with z | z
      · exact h2 z
      · rw [z] at h1; cases h1
    rw [upd_ne nb]; exact s.fm.keep b u h1 h2
  · by_cases z : b = a
    · subst z; rw [upd_same] at h; cases h
    · rw [upd_ne z] at h; exact s.fm.dom b h
/-- a cell is frozen: its object joins the frozen part -/
theorem Sim.frz (s : Sim K cl C L F H ms σ ρ S) {n : Nat} {a : Addr} {o : HO} {c : Cell} (e : S[n]? = some c) (hl : c ≠ .dead) (ea : ms[n]? = some a) (ho : H a = some o) : Sim K cl C L (upd F a o) H ms σ ρ (S.set n .dead) ∧ Ex F (upd F a o) := by
  obtain ⟨a', e1, e2, e3⟩ := s.bs.cell n c e hl
  rw [ea] at e1; cases e1
  have ham : a ∈ ms := List.mem_of_getElem? ea
  have ex : Ex F (upd F a o) := Ex.new e2
  have hn : n < S.length := (List.getElem?_eq_some_iff.mp e).1
  refine ⟨⟨⟨fun b u h => ?_, by simp [s.bs.len], s.bs.nd, s.bs.has, fun k d ek hd => ?_⟩, ⟨s.fm.hf.trans ex, s.fm.keep, s.fm.dom, fun b u h => ?_, s.fm.newC, s.fm.pre⟩, s.len, fun i w h => ?_⟩, ex⟩
  · by_cases z : b = a
    · subst z; rw [upd_same] at h; cases h; exact .inl ho
    · rw [upd_ne z] at h; exact s.bs.fz b u h
  · by_cases z : n = k
    · subst z
      rw [List.getElem?_set_self hn] at ek
      cases ek
      exact absurd rfl hd
    · rw [List.getElem?_set_ne z] at ek
      obtain ⟨b, f1, f2, f3⟩ := s.bs.cell k d ek hd
      have nb : b ≠ a := fun y => z (nd_ix s.bs.nd ea (by rw [← y]; exact f1))
      exact ⟨b, f1, by rw [upd_ne nb]; exact f2, CellR.grow ex (List.prefix_refl _) (fun u y => y) f3⟩
  · by_cases z : b = a
    · subst z
      rcases s.fm.newC b ham with y | y
      · exact .inr (.inr y)
      · exact .inr (.inl y)
    · rw [upd_ne z] at h; exact s.fm.newF b u h
  · obtain ⟨v, h1, h2⟩ := s.slot i w h
    exact ⟨v, h1, h2.grow ex (List.prefix_refl _)⟩
end
/-- what a cell is worth when it is frozen -/
def datC : Cell → Option D
  | .lst ws => match dats ws with
    | .ok ds => some (.lst true ds)
    | _ => none
  | .dk kws => match dats (kws.map (·.2)) with
    | .ok ds => some (.dk (kws.map (·.1)) ds)
    | _ => none
  | .dt kws => match dats (kws.map (·.2)) with
    | .ok ds => some (.dt (kws.map (·.1)) ds)
    | _ => none
  | _ => none
theorem rwp_zip {κ : Type} {K : PySem.W.Frag} {cl : Str → Option Addr} {F : Hp} {ms : List Addr} : ∀ {kws : List (κ × W)} {kvs : List (κ × V)}, RWP K cl F ms kws kvs → RWL K cl F ms (kws.map (·.2)) (kvs.map (·.2)) ∧ kvs = (kws.map (·.1)).zip (kvs.map (·.2))
  | _, _, .nil => ⟨.nil, rfl⟩
  | (k, w) :: kws, (k', v) :: kvs, .cons h t => by
    obtain ⟨h1, h2⟩ := rwp_zip t
    obtain ⟨e, r⟩ := h
    cases (show k = k' from e)
    refine ⟨.cons r h1, ?_⟩
    simp only [List.map_cons, List.zip_cons_cons]
    rw [← h2]
theorem datC_ok {K : PySem.W.Frag} {cl : Str → Option Addr} {F H : Hp} {ms : List Addr} {a : Addr} {c : Cell} {d : D} (h : CellR K cl F ms H a c) (e : datC c = some d) : ∃ o, H a = some o ∧ c ≠ .dead ∧ ∀ F', Ex F F' → F' a = some o → Rp K cl F' d (.ref a) := by
  cases c with
  | lst ws =>
    obtain ⟨vs, h1, h2⟩ := h
    unfold datC at e
    simp only at e
    split at e
    · rename_i ds q
      cases e
      exact ⟨_, h1, (by intro z; cases z), fun F' x y => ⟨a, vs, rfl, y, RpL.xt x.xt _ _ (dats_ok h2 q)⟩⟩
    · cases e
  | dk kws =>
    obtain ⟨kvs, h1, h2⟩ := h
    unfold datC at e
    simp only at e
    split at e
    · rename_i ds q
      cases e
      obtain ⟨z1, z2⟩ := rwp_zip h2
      refine ⟨_, h1, (by intro z; cases z), fun F' x y => ⟨a, kvs.map (·.2), rfl, .inl ?_, ?_, RpL.xt x.xt _ _ (dats_ok z1 q)⟩⟩
      · rw [← z2]; exact y
      · rw [List.length_map, List.length_map]; exact Paired.length h2
    · cases e
  | dt kws =>
    obtain ⟨kvs, h1, h2⟩ := h
    unfold datC at e
    simp only at e
    split at e
    · rename_i ds q
      cases e
      obtain ⟨z1, z2⟩ := rwp_zip h2
      refine ⟨_, h1, (by intro z; cases z), fun F' x y => ⟨a, kvs.map (·.2), rfl, .inl ?_, ?_, RpL.xt x.xt _ _ (dats_ok z1 q)⟩⟩
      · rw [← z2]; exact y
      · rw [List.length_map, List.length_map]; exact Paired.length h2
    · cases e
  | ins c f => cases e
  | dead => cases e
def mFrz (i : Nat) (m : MS) : MS := fun ρ S => match ρ[i]? with
  | some (some (.lo n)) => match S[n]? with
    | some c => match datC c with
      | some d => m (ρ.set i (some (.da d))) (S.set n .dead)
      | none => .stuck
    | none => .stuck
  | some (some (.da _)) => m ρ S
  | _ => .stuck
noncomputable def mNewL (i : Nat) (ma : MA) : MS := fun ρ S => (ma ρ S).out ρ S fun ws => ifc (ws.length ≤ sizeLine) (.nx (ρ.set i (some (.lo S.length))) (S ++ [.lst ws])) .stuck
def mNewDK (i : Nat) : MS := fun ρ S => .nx (ρ.set i (some (.lo S.length))) (S ++ [.dk []])
def mNewDT (i : Nat) : MS := fun ρ S => .nx (ρ.set i (some (.lo S.length))) (S ++ [.dt []])
noncomputable def mAppend (i : Nat) (me : ME) : MS := fun ρ S => match ρ[i]? with
  | some (some (.lo n)) => match S[n]? with
    | some (.lst ws) => (me ρ S).out ρ S fun w => ifc (ws.length < sizeLine) (.nx ρ (S.set n (.lst (ws ++ [w])))) .stuck
    | _ => .stuck
  | _ => .stuck
section
variable {X : Cx} {cl : Str → Option Addr} {C : Cn} {Wx : WX} {pos : Pos} {a b c e : Expr} {es : List Expr} {ma mb mc me : ME} {mr : MA} {ta tb tc : MT} {st : Stmt} {rest body : List Stmt} {m n : MS}
/-- from here on the thing in slot i is frozen -/
theorem qb_frz (i : Nat) (h : QB X cl C Wx body m) : QB X cl C Wx body (mFrz i m) := by
  obtain ⟨t, p, q⟩ := h
  refine ⟨t, p, fun L F H ms σ ρ S s Z h => ?_⟩
  unfold mFrz at h
  split at h
  · rename_i k hk
    split at h
    · rename_i c hc
      split at h
      · rename_i d hd
        have hl : c ≠ .dead := by intro z; subst z; cases hd
        obtain ⟨a, e1, e2, e3⟩ := s.bs.cell k c hc hl
        obtain ⟨o, ho, _, hr⟩ := datC_ok e3 hd
        obtain ⟨s', ex⟩ := s.frz hc hl e1 ho
        obtain ⟨v, f1, f2⟩ := s.slot i _ hk
        obtain ⟨a', f3, rfl⟩ := f2
        rw [e1] at f3; cases f3
        have s2 : Sim X.K cl C L (upd F a o) H ms (σ.set i (some (.ref a))) (ρ.set i (some (.da d))) (S.set k .dead) := s'.set i (hr _ ex upd_same)
        have es : σ.set i (some (.ref a)) = σ := by
          apply List.ext_getElem?
          intro j
          by_cases hj : i = j
          · subst hj
            rw [List.getElem?_set_self (List.getElem?_eq_some_iff.mp f1).1, f1]
          · rw [List.getElem?_set_ne hj]
        rw [es] at s2
        exact q L _ H ms σ _ _ s2 Z (PostS.mono ex (List.prefix_refl _) h)
      · exact h.elim
    · exact h.elim
  · exact q L F H ms σ ρ S s Z h
  · exact h.elim
theorem qs_newL {i : Nat} {x : Str} {pos' p2 : Pos} (hN : X.N.Nodup) (hi : X.N[i]? = some x) (hx : Loc X.env.scope x) (ha : QA X cl C Wx es mr) (hs : swapsWith (.List es p2) (some (.Name x pos')) pos.line X.env = pure false := by rfl)
    (hf : X.fn x = true ∨ X.env.scope.names.lookup x = some .local := by first | exact .inl rfl | exact .inr rfl | assumption) : QS X cl C Wx (.Assign [.Name x pos'] (.List es p2) pos) (mNewL i mr) := by
  obtain ⟨t, p, q⟩ := ha
  refine ⟨_, ps_set hN hi hx (pe_lst p) hs hf, fun L F H ms σ ρ S s Z h => ?_⟩
  refine q L F H ms σ ρ S s _ (PostS.go h fun ws h1 vs F1 H1 s1 x1 r1 => ?_)
  have h2 := h1 F1 ms x1 (List.prefix_refl _)
  rcases ifc_cases (P := fun r => PostS X.K cl C L Wx F1 ms r Z) h2 with ⟨hl, h2⟩ | ⟨_, h2⟩
  · refine ⟨by rw [← r1.len]; exact hl, fun p hp => ?_⟩
    have s2 := s1.newCell (o := .lst vs) (c := .lst ws) hp ⟨vs, upd_same, r1.grow (Ex.refl _) (List.prefix_append _ _)⟩
    have s3 := s2.set (w := .lo S.length) (v := .ref p) i ⟨p, by rw [← s1.bs.len, List.getElem?_append_right (Nat.le_refl _)]; simp, rfl⟩
    exact h2 _ F1 _ _ s3 (Ex.refl _) (List.prefix_append _ _)
  · exact h2.elim
theorem qs_newDK {i : Nat} {x : Str} {pos' p2 : Pos} (hN : X.N.Nodup) (hi : X.N[i]? = some x) (hx : Loc X.env.scope x) (hs : swapsWith (.Dict [] [] p2) (some (.Name x pos')) pos.line X.env = pure false := by rfl)
    (hf : X.fn x = true ∨ X.env.scope.names.lookup x = some .local := by first | exact .inl rfl | exact .inr rfl | assumption) : QS X cl C Wx (.Assign [.Name x pos'] (.Dict [] [] p2) pos) (mNewDK i) := by
  refine ⟨_, ps_set hN hi hx pe_dnewK hs hf, fun L F H ms σ ρ S s Z h p hp => ?_⟩
  have s2 := s.newCell (o := .dK []) (c := .dk []) hp ⟨[], upd_same, .nil⟩
  have s3 := s2.set (w := .lo S.length) (v := .ref p) i ⟨p, by rw [← s.bs.len, List.getElem?_append_right (Nat.le_refl _)]; simp, rfl⟩
  exact h _ F _ _ s3 (Ex.refl _) (List.prefix_append _ _)
theorem qs_newDT {i : Nat} {x : Str} {pos' p2 : Pos} (hN : X.N.Nodup) (hi : X.N[i]? = some x) (hx : Loc X.env.scope x) (hs : swapsWith (.Dict [] [] p2) (some (.Name x pos')) pos.line X.env = pure false := by rfl)
    (hf : X.fn x = true ∨ X.env.scope.names.lookup x = some .local := by first | exact .inl rfl | exact .inr rfl | assumption) : QS X cl C Wx (.Assign [.Name x pos'] (.Dict [] [] p2) pos) (mNewDT i) := by
  refine ⟨_, ps_set hN hi hx pe_dnewT hs hf, fun L F H ms σ ρ S s Z h p hp => ?_⟩
  have s2 := s.newCell (o := .dT []) (c := .dt []) hp ⟨[], upd_same, .nil⟩
  have s3 := s2.set (w := .lo S.length) (v := .ref p) i ⟨p, by rw [← s.bs.len, List.getElem?_append_right (Nat.le_refl _)]; simp, rfl⟩
  exact h _ F _ _ s3 (Ex.refl _) (List.prefix_append _ _)
theorem qs_append {i : Nat} {x : Str} {p0 apos cpos : Pos} (hN : X.N[i]? = some x) (hv : Vis X.env.scope x) (he : QE X cl C Wx e me) (hd : (x == ("__debug__" : Str)) = false := by decide) (hcd : (x == ("__classdict__" : Str)) = false := by decide)
    (hbase : attributeBase (.Name x p0) "append" X.env (eval (.Name x p0) X.env) = eval (.Name x p0) X.env := by rfl)
    (hfew : ((backTo cpos (starEach [e] X.env)).all (fun x => !x.1) && (backToKw cpos (keywordEach [] X.env)).all (fun x => x.1.isSome)
      && decide (([e] : List Expr).length + ([] : List Keyword).length + (if ([] : List Keyword).isEmpty then 0 else 1) < 30)) = true := by rfl)
    (hline : (apos.endLine == cpos.line) = true := by rfl) (hs : starEach [e] X.env = (false, eval e X.env) :: starEach [] X.env := by rfl) (hplain : (backTo cpos (starEach [] X.env)).any (·.1) = false := by rfl)
    (hsw : swapsWith (.Call (.Attribute (.Name x p0) "append" apos) [e] [] cpos) none pos.line X.env = pure false := by rfl) :
    QS X cl C Wx (.Expr (.Call (.Attribute (.Name x p0) "append" apos) [e] [] cpos) pos) (mAppend i me) := by
  obtain ⟨t, p, q⟩ := he
  refine ⟨_, ps_expr (pe_bm PySem.F.plainAttrs_list PySem.F.slot_list_append PySem.F.type_list_append mt_append (pe_var hN hv hd hcd) (pa_cons p pa_nil hs) hbase hfew hline hs hplain) hsw, fun L F H ms σ ρ S s Z h => ?_⟩
  unfold mAppend at h
  split at h
  · rename_i k hk
    obtain ⟨v, e1, e2⟩ := s.slot i _ hk
    obtain ⟨a, ea, rfl⟩ := e2
    refine ⟨.ref a, e1, ?_⟩
    split at h
    · rename_i ws hc
      obtain ⟨a', f1, f2, vs, f3, f4⟩ := s.bs.cell k _ hc (by intro z; cases z)
      rw [ea] at f1; cases f1
      refine ⟨.inl ⟨rfl, vs, .inl (.inl f3)⟩, ?_⟩
      refine q L F H ms σ ρ S s _ (PostS.go h fun w h1 u F1 H1 s1 x1 r1 => ?_)
      have h2 := h1 F1 ms x1 (List.prefix_refl _)
      rcases ifc_cases (P := fun r => PostS X.K cl C L Wx F1 ms r Z) h2 with ⟨hl, h2⟩ | ⟨_, h2⟩
      · obtain ⟨a', f1, f2', vs', f3', f4'⟩ := s1.bs.cell k _ hc (by intro z; cases z)
        rw [ea] at f1; cases f1
        refine ⟨a, vs', u, rfl, rfl, f3', by rw [← f4'.len]; exact hl, ?_⟩
        have s2 := s1.upCell (o := .lst (vs' ++ [u])) (c' := .lst (ws ++ [w])) hc (by intro z; cases z) ea ⟨_, upd_same, Paired.snoc f4' r1⟩
        exact h2 _ F1 _ ms s2 (Ex.refl _) (List.prefix_refl _)
      · exact h2.elim
    · exact h.elim
  · exact h.elim
end
end Ng
namespace Ng
open PySem PySem.Spec PyProof.Rows L2

/-- the classes of the text's top, by their names -/
def clOf (K : PySem.W.Frag) : Str → Option Addr := fun x => match PySem.W.nsIn K mainGlobals x with
  | some (some (.ref a)) => some a
  | _ => none
/-! ### a def as a plain function -/
def startR (n : Nat) (ds : List D) : Rho := ds.map (fun d => some (.da d)) ++ List.replicate (n - ds.length) none
def endP : Out → Re D
  | .rt (.da d) _ => .ok d
  | .rt (.lo k) S => match S[k]? with
    | some c => match datC c with
      | some d => .ok d
      | none => .stuck
    | none => .stuck
  | .nx _ _ => .ok .non
  | .ex x _ _ => .ex x
  | _ => .stuck
def runP (n np : Nat) (m : MS) (ds : List D) : Re D := if ds.length = np then endP (m (startR n ds) []) else .stuck
/-- the promise of a def that changes nothing that stood: it is the plain function p -/
def SpP (K : PySem.W.Frag) (cl : Str → Option Addr) (p : List D → Re D) : Sp := fun vs H Q E => ∃ F ds, Xt F H ∧ RpL K cl F ds vs ∧ match p ds with
  | .ok d => ∀ v F' H', Al F H F' H' → Rp K cl F' d v → Q v H'
  | .ex x => ∀ cls dd F' H', Al F H F' H' → XR K cl F' x cls dd → E cls dd H'
  | .stuck => False
theorem Sim.toAl {K : PySem.W.Frag} {cl : Str → Option Addr} {F H F' H' : Hp} {ms : List Addr} {σ : L2.St} {ρ : Rho} {S : Sto} (s : Sim K cl ⟨H, F, []⟩ [] F' H' ms σ ρ S) : Al F H F' H' :=
  ⟨s.fm.hf, fun b o e => by
    rcases s.fm.keep b o e (by simp) with z | ⟨z, _⟩
    · exact z
    · simp at z, s.bs.fz, fun b o e => by
    rcases s.fm.newF b o e with z | z | z
    · exact .inl z
    · exact .inr z
    · simp at z⟩
theorem sim_start {K : PySem.W.Frag} {cl : Str → Option Addr} {F H : Hp} {ds : List D} {vs : List V} {N : List Str} (x : Xt F H) (r : RpL K cl F ds vs) : Sim K cl ⟨H, F, []⟩ [] F H [] (L2.start N vs) (startR N.length ds) [] := by
  refine ⟨⟨x, rfl, by simp, by simp, fun n c e => by simp at e⟩, ⟨Ex.refl _, fun b o e _ => .inl e, fun b e => e, fun b o e => .inl e, by simp, List.prefix_refl _⟩, ?_, ?_⟩
  · unfold L2.start startR
    simp [r.length]
  · intro i w e
    unfold startR at e
    by_cases hi : i < ds.length
    · rw [List.getElem?_append_left (by simpa using hi), List.getElem?_map, List.getElem?_eq_getElem hi] at e
      simp at e
      subst e
      obtain ⟨v, e1, e2⟩ := r.get (List.getElem?_eq_getElem hi)
      refine ⟨v, ?_, e2⟩
      unfold L2.start
      have hv : i < vs.length := by rw [← r.length]; exact hi
      rw [List.getElem?_append_left (by simpa using hv), List.getElem?_map, e1]
      rfl
    · rw [List.getElem?_append_right (by simpa using Nat.le_of_not_lt hi)] at e
      rw [List.getElem?_replicate] at e
      split at e <;> simp at e
section
variable {P : Program} {w : World} {K : PySem.W.Frag} {mg : Str → Option Value} {base : Heap} {cl : Str → Option Addr}
/-- a def's body, walked: its promise -/
theorem fnP {x qual : Str} {st : Stmt} {f : Addr} {fd : FuncData} {N ps : List Str} {k : Nat} {m : MS} (F : Fun K x qual st f fd) (S : FnScope N ps (defScope st))
    (hb : ∀ (cdv : Value) (A : Around) (outer : List Env) (s : Shared) (H : Hp) (E : XK), Room k (A.deeper (envOfC qual (defScope st) s.heap.objs.size f cdv)) → ∀ C : Cn,
      QB (cxOf (L2.CX P w) P w K mg base N qual (defScope st) f cdv A outer s H E) cl C (fun cls d _ H' => E cls d H') (defBody st) m) :
    FnOk P w K mg base (L2.CX P w) (k + 1) f fd ps (SpP K cl (runP N.length ps.length m)) := by
  refine F.okX S (fun vs H Q E h => ?_) (fun cdv A outer s H vs Q E hr h => ?_)
  · obtain ⟨F, ds, _, r, q⟩ := h
    rw [← r.length]
    by_cases hl : ds.length = ps.length
    · exact hl
    · rw [show runP N.length ps.length m ds = .stuck by unfold runP; rw [if_neg hl]] at q
      exact q.elim
  · obtain ⟨F0, ds, x, r, q⟩ := h
    obtain ⟨t, p, z⟩ := hb cdv A outer s H E hr ⟨H, F0, []⟩
    refine ⟨t, p, z [] F0 H [] _ _ [] (sim_start x r) _ ?_⟩
    by_cases hl : ds.length = ps.length
    · rw [show runP N.length ps.length m ds = endP (m (startR N.length ds) []) by unfold runP; rw [if_pos hl]] at q
      cases e : m (startR N.length ds) [] with
      | nx ρ S =>
        rw [e] at q
        exact fun σ' F' H' ms' s' _ _ => q .non F' H' s'.toAl rfl
      | rt u S =>
        rw [e] at q
        intro v σ' ρ' F' H' ms' s' _ _ rw'
        cases u with
        | da d => exact q v F' H' s'.toAl rw'
        | lo k =>
          obtain ⟨a, ea, rfl⟩ := rw'
          simp only [endP] at q
          split at q
          · rename_i d hd
            split at hd
            · rename_i c hc
              split at hd
              · rename_i d' hd'
                cases hd
                have hz : c ≠ .dead := by intro z; subst z; cases hd'
                obtain ⟨a', e1, e2, e3⟩ := s'.bs.cell k c hc hz
                rw [ea] at e1; cases e1
                obtain ⟨o, ho, _, hrp⟩ := datC_ok e3 hd'
                obtain ⟨s2, ex⟩ := s'.frz hc hz ea ho
                exact q (.ref a) _ H' s2.toAl (hrp _ ex upd_same)
              · cases hd
            · cases hd
          · rename_i hd
            split at hd
            · split at hd <;> cases hd
            · cases hd
          · exact q.elim
      | bk ρ S => rw [e] at q; exact q.elim
      | ct ρ S => rw [e] at q; exact q.elim
      | ex y ρ S =>
        rw [e] at q
        exact fun cls dd σ' F' H' ms' s' _ _ xr => q cls dd F' H' s'.toAl xr
      | stuck => rw [e] at q; exact q.elim
    · rw [show runP N.length ps.length m ds = .stuck by unfold runP; rw [if_neg hl]] at q
      exact q.elim
/-- a call of such a def -/
def mCallP (p : List D → Re D) (mr : MA) : ME := fun ρ S => (mr ρ S).bind fun ws => (dats ws).bind fun ds => (p ds).bind fun d => .ok (.da d)
theorem qe_call {X : Cx} {C : Cn} {Wx : WX} {CX : CXT} {k : Nat} {f : Addr} {fd : FuncData} {ps : List Str} {x : Str} {pp pos : Pos} {e : Expr} {es : List Expr} {mr : MA} {p : List D → Re D}
    (G : FnOk X.prog X.w X.K X.mg X.base CX k f fd ps (SpP X.K cl p)) (hr : Room k X.A) (hg : Gl X x) (hm : X.mg x = some (.ref f)) (hk : PySem.W.keepIn X.K (.ref f) = true) (hb : Binds X.K fd ps []) (px : ∀ σ, PassesAt CX X σ (WE Wx σ))
    (ha : QA X cl C Wx (e :: es) mr) (hdb : (x == ("__debug__" : Str)) = false := by decide) (he : starEach (e :: es) X.env = (false, eval e X.env) :: starEach es X.env := by rfl) (hpl : (backTo pos (starEach es X.env)).any (·.1) = false := by rfl) :
    QE X cl C Wx (.Call (.Name x pp) (e :: es) [] pos) (mCallP p mr) := by
  obtain ⟨t, pa, q⟩ := ha
  refine ⟨_, pe_callS G hr hg hm hk hb px pa hdb he hpl, fun L F H ms σ ρ S s Q h => ?_⟩
  refine q L F H ms σ ρ S s _ (PostG.go h fun ws h1 vs F1 H1 s1 x1 r1 => ?_)
  obtain ⟨ds, _, rd, h2⟩ := dats_go r1 (h1 F1 x1)
  refine ⟨F1, ds, s1.bs.fz, rd, ?_⟩
  cases e : p ds with
  | ok d =>
    rw [e] at h2
    exact fun v F' H' al r => h2 v F' H' (s1.al al) (x1.trans al.f) r
  | ex y =>
    rw [e] at h2
    exact fun cls dd F' H' al r => h2 cls dd F' H' (s1.al al) al.f r
  | stuck => rw [e] at h2; exact h2
theorem fn_stuck {f : Addr} {fd : FuncData} {ps : List Str} {CX : CXT} {k : Nat} : FnOk P w K mg base CX k f fd ps (SpP K cl fun _ => .stuck) :=
  ⟨fun vs H Q E h => by obtain ⟨_, _, _, _, q⟩ := h; exact q.elim, fun A outer s H args us vs Q E hr he hb hv h => by obtain ⟨_, _, _, _, q⟩ := h; exact q.elim⟩
/-- a def of the text's top as it stands -/
structure DefAt (K : PySem.W.Frag) (mg : Str → Option Value) (x : Str) (st : Stmt) (ps : List Str) (f : Addr) (fd : FuncData) : Prop where
  fn : Fun K x x st f fd
  mgd : mg x = some (.ref f)
  bd : Binds K fd ps []
/-- a constant of the text's top -/
structure GlobAt (K : PySem.W.Frag) (mg : Str → Option Value) (cl : Str → Option Addr) (x : Str) (d : D) : Prop where
  at_ : ∃ v u, mg x = some u ∧ RelV v u ∧ ∀ F, Rp K cl F d v
theorem qe_globAt {X : Cx} {C : Cn} {Wx : WX} {x : Str} {d : D} {pos : Pos} (h : GlobAt X.K X.mg cl x d) (hg : Gl X x := by rfl) (hd : (x == ("__debug__" : Str)) = false := by decide) : QE X cl C Wx (.Name x pos) (mC d) := by
  obtain ⟨v, u, h1, h2, h3⟩ := h.at_
  exact qe_glob hg h1 h2 h3 hd
theorem hu_ng {A : Around} {k : Nat} (hr : Room k A) : A.units + 200 < cLine := by have := hr.un; omega
end
/-! ### two at once; += -/
def mPar (i j : Nat) (mr : MA) : MS := fun ρ S => (mr ρ S).out ρ S fun ws => match ws with
  | [u, v] => .nx ((ρ.set i (some u)).set j (some v)) S
  | _ => .stuck
section
variable {X : Cx} {cl : Str → Option Addr} {C : Cn} {Wx : WX} {pos : Pos} {e : Expr} {es : List Expr} {me : ME} {mr : MA}
theorem qs_par {i j : Nat} {x y : Str} {a b : Expr} {px py pt : Pos} {kt k2 pt2} (hc : X.calm = true) (hN : X.N.Nodup) (hi : X.N[i]? = some x) (hj : X.N[j]? = some y) (hij : i ≠ j)
    (hx : X.env.scope.names.lookup x = some .local) (hy : X.env.scope.names.lookup y = some .local) (ha : QA X cl C Wx [a, b] mr)
    (hw : swappedStores [.Tuple [.Name x px, .Name y py] kt pt] (.Tuple [a, b] k2 pt2) X.env = pure (some [x, y]))
    (hs : swapsWithSole [.Tuple [.Name x px, .Name y py] kt pt] (.Tuple [a, b] k2 pt2) pos.line X.env = pure false := by rfl) :
    QS X cl C Wx (.Assign [.Tuple [.Name x px, .Name y py] kt pt] (.Tuple [a, b] k2 pt2) pos) (mPar i j mr) := by
  obtain ⟨t, p, q⟩ := ha
  refine ⟨_, ps_par hc hN hi hj hij hx hy p hw hs, fun L F H ms σ ρ S s Z h => ?_⟩
  refine q L F H ms σ ρ S s _ (PostS.go h fun ws h1 vs F1 H1 s1 x1 r1 => ?_)
  have h2 := h1 F1 ms x1 (List.prefix_refl _)
  split at h2
  · obtain ⟨v, z, rfl, rv, rz⟩ := rwl2 r1
    exact ⟨v, z, rfl, h2 _ F1 H1 ms ((s1.set i rv).set j rz) (Ex.refl _) (List.prefix_refl _)⟩
  · exact h2.elim
def incW : W → W → Option W
  | .da (.int i), .da (.int j) => some (.da (.int (i + j)))
  | _, _ => none
def mInc (i : Nat) (me : ME) : MS := fun ρ S => match ρ[i]? with
  | some (some x) => (me ρ S).out ρ S fun y => match incW x y with
    | some z => .nx (ρ.set i (some z)) S
    | none => .stuck
  | _ => .stuck
/-- x += e, whole numbers -/
theorem qs_inc {i : Nat} {x : Str} {pos' : Pos} (hN : X.N.Nodup) (hi : X.N[i]? = some x) (hx : Loc X.env.scope x) (he : QE X cl C Wx e me) (hf : X.fn x = true ∨ X.env.scope.names.lookup x = some .local := by first | exact .inl rfl | exact .inr rfl | assumption) :
    QS X cl C Wx (.AugAssign (.Name x pos') .Add e pos) (mInc i me) := by
  obtain ⟨t, p, q⟩ := he
  refine ⟨_, ps_aug hN hi hx p ip_add hf, fun L F H ms σ ρ S s Z h => ?_⟩
  unfold mInc at h
  split at h
  · rename_i x hx
    obtain ⟨v, e1, e2⟩ := s.slot i _ hx
    refine ⟨v, e1, ?_⟩
    refine q L F H ms σ ρ S s _ (PostS.go h fun w h1 u F1 H1 s1 x1 r1 => ?_)
    have h2 := h1 F1 ms x1 (List.prefix_refl _)
    cases e3 : incW x w with
    | none => rw [e3] at h2; exact h2.elim
    | some z =>
      rw [e3] at h2
      unfold incW at e3
      split at e3
      · rename_i i1 j1
        cases e3
        cases (show v = .int i1 from e2)
        cases (show u = .int j1 from r1)
        exact ⟨i1, j1, rfl, rfl, h2 _ F1 H1 ms (s1.set i rfl) (Ex.refl _) (List.prefix_refl _)⟩
      · cases e3
  · exact h.elim
end
end Ng
namespace Ng
open PySem L2

/-! ### list(range(n)), list(xs), x in xs -/
theorem RpL.of_get {K : PySem.W.Frag} {cl : Str → Option Addr} {F : Hp} : ∀ {ds : List D} {vs : List V}, ds.length = vs.length → (∀ (i : Nat) (d : D) (v : V), ds[i]? = some d → vs[i]? = some v → Rp K cl F d v) → RpL K cl F ds vs
  | [], [], _, _ => rfl
  | [], _ :: _, h, _ => by simp at h
  | _ :: _, [], h, _ => by simp at h
  | d :: ds, v :: vs, h, k => ⟨v, vs, rfl, k 0 d v rfl rfl, RpL.of_get (by simpa using h) fun i a b e1 e2 => k (i + 1) a b (by simpa using e1) (by simpa using e2)⟩
theorem rpl_rg {K : PySem.W.Frag} {cl : Str → Option Addr} {F : Hp} (n : Int) : RpL K cl F (intsD 0 n.toNat) (rgV 0 n) := by
  refine RpL.of_get ?_ fun i d v e1 e2 => ?_
  · rw [ints_len]; unfold rgV; simp
  · have hi : i < n.toNat := by
      have := (List.getElem?_eq_some_iff.mp e1).1
      rw [ints_len] at this; exact this
    rw [ints_get _ _ _ hi] at e1
    unfold rgV at e2
    rw [List.getElem?_map, List.getElem?_range (by simpa using hi)] at e2
    cases e1
    cases e2
    exact rfl
noncomputable def mListRg (me : ME) : ME := fun ρ S => (me ρ S).bind fun w => match w with
  | .da (.int n) => ifc (0 ≤ n ∧ n ≤ 1000000) (.ok (.da (.lst true (intsD 0 n.toNat)))) .stuck
  | _ => .stuck
/-- list(xs) of a list or tuple -/
noncomputable def listW : List W → Sto → Re W
  | [w], S => match seqW S w with
    | some ws => (dats ws).bind fun ds => .ok (.da (.lst true ds))
    | none => .stuck
  | _, _ => .stuck
noncomputable def inB (x y : W) (S : Sto) : Re Bool := (pyW S x).bind fun p => (pyW S y).bind fun q => match q with
  | .list ds => ifc (SeqAt.shaped p = true ∧ SeqAt.shaped (.list ds) = true) (.ok (ds.any fun z => PyData.eqv z p)) .stuck
  | _ => .stuck
noncomputable def inW (x y : W) (S : Sto) : Re W := (inB x y S).bind fun b => .ok (.da (.bl b))
noncomputable def notinW (x y : W) (S : Sto) : Re W := (inB x y S).bind fun b => .ok (.da (.bl (!b)))
section
variable {X : Cx} {cl : Str → Option Addr} {C : Cn} {Wx : WX} {pos : Pos} {a e : Expr} {me : ME}
theorem qe_listRg {p p2 pos2 : Pos} (hc : X.calm = true) (hg : Gl X "list") (hm : X.mg "list" = none) (hg2 : Gl X "range") (hm2 : X.mg "range" = none) (ha : QE X cl C Wx a me)
    (na : starEach [a] X.env = (false, eval a X.env) :: starEach [] X.env := by rfl) (nb : starEach [.Call (.Name "range" p2) [a] [] pos2] X.env = (false, eval (.Call (.Name "range" p2) [a] [] pos2) X.env) :: starEach [] X.env := by rfl) :
    QE X cl C Wx (.Call (.Name "list" p) [.Call (.Name "range" p2) [a] [] pos2] [] pos) (mListRg me) := by
  obtain ⟨t, pe, q⟩ := ha
  refine ⟨_, pe_listRg hc hg hm (prg_1 hg2 hm2 pe na) nb, fun L F H ms σ ρ S s Q h => ?_⟩
  refine q L F H ms σ ρ S s _ (PostG.go h fun w h1 v F1 H1 s1 x1 r1 => ?_)
  have h2 := h1 F1 x1
  split at h2
  · rename_i n
    cases (show v = .int n from r1)
    rcases ifc_cases (P := fun r => PostG X.K cl C L Wx F1 ms σ ρ S r (OkE X.K cl C L F ms σ ρ S Q)) h2 with ⟨hn, h2⟩ | ⟨_, h2⟩
    · refine ⟨n, rfl, ?_, fun p hp => ?_⟩
      · unfold RgOk
        omega
      · have al := Al.new (o := .lst (rgV 0 n)) s1.bs.fz hp
        exact h2 _ _ _ (s1.al al) (x1.trans al.f) ⟨p, _, rfl, upd_same, rpl_rg n⟩
    · exact h2.elim
  · exact h2.elim
theorem cw_list : CallW X cl (.type "list") listW := by
  intro C Wx L F H ms σ ρ S s ws xs rs Q h
  unfold listW at h
  split at h
  · rename_i w
    obtain ⟨v, rfl, r⟩ := rwl1 rs
    split at h
    · rename_i us q
      obtain ⟨p, vs, rfl, t, l⟩ := seqW_ok s r q
      obtain ⟨ds, _, rd, h2⟩ := dats_go l h
      refine ⟨_, call_list_of, ?_⟩
      refine ⟨p, vs, rfl, t, fun q hq => ?_⟩
      have al := Al.new (o := .lst vs) s.bs.fz hq
      exact h2 _ _ _ (s.al al) al.f ⟨q, _, rfl, upd_same, RpL.xt al.f.xt _ _ rd⟩
    · exact h.elim
  · exact h.elim
theorem inB_ok {K : PySem.W.Frag} {L : List Addr} {F H : Hp} {ms : List Addr} {σ : St} {ρ : Rho} {S : Sto} (s : Sim K cl C L F H ms σ ρ S) {wx wy : W} {x y : V} {b : Bool} (rx : RW K cl F ms wx x) (ry : RW K cl F ms wy y) (h : inB wx wy S = .ok b) :
    ∃ d ds, Dp K H x d ∧ Dp K H y (.list ds) ∧ SeqAt.shaped d = true ∧ SeqAt.shaped (.list ds) = true ∧ b = ds.any fun z => PyData.eqv z d := by
  unfold inB at h
  cases e1 : pyW S wx with
  | stuck => rw [e1] at h; cases h
  | ex z => exact absurd e1 pyW_noex
  | ok p =>
    rw [e1] at h
    simp only [Re.bind] at h
    cases e2 : pyW S wy with
    | stuck => rw [e2] at h; cases h
    | ex z => exact absurd e2 pyW_noex
    | ok q =>
      rw [e2] at h
      simp only at h
      split at h
      · rename_i ds
        rcases ifc_cases (P := fun r => r = Re.ok b) h with ⟨hs, h⟩ | ⟨_, h⟩
        · cases h
          exact ⟨p, ds, pyW_ok s rx e1 (SeqAt.canLay_of_shaped hs.1), pyW_ok s ry e2 (SeqAt.canLay_of_shaped hs.2), hs.1, hs.2, rfl⟩
        · cases h
      · cases h
theorem inB_noex {S : Sto} {x y : W} {z : Exn} : inB x y S ≠ .ex z := by
  intro h
  unfold inB at h
  cases e1 : pyW S x with
  | stuck => rw [e1] at h; cases h
  | ex z => exact absurd e1 pyW_noex
  | ok p =>
    rw [e1] at h
    simp only [Re.bind] at h
    cases e2 : pyW S y with
    | stuck => rw [e2] at h; cases h
    | ex z => exact absurd e2 pyW_noex
    | ok q =>
      rw [e2] at h
      simp only at h
      split at h
      · rcases ifc_cases (P := fun r => r = Re.ex z) h with ⟨_, h⟩ | ⟨_, h⟩ <;> cases h
      · cases h
theorem ow_in (hu : Hu X) : OpW X cl (compareOp .In) inW := by
  intro C Wx L F H ms σ ρ S s wx wy x y rx ry Q h
  unfold inW at h
  cases e : inB wx wy S with
  | stuck => rw [e] at h; exact h.elim
  | ex z => exact absurd e inB_noex
  | ok b =>
    rw [e] at h
    obtain ⟨d, ds, h1, h2, h3, h4, rfl⟩ := inB_ok s rx ry e
    have q := okda (Q := Q) (Wx := Wx) (v := .bl (ds.any fun z => PyData.eqv z d)) s h rfl
    refine ⟨_, op_inD (by have : X.A.units + 200 < cLine := hu; omega), ?_⟩
    refine ⟨d, ds, h1, h2, h3, h4, ?_⟩
    exact q
theorem ow_notin (hu : Hu X) : OpW X cl (compareOp .NotIn) notinW := by
  intro C Wx L F H ms σ ρ S s wx wy x y rx ry Q h
  unfold notinW at h
  cases e : inB wx wy S with
  | stuck => rw [e] at h; exact h.elim
  | ex z => exact absurd e inB_noex
  | ok b =>
    rw [e] at h
    obtain ⟨d, ds, h1, h2, h3, h4, rfl⟩ := inB_ok s rx ry e
    have q := okda (Q := Q) (Wx := Wx) (v := .bl (!ds.any fun z => PyData.eqv z d)) s h rfl
    refine ⟨_, op_notInD (by have : X.A.units + 200 < cLine := hu; omega), ?_⟩
    refine ⟨d, ds, h1, h2, h3, h4, ?_⟩
    exact q
end
end Ng
namespace Ng
open PySem L2

/-! ### list comprehensions -/
section
variable {K : PySem.W.Frag} {cl : Str → Option Addr} {C : Cn} {L : List Addr} {F H F' H' : Hp} {ms : List Addr} {σ σ' : St} {ρ ρ' : Rho} {S : Sto}
theorem Sim.rebase (s : Sim K cl C L F H ms σ ρ S) : Sim K cl ⟨H, F, ms⟩ [] F H ms σ ρ S :=
  ⟨s.bs, ⟨Ex.refl _, fun _ _ e _ => .inl e, fun _ e => e, fun _ _ e => .inl e, fun _ h => .inl h, List.prefix_refl _⟩, s.len, s.slot⟩
/-- behind a part that ran by itself -/
theorem Sim.compose (s : Sim K cl C L F H ms σ ρ S) (t : Sim K cl ⟨H, F, ms⟩ [] F' H' ms σ' ρ' S) : Sim K cl C L F' H' ms σ ρ S := by
  have k : ∀ b o, H b = some o → b ∉ ms → H' b = some o := fun b o e n => by
    rcases t.fm.keep b o e n with z | ⟨z, _⟩
    · exact z
    · cases z
  refine ⟨t.bs, ⟨s.fm.hf.trans t.fm.hf, fun b o e n => ?_, fun b e => s.fm.dom b (t.fm.dom b e), fun b o e => ?_, s.fm.newC, s.fm.pre⟩, s.len, fun i w e => ?_⟩
  · have nm : b ∉ ms := fun hm => by
      rcases s.fm.newC b hm with z | z
      · exact n z
      · rw [z] at e; cases e
    exact (s.fm.keep b o e n).imp (fun z => k b o z nm) fun ⟨l, d, u, z⟩ => ⟨l, d, u, k b _ z nm⟩
  · rcases t.fm.newF b o e with z | z | z
    · exact s.fm.newF b o z
    · exact .inr (.inl (s.fm.dom b z))
    · rcases s.fm.newC b z with y | y
      · exact .inr (.inr y)
      · exact .inr (.inl y)
  · obtain ⟨v, h1, h2⟩ := s.slot i w e
    exact ⟨v, h1, h2.grow t.fm.hf (List.prefix_refl _)⟩
/-- a thing of our own that is neither frozen nor a cell -/
theorem Sim.other (s : Sim K cl C L F H ms σ ρ S) {p : Addr} {o : HO} (h1 : F p = none) (h2 : p ∉ ms) (h3 : C.H0 p = none) : Sim K cl C L F (upd H p o) ms σ ρ S := by
  refine ⟨⟨fun b u e => ?_, s.bs.len, s.bs.nd, fun a ha => ?_, fun n c e d => ?_⟩, ⟨s.fm.hf, fun b u e n => ?_, fun b e => ?_, s.fm.newF, s.fm.newC, s.fm.pre⟩, s.len, s.slot⟩
  · have nb : b ≠ p := fun z => by rw [z, h1] at e; cases e
    rw [upd_ne nb]; exact s.bs.fz b u e
  · have na : a ≠ p := fun z => h2 (z ▸ ha)
    rw [upd_ne na]; exact s.bs.has a ha
  · obtain ⟨a, e1, e2, e3⟩ := s.bs.cell n c e d
    have na : a ≠ p := fun z => h2 (z ▸ List.mem_of_getElem? e1)
    exact ⟨a, e1, e2, CellR.grow (Ex.refl _) (List.prefix_refl _) (fun u y => by rw [upd_ne na]; exact y) e3⟩
  · have nb : b ≠ p := fun z => by rw [z, h3] at e; cases e
    rw [upd_ne nb]; exact s.fm.keep b u e n
  · by_cases z : b = p
    · subst z; exact h3
    · rw [upd_ne z] at e; exact s.fm.dom b e
theorem Sim.adopt (s : Sim K cl C L F H ms σ ρ S) {p : Addr} {o : HO} (h1 : F p = none) (h2 : p ∉ ms) (h3 : C.H0 p = none) (h4 : H p = some o) : Sim K cl C L (upd F p o) H ms σ ρ S := by
  have ex : Ex F (upd F p o) := Ex.new h1
  refine ⟨⟨fun b u e => ?_, s.bs.len, s.bs.nd, s.bs.has, fun n c e d => ?_⟩, ⟨s.fm.hf.trans ex, s.fm.keep, s.fm.dom, fun b u e => ?_, s.fm.newC, s.fm.pre⟩, s.len, fun i w e => ?_⟩
  · by_cases z : b = p
    · subst z; rw [upd_same] at e; cases e; exact .inl h4
    · rw [upd_ne z] at e; exact s.bs.fz b u e
  · obtain ⟨a, e1, e2, e3⟩ := s.bs.cell n c e d
    have na : a ≠ p := fun z => h2 (z ▸ List.mem_of_getElem? e1)
    exact ⟨a, e1, by rw [upd_ne na]; exact e2, CellR.grow ex (List.prefix_refl _) (fun u y => y) e3⟩
  · by_cases z : b = p
    · subst z; exact .inr (.inl h3)
    · rw [upd_ne z] at e; exact s.fm.newF b u e
  · obtain ⟨v, e1, e2⟩ := s.slot i w e
    exact ⟨v, e1, e2.grow ex (List.prefix_refl _)⟩
end
def wipeR (ρ : Rho) : List Nat → Rho
  | [] => ρ
  | v :: vs => (wipeR ρ vs).set v none
theorem wipeR_some {ρ : Rho} {i : Nat} {w : W} : ∀ {vs : List Nat}, (wipeR ρ vs)[i]? = some (some w) → ρ[i]? = some (some w) ∧ i ∉ vs
  | [], h => ⟨h, by simp⟩
  | v :: vs, h => by
    unfold wipeR at h
    by_cases e : v = i
    · subst e
      by_cases hl : v < (wipeR ρ vs).length
      · rw [List.getElem?_set_self hl] at h; cases h
      · rw [List.getElem?_eq_none (by rw [List.length_set]; omega)] at h; cases h
    · rw [List.getElem?_set_ne e] at h
      obtain ⟨h1, h2⟩ := wipeR_some h
      exact ⟨h1, by simp; exact ⟨fun z => e z.symm, h2⟩⟩
theorem wipeR_len (ρ : Rho) : ∀ vs : List Nat, (wipeR ρ vs).length = ρ.length
  | [] => rfl
  | v :: vs => by unfold wipeR; rw [List.length_set, wipeR_len ρ vs]
theorem Sim.wipe {K : PySem.W.Frag} {cl : Str → Option Addr} {C : Cn} {L : List Addr} {F H : Hp} {ms : List Addr} {σ : St} {ρ : Rho} {S : Sto} (s : Sim K cl C L F H ms σ ρ S) (vs : List Nat) : Sim K cl C L F H ms (L2.wipe σ vs) (wipeR ρ vs) S :=
  ⟨s.bs, s.fm, by rw [wipe_length, wipeR_len]; exact s.len, fun i w e => by
    obtain ⟨h1, h2⟩ := wipeR_some e
    obtain ⟨v, e1, e2⟩ := s.slot i w h1
    exact ⟨v, by rw [wipe_out h2]; exact e1, e2⟩⟩
/-- readings that ask for no more than the meaning -/
def TEm (K : PySem.W.Frag) (cl : Str → Option Addr) (Wx : WX) (m : ME) : TE := fun σ H Q => ∃ C L F ms ρ S, Sim K cl C L F H ms σ ρ S ∧ PostG K cl C L Wx F ms σ ρ S (m ρ S) (OkE K cl C L F ms σ ρ S Q)
def TTm (K : PySem.W.Frag) (cl : Str → Option Addr) (Wx : WX) (m : MT) : TT := fun σ H Q => ∃ C L F ms ρ S, Sim K cl C L F H ms σ ρ S ∧ PostG K cl C L Wx F ms σ ρ S (m ρ S) (OkT K cl C L F ms σ ρ S Q)
theorem pe_m {X : Cx} {cl : Str → Option Addr} {Wx : WX} {e : Expr} {m : ME} (h : ∀ C, QE X cl C Wx e m) : PE X e (TEm X.K cl Wx m) := ⟨fun pins s σ H Q I ⟨C, L, F, ms, ρ, S, sim, post⟩ => by
  obtain ⟨te, p, q⟩ := h C
  exact p.run pins s σ H Q I (q L F H ms σ ρ S sim Q post)⟩
theorem pt_m {X : Cx} {cl : Str → Option Addr} {Wx : WX} {e : Expr} {m : MT} (h : ∀ C, QT X cl C Wx e m) : PT X e (TTm X.K cl Wx m) := ⟨fun pins s σ H Q I ⟨C, L, F, ms, ρ, S, sim, post⟩ => by
  obtain ⟨te, p, q⟩ := h C
  exact p.run pins s σ H Q I (q L F H ms σ ρ S sim Q post)⟩
/-- a target that stores in the block's own slots alone -/
def SGw (K : PySem.W.Frag) (cl : Str → Option Addr) (vs : List Nat) (tg : TG) (m : MG) : Prop := ∀ C L F H ms σ ρ S, Sim K cl C L F H ms σ ρ S → ∀ w v, RW K cl F ms w v → ∀ Q : St → Hp → Prop,
  (∃ ρ', m w ρ = some ρ' ∧ ∀ σ', Sim K cl C L F H ms σ' ρ' S → L2.wipe σ' vs = L2.wipe σ vs → Q σ' H) → tg v σ H Q
theorem set_wipe {σ : St} {i : Nat} {x : Option V} : ∀ {vs : List Nat}, i ∈ vs → L2.wipe (σ.set i x) vs = L2.wipe σ vs
  | v :: vs, h => by
    show (L2.wipe (σ.set i x) vs).set v none = (L2.wipe σ vs).set v none
    by_cases e : i ∈ vs
    · rw [set_wipe e]
    · have e2 : i = v := by simpa [e] using h
      subst e2
      apply List.ext_getElem?
      intro j
      by_cases hj : i = j
      · subst hj
        by_cases hl : i < σ.length
        · rw [List.getElem?_set_self (by rw [wipe_length, List.length_set]; exact hl), List.getElem?_set_self (by rw [wipe_length]; exact hl)]
        · rw [List.getElem?_eq_none (by rw [List.length_set, wipe_length, List.length_set]; omega), List.getElem?_eq_none (by rw [List.length_set, wipe_length]; omega)]
      · rw [List.getElem?_set_ne hj, List.getElem?_set_ne hj]
        by_cases k : j ∈ vs
        · have f : ∀ (τ : St) (ws : List Nat), j ∈ ws → (L2.wipe τ ws)[j]? = if j < τ.length then some none else none := fun τ ws => by
            induction ws with
            | nil => intro z; cases z
            | cons y ys ih =>
              intro z
              show ((L2.wipe τ ys).set y none)[j]? = _
              by_cases q : y = j
              · subst q
                by_cases hl : y < τ.length
                · rw [List.getElem?_set_self (by rw [wipe_length]; exact hl), if_pos hl]
                · rw [List.getElem?_eq_none (by rw [List.length_set, wipe_length]; omega), if_neg hl]
              · rw [List.getElem?_set_ne q]
                exact ih (by
                  rcases List.mem_cons.mp z with z | z
                  · exact absurd z.symm q
                  · exact z)
          rw [f _ _ k, f _ _ k, List.length_set]
        · rw [wipe_out k, wipe_out k, List.getElem?_set_ne hj]
theorem sgw_name {K : PySem.W.Frag} {cl : Str → Option Addr} {vs : List Nat} {i : Nat} (h : i ∈ vs) : SGw K cl vs (gName i) (gtName i) := fun C L F H ms σ ρ S s w v r Q ⟨ρ', e, k⟩ => by
  cases e
  exact k _ (s.set i r) (set_wipe h)
/-- the items that a comprehension makes -/
noncomputable def lcLoop (g : MG) (mt : MT) (me : ME) (ρw : Rho) (S : Sto) : List D → List D → Re (List D)
  | [], acc => .ok acc
  | d :: ds, acc => match g (.da d) ρw with
    | none => .stuck
    | some ρ2 => match mt ρ2 S with
      | .ok true => match me ρ2 S with
        | .ok (.da y) => ifc (acc.length < sizeLine) (lcLoop g mt me ρw S ds (acc ++ [y])) .stuck
        | _ => .stuck
      | .ok false => lcLoop g mt me ρw S ds acc
      | _ => .stuck
def mYes : MT := fun _ _ => .ok true
noncomputable def mLc (src : W → Option (List D)) (e : ME) (vs : List Nat) (g : MG) (mt : MT) (me : ME) : ME := fun ρ S => (e ρ S).bind fun w => match src w with
  | some ds => (lcLoop g mt me (wipeR ρ vs) S ds []).bind fun ys => .ok (.da (.lst true ys))
  | none => .stuck
noncomputable def mLcR (rg : List W → Option (Int × Nat)) (a : MA) (vs : List Nat) (g : MG) (mt : MT) (me : ME) : ME := fun ρ S => (a ρ S).bind fun ws => match rg ws with
  | some (lo, n) => (lcLoop g mt me (wipeR ρ vs) S (intsD lo n) []).bind fun ys => .ok (.da (.lst true ys))
  | none => .stuck
/-- between two turns: what is made stands at p, the rest gives ys -/
def LcAt (K : PySem.W.Frag) (cl : Str → Option Addr) (C : Cn) (L : List Addr) (F0 : Hp) (ms : List Addr) (σ : St) (ρ : Rho) (S : Sto) (vs : List Nat) (g : MG) (mt : MT) (me : ME) (ys : List D) (p : Addr) (ds : List D) (H : Hp) : Prop :=
  ∃ F acc vacc, Sim K cl C L F H ms σ ρ S ∧ Ex F0 F ∧ F p = none ∧ p ∉ ms ∧ C.H0 p = none ∧ H p = some (.lst vacc) ∧ RpL K cl F acc vacc ∧ lcLoop g mt me (wipeR ρ vs) S ds acc = .ok ys
abbrev W0 : WX := fun _ _ _ _ => False
theorem lc_turn {K : PySem.W.Frag} {cl : Str → Option Addr} {C : Cn} {L : List Addr} {F0 H : Hp} {ms : List Addr} {σ : St} {ρ : Rho} {S : Sto} {vs : List Nat} {g : MG} {mt : MT} {me : ME} {tg : TG} {ys ds : List D} {d : D} {p : Addr} {x : V} (hg : SGw K cl vs tg g)
    (h : LcAt K cl C L F0 ms σ ρ S vs g mt me ys p (d :: ds) H) (rx : ∀ F, Ex F0 F → Rp K cl F d x) :
    tg x (L2.wipe σ vs) H fun σ2 H2 => L2.wipe σ2 vs = L2.wipe σ vs ∧ TTm K cl W0 mt σ2 H2 fun b H3 =>
      if b = true then TEm K cl W0 me σ2 H3 fun y H4 => ∃ acc, H4 p = some (.lst acc) ∧ acc.length < sizeLine ∧ LcAt K cl C L F0 ms σ ρ S vs g mt me ys p ds (upd H4 p (.lst (acc ++ [y]))) else LcAt K cl C L F0 ms σ ρ S vs g mt me ys p ds H3 := by
  obtain ⟨F, acc, vacc, s, ex, fp, pm, c0, hp, ra, el⟩ := h
  unfold lcLoop at el
  cases e1 : g (.da d) (wipeR ρ vs) with
  | none => rw [e1] at el; cases el
  | some ρ2 =>
    rw [e1] at el
    simp only at el
    have ww : L2.wipe (L2.wipe σ vs) vs = L2.wipe σ vs := by
      apply List.ext_getElem?
      intro j
      by_cases k : j ∈ vs
      · have f : ∀ (τ : St) (ws : List Nat), j ∈ ws → (L2.wipe τ ws)[j]? = if j < τ.length then some none else none := fun τ ws => by
          induction ws with
          | nil => intro z; cases z
          | cons y ys ih =>
            intro z
            show ((L2.wipe τ ys).set y none)[j]? = _
            by_cases q : y = j
            · subst q
              by_cases hl : y < τ.length
              · rw [List.getElem?_set_self (by rw [wipe_length]; exact hl), if_pos hl]
              · rw [List.getElem?_eq_none (by rw [List.length_set, wipe_length]; omega), if_neg hl]
            · rw [List.getElem?_set_ne q]
              exact ih (by
                rcases List.mem_cons.mp z with z | z
                · exact absurd z.symm q
                · exact z)
        rw [f _ _ k, f _ _ k, wipe_length]
      · rw [wipe_out k]
    refine hg ⟨H, F, ms⟩ [] F H ms _ _ S (s.wipe vs).rebase (.da d) x (rx F ex) _ ⟨ρ2, e1, fun σ2 s2 hw => ⟨hw.trans ww, ?_⟩⟩
    refine ⟨⟨H, F, ms⟩, [], F, ms, ρ2, S, s2, ?_⟩
    cases e2 : mt ρ2 S with
    | stuck => rw [e2] at el; cases el
    | ex y => rw [e2] at el; cases el
    | ok b =>
      rw [e2] at el
      intro F3 H3 s3 x3
      have s0 := s.compose s3
      have keep3 : H3 p = some (.lst vacc) := by
        rcases s3.fm.keep p _ hp pm with z | ⟨z, _⟩
        · exact z
        · cases z
      have fp3 : F3 p = none := by
        cases z : F3 p with
        | none => rfl
        | some o =>
          rcases s3.fm.newF p o z with y | y | y
          · have y' : F p = some o := y
            rw [fp] at y'; cases y'
          · have y' : H p = none := y
            rw [hp] at y'; cases y'
          · exact absurd y pm
      cases b with
      | false => exact ⟨F3, acc, vacc, s0, ex.trans x3, fp3, pm, c0, keep3, RpL.xt x3.xt _ _ ra, el⟩
      | true =>
        simp only at el
        refine ⟨⟨H, F, ms⟩, [], F3, ms, ρ2, S, s3, ?_⟩
        cases e3 : me ρ2 S with
        | stuck => rw [e3] at el; cases el
        | ex y => rw [e3] at el; cases el
        | ok w =>
          rw [e3] at el
          cases w with
          | lo n => cases el
          | da yd =>
            simp only at el
            intro y F4 H4 s4 x4 ry
            rcases ifc_cases (P := fun r => r = Re.ok ys) el with ⟨hz, el⟩ | ⟨_, el⟩
            · have keep4 : H4 p = some (.lst vacc) := by
                rcases s4.fm.keep p _ hp pm with z | ⟨z, _⟩
                · exact z
                · cases z
              have fp4 : F4 p = none := by
                cases z : F4 p with
                | none => rfl
                | some o =>
                  rcases s4.fm.newF p o z with y | y | y
                  · have y' : F p = some o := y
                    rw [fp] at y'; cases y'
                  · have y' : H p = none := y
                    rw [hp] at y'; cases y'
                  · exact absurd y pm
              have s1 := s.compose s4
              refine ⟨vacc, keep4, by rw [← ra.length]; exact hz, F4, acc ++ [yd], vacc ++ [y], s1.other fp4 pm c0, ex.trans (x3.trans x4), fp4, pm, c0, upd_same, RpL.append (RpL.xt (x3.trans x4).xt _ _ ra) ⟨y, [], rfl, ry, rfl⟩, el⟩
            · cases el
section
variable {X : Cx} {cl : Str → Option Addr} {C : Cn} {Wx : WX} {pos : Pos} {elt tg iter a : Expr} {ifs : List Expr} {scope : Scope} {own : List (Str × Nat)} {mi me : ME} {mr : MA} {mt : MT} {g : MG} {gt : TG}
theorem lc_end {K : PySem.W.Frag} {L : List Addr} {F0 F H : Hp} {ms : List Addr} {σ : St} {ρ : Rho} {S : Sto} {vs : List Nat} {ys : List D} {p : Addr} {Q : VK} (x0 : Ex F0 F)
    (h : LcAt K cl C L F ms σ ρ S vs g mt me ys p [] H) (q : OkE K cl C L F0 ms σ ρ S Q (.da (.lst true ys))) : Q (.ref p) H := by
  obtain ⟨F1, acc, vacc, s, ex, fp, pm, c0, hp, ra, el⟩ := h
  cases el
  have e2 : Ex F1 (upd F1 p (.lst vacc)) := Ex.new fp
  exact q _ _ _ (s.adopt fp pm c0 hp) ((x0.trans ex).trans e2) ⟨p, vacc, rfl, upd_same, RpL.xt e2.xt _ _ ra⟩
theorem lc_begin {K : PySem.W.Frag} {L : List Addr} {F H : Hp} {ms : List Addr} {σ : St} {ρ : Rho} {S : Sto} {vs : List Nat} {ys ds : List D} {p : Addr} (s : Sim K cl C L F H ms σ ρ S) (hp : H p = none) (e : lcLoop g mt me (wipeR ρ vs) S ds [] = .ok ys) :
    LcAt K cl C L F ms σ ρ S vs g mt me ys p ds (upd H p (.lst [])) := by
  have fp := s.bs.fz.none hp
  have pm : p ∉ ms := fun z => s.bs.has p z hp
  have c0 := s.fm.dom p hp
  exact ⟨F, [], [], s.other fp pm c0, Ex.refl _, fp, pm, c0, upd_same, rfl, e⟩
theorem lcLoop_noex {ρw : Rho} {S : Sto} : ∀ (ds acc : List D) (x : Exn), lcLoop g mt me ρw S ds acc ≠ .ex x
  | [], acc, x => by intro h; cases h
  | d :: ds, acc, x => by
    intro h
    unfold lcLoop at h
    split at h
    · cases h
    · split at h
      · split at h
        · rcases ifc_cases (P := fun r => r = Re.ex x) h with ⟨_, h⟩ | ⟨_, h⟩
          · exact lcLoop_noex ds _ x h
          · cases h
        · cases h
      · exact lcLoop_noex ds _ x h
      · cases h
theorem se_lc {K : PySem.W.Frag} {t : TE} {vs0 : List Nat} (q : SE K cl C Wx t mi) (hsg : SGw K cl vs0 gt g) : SE K cl C Wx (tLc (iList K t) gt (TTm K cl W0 mt) (TEm K cl W0 me) vs0) (mLc listOf mi vs0 g mt me) := by
  intro L F H ms σ ρ S s Q h
  refine q L F H ms σ ρ S s _ (PostG.go h fun w h1 v F1 H1 s1 x1 r1 => ?_)
  have h2 := h1 F1 x1
  cases e : listOf w with
  | none => rw [e] at h2; exact h2.elim
  | some ds =>
    rw [e] at h2
    simp only at h2
    unfold listOf at e
    split at e
    · cases e
      obtain ⟨a, vs, rfl, tl, l⟩ := r1
      have hq : ∀ F H, Xt F H → Ex F1 F → SqL K H a vs := fun F H y z => sqL_xt (Xt.of_ex z y) tl.sq
      cases e2 : lcLoop g mt me (wipeR ρ vs0) S ds [] with
      | stuck => rw [e2] at h2; exact h2.elim
      | ex x => exact absurd e2 (lcLoop_noex _ _ _)
      | ok ys =>
        rw [e2] at h2
        refine ⟨a, rfl, ⟨vs, hq F1 H1 s1.bs.fz (Ex.refl _)⟩, fun p hp => ?_⟩
        refine lc_list (K := K) (a := a) (xs := vs) (fun i H => LcAt K cl C L F1 ms σ ρ S vs0 g mt me ys p (ds.drop i) H) (lc_begin s1 hp e2) ?_ ?_ ?_
        · rintro i H' _ ⟨F2, acc, vacc, s2, y2, _⟩
          exact hq F2 H' s2.bs.fz y2
        · intro i x H' ex hl
          have hi : i < vs.length := (List.getElem?_eq_some_iff.mp ex).1
          have hi2 : i < ds.length := by rw [l.length]; exact hi
          have ed : ds[i]? = some ds[i] := List.getElem?_eq_getElem hi2
          rw [drop_cons ed] at hl
          obtain ⟨v', e1, e2⟩ := l.get ed
          rw [ex] at e1; cases e1
          exact lc_turn hsg hl (fun F y => Rp.xt y.xt _ _ e2)
        · intro H' hl
          rw [← l.length, List.drop_length] at hl
          exact lc_end x1 hl h2
    · cases e
theorem qe_lc (hc : X.calm = true) (hN : X.N.Nodup) (hi : QE X cl C Wx iter mi) (ok : BlkOk X.N X.env.scope scope own) (hsg : SGw X.K cl (own.map (·.2)) gt g)
    (hg : ∀ (s : Shared) (H : Hp) (A : Addr) (c2 : List (Str × Addr)) (fp : List Addr), PG (X.blk s H scope (compEnvC scope c2 A X.env) fp) tg gt)
    (ht : ∀ (s : Shared) (H : Hp) (A : Addr) (c2 : List (Str × Addr)) (fp : List Addr), PTs (X.blk s H scope (compEnvC scope c2 A X.env) fp) ifs (TTm X.K cl W0 mt))
    (he : ∀ (s : Shared) (H : Hp) (A : Addr) (c2 : List (Str × Addr)) (fp : List Addr) (C2 : Cn), QE (X.blk s H scope (compEnvC scope c2 A X.env) fp) cl C2 W0 elt me) (hs : ∀ x, foldedSetIterable iter X.env x = pure x := by intro _; rfl) :
    QE X cl C Wx (.ListComp elt [⟨tg, iter, ifs, 0⟩] scope pos) (mLc listOf mi (own.map (·.2)) g mt me) := by
  obtain ⟨t, p, q⟩ := hi
  exact ⟨_, pe_lc (te := TEm X.K cl W0 me) hc hN (pi_list p) ok hg ht (fun s H A c2 fp => pe_m (he s H A c2 fp)) hs, se_lc q hsg⟩
theorem se_lcR1 {K : PySem.W.Frag} {t : TA} {vs0 : List Nat} (q : SA K cl C Wx t mr) (hsg : SGw K cl vs0 gt g) : SE K cl C Wx (tLc (iRng1 t) gt (TTm K cl W0 mt) (TEm K cl W0 me) vs0) (mLcR rng1 mr vs0 g mt me) := by
  intro L F H ms σ ρ S s Q h
  refine q L F H ms σ ρ S s _ (PostG.go h fun ws h1 vs F1 H1 s1 x1 r1 => ?_)
  have h2 := h1 F1 x1
  cases e : rng1 ws with
  | none => rw [e] at h2; exact h2.elim
  | some lk =>
    obtain ⟨lo, k⟩ := lk
    rw [e] at h2
    simp only at h2
    unfold rng1 at e
    split at e
    · rename_i j
      rcases ifc_cases (P := fun r => r = some (lo, k)) e with ⟨hj, e⟩ | ⟨_, e⟩
      · cases e
        obtain ⟨v, rfl, rv⟩ := rwl1 r1
        cases (show v = .int j from rv)
        cases e2 : lcLoop g mt me (wipeR ρ vs0) S (intsD 0 j.toNat) [] with
        | stuck => rw [e2] at h2; exact h2.elim
        | ex x => exact absurd e2 (lcLoop_noex _ _ _)
        | ok ys =>
          rw [e2] at h2
          refine ⟨j, rfl, hj.1, hj.2, fun p hp => ?_⟩
          refine lc_range (lo := 0) (n := j.toNat) (fun i H => LcAt K cl C L F1 ms σ ρ S vs0 g mt me ys p ((intsD 0 j.toNat).drop i) H) (lc_begin s1 hp e2) ?_ ?_
          · intro i H' hi hl
            rw [drop_cons (ints_get _ 0 i hi)] at hl
            exact lc_turn hsg hl (fun F y => rfl)
          · intro H' hl
            rw [show (intsD 0 j.toNat).drop j.toNat = [] by
              have := ints_len j.toNat 0
              rw [List.drop_eq_nil_iff]; omega] at hl
            exact lc_end x1 hl h2
      · cases e
    · cases e
theorem qe_lcR1 {p p' : Pos} (hc : X.calm = true) (hN : X.N.Nodup) (hgl : Gl X "range") (hm : X.mg "range" = none) (ha : QA X cl C Wx [a] mr) (ok : BlkOk X.N X.env.scope scope own) (hsg : SGw X.K cl (own.map (·.2)) gt g)
    (hg : ∀ (s : Shared) (H : Hp) (A : Addr) (c2 : List (Str × Addr)) (fp : List Addr), PG (X.blk s H scope (compEnvC scope c2 A X.env) fp) tg gt)
    (ht : ∀ (s : Shared) (H : Hp) (A : Addr) (c2 : List (Str × Addr)) (fp : List Addr), PTs (X.blk s H scope (compEnvC scope c2 A X.env) fp) ifs (TTm X.K cl W0 mt))
    (he : ∀ (s : Shared) (H : Hp) (A : Addr) (c2 : List (Str × Addr)) (fp : List Addr) (C2 : Cn), QE (X.blk s H scope (compEnvC scope c2 A X.env) fp) cl C2 W0 elt me)
    (hst : starEach [a] X.env = [(false, eval a X.env)] := by rfl) (hs : ∀ x, foldedSetIterable (.Call (.Name "range" p) [a] [] p') X.env x = pure x := by intro _; rfl) :
    QE X cl C Wx (.ListComp elt [⟨tg, .Call (.Name "range" p) [a] [] p', ifs, 0⟩] scope pos) (mLcR rng1 mr (own.map (·.2)) g mt me) := by
  obtain ⟨t, pa, q⟩ := ha
  exact ⟨_, pe_lc (te := TEm X.K cl W0 me) hc hN (pi_range1 hgl hm pa hst) ok hg ht (fun s H A c2 fp => pe_m (he s H A c2 fp)) hs, se_lcR1 q hsg⟩
theorem ss_set {K : PySem.W.Frag} {t : TE} {i : Nat} (q : SE K cl C Wx t me) : SS K cl C Wx (tAsg t (gName i)) (mSet i me) := by
  intro L F H ms σ ρ S s Z h
  refine q L F H ms σ ρ S s _ (PostS.go h fun w h1 v F1 H1 s1 x1 r1 => ?_)
  exact h1 F ms (Ex.refl _) (List.prefix_refl _) _ F1 H1 ms (s1.set i r1) x1 (List.prefix_refl _)
theorem qs_setLc {i : Nat} {y : Str} {py spos : Pos} (hc : X.calm = true) (hN : X.N.Nodup) (hy : X.N[i]? = some y) (hyl : X.env.scope.names.lookup y = some .local)
    (hsw : swapsWith (.ListComp elt [⟨tg, iter, ifs, 0⟩] scope pos) (some (.Name y py)) spos.line X.env = pure true) (hi : QE X cl C Wx iter mi) (ok : BlkOk X.N X.env.scope scope own) (hsg : SGw X.K cl (own.map (·.2)) gt g)
    (hg : ∀ (s : Shared) (H : Hp) (A : Addr) (c2 : List (Str × Addr)) (fp : List Addr), PG (X.blk s H scope (compEnvC scope c2 A X.env) fp) tg gt)
    (ht : ∀ (s : Shared) (H : Hp) (A : Addr) (c2 : List (Str × Addr)) (fp : List Addr), PTs (X.blk s H scope (compEnvC scope c2 A X.env) fp) ifs (TTm X.K cl W0 mt))
    (he : ∀ (s : Shared) (H : Hp) (A : Addr) (c2 : List (Str × Addr)) (fp : List Addr) (C2 : Cn), QE (X.blk s H scope (compEnvC scope c2 A X.env) fp) cl C2 W0 elt me) (hs : ∀ x, foldedSetIterable iter X.env x = pure x := by intro _; rfl) :
    QS X cl C Wx (.Assign [.Name y py] (.ListComp elt [⟨tg, iter, ifs, 0⟩] scope pos) spos) (mSet i (mLc listOf mi (own.map (·.2)) g mt me)) := by
  obtain ⟨t, p, q⟩ := hi
  exact ⟨_, ps_setLc (te := TEm X.K cl W0 me) hc hN hy hyl hsw (pi_list p) ok hg ht (fun s H A c2 fp => pe_m (he s H A c2 fp)) hs, ss_set (se_lc q hsg)⟩
theorem qs_setLcR1 {i : Nat} {y : Str} {py spos p p' : Pos} (hc : X.calm = true) (hN : X.N.Nodup) (hy : X.N[i]? = some y) (hyl : X.env.scope.names.lookup y = some .local)
    (hsw : swapsWith (.ListComp elt [⟨tg, .Call (.Name "range" p) [a] [] p', ifs, 0⟩] scope pos) (some (.Name y py)) spos.line X.env = pure true) (hgl : Gl X "range") (hm : X.mg "range" = none) (ha : QA X cl C Wx [a] mr) (ok : BlkOk X.N X.env.scope scope own) (hsg : SGw X.K cl (own.map (·.2)) gt g)
    (hg : ∀ (s : Shared) (H : Hp) (A : Addr) (c2 : List (Str × Addr)) (fp : List Addr), PG (X.blk s H scope (compEnvC scope c2 A X.env) fp) tg gt)
    (ht : ∀ (s : Shared) (H : Hp) (A : Addr) (c2 : List (Str × Addr)) (fp : List Addr), PTs (X.blk s H scope (compEnvC scope c2 A X.env) fp) ifs (TTm X.K cl W0 mt))
    (he : ∀ (s : Shared) (H : Hp) (A : Addr) (c2 : List (Str × Addr)) (fp : List Addr) (C2 : Cn), QE (X.blk s H scope (compEnvC scope c2 A X.env) fp) cl C2 W0 elt me)
    (hst : starEach [a] X.env = [(false, eval a X.env)] := by rfl) (hs : ∀ x, foldedSetIterable (.Call (.Name "range" p) [a] [] p') X.env x = pure x := by intro _; rfl) :
    QS X cl C Wx (.Assign [.Name y py] (.ListComp elt [⟨tg, .Call (.Name "range" p) [a] [] p', ifs, 0⟩] scope pos) spos) (mSet i (mLcR rng1 mr (own.map (·.2)) g mt me)) := by
  obtain ⟨t, pa, q⟩ := ha
  exact ⟨_, ps_setLc (te := TEm X.K cl W0 me) hc hN hy hyl hsw (pi_range1 hgl hm pa hst) ok hg ht (fun s H A c2 fp => pe_m (he s H A c2 fp)) hs, ss_set (se_lcR1 q hsg)⟩
theorem passW0 {X : Cx} {σ : St} : PassesAt (L2.CX X.prog X.w) X σ (WE W0 σ) := fun _ _ _ _ _ _ h => by
  obtain ⟨_, _, _, _, _, _, _, _, _, _, _, _, z⟩ := h
  exact z.elim
theorem pts_yes {X : Cx} {K : PySem.W.Frag} : PTs X [] (TTm K cl W0 mYes) := ⟨fun pins s σ H Q I ⟨C, L, F, ms, ρ, S, sim, post⟩ => pts_nil.run pins s σ H Q I (post F H sim (Ex.refl _))⟩
end
end Ng
namespace Ng
open PySem L2
def intW : List W → Sto → Re W
  | [.da (.int i)], _ => .ok (.da (.int i))
  | [.da (.bl b)], _ => .ok (.da (.int (if b then 1 else 0)))
  | _, _ => .stuck
theorem RWL.setAt {K : PySem.W.Frag} {cl : Str → Option Addr} {F : Hp} {ms : List Addr} {w : W} {v : V} (r : RW K cl F ms w v) : ∀ {ws : List W} {vs : List V} (j : Nat), RWL K cl F ms ws vs → RWL K cl F ms (ws.set j w) (vs.set j v)
  | _, _, _, .nil => .nil
  | _, _, 0, .cons _ t => .cons r t
  | _, _, j + 1, .cons a t => .cons a (RWL.setAt r j t)
noncomputable def mSetL (i : Nat) (mi me : ME) : MS := fun ρ S => match ρ[i]? with
  | some (some (.lo n)) => match S[n]? with
    | some (.lst ws) => (me ρ S).out ρ S fun w => (mi ρ S).out ρ S fun iw => match iw with
      | .da (.int k) => match ixN ws.length k with
        | some j => .nx ρ (S.set n (.lst (ws.set j w)))
        | none => .stuck
      | _ => .stuck
    | _ => .stuck
  | _ => .stuck
section
variable {X : Cx} {cl : Str → Option Addr} {C : Cn} {Wx : WX} {pos : Pos} {a b c e : Expr} {es : List Expr} {ma mb mc me mi : ME} {mr : MA} {ta tb tc : MT} {st : Stmt} {rest body : List Stmt} {m n : MS}
theorem cw_int : CallW X cl (.type "int") intW := by
  intro C Wx L F H ms σ ρ S s ws xs rs Q h
  unfold intW at h
  split at h
  · obtain ⟨v, rfl, r⟩ := rwl1 rs
    cases r
    exact ⟨_, call_int1, .inl ⟨_, rfl, h _ F H s (Ex.refl _) rfl⟩⟩
  · obtain ⟨v, rfl, r⟩ := rwl1 rs
    cases r
    exact ⟨_, call_int1, .inr ⟨_, rfl, h _ F H s (Ex.refl _) rfl⟩⟩
  · exact h.elim
theorem qs_setL {i : Nat} {x : Str} {p0 p1 : Pos} {ix : Expr} (hN : X.N[i]? = some x) (hv : Vis X.env.scope x) (hi : QE X cl C Wx ix mi) (he : QE X cl C Wx e me) (hd : (x == ("__debug__" : Str)) = false := by decide) (hcd : (x == ("__classdict__" : Str)) = false := by decide)
    (hs : swapsWithSole [.Subscript (.Name x p0) ix p1] e pos.line X.env = pure false := by rfl) (hw : swappedStores [.Subscript (.Name x p0) ix p1] e X.env = pure none := by rfl)
    (h1 : (assignEach [.Subscript (.Name x p0) ix p1] X.env).map (·.2) = [assign (.Subscript (.Name x p0) ix p1) X.env] := by rfl)
    (ha : ∀ v, assign (.Subscript (.Name x p0) ix p1) X.env v = (do
      let ov ← holding [v] (eval (.Name x p0) X.env)
      let iv ← holding [v, ov] (eval ix X.env)
      standAt p1
      holding [v, ov, iv] (setItem ov iv v)
      release [v, ov, iv] []) := by intro _; rfl) :
    QS X cl C Wx (.Assign [.Subscript (.Name x p0) ix p1] e pos) (mSetL i mi me) := by
  obtain ⟨t, p, q⟩ := he
  obtain ⟨t2, p2, q2⟩ := hi
  refine ⟨_, ps_asg p (pg_sub (pe_var hN hv hd hcd) p2 set_list ha) hs hw h1, fun L F H ms σ ρ S s Z h => ?_⟩
  unfold mSetL at h
  split at h
  · rename_i k hk
    split at h
    · rename_i ws hc
      refine q L F H ms σ ρ S s _ (PostS.go h fun w h1 u F1 H1 s1 x1 r1 => ?_)
      have h2 := h1 F1 ms x1 (List.prefix_refl _)
      obtain ⟨v, e1, e2⟩ := s1.slot i _ hk
      obtain ⟨a, ea, rfl⟩ := e2
      refine ⟨.ref a, e1, ?_⟩
      refine q2 L F1 H1 ms σ ρ S s1 _ (PostS.go h2 fun w2 h3 u2 F2 H2 s2 x2 r2 => ?_)
      have h4 := h3 F2 ms x2 (List.prefix_refl _)
      split at h4
      · rename_i kk
        cases (show u2 = .int kk from r2)
        split at h4
        · rename_i j hj
          obtain ⟨a', f1, f2, vs, f3, f4⟩ := s2.bs.cell k _ hc (by intro z; cases z)
          rw [ea] at f1; cases f1
          have s3 := s2.upCell (o := .lst (vs.set j u)) (c' := .lst (ws.set j w)) hc (by intro z; cases z) ea ⟨_, upd_same, RWL.setAt (r1.grow x2 (List.prefix_refl _)) j f4⟩
          refine ⟨a, vs, kk, j, rfl, rfl, f3, by rw [← f4.len]; exact hj, ?_⟩
          exact h4 _ F2 _ ms s3 (Ex.refl _) (List.prefix_refl _)
        · exact h4.elim
      · exact h4.elim
    · exact h.elim
  · exact h.elim
end
end Ng
namespace Ng
open PySem PySem.Spec PyProof.Rows L2
def topS (i : Nat) : Stmt := PySem.Challenge.pw_nightglass_k05_whole_rows_of_motions.main.body.getD i (.Pass ⟨0, 0, 0, 0⟩)
/-! ### turned -/
abbrev s_turned : Stmt := topS 2
theorem sc_turned : FnScope ["turn", "place", "k", "x", "y"] ["turn", "place"] (defScope s_turned) := ⟨rfl, rfl, rfl, by decide +kernel, rfl, by decide +kernel, by decide +kernel⟩
noncomputable def b_turned_0 : MS := (mPar 3 4 (mCons (mUn negW (mVar 4)) (mCons (mVar 3) mNil)))
noncomputable def m_turned : MS := (mSeq (mAsg (gtTup 2 (gtCons (gtName 3) (gtCons (gtName 4) gtNil))) (mVar 1)) (mSeq (mIf (mTst (mOp geW (mVar 0) (mC (.int 4)))) (mSet 3 (mUn negW (mVar 3))) mSkip) (mSeq (mForR rng1 (mCons (mOp modW (mVar 0) (mC (.int 4))) mNil) (gtName 2) b_turned_0) (mRet (mTup (mCons (mVar 3) (mCons (mVar 4) mNil)))))))
noncomputable def p_turned : List D → Re D := runP 5 2 m_turned
/-! ### turn_behind -/
abbrev s_turn_behind : Stmt := topS 3
theorem sc_turn_behind : FnScope ["first", "second", "quarters", "mirrored"] ["first", "second"] (defScope s_turn_behind) := ⟨rfl, rfl, rfl, by decide +kernel, rfl, by decide +kernel, by decide +kernel⟩
noncomputable def m_turn_behind : MS := (mSeq (mSet 2 (mOp modW (mVar 0) (mC (.int 4)))) (mSeq (mIf (mTst (mOp geW (mVar 1) (mC (.int 4)))) (mSet 2 (mUn negW (mVar 2))) mSkip) (mSeq (mSet 3 (mOp modW (mOp addW (mOp divW (mVar 0) (mC (.int 4))) (mOp divW (mVar 1) (mC (.int 4)))) (mC (.int 2)))) (mRet (mOp addW (mOp modW (mOp addW (mVar 2) (mVar 1)) (mC (.int 4))) (mOp mulW (mC (.int 4)) (mVar 3)))))))
noncomputable def p_turn_behind : List D → Re D := runP 4 2 m_turn_behind
/-! ### behind -/
abbrev s_behind : Stmt := topS 4
theorem sc_behind : FnScope ["first", "second", "x", "y"] ["first", "second"] (defScope s_behind) := ⟨rfl, rfl, rfl, by decide +kernel, rfl, by decide +kernel, by decide +kernel⟩
noncomputable def m_behind : MS := (mSeq (mAsg (gtTup 2 (gtCons (gtName 2) (gtCons (gtName 3) gtNil))) (mCallP p_turned (mCons (mOp ixSeq (mVar 1) (mC (.int 0))) (mCons (mTup (mCons (mOp ixSeq (mVar 0) (mC (.int 1))) (mCons (mOp ixSeq (mVar 0) (mC (.int 2))) mNil))) mNil)))) (mRet (mTup (mCons (mCallP p_turn_behind (mCons (mOp ixSeq (mVar 0) (mC (.int 0))) (mCons (mOp ixSeq (mVar 1) (mC (.int 0))) mNil))) (mCons (mOp addW (mVar 2) (mOp ixSeq (mVar 1) (mC (.int 1)))) (mCons (mOp addW (mVar 3) (mOp ixSeq (mVar 1) (mC (.int 2)))) mNil))))))
noncomputable def p_behind : List D → Re D := runP 4 2 m_behind
/-! ### turn_back -/
abbrev s_turn_back : Stmt := topS 5
theorem sc_turn_back : FnScope ["turn"] ["turn"] (defScope s_turn_back) := ⟨rfl, rfl, rfl, by decide +kernel, rfl, by decide +kernel, by decide +kernel⟩
noncomputable def m_turn_back : MS := (mSeq (mIf (mTst (mOp geW (mVar 0) (mC (.int 4)))) (mRet (mVar 0)) mSkip) (mRet (mOp modW (mOp subW (mC (.int 4)) (mVar 0)) (mC (.int 4)))))
noncomputable def p_turn_back : List D → Re D := runP 1 1 m_turn_back
/-! ### back -/
abbrev s_back : Stmt := topS 6
theorem sc_back : FnScope ["motion", "turn", "x", "y"] ["motion"] (defScope s_back) := ⟨rfl, rfl, rfl, by decide +kernel, rfl, by decide +kernel, by decide +kernel⟩
noncomputable def m_back : MS := (mSeq (mSet 1 (mCallP p_turn_back (mCons (mOp ixSeq (mVar 0) (mC (.int 0))) mNil))) (mSeq (mAsg (gtTup 2 (gtCons (gtName 2) (gtCons (gtName 3) gtNil))) (mCallP p_turned (mCons (mVar 1) (mCons (mTup (mCons (mOp ixSeq (mVar 0) (mC (.int 1))) (mCons (mOp ixSeq (mVar 0) (mC (.int 2))) mNil))) mNil)))) (mRet (mTup (mCons (mVar 1) (mCons (mUn negW (mVar 2)) (mCons (mUn negW (mVar 3)) mNil)))))))
noncomputable def p_back : List D → Re D := runP 4 1 m_back
/-! ### _law_draws -/
abbrev s_l_draws : Stmt := topS 8
theorem sc_l_draws : FnScope ["_law_script", "_law_at", "_law_many", "_law_cell", "_law_seed", "_law_row", "_law_mark"] ["_law_script", "_law_at", "_law_many"] (defScope s_l_draws) := ⟨rfl, rfl, rfl, by decide +kernel, rfl, by decide +kernel, by decide +kernel⟩
noncomputable def c_l_draws_0 : MT := (mAnd (mTst (mOp gtW (mVar 3) (mC (.int 0)))) (mTst (mOp ltW (mCall lenW (mCons (mVar 5) mNil)) (mVar 2))))
noncomputable def b_l_draws_1 : MS := (mSeq (mAppend 5 (mOp modW (mVar 3) (mC (.int 1013)))) (mSet 3 (mOp divW (mVar 3) (mC (.int 1013)))))
noncomputable def c_l_draws_2 : MT := (mTst (mOp ltW (mCall lenW (mCons (mVar 5) mNil)) (mVar 2)))
noncomputable def b_l_draws_3 : MS := (mSeq (mSet 6 (mOp addW (mCall lenW (mCons (mVar 5) mNil)) (mC (.int 1)))) (mSeq (mSet 4 (mOp modW (mOp addW (mOp addW (mOp mulW (mVar 4) (mC (.int 48271))) (mOp mulW (mOp mulW (mVar 6) (mVar 6)) (mC (.int 6133)))) (mC (.int 17))) (mC (.int 2147483647)))) (mAppend 5 (mOp modW (mOp modW (mOp mulW (mOp modW (mVar 4) (mC (.int 65521))) (mOp addW (mOp modW (mOp divW (mVar 4) (mC (.int 65521))) (mC (.int 32749))) (mC (.int 1)))) (mC (.int 1000003))) (mC (.int 1013))))))
noncomputable def m_l_draws : MS := (mSeq (mSet 3 (mOp addW (mOp mulW (mC (.int 7)) (mVar 1)) (mC (.int 1)))) (mSeq (mIf (mTst (mOp ltW (mVar 1) (mCall lenW (mCons (mVar 0) mNil)))) (mSet 3 (mOp ixSeq (mVar 0) (mVar 1))) (mIf (mTst (mOp gtW (mCall lenW (mCons (mVar 0) mNil)) (mC (.int 0)))) (mSet 3 (mOp addW (mOp addW (mOp modW (mOp ixSeq (mVar 0) (mOp modW (mVar 1) (mCall lenW (mCons (mVar 0) mNil)))) (mC (.int 999983))) (mOp mulW (mOp mulW (mVar 1) (mVar 1)) (mC (.int 97)))) (mC (.int 1)))) mSkip)) (mSeq (mSet 4 (mOp addW (mOp addW (mOp modW (mVar 3) (mC (.int 999983))) (mOp mulW (mC (.int 31)) (mVar 1))) (mC (.int 5)))) (mSeq (mNewL 5 mNil) (mSeq (mIf (mTst (mOp geW (mVar 3) (mOp powW (mC (.int 10)) (mC (.int 18))))) (mWhile c_l_draws_0 b_l_draws_1) mSkip) (mSeq (mWhile c_l_draws_2 b_l_draws_3) (mRet (mVar 5))))))))
noncomputable def p_l_draws : List D → Re D := runP 7 3 m_l_draws
/-! ### _law_far -/
abbrev s_l_far : Stmt := topS 9
theorem sc_l_far : FnScope ["_law_one", "_law_two"] ["_law_one", "_law_two"] (defScope s_l_far) := ⟨rfl, rfl, rfl, by decide +kernel, rfl, by decide +kernel, by decide +kernel⟩
noncomputable def m_l_far : MS := (mSeq (mIf (mTst (mOp ltW (mOp modW (mVar 0) (mC (.int 5))) (mC (.int 3)))) (mRet (mOp subW (mOp modW (mOp divW (mVar 0) (mC (.int 5))) (mC (.int 13))) (mC (.int 6)))) mSkip) (mSeq (mIf (mTst (mOp eqW (mOp modW (mVar 0) (mC (.int 5))) (mC (.int 3)))) (mRet (mOp subW (mOp addW (mOp mulW (mVar 0) (mC (.int 1013))) (mVar 1)) (mC (.int 513000)))) mSkip) (mRet (mOp addW (mOp mulW (mOp subW (mVar 1) (mC (.int 506))) (mOp powW (mC (.int 10)) (mC (.int 27)))) (mVar 0)))))
noncomputable def p_l_far : List D → Re D := runP 2 2 m_l_far
/-! ### _law_turned -/
abbrev s_l_turned : Stmt := topS 10
theorem sc_l_turned : FnScope ["_law_turn", "_law_x", "_law_y"] ["_law_turn", "_law_x", "_law_y"] (defScope s_l_turned) := ⟨rfl, rfl, rfl, by decide +kernel, rfl, by decide +kernel, by decide +kernel⟩
noncomputable def m_l_turned : MS := (mRet (mOp ixSeq (mLst (mCons (mTup (mCons (mVar 1) (mCons (mVar 2) mNil))) (mCons (mTup (mCons (mUn negW (mVar 2)) (mCons (mVar 1) mNil))) (mCons (mTup (mCons (mUn negW (mVar 1)) (mCons (mUn negW (mVar 2)) mNil))) (mCons (mTup (mCons (mVar 2) (mCons (mUn negW (mVar 1)) mNil))) (mCons (mTup (mCons (mUn negW (mVar 1)) (mCons (mVar 2) mNil))) (mCons (mTup (mCons (mUn negW (mVar 2)) (mCons (mUn negW (mVar 1)) mNil))) (mCons (mTup (mCons (mVar 1) (mCons (mUn negW (mVar 2)) mNil))) (mCons (mTup (mCons (mVar 2) (mCons (mVar 1) mNil))) mNil))))))))) (mVar 0)))
noncomputable def p_l_turned : List D → Re D := runP 3 3 m_l_turned
/-! ### _law_moved -/
abbrev s_l_moved : Stmt := topS 11
theorem sc_l_moved : FnScope ["_law_motion_here", "_law_place", "_law_x", "_law_y"] ["_law_motion_here", "_law_place"] (defScope s_l_moved) := ⟨rfl, rfl, rfl, by decide +kernel, rfl, by decide +kernel, by decide +kernel⟩
noncomputable def m_l_moved : MS := (mSeq (mAsg (gtTup 2 (gtCons (gtName 2) (gtCons (gtName 3) gtNil))) (mCallP p_l_turned (mCons (mOp ixSeq (mVar 0) (mC (.int 0))) (mCons (mOp ixSeq (mVar 1) (mC (.int 0))) (mCons (mOp ixSeq (mVar 1) (mC (.int 1))) mNil))))) (mRet (mTup (mCons (mOp addW (mVar 2) (mOp ixSeq (mVar 0) (mC (.int 1)))) (mCons (mOp addW (mVar 3) (mOp ixSeq (mVar 0) (mC (.int 2)))) mNil)))))
noncomputable def p_l_moved : List D → Re D := runP 4 2 m_l_moved
/-! ### _law_motion -/
abbrev s_l_motion : Stmt := topS 12
theorem sc_l_motion : FnScope ["_law_d", "_law_at"] ["_law_d", "_law_at"] (defScope s_l_motion) := ⟨rfl, rfl, rfl, by decide +kernel, rfl, by decide +kernel, by decide +kernel⟩
noncomputable def m_l_motion : MS := (mRet (mTup (mCons (mOp modW (mOp ixSeq (mVar 0) (mVar 1)) (mC (.int 8))) (mCons (mCallP p_l_far (mCons (mOp ixSeq (mVar 0) (mOp addW (mVar 1) (mC (.int 1)))) (mCons (mOp ixSeq (mVar 0) (mOp addW (mVar 1) (mC (.int 2)))) mNil))) (mCons (mCallP p_l_far (mCons (mOp ixSeq (mVar 0) (mOp addW (mVar 1) (mC (.int 3)))) (mCons (mOp ixSeq (mVar 0) (mOp addW (mVar 1) (mC (.int 4)))) mNil))) mNil)))))
noncomputable def p_l_motion : List D → Re D := runP 2 2 m_l_motion
/-! ### _law_same -/
abbrev s_l_same : Stmt := topS 13
theorem sc_l_same : FnScope ["_law_found", "_law_due", "_law_k"] ["_law_found", "_law_due"] (defScope s_l_same) := ⟨rfl, rfl, rfl, by decide +kernel, rfl, by decide +kernel, by decide +kernel⟩
noncomputable def b_l_same_0 (p : List D → Re D) : MS := (mIf (mNot (mTru (mCallP p (mCons (mOp ixSeq (mVar 0) (mVar 2)) (mCons (mOp ixSeq (mVar 1) (mVar 2)) mNil))))) (mRet (mC (.bl false))) mSkip)
noncomputable def m_l_same (p : List D → Re D) : MS := (mSeq (mIf (mTru (mUn (isiW ["tuple", "list"]) (mVar 1))) (mSeq (mIf (mOr (mTst (mOp neW (mUn (isiW ["tuple"]) (mVar 1)) (mUn (isiW ["tuple"]) (mVar 0)))) (mTst (mOp neW (mUn (isiW ["list"]) (mVar 1)) (mUn (isiW ["list"]) (mVar 0))))) (mRet (mC (.bl false))) mSkip) (mSeq (mIf (mTst (mOp neW (mCall lenW (mCons (mVar 0) mNil)) (mCall lenW (mCons (mVar 1) mNil)))) (mRet (mC (.bl false))) mSkip) (mSeq (mForR rng1 (mCons (mCall lenW (mCons (mVar 1) mNil)) mNil) (gtName 2) (b_l_same_0 p)) (mRet (mC (.bl true)))))) mSkip) (mSeq (mIf (mTst (mOp isNW (mVar 1) (mC .non))) (mRet (mOp isNW (mVar 0) (mC .non))) mSkip) (mSeq (mIf (mOr (mTru (mUn (isiW ["bool"]) (mVar 1))) (mTru (mUn (isiW ["bool"]) (mVar 0)))) (mRet (mAndV (mUn (isiW ["bool"]) (mVar 1)) (mAndV (mUn (isiW ["bool"]) (mVar 0)) (mOp eqW (mVar 0) (mVar 1))))) mSkip) (mSeq (mIf (mTru (mUn (isiW ["int"]) (mVar 1))) (mRet (mAndV (mUn (isiW ["int"]) (mVar 0)) (mOp eqW (mVar 0) (mVar 1)))) mSkip) (mRet (mAndV (mUn (isiW ["str"]) (mVar 0)) (mOp eqW (mVar 0) (mVar 1))))))))
noncomputable def p_l_same : Nat → List D → Re D
  | 0 => fun _ => .stuck
  | n + 1 => runP 3 2 (m_l_same (p_l_same n))
/-! ### _law_is_motion -/
abbrev s_l_is_motion : Stmt := topS 14
theorem sc_l_is_motion : FnScope ["_law_found", "_law_part"] ["_law_found"] (defScope s_l_is_motion) := ⟨rfl, rfl, rfl, by decide +kernel, rfl, by decide +kernel, by decide +kernel⟩
noncomputable def b_l_is_motion_0 : MS := (mIf (mOr (mNot (mTru (mUn (isiW ["int"]) (mVar 1)))) (mTru (mUn (isiW ["bool"]) (mVar 1)))) (mRet (mC (.bl false))) mSkip)
noncomputable def m_l_is_motion : MS := (mSeq (mIf (mOr (mNot (mTru (mUn (isiW ["tuple"]) (mVar 0)))) (mTst (mOp neW (mCall lenW (mCons (mVar 0) mNil)) (mC (.int 3))))) (mRet (mC (.bl false))) mSkip) (mSeq (mFor tupOf (mVar 0) (gtName 1) b_l_is_motion_0) (mRet (mAndV (mOp leW (mC (.int 0)) (mOp ixSeq (mVar 0) (mC (.int 0)))) (mOp leW (mOp ixSeq (mVar 0) (mC (.int 0))) (mC (.int 7)))))))
noncomputable def p_l_is_motion : List D → Re D := runP 2 1 m_l_is_motion
/-! ### law -/
abbrev s_law : Stmt := topS 15
theorem sc_law : FnScope ["_law_script", "_law_row", "_law_d", "_law_start", "_law_cut", "_law_place", "_law_all_of_them", "_law_home", "_law_parts", "_law_k"] ["_law_script"] (defScope s_law) := ⟨rfl, rfl, rfl, by decide +kernel, rfl, by decide +kernel, by decide +kernel⟩
noncomputable def e_law_0 : ME := (mCallP p_l_motion (mCons (mCallP p_l_draws (mCons (mVar 0) (mCons (mVar 9) (mCons (mC (.int 5)) mNil)))) (mCons (mC (.int 0)) mNil)))
noncomputable def b_law_1 : MS := (mSeq (mSet 5 (mCallP p_l_moved (mCons (mOp ixSeq (mVar 1) (mVar 9)) (mCons (mVar 5) mNil)))) (mSeq (mSet 6 (mCallP p_behind (mCons (mVar 6) (mCons (mOp ixSeq (mVar 1) (mVar 9)) mNil)))) (mSeq (mSet 7 (mCallP p_behind (mCons (mCallP p_back (mCons (mOp ixSeq (mVar 1) (mVar 9)) mNil)) (mCons (mVar 7) mNil)))) (mSetL 8 (mCall intW (mCons (mOp geW (mVar 9) (mVar 4)) mNil)) (mCallP p_behind (mCons (mOp ixSeq (mVar 8) (mCall intW (mCons (mOp geW (mVar 9) (mVar 4)) mNil))) (mCons (mOp ixSeq (mVar 1) (mVar 9)) mNil)))))))
noncomputable def m_law : MS := (mSeq (mSet 1 (mLcR rng1 (mCons (mCall lenW (mCons (mVar 0) mNil)) mNil) [9] (gtName 9) mYes e_law_0)) (mSeq (mSet 2 (mCallP p_l_draws (mCons (mVar 0) (mCons (mC (.int 0)) (mCons (mC (.int 12)) mNil))))) (mSeq (mSet 3 (mTup (mCons (mCallP p_l_far (mCons (mOp ixSeq (mVar 2) (mC (.int 8))) (mCons (mOp ixSeq (mVar 2) (mC (.int 9))) mNil))) (mCons (mCallP p_l_far (mCons (mOp ixSeq (mVar 2) (mC (.int 10))) (mCons (mOp ixSeq (mVar 2) (mC (.int 11))) mNil))) mNil)))) (mSeq (mSet 4 (mOp modW (mOp ixSeq (mVar 2) (mC (.int 7))) (mOp addW (mCall lenW (mCons (mVar 1) mNil)) (mC (.int 1))))) (mSeq (mSet 5 (mVar 3)) (mSeq (mSet 6 (mC (.tup false [(.int 0), (.int 0), (.int 0)]))) (mSeq (mSet 7 (mC (.tup false [(.int 0), (.int 0), (.int 0)]))) (mSeq (mNewL 8 (mCons (mC (.tup false [(.int 0), (.int 0), (.int 0)])) (mCons (mC (.tup false [(.int 0), (.int 0), (.int 0)])) mNil))) (mSeq (mForR rng1 (mCons (mCall lenW (mCons (mVar 1) mNil)) mNil) (gtName 9) b_law_1) (mFrz 8 (mSeq (mIf (mOr (mNot (mTru (mCallP p_l_is_motion (mCons (mVar 6) mNil)))) (mTst (mOp neW (mCallP p_l_moved (mCons (mVar 6) (mCons (mVar 3) mNil))) (mVar 5)))) (mRet (mC (.bl false))) mSkip) (mSeq (mIf (mOr (mNot (mTru (mCallP (p_l_same 4) (mCons (mCallP p_behind (mCons (mOp ixSeq (mVar 8) (mC (.int 0))) (mCons (mOp ixSeq (mVar 8) (mC (.int 1))) mNil))) (mCons (mVar 6) mNil))))) (mNot (mTru (mCallP (p_l_same 4) (mCons (mVar 7) (mCons (mCallP p_back (mCons (mVar 6) mNil)) mNil)))))) (mRet (mC (.bl false))) mSkip) (mRet (mAndV (mCallP (p_l_same 4) (mCons (mCallP p_behind (mCons (mVar 6) (mCons (mVar 7) mNil))) (mCons (mTup (mCons (mC (.int 0)) (mCons (mC (.int 0)) (mCons (mC (.int 0)) mNil)))) mNil))) (mOp eqW (mCallP p_l_moved (mCons (mVar 7) (mCons (mVar 5) mNil))) (mVar 3))))))))))))))))
noncomputable def p_law : List D → Re D := runP 10 1 m_law
/-- what the top leaves -/
structure Tx (K : PySem.W.Frag) (mg : Str → Option Value) (cl : Str → Option Addr) (fa : Nat → Addr) (fd : Nat → FuncData) : Prop where
  d2 : DefAt K mg "turned" s_turned ["turn", "place"] (fa 2) (fd 2)
  d3 : DefAt K mg "turn_behind" s_turn_behind ["first", "second"] (fa 3) (fd 3)
  d4 : DefAt K mg "behind" s_behind ["first", "second"] (fa 4) (fd 4)
  d5 : DefAt K mg "turn_back" s_turn_back ["turn"] (fa 5) (fd 5)
  d6 : DefAt K mg "back" s_back ["motion"] (fa 6) (fd 6)
  d8 : DefAt K mg "_law_draws" s_l_draws ["_law_script", "_law_at", "_law_many"] (fa 8) (fd 8)
  d9 : DefAt K mg "_law_far" s_l_far ["_law_one", "_law_two"] (fa 9) (fd 9)
  d10 : DefAt K mg "_law_turned" s_l_turned ["_law_turn", "_law_x", "_law_y"] (fa 10) (fd 10)
  d11 : DefAt K mg "_law_moved" s_l_moved ["_law_motion_here", "_law_place"] (fa 11) (fd 11)
  d12 : DefAt K mg "_law_motion" s_l_motion ["_law_d", "_law_at"] (fa 12) (fd 12)
  d13 : DefAt K mg "_law_same" s_l_same ["_law_found", "_law_due"] (fa 13) (fd 13)
  d14 : DefAt K mg "_law_is_motion" s_l_is_motion ["_law_found"] (fa 14) (fd 14)
  d15 : DefAt K mg "law" s_law ["_law_script"] (fa 15) (fd 15)
  b_bool : mg "bool" = none
  b_int : mg "int" = none
  b_isinstance : mg "isinstance" = none
  b_len : mg "len" = none
  b_list : mg "list" = none
  b_range : mg "range" = none
  b_str : mg "str" = none
  b_tuple : mg "tuple" = none
  g_STILL : GlobAt K mg cl "STILL" (.tup false [(.int 0), (.int 0), (.int 0)])
section
variable {P : Program} {w : World} {K : PySem.W.Frag} {mg : Str → Option Value} {base : Heap} {cl : Str → Option Addr} {fa : Nat → Addr} {fd : Nat → FuncData}
theorem ok_turned (T : Tx K mg cl fa fd) : FnOk P w K mg base (L2.CX P w) 1 (fa 2) (fd 2) ["turn", "place"] (SpP K cl p_turned) := by
  have sc := sc_turned
  exact fnP T.d2.fn sc_turned fun cdv A outer s H E hr C =>
  (qb_cons (qs_asg (qe_var 1) (qg_tup rfl (qgs_cons (qg_name (i := 3) sc.nd rfl (by first | exact .inl rfl | exact .inr rfl)) (qgs_cons (qg_name (i := 4) sc.nd rfl (by first | exact .inl rfl | exact .inr rfl)) qgs_nil)))) (qb_cons (qs_if (qt_cmp ow_ge (qe_var 0) qe_int (nomark _)) (qb_one (qs_set (i := 3) sc.nd rfl (by first | exact .inl rfl | exact .inr rfl) (qe_un uw_neg (qe_var 3)))) qb_nil) (qb_cons (qs_range1 (passes_of rfl) rfl (by rfl) T.b_range (qa_cons (qe_bin ow_mod (qe_var 0) qe_int) qa_nil) (qg_name (i := 2) sc.nd rfl (by first | exact .inl rfl | exact .inr rfl)) (qb_one (qs_par (i := 3) (j := 4) rfl sc.nd rfl rfl (by decide) rfl rfl (qa_cons (qe_un uw_neg (qe_var 4)) (qa_cons (qe_var 3) qa_nil)) (by rfl)))) (qb_one (qs_ret (qe_tup (qa_cons (qe_var 3) (qa_cons (qe_var 4) qa_nil))))))))
theorem ok_turn_behind (T : Tx K mg cl fa fd) : FnOk P w K mg base (L2.CX P w) 1 (fa 3) (fd 3) ["first", "second"] (SpP K cl p_turn_behind) := by
  have sc := sc_turn_behind
  exact fnP T.d3.fn sc_turn_behind fun cdv A outer s H E hr C =>
  (qb_cons (qs_set (i := 2) sc.nd rfl (by first | exact .inl rfl | exact .inr rfl) (qe_bin ow_mod (qe_var 0) qe_int)) (qb_cons (qs_if (qt_cmp ow_ge (qe_var 1) qe_int (nomark _)) (qb_one (qs_set (i := 2) sc.nd rfl (by first | exact .inl rfl | exact .inr rfl) (qe_un uw_neg (qe_var 2)))) qb_nil) (qb_cons (qs_set (i := 3) sc.nd rfl (by first | exact .inl rfl | exact .inr rfl) (qe_bin ow_mod (qe_bin ow_add (qe_bin ow_div (qe_var 0) qe_int) (qe_bin ow_div (qe_var 1) qe_int)) qe_int)) (qb_one (qs_ret (qe_bin ow_add (qe_bin ow_mod (qe_bin ow_add (qe_var 2) (qe_var 1)) qe_int) (qe_bin ow_mul qe_int (qe_var 3))))))))
theorem ok_behind (T : Tx K mg cl fa fd) : FnOk P w K mg base (L2.CX P w) 2 (fa 4) (fd 4) ["first", "second"] (SpP K cl p_behind) := by
  have sc := sc_behind
  exact fnP T.d4.fn sc_behind fun cdv A outer s H E hr C =>
  (qb_cons (qs_asg (qe_call (ok_turned T) (hr.mono (by decide)) (by rfl) T.d2.mgd T.d2.fn.kp T.d2.bd (fun σ => passAt (takes_of rfl rfl rfl rfl) σ) (qa_cons (qe_ix xw_seq (qe_var 1) qe_int (fun _ _ => rfl)) (qa_cons (qe_tup (qa_cons (qe_ix xw_seq (qe_var 0) qe_int (fun _ _ => rfl)) (qa_cons (qe_ix xw_seq (qe_var 0) qe_int (fun _ _ => rfl)) qa_nil))) qa_nil))) (qg_tup rfl (qgs_cons (qg_name (i := 2) sc.nd rfl (by first | exact .inl rfl | exact .inr rfl)) (qgs_cons (qg_name (i := 3) sc.nd rfl (by first | exact .inl rfl | exact .inr rfl)) qgs_nil)))) (qb_one (qs_ret (qe_tup (qa_cons (qe_call (ok_turn_behind T) (hr.mono (by decide)) (by rfl) T.d3.mgd T.d3.fn.kp T.d3.bd (fun σ => passAt (takes_of rfl rfl rfl rfl) σ) (qa_cons (qe_ix xw_seq (qe_var 0) qe_int (fun _ _ => rfl)) (qa_cons (qe_ix xw_seq (qe_var 1) qe_int (fun _ _ => rfl)) qa_nil))) (qa_cons (qe_bin ow_add (qe_var 2) (qe_ix xw_seq (qe_var 1) qe_int (fun _ _ => rfl))) (qa_cons (qe_bin ow_add (qe_var 3) (qe_ix xw_seq (qe_var 1) qe_int (fun _ _ => rfl))) qa_nil)))))))
theorem ok_turn_back (T : Tx K mg cl fa fd) : FnOk P w K mg base (L2.CX P w) 1 (fa 5) (fd 5) ["turn"] (SpP K cl p_turn_back) := by
  have sc := sc_turn_back
  exact fnP T.d5.fn sc_turn_back fun cdv A outer s H E hr C =>
  (qb_cons (qs_if (qt_cmp ow_ge (qe_var 0) qe_int (nomark _)) (qb_one (qs_ret (qe_var 0))) qb_nil) (qb_one (qs_ret (qe_bin ow_mod (qe_bin ow_sub qe_int (qe_var 0)) qe_int))))
theorem ok_back (T : Tx K mg cl fa fd) : FnOk P w K mg base (L2.CX P w) 2 (fa 6) (fd 6) ["motion"] (SpP K cl p_back) := by
  have sc := sc_back
  exact fnP T.d6.fn sc_back fun cdv A outer s H E hr C =>
  (qb_cons (qs_set (i := 1) sc.nd rfl (by first | exact .inl rfl | exact .inr rfl) (qe_call (ok_turn_back T) (hr.mono (by decide)) (by rfl) T.d5.mgd T.d5.fn.kp T.d5.bd (fun σ => passAt (takes_of rfl rfl rfl rfl) σ) (qa_cons (qe_ix xw_seq (qe_var 0) qe_int (fun _ _ => rfl)) qa_nil))) (qb_cons (qs_asg (qe_call (ok_turned T) (hr.mono (by decide)) (by rfl) T.d2.mgd T.d2.fn.kp T.d2.bd (fun σ => passAt (takes_of rfl rfl rfl rfl) σ) (qa_cons (qe_var 1) (qa_cons (qe_tup (qa_cons (qe_ix xw_seq (qe_var 0) qe_int (fun _ _ => rfl)) (qa_cons (qe_ix xw_seq (qe_var 0) qe_int (fun _ _ => rfl)) qa_nil))) qa_nil))) (qg_tup rfl (qgs_cons (qg_name (i := 2) sc.nd rfl (by first | exact .inl rfl | exact .inr rfl)) (qgs_cons (qg_name (i := 3) sc.nd rfl (by first | exact .inl rfl | exact .inr rfl)) qgs_nil)))) (qb_one (qs_ret (qe_tup (qa_cons (qe_var 1) (qa_cons (qe_un uw_neg (qe_var 2)) (qa_cons (qe_un uw_neg (qe_var 3)) qa_nil))))))))
theorem ok_l_draws (T : Tx K mg cl fa fd) : FnOk P w K mg base (L2.CX P w) 1 (fa 8) (fd 8) ["_law_script", "_law_at", "_law_many"] (SpP K cl p_l_draws) := by
  have sc := sc_l_draws
  exact fnP T.d8.fn sc_l_draws fun cdv A outer s H E hr C =>
  (qb_cons (qs_set (i := 3) sc.nd rfl (by first | exact .inl rfl | exact .inr rfl) (qe_bin ow_add (qe_bin ow_mul qe_int (qe_var 1)) qe_int)) (qb_cons (qs_if (qt_cmp ow_lt (qe_var 1) (qe_callB cw_len (by rfl) T.b_len (by decide +kernel) (qa_cons (qe_var 0) qa_nil)) (nomark _)) (qb_one (qs_set (i := 3) sc.nd rfl (by first | exact .inl rfl | exact .inr rfl) (qe_ix xw_seq (qe_var 0) (qe_var 1) (fun _ _ => rfl)))) (qb_one (qs_if (qt_cmp ow_gt (qe_callB cw_len (by rfl) T.b_len (by decide +kernel) (qa_cons (qe_var 0) qa_nil)) qe_int (nomark _)) (qb_one (qs_set (i := 3) sc.nd rfl (by first | exact .inl rfl | exact .inr rfl) (qe_bin ow_add (qe_bin ow_add (qe_bin ow_mod (qe_ix xw_seq (qe_var 0) (qe_bin ow_mod (qe_var 1) (qe_callB cw_len (by rfl) T.b_len (by decide +kernel) (qa_cons (qe_var 0) qa_nil))) (fun _ _ => rfl)) qe_int) (qe_bin ow_mul (qe_bin ow_mul (qe_var 1) (qe_var 1)) qe_int)) qe_int))) qb_nil))) (qb_cons (qs_set (i := 4) sc.nd rfl (by first | exact .inl rfl | exact .inr rfl) (qe_bin ow_add (qe_bin ow_add (qe_bin ow_mod (qe_var 3) qe_int) (qe_bin ow_mul qe_int (qe_var 1))) qe_int)) (qb_cons (qs_newL (i := 5) sc.nd rfl (by first | exact .inl rfl | exact .inr rfl) qa_nil) (qb_cons (qs_if (qt_cmp ow_ge (qe_var 3) (qe_bin ow_pow qe_int qe_int) (nomark _)) (qb_one (qs_while (passes_of rfl) (QW.qt (qw_and (qt_cmp ow_gt (qe_var 3) qe_int (nomark _)) (qw_and1 (qt_cmp ow_lt (qe_callB cw_len (by rfl) T.b_len (by decide +kernel) (qa_cons (qe_var 5) qa_nil)) (qe_var 2) (nomark _))))) (qb_cons (qs_append (i := 5) rfl (by first | exact .inl rfl | exact .inr (.inl rfl) | exact .inr (.inr rfl)) (qe_bin ow_mod (qe_var 3) qe_int)) (qb_one (qs_set (i := 3) sc.nd rfl (by first | exact .inl rfl | exact .inr rfl) (qe_bin ow_div (qe_var 3) qe_int)))))) qb_nil) (qb_cons (qs_while (passes_of rfl) (qt_cmp ow_lt (qe_callB cw_len (by rfl) T.b_len (by decide +kernel) (qa_cons (qe_var 5) qa_nil)) (qe_var 2) (nomark _)) (qb_cons (qs_set (i := 6) sc.nd rfl (by first | exact .inl rfl | exact .inr rfl) (qe_bin ow_add (qe_callB cw_len (by rfl) T.b_len (by decide +kernel) (qa_cons (qe_var 5) qa_nil)) qe_int)) (qb_cons (qs_set (i := 4) sc.nd rfl (by first | exact .inl rfl | exact .inr rfl) (qe_bin ow_mod (qe_bin ow_add (qe_bin ow_add (qe_bin ow_mul (qe_var 4) qe_int) (qe_bin ow_mul (qe_bin ow_mul (qe_var 6) (qe_var 6)) qe_int)) qe_int) qe_int)) (qb_one (qs_append (i := 5) rfl (by first | exact .inl rfl | exact .inr (.inl rfl) | exact .inr (.inr rfl)) (qe_bin ow_mod (qe_bin ow_mod (qe_bin ow_mul (qe_bin ow_mod (qe_var 4) qe_int) (qe_bin ow_add (qe_bin ow_mod (qe_bin ow_div (qe_var 4) qe_int) qe_int) qe_int)) qe_int) qe_int)))))) (qb_one (qs_ret (qe_var 5)))))))))
theorem ok_l_far (T : Tx K mg cl fa fd) : FnOk P w K mg base (L2.CX P w) 1 (fa 9) (fd 9) ["_law_one", "_law_two"] (SpP K cl p_l_far) := by
  have sc := sc_l_far
  exact fnP T.d9.fn sc_l_far fun cdv A outer s H E hr C =>
  (qb_cons (qs_if (qt_cmp ow_lt (qe_bin ow_mod (qe_var 0) qe_int) qe_int (nomark _)) (qb_one (qs_ret (qe_bin ow_sub (qe_bin ow_mod (qe_bin ow_div (qe_var 0) qe_int) qe_int) qe_int))) qb_nil) (qb_cons (qs_if (qt_cmp (ow_eq (hu_ng hr)) (qe_bin ow_mod (qe_var 0) qe_int) qe_int (nomark _)) (qb_one (qs_ret (qe_bin ow_sub (qe_bin ow_add (qe_bin ow_mul (qe_var 0) qe_int) (qe_var 1)) qe_int))) qb_nil) (qb_one (qs_ret (qe_bin ow_add (qe_bin ow_mul (qe_bin ow_sub (qe_var 1) qe_int) (qe_bin ow_pow qe_int qe_int)) (qe_var 0))))))
theorem ok_l_turned (T : Tx K mg cl fa fd) : FnOk P w K mg base (L2.CX P w) 1 (fa 10) (fd 10) ["_law_turn", "_law_x", "_law_y"] (SpP K cl p_l_turned) := by
  have sc := sc_l_turned
  exact fnP T.d10.fn sc_l_turned fun cdv A outer s H E hr C =>
  (qb_one (qs_ret (qe_ix xw_seq (qe_lst (qa_cons (qe_tup (qa_cons (qe_var 1) (qa_cons (qe_var 2) qa_nil))) (qa_cons (qe_tup (qa_cons (qe_un uw_neg (qe_var 2)) (qa_cons (qe_var 1) qa_nil))) (qa_cons (qe_tup (qa_cons (qe_un uw_neg (qe_var 1)) (qa_cons (qe_un uw_neg (qe_var 2)) qa_nil))) (qa_cons (qe_tup (qa_cons (qe_var 2) (qa_cons (qe_un uw_neg (qe_var 1)) qa_nil))) (qa_cons (qe_tup (qa_cons (qe_un uw_neg (qe_var 1)) (qa_cons (qe_var 2) qa_nil))) (qa_cons (qe_tup (qa_cons (qe_un uw_neg (qe_var 2)) (qa_cons (qe_un uw_neg (qe_var 1)) qa_nil))) (qa_cons (qe_tup (qa_cons (qe_var 1) (qa_cons (qe_un uw_neg (qe_var 2)) qa_nil))) (qa_cons (qe_tup (qa_cons (qe_var 2) (qa_cons (qe_var 1) qa_nil))) qa_nil))))))))) (qe_var 0) (fun _ _ => rfl))))
theorem ok_l_moved (T : Tx K mg cl fa fd) : FnOk P w K mg base (L2.CX P w) 2 (fa 11) (fd 11) ["_law_motion_here", "_law_place"] (SpP K cl p_l_moved) := by
  have sc := sc_l_moved
  exact fnP T.d11.fn sc_l_moved fun cdv A outer s H E hr C =>
  (qb_cons (qs_asg (qe_call (ok_l_turned T) (hr.mono (by decide)) (by rfl) T.d10.mgd T.d10.fn.kp T.d10.bd (fun σ => passAt (takes_of rfl rfl rfl rfl) σ) (qa_cons (qe_ix xw_seq (qe_var 0) qe_int (fun _ _ => rfl)) (qa_cons (qe_ix xw_seq (qe_var 1) qe_int (fun _ _ => rfl)) (qa_cons (qe_ix xw_seq (qe_var 1) qe_int (fun _ _ => rfl)) qa_nil)))) (qg_tup rfl (qgs_cons (qg_name (i := 2) sc.nd rfl (by first | exact .inl rfl | exact .inr rfl)) (qgs_cons (qg_name (i := 3) sc.nd rfl (by first | exact .inl rfl | exact .inr rfl)) qgs_nil)))) (qb_one (qs_ret (qe_tup (qa_cons (qe_bin ow_add (qe_var 2) (qe_ix xw_seq (qe_var 0) qe_int (fun _ _ => rfl))) (qa_cons (qe_bin ow_add (qe_var 3) (qe_ix xw_seq (qe_var 0) qe_int (fun _ _ => rfl))) qa_nil))))))
theorem ok_l_motion (T : Tx K mg cl fa fd) : FnOk P w K mg base (L2.CX P w) 2 (fa 12) (fd 12) ["_law_d", "_law_at"] (SpP K cl p_l_motion) := by
  have sc := sc_l_motion
  exact fnP T.d12.fn sc_l_motion fun cdv A outer s H E hr C =>
  (qb_one (qs_ret (qe_tup (qa_cons (qe_bin ow_mod (qe_ix xw_seq (qe_var 0) (qe_var 1) (fun _ _ => rfl)) qe_int) (qa_cons (qe_call (ok_l_far T) (hr.mono (by decide)) (by rfl) T.d9.mgd T.d9.fn.kp T.d9.bd (fun σ => passAt (takes_of rfl rfl rfl rfl) σ) (qa_cons (qe_ix xw_seq (qe_var 0) (qe_bin ow_add (qe_var 1) qe_int) (fun _ _ => rfl)) (qa_cons (qe_ix xw_seq (qe_var 0) (qe_bin ow_add (qe_var 1) qe_int) (fun _ _ => rfl)) qa_nil))) (qa_cons (qe_call (ok_l_far T) (hr.mono (by decide)) (by rfl) T.d9.mgd T.d9.fn.kp T.d9.bd (fun σ => passAt (takes_of rfl rfl rfl rfl) σ) (qa_cons (qe_ix xw_seq (qe_var 0) (qe_bin ow_add (qe_var 1) qe_int) (fun _ _ => rfl)) (qa_cons (qe_ix xw_seq (qe_var 0) (qe_bin ow_add (qe_var 1) qe_int) (fun _ _ => rfl)) qa_nil))) qa_nil))))))
theorem okr_l_same (T : Tx K mg cl fa fd) : ∀ n, FnOk P w K mg base (L2.CX P w) (n + 0) (fa 13) (fd 13) ["_law_found", "_law_due"] (SpP K cl (p_l_same n))
  | 0 => fn_stuck
  | n + 1 => by
    have G := okr_l_same T n
    have sc := sc_l_same
    show FnOk P w K mg base (L2.CX P w) (n + 0 + 1) (fa 13) (fd 13) ["_law_found", "_law_due"] (SpP K cl (runP 3 2 (m_l_same (p_l_same n))))
    exact fnP T.d13.fn sc_l_same fun cdv A outer s H E hr C =>
    (qb_cons (qs_if (qt_truth (qe_isi2 (by rfl) T.b_isinstance (by rfl) T.b_tuple (by decide +kernel) (by rfl) T.b_list (by decide +kernel) (qe_var 1))) (qb_cons (qs_if (QW.qt (qw_or (qt_cmp (ow_ne (hu_ng hr)) (qe_isi (by rfl) T.b_isinstance (by rfl) T.b_tuple (by decide +kernel) (qe_var 1)) (qe_isi (by rfl) T.b_isinstance (by rfl) T.b_tuple (by decide +kernel) (qe_var 0)) (nomark _)) (qw_or1 (qt_cmp (ow_ne (hu_ng hr)) (qe_isi (by rfl) T.b_isinstance (by rfl) T.b_list (by decide +kernel) (qe_var 1)) (qe_isi (by rfl) T.b_isinstance (by rfl) T.b_list (by decide +kernel) (qe_var 0)) (nomark _))))) (qb_one (qs_ret qe_bl)) qb_nil) (qb_cons (qs_if (qt_cmp (ow_ne (hu_ng hr)) (qe_callB cw_len (by rfl) T.b_len (by decide +kernel) (qa_cons (qe_var 0) qa_nil)) (qe_callB cw_len (by rfl) T.b_len (by decide +kernel) (qa_cons (qe_var 1) qa_nil)) (nomark _)) (qb_one (qs_ret qe_bl)) qb_nil) (qb_cons (qs_range1 (passes_of rfl) rfl (by rfl) T.b_range (qa_cons (qe_callB cw_len (by rfl) T.b_len (by decide +kernel) (qa_cons (qe_var 1) qa_nil)) qa_nil) (qg_name (i := 2) sc.nd rfl (by first | exact .inl rfl | exact .inr rfl)) (qb_one (qs_if (qt_not (qt_truth (qe_call G hr (by rfl) T.d13.mgd T.d13.fn.kp T.d13.bd (fun σ => passAt (takes_of rfl rfl rfl rfl) σ) (qa_cons (qe_ix xw_seq (qe_var 0) (qe_var 2) (fun _ _ => rfl)) (qa_cons (qe_ix xw_seq (qe_var 1) (qe_var 2) (fun _ _ => rfl)) qa_nil))))) (qb_one (qs_ret qe_bl)) qb_nil))) (qb_one (qs_ret qe_bl))))) qb_nil) (qb_cons (qs_if (qt_cmp ow_is (qe_var 1) qe_non (nomark _)) (qb_one (qs_ret (qe_cmp ow_is (qe_var 0) qe_non (nomark _)))) qb_nil) (qb_cons (qs_if (QW.qt (qw_or (qt_truth (qe_isi (by rfl) T.b_isinstance (by rfl) T.b_bool (by decide +kernel) (qe_var 1))) (qw_or1 (qt_truth (qe_isi (by rfl) T.b_isinstance (by rfl) T.b_bool (by decide +kernel) (qe_var 0)))))) (qb_one (qs_ret (qe_and (qe_isi (by rfl) T.b_isinstance (by rfl) T.b_bool (by decide +kernel) (qe_var 1)) (qe_and (qe_isi (by rfl) T.b_isinstance (by rfl) T.b_bool (by decide +kernel) (qe_var 0)) (qe_one (qe_cmp (ow_eq (hu_ng hr)) (qe_var 0) (qe_var 1) (nomark _))))))) qb_nil) (qb_cons (qs_if (qt_truth (qe_isi (by rfl) T.b_isinstance (by rfl) T.b_int (by decide +kernel) (qe_var 1))) (qb_one (qs_ret (qe_and (qe_isi (by rfl) T.b_isinstance (by rfl) T.b_int (by decide +kernel) (qe_var 0)) (qe_one (qe_cmp (ow_eq (hu_ng hr)) (qe_var 0) (qe_var 1) (nomark _)))))) qb_nil) (qb_one (qs_ret (qe_and (qe_isi (by rfl) T.b_isinstance (by rfl) T.b_str (by decide +kernel) (qe_var 0)) (qe_one (qe_cmp (ow_eq (hu_ng hr)) (qe_var 0) (qe_var 1) (nomark _))))))))))
theorem ok_l_same (T : Tx K mg cl fa fd) : FnOk P w K mg base (L2.CX P w) 4 (fa 13) (fd 13) ["_law_found", "_law_due"] (SpP K cl (p_l_same 4)) := okr_l_same T 4
theorem ok_l_is_motion (T : Tx K mg cl fa fd) : FnOk P w K mg base (L2.CX P w) 1 (fa 14) (fd 14) ["_law_found"] (SpP K cl p_l_is_motion) := by
  have sc := sc_l_is_motion
  exact fnP T.d14.fn sc_l_is_motion fun cdv A outer s H E hr C =>
  (qb_cons (qs_if (QW.qt (qw_or (qt_not (qt_truth (qe_isi (by rfl) T.b_isinstance (by rfl) T.b_tuple (by decide +kernel) (qe_var 0)))) (qw_or1 (qt_cmp (ow_ne (hu_ng hr)) (qe_callB cw_len (by rfl) T.b_len (by decide +kernel) (qa_cons (qe_var 0) qa_nil)) qe_int (nomark _))))) (qb_one (qs_ret qe_bl)) qb_nil) (qb_cons (qs_forT (passes_of rfl) rfl (qe_var 0) (qg_name (i := 1) sc.nd rfl (by first | exact .inl rfl | exact .inr rfl)) (qb_one (qs_if (QW.qt (qw_or (qt_not (qt_truth (qe_isi (by rfl) T.b_isinstance (by rfl) T.b_int (by decide +kernel) (qe_var 1)))) (qw_or1 (qt_truth (qe_isi (by rfl) T.b_isinstance (by rfl) T.b_bool (by decide +kernel) (qe_var 1)))))) (qb_one (qs_ret qe_bl)) qb_nil))) (qb_one (qs_ret (qe_and (qe_cmp ow_le qe_int (qe_ix xw_seq (qe_var 0) qe_int (fun _ _ => rfl)) (nomark _)) (qe_one (qe_cmp ow_le (qe_ix xw_seq (qe_var 0) qe_int (fun _ _ => rfl)) qe_int (nomark _))))))))
theorem ok_law (T : Tx K mg cl fa fd) : FnOk P w K mg base (L2.CX P w) 5 (fa 15) (fd 15) ["_law_script"] (SpP K cl p_law) := by
  have sc := sc_law
  exact fnP T.d15.fn sc_law fun cdv A outer s H E hr C =>
  (qb_cons (qs_setLcR1 (i := 1) (own := [("_law_k", 9)]) rfl sc.nd rfl rfl (sw_true rfl rfl rfl (by decide +kernel)) (by rfl) T.b_range (qa_cons (qe_callB cw_len (by rfl) T.b_len (by decide +kernel) (qa_cons (qe_var 0) qa_nil)) qa_nil) (blkOk_by (own := [("_law_k", 9)]) (N := ["_law_script", "_law_row", "_law_d", "_law_start", "_law_cut", "_law_place", "_law_all_of_them", "_law_home", "_law_parts", "_law_k"]) (sc := defScope s_law) (by decide +kernel)) (sgw_name (i := 9) (by decide)) (fun _ _ _ _ _ => pg_name (i := 9) sc.nd rfl (Or.inl rfl)) (fun _ _ _ _ _ => pts_yes) (fun _ _ _ _ _ _ => (qe_call (ok_l_motion T) (hr.mono (by decide)) (by rfl) T.d12.mgd T.d12.fn.kp T.d12.bd (fun σ => passW0) (qa_cons (qe_call (ok_l_draws T) (hr.mono (by decide)) (by rfl) T.d8.mgd T.d8.fn.kp T.d8.bd (fun σ => passW0) (qa_cons (qe_var 0) (qa_cons (qe_var 9) (qa_cons qe_int qa_nil)))) (qa_cons qe_int qa_nil))))) (qb_cons (qs_set (i := 2) sc.nd rfl (by first | exact .inl rfl | exact .inr rfl) (qe_call (ok_l_draws T) (hr.mono (by decide)) (by rfl) T.d8.mgd T.d8.fn.kp T.d8.bd (fun σ => passAt (takes_of rfl rfl rfl rfl) σ) (qa_cons (qe_var 0) (qa_cons qe_int (qa_cons qe_int qa_nil))))) (qb_cons (qs_set (i := 3) sc.nd rfl (by first | exact .inl rfl | exact .inr rfl) (qe_tup (qa_cons (qe_call (ok_l_far T) (hr.mono (by decide)) (by rfl) T.d9.mgd T.d9.fn.kp T.d9.bd (fun σ => passAt (takes_of rfl rfl rfl rfl) σ) (qa_cons (qe_ix xw_seq (qe_var 2) qe_int (fun _ _ => rfl)) (qa_cons (qe_ix xw_seq (qe_var 2) qe_int (fun _ _ => rfl)) qa_nil))) (qa_cons (qe_call (ok_l_far T) (hr.mono (by decide)) (by rfl) T.d9.mgd T.d9.fn.kp T.d9.bd (fun σ => passAt (takes_of rfl rfl rfl rfl) σ) (qa_cons (qe_ix xw_seq (qe_var 2) qe_int (fun _ _ => rfl)) (qa_cons (qe_ix xw_seq (qe_var 2) qe_int (fun _ _ => rfl)) qa_nil))) qa_nil)))) (qb_cons (qs_set (i := 4) sc.nd rfl (by first | exact .inl rfl | exact .inr rfl) (qe_bin ow_mod (qe_ix xw_seq (qe_var 2) qe_int (fun _ _ => rfl)) (qe_bin ow_add (qe_callB cw_len (by rfl) T.b_len (by decide +kernel) (qa_cons (qe_var 1) qa_nil)) qe_int))) (qb_cons (qs_set (i := 5) sc.nd rfl (by first | exact .inl rfl | exact .inr rfl) (qe_var 3)) (qb_cons (qs_set (i := 6) sc.nd rfl (by first | exact .inl rfl | exact .inr rfl) (qe_globAt T.g_STILL)) (qb_cons (qs_set (i := 7) sc.nd rfl (by first | exact .inl rfl | exact .inr rfl) (qe_globAt T.g_STILL)) (qb_cons (qs_newL (i := 8) sc.nd rfl (by first | exact .inl rfl | exact .inr rfl) (qa_cons (qe_globAt T.g_STILL) (qa_cons (qe_globAt T.g_STILL) qa_nil))) (qb_cons (qs_range1 (passes_of rfl) rfl (by rfl) T.b_range (qa_cons (qe_callB cw_len (by rfl) T.b_len (by decide +kernel) (qa_cons (qe_var 1) qa_nil)) qa_nil) (qg_name (i := 9) sc.nd rfl (by first | exact .inl rfl | exact .inr rfl)) (qb_cons (qs_set (i := 5) sc.nd rfl (by first | exact .inl rfl | exact .inr rfl) (qe_call (ok_l_moved T) (hr.mono (by decide)) (by rfl) T.d11.mgd T.d11.fn.kp T.d11.bd (fun σ => passAt (takes_of rfl rfl rfl rfl) σ) (qa_cons (qe_ix xw_seq (qe_var 1) (qe_var 9) (fun _ _ => rfl)) (qa_cons (qe_var 5) qa_nil)))) (qb_cons (qs_set (i := 6) sc.nd rfl (by first | exact .inl rfl | exact .inr rfl) (qe_call (ok_behind T) (hr.mono (by decide)) (by rfl) T.d4.mgd T.d4.fn.kp T.d4.bd (fun σ => passAt (takes_of rfl rfl rfl rfl) σ) (qa_cons (qe_var 6) (qa_cons (qe_ix xw_seq (qe_var 1) (qe_var 9) (fun _ _ => rfl)) qa_nil)))) (qb_cons (qs_set (i := 7) sc.nd rfl (by first | exact .inl rfl | exact .inr rfl) (qe_call (ok_behind T) (hr.mono (by decide)) (by rfl) T.d4.mgd T.d4.fn.kp T.d4.bd (fun σ => passAt (takes_of rfl rfl rfl rfl) σ) (qa_cons (qe_call (ok_back T) (hr.mono (by decide)) (by rfl) T.d6.mgd T.d6.fn.kp T.d6.bd (fun σ => passAt (takes_of rfl rfl rfl rfl) σ) (qa_cons (qe_ix xw_seq (qe_var 1) (qe_var 9) (fun _ _ => rfl)) qa_nil)) (qa_cons (qe_var 7) qa_nil)))) (qb_one (qs_setL (i := 8) rfl (by first | exact .inl rfl | exact .inr (.inl rfl) | exact .inr (.inr rfl)) (qe_callTy cw_int (by rfl) T.b_int (by decide +kernel) (qa_cons (qe_cmp ow_ge (qe_var 9) (qe_var 4) (nomark _)) qa_nil)) (qe_call (ok_behind T) (hr.mono (by decide)) (by rfl) T.d4.mgd T.d4.fn.kp T.d4.bd (fun σ => passAt (takes_of rfl rfl rfl rfl) σ) (qa_cons (qe_ix xw_seq (qe_var 8) (qe_callTy cw_int (by rfl) T.b_int (by decide +kernel) (qa_cons (qe_cmp ow_ge (qe_var 9) (qe_var 4) (nomark _)) qa_nil)) (fun _ _ => rfl)) (qa_cons (qe_ix xw_seq (qe_var 1) (qe_var 9) (fun _ _ => rfl)) qa_nil))))))))) (qb_frz 8 (qb_cons (qs_if (QW.qt (qw_or (qt_not (qt_truth (qe_call (ok_l_is_motion T) (hr.mono (by decide)) (by rfl) T.d14.mgd T.d14.fn.kp T.d14.bd (fun σ => passAt (takes_of rfl rfl rfl rfl) σ) (qa_cons (qe_var 6) qa_nil)))) (qw_or1 (qt_cmp (ow_ne (hu_ng hr)) (qe_call (ok_l_moved T) (hr.mono (by decide)) (by rfl) T.d11.mgd T.d11.fn.kp T.d11.bd (fun σ => passAt (takes_of rfl rfl rfl rfl) σ) (qa_cons (qe_var 6) (qa_cons (qe_var 3) qa_nil))) (qe_var 5) (nomark _))))) (qb_one (qs_ret qe_bl)) qb_nil) (qb_cons (qs_if (QW.qt (qw_or (qt_not (qt_truth (qe_call (ok_l_same T) (hr.mono (by decide)) (by rfl) T.d13.mgd T.d13.fn.kp T.d13.bd (fun σ => passAt (takes_of rfl rfl rfl rfl) σ) (qa_cons (qe_call (ok_behind T) (hr.mono (by decide)) (by rfl) T.d4.mgd T.d4.fn.kp T.d4.bd (fun σ => passAt (takes_of rfl rfl rfl rfl) σ) (qa_cons (qe_ix xw_seq (qe_var 8) qe_int (fun _ _ => rfl)) (qa_cons (qe_ix xw_seq (qe_var 8) qe_int (fun _ _ => rfl)) qa_nil))) (qa_cons (qe_var 6) qa_nil))))) (qw_or1 (qt_not (qt_truth (qe_call (ok_l_same T) (hr.mono (by decide)) (by rfl) T.d13.mgd T.d13.fn.kp T.d13.bd (fun σ => passAt (takes_of rfl rfl rfl rfl) σ) (qa_cons (qe_var 7) (qa_cons (qe_call (ok_back T) (hr.mono (by decide)) (by rfl) T.d6.mgd T.d6.fn.kp T.d6.bd (fun σ => passAt (takes_of rfl rfl rfl rfl) σ) (qa_cons (qe_var 6) qa_nil)) qa_nil)))))))) (qb_one (qs_ret qe_bl)) qb_nil) (qb_one (qs_ret (qe_and (qe_call (ok_l_same T) (hr.mono (by decide)) (by rfl) T.d13.mgd T.d13.fn.kp T.d13.bd (fun σ => passAt (takes_of rfl rfl rfl rfl) σ) (qa_cons (qe_call (ok_behind T) (hr.mono (by decide)) (by rfl) T.d4.mgd T.d4.fn.kp T.d4.bd (fun σ => passAt (takes_of rfl rfl rfl rfl) σ) (qa_cons (qe_var 6) (qa_cons (qe_var 7) qa_nil))) (qa_cons (qe_tup (qa_cons qe_int (qa_cons qe_int (qa_cons qe_int qa_nil)))) qa_nil))) (qe_one (qe_cmp (ow_eq (hu_ng hr)) (qe_call (ok_l_moved T) (hr.mono (by decide)) (by rfl) T.d11.mgd T.d11.fn.kp T.d11.bd (fun σ => passAt (takes_of rfl rfl rfl rfl) σ) (qa_cons (qe_var 7) (qa_cons (qe_var 5) qa_nil))) (qe_var 3) (nomark _))))))))))))))))))
end
/-! ### what the top has written -/
theorem all_mk {P : Program} {w : World} {K : PySem.W.Frag} {h : Heap} {mg : Str → Option Value} {fl : Addr} (X : K.In h) (G : h.Ns mainGlobals mg) (hfa : mg "law" = some (.ref fl))
    {f2 : Addr} {od2 an2 : Option Addr} {sl2 : Array (Option Value)} {oc2 kV2 dc2 pm2 cd2 ct2 : Value}
    {f3 : Addr} {od3 an3 : Option Addr} {sl3 : Array (Option Value)} {oc3 kV3 dc3 pm3 cd3 ct3 : Value}
    {f4 : Addr} {od4 an4 : Option Addr} {sl4 : Array (Option Value)} {oc4 kV4 dc4 pm4 cd4 ct4 : Value}
    {f5 : Addr} {od5 an5 : Option Addr} {sl5 : Array (Option Value)} {oc5 kV5 dc5 pm5 cd5 ct5 : Value}
    {f6 : Addr} {od6 an6 : Option Addr} {sl6 : Array (Option Value)} {oc6 kV6 dc6 pm6 cd6 ct6 : Value}
    {f8 : Addr} {od8 an8 : Option Addr} {sl8 : Array (Option Value)} {oc8 kV8 dc8 pm8 cd8 ct8 : Value}
    {f9 : Addr} {od9 an9 : Option Addr} {sl9 : Array (Option Value)} {oc9 kV9 dc9 pm9 cd9 ct9 : Value}
    {f10 : Addr} {od10 an10 : Option Addr} {sl10 : Array (Option Value)} {oc10 kV10 dc10 pm10 cd10 ct10 : Value}
    {f11 : Addr} {od11 an11 : Option Addr} {sl11 : Array (Option Value)} {oc11 kV11 dc11 pm11 cd11 ct11 : Value}
    {f12 : Addr} {od12 an12 : Option Addr} {sl12 : Array (Option Value)} {oc12 kV12 dc12 pm12 cd12 ct12 : Value}
    {f13 : Addr} {od13 an13 : Option Addr} {sl13 : Array (Option Value)} {oc13 kV13 dc13 pm13 cd13 ct13 : Value}
    {f14 : Addr} {od14 an14 : Option Addr} {sl14 : Array (Option Value)} {oc14 kV14 dc14 pm14 cd14 ct14 : Value}
    {f15 : Addr} {od15 an15 : Option Addr} {sl15 : Array (Option Value)} {oc15 kV15 dc15 pm15 cd15 ct15 : Value}
    {a_STILL : Addr} {od_STILL : Option Addr} {n_STILL : Nat} {sl_STILL : Array (Option Value)} {t_STILL_0 : Tok} {t_STILL_1 : Tok} {t_STILL_2 : Tok}
    (a2 : PySem.W.nsIn K mainGlobals "turned" = some (some (.ref f2))) (l2 : K.lookup f2 = some ⟨oc2, od2, .func (PySem.W.fnOf "turned" "turned" (defArgs s_turned) (defBody s_turned) (defScope s_turned) .none kV2 dc2 pm2 an2 cd2 ct2), sl2⟩) (c2 : PySem.W.codeIn K cd2 "turned" = true) (k2 : PySem.W.keepIn K (.ref f2) = true)
    (a3 : PySem.W.nsIn K mainGlobals "turn_behind" = some (some (.ref f3))) (l3 : K.lookup f3 = some ⟨oc3, od3, .func (PySem.W.fnOf "turn_behind" "turn_behind" (defArgs s_turn_behind) (defBody s_turn_behind) (defScope s_turn_behind) .none kV3 dc3 pm3 an3 cd3 ct3), sl3⟩) (c3 : PySem.W.codeIn K cd3 "turn_behind" = true) (k3 : PySem.W.keepIn K (.ref f3) = true)
    (a4 : PySem.W.nsIn K mainGlobals "behind" = some (some (.ref f4))) (l4 : K.lookup f4 = some ⟨oc4, od4, .func (PySem.W.fnOf "behind" "behind" (defArgs s_behind) (defBody s_behind) (defScope s_behind) .none kV4 dc4 pm4 an4 cd4 ct4), sl4⟩) (c4 : PySem.W.codeIn K cd4 "behind" = true) (k4 : PySem.W.keepIn K (.ref f4) = true)
    (a5 : PySem.W.nsIn K mainGlobals "turn_back" = some (some (.ref f5))) (l5 : K.lookup f5 = some ⟨oc5, od5, .func (PySem.W.fnOf "turn_back" "turn_back" (defArgs s_turn_back) (defBody s_turn_back) (defScope s_turn_back) .none kV5 dc5 pm5 an5 cd5 ct5), sl5⟩) (c5 : PySem.W.codeIn K cd5 "turn_back" = true) (k5 : PySem.W.keepIn K (.ref f5) = true)
    (a6 : PySem.W.nsIn K mainGlobals "back" = some (some (.ref f6))) (l6 : K.lookup f6 = some ⟨oc6, od6, .func (PySem.W.fnOf "back" "back" (defArgs s_back) (defBody s_back) (defScope s_back) .none kV6 dc6 pm6 an6 cd6 ct6), sl6⟩) (c6 : PySem.W.codeIn K cd6 "back" = true) (k6 : PySem.W.keepIn K (.ref f6) = true)
    (a8 : PySem.W.nsIn K mainGlobals "_law_draws" = some (some (.ref f8))) (l8 : K.lookup f8 = some ⟨oc8, od8, .func (PySem.W.fnOf "_law_draws" "_law_draws" (defArgs s_l_draws) (defBody s_l_draws) (defScope s_l_draws) .none kV8 dc8 pm8 an8 cd8 ct8), sl8⟩) (c8 : PySem.W.codeIn K cd8 "_law_draws" = true) (k8 : PySem.W.keepIn K (.ref f8) = true)
    (a9 : PySem.W.nsIn K mainGlobals "_law_far" = some (some (.ref f9))) (l9 : K.lookup f9 = some ⟨oc9, od9, .func (PySem.W.fnOf "_law_far" "_law_far" (defArgs s_l_far) (defBody s_l_far) (defScope s_l_far) .none kV9 dc9 pm9 an9 cd9 ct9), sl9⟩) (c9 : PySem.W.codeIn K cd9 "_law_far" = true) (k9 : PySem.W.keepIn K (.ref f9) = true)
    (a10 : PySem.W.nsIn K mainGlobals "_law_turned" = some (some (.ref f10))) (l10 : K.lookup f10 = some ⟨oc10, od10, .func (PySem.W.fnOf "_law_turned" "_law_turned" (defArgs s_l_turned) (defBody s_l_turned) (defScope s_l_turned) .none kV10 dc10 pm10 an10 cd10 ct10), sl10⟩) (c10 : PySem.W.codeIn K cd10 "_law_turned" = true) (k10 : PySem.W.keepIn K (.ref f10) = true)
    (a11 : PySem.W.nsIn K mainGlobals "_law_moved" = some (some (.ref f11))) (l11 : K.lookup f11 = some ⟨oc11, od11, .func (PySem.W.fnOf "_law_moved" "_law_moved" (defArgs s_l_moved) (defBody s_l_moved) (defScope s_l_moved) .none kV11 dc11 pm11 an11 cd11 ct11), sl11⟩) (c11 : PySem.W.codeIn K cd11 "_law_moved" = true) (k11 : PySem.W.keepIn K (.ref f11) = true)
    (a12 : PySem.W.nsIn K mainGlobals "_law_motion" = some (some (.ref f12))) (l12 : K.lookup f12 = some ⟨oc12, od12, .func (PySem.W.fnOf "_law_motion" "_law_motion" (defArgs s_l_motion) (defBody s_l_motion) (defScope s_l_motion) .none kV12 dc12 pm12 an12 cd12 ct12), sl12⟩) (c12 : PySem.W.codeIn K cd12 "_law_motion" = true) (k12 : PySem.W.keepIn K (.ref f12) = true)
    (a13 : PySem.W.nsIn K mainGlobals "_law_same" = some (some (.ref f13))) (l13 : K.lookup f13 = some ⟨oc13, od13, .func (PySem.W.fnOf "_law_same" "_law_same" (defArgs s_l_same) (defBody s_l_same) (defScope s_l_same) .none kV13 dc13 pm13 an13 cd13 ct13), sl13⟩) (c13 : PySem.W.codeIn K cd13 "_law_same" = true) (k13 : PySem.W.keepIn K (.ref f13) = true)
    (a14 : PySem.W.nsIn K mainGlobals "_law_is_motion" = some (some (.ref f14))) (l14 : K.lookup f14 = some ⟨oc14, od14, .func (PySem.W.fnOf "_law_is_motion" "_law_is_motion" (defArgs s_l_is_motion) (defBody s_l_is_motion) (defScope s_l_is_motion) .none kV14 dc14 pm14 an14 cd14 ct14), sl14⟩) (c14 : PySem.W.codeIn K cd14 "_law_is_motion" = true) (k14 : PySem.W.keepIn K (.ref f14) = true)
    (a15 : PySem.W.nsIn K mainGlobals "law" = some (some (.ref f15))) (l15 : K.lookup f15 = some ⟨oc15, od15, .func (PySem.W.fnOf "law" "law" (defArgs s_law) (defBody s_law) (defScope s_law) .none kV15 dc15 pm15 an15 cd15 ct15), sl15⟩) (c15 : PySem.W.codeIn K cd15 "law" = true) (k15 : PySem.W.keepIn K (.ref f15) = true)
    (z_bool : PySem.W.nsIn K mainGlobals "bool" = some none)
    (z_int : PySem.W.nsIn K mainGlobals "int" = some none)
    (z_isinstance : PySem.W.nsIn K mainGlobals "isinstance" = some none)
    (z_len : PySem.W.nsIn K mainGlobals "len" = some none)
    (z_list : PySem.W.nsIn K mainGlobals "list" = some none)
    (z_range : PySem.W.nsIn K mainGlobals "range" = some none)
    (z_str : PySem.W.nsIn K mainGlobals "str" = some none)
    (z_tuple : PySem.W.nsIn K mainGlobals "tuple" = some none)
    (y_STILL : PySem.W.nsIn K mainGlobals "STILL" = some (some (.ref a_STILL))) (x_STILL : K.lookup a_STILL = some ⟨.type "tuple", od_STILL, .seq #[.int 0 t_STILL_0, .int 0 t_STILL_1, .int 0 t_STILL_2] n_STILL, sl_STILL⟩) :
    ∃ fdl : FuncData, (∀ (s : Shared) (v : Value), BindsTo s fdl ⟨[v], []⟩ [("_law_script", v)]) ∧ ∀ base : Heap, K.In base → base.Ns mainGlobals mg → FnOk P w K mg base (L2.CX P w) 5 fl fdl ["_law_script"] (SpP K (clOf K) p_law) := by
  have e : f15 = fl := by
    have z := (PySem.W.mg_of X G a15).symm.trans hfa
    injection z with z
    injection z
  subst e
  have T : Tx K mg (clOf K) (fun i => if i = 2 then f2 else if i = 3 then f3 else if i = 4 then f4 else if i = 5 then f5 else if i = 6 then f6 else if i = 8 then f8 else if i = 9 then f9 else if i = 10 then f10 else if i = 11 then f11 else if i = 12 then f12 else if i = 13 then f13 else if i = 14 then f14 else if i = 15 then f15 else 0) (fun i => if i = 2 then PySem.W.fnOf "turned" "turned" (defArgs s_turned) (defBody s_turned) (defScope s_turned) .none kV2 dc2 pm2 an2 cd2 ct2 else if i = 3 then PySem.W.fnOf "turn_behind" "turn_behind" (defArgs s_turn_behind) (defBody s_turn_behind) (defScope s_turn_behind) .none kV3 dc3 pm3 an3 cd3 ct3 else if i = 4 then PySem.W.fnOf "behind" "behind" (defArgs s_behind) (defBody s_behind) (defScope s_behind) .none kV4 dc4 pm4 an4 cd4 ct4 else if i = 5 then PySem.W.fnOf "turn_back" "turn_back" (defArgs s_turn_back) (defBody s_turn_back) (defScope s_turn_back) .none kV5 dc5 pm5 an5 cd5 ct5 else if i = 6 then PySem.W.fnOf "back" "back" (defArgs s_back) (defBody s_back) (defScope s_back) .none kV6 dc6 pm6 an6 cd6 ct6 else if i = 8 then PySem.W.fnOf "_law_draws" "_law_draws" (defArgs s_l_draws) (defBody s_l_draws) (defScope s_l_draws) .none kV8 dc8 pm8 an8 cd8 ct8 else if i = 9 then PySem.W.fnOf "_law_far" "_law_far" (defArgs s_l_far) (defBody s_l_far) (defScope s_l_far) .none kV9 dc9 pm9 an9 cd9 ct9 else if i = 10 then PySem.W.fnOf "_law_turned" "_law_turned" (defArgs s_l_turned) (defBody s_l_turned) (defScope s_l_turned) .none kV10 dc10 pm10 an10 cd10 ct10 else if i = 11 then PySem.W.fnOf "_law_moved" "_law_moved" (defArgs s_l_moved) (defBody s_l_moved) (defScope s_l_moved) .none kV11 dc11 pm11 an11 cd11 ct11 else if i = 12 then PySem.W.fnOf "_law_motion" "_law_motion" (defArgs s_l_motion) (defBody s_l_motion) (defScope s_l_motion) .none kV12 dc12 pm12 an12 cd12 ct12 else if i = 13 then PySem.W.fnOf "_law_same" "_law_same" (defArgs s_l_same) (defBody s_l_same) (defScope s_l_same) .none kV13 dc13 pm13 an13 cd13 ct13 else if i = 14 then PySem.W.fnOf "_law_is_motion" "_law_is_motion" (defArgs s_l_is_motion) (defBody s_l_is_motion) (defScope s_l_is_motion) .none kV14 dc14 pm14 an14 cd14 ct14 else if i = 15 then PySem.W.fnOf "law" "law" (defArgs s_law) (defBody s_law) (defScope s_law) .none kV15 dc15 pm15 an15 cd15 ct15 else (PySem.W.fnOf "law" "law" (defArgs s_law) (defBody s_law) (defScope s_law) .none kV15 dc15 pm15 an15 cd15 ct15)) := {
    d2 := ⟨fun_mk (st := s_turned) l2 c2 k2, PySem.W.mg_of X G a2, (fun_mk (st := s_turned) l2 c2 k2).binds (ps := ["turn", "place"]) (fun _ _ _ _ _ _ us hl => match us, hl with | [_, _], _ => rfl)⟩,
    d3 := ⟨fun_mk (st := s_turn_behind) l3 c3 k3, PySem.W.mg_of X G a3, (fun_mk (st := s_turn_behind) l3 c3 k3).binds (ps := ["first", "second"]) (fun _ _ _ _ _ _ us hl => match us, hl with | [_, _], _ => rfl)⟩,
    d4 := ⟨fun_mk (st := s_behind) l4 c4 k4, PySem.W.mg_of X G a4, (fun_mk (st := s_behind) l4 c4 k4).binds (ps := ["first", "second"]) (fun _ _ _ _ _ _ us hl => match us, hl with | [_, _], _ => rfl)⟩,
    d5 := ⟨fun_mk (st := s_turn_back) l5 c5 k5, PySem.W.mg_of X G a5, (fun_mk (st := s_turn_back) l5 c5 k5).binds (ps := ["turn"]) (fun _ _ _ _ _ _ us hl => match us, hl with | [_], _ => rfl)⟩,
    d6 := ⟨fun_mk (st := s_back) l6 c6 k6, PySem.W.mg_of X G a6, (fun_mk (st := s_back) l6 c6 k6).binds (ps := ["motion"]) (fun _ _ _ _ _ _ us hl => match us, hl with | [_], _ => rfl)⟩,
    d8 := ⟨fun_mk (st := s_l_draws) l8 c8 k8, PySem.W.mg_of X G a8, (fun_mk (st := s_l_draws) l8 c8 k8).binds (ps := ["_law_script", "_law_at", "_law_many"]) (fun _ _ _ _ _ _ us hl => match us, hl with | [_, _, _], _ => rfl)⟩,
    d9 := ⟨fun_mk (st := s_l_far) l9 c9 k9, PySem.W.mg_of X G a9, (fun_mk (st := s_l_far) l9 c9 k9).binds (ps := ["_law_one", "_law_two"]) (fun _ _ _ _ _ _ us hl => match us, hl with | [_, _], _ => rfl)⟩,
    d10 := ⟨fun_mk (st := s_l_turned) l10 c10 k10, PySem.W.mg_of X G a10, (fun_mk (st := s_l_turned) l10 c10 k10).binds (ps := ["_law_turn", "_law_x", "_law_y"]) (fun _ _ _ _ _ _ us hl => match us, hl with | [_, _, _], _ => rfl)⟩,
    d11 := ⟨fun_mk (st := s_l_moved) l11 c11 k11, PySem.W.mg_of X G a11, (fun_mk (st := s_l_moved) l11 c11 k11).binds (ps := ["_law_motion_here", "_law_place"]) (fun _ _ _ _ _ _ us hl => match us, hl with | [_, _], _ => rfl)⟩,
    d12 := ⟨fun_mk (st := s_l_motion) l12 c12 k12, PySem.W.mg_of X G a12, (fun_mk (st := s_l_motion) l12 c12 k12).binds (ps := ["_law_d", "_law_at"]) (fun _ _ _ _ _ _ us hl => match us, hl with | [_, _], _ => rfl)⟩,
    d13 := ⟨fun_mk (st := s_l_same) l13 c13 k13, PySem.W.mg_of X G a13, (fun_mk (st := s_l_same) l13 c13 k13).binds (ps := ["_law_found", "_law_due"]) (fun _ _ _ _ _ _ us hl => match us, hl with | [_, _], _ => rfl)⟩,
    d14 := ⟨fun_mk (st := s_l_is_motion) l14 c14 k14, PySem.W.mg_of X G a14, (fun_mk (st := s_l_is_motion) l14 c14 k14).binds (ps := ["_law_found"]) (fun _ _ _ _ _ _ us hl => match us, hl with | [_], _ => rfl)⟩,
    d15 := ⟨fun_mk (st := s_law) l15 c15 k15, PySem.W.mg_of X G a15, (fun_mk (st := s_law) l15 c15 k15).binds (ps := ["_law_script"]) (fun _ _ _ _ _ _ us hl => match us, hl with | [_], _ => rfl)⟩,
    b_bool := PySem.W.mg_none_of X G z_bool,
    b_int := PySem.W.mg_none_of X G z_int,
    b_isinstance := PySem.W.mg_none_of X G z_isinstance,
    b_len := PySem.W.mg_none_of X G z_len,
    b_list := PySem.W.mg_none_of X G z_list,
    b_range := PySem.W.mg_none_of X G z_range,
    b_str := PySem.W.mg_none_of X G z_str,
    b_tuple := PySem.W.mg_none_of X G z_tuple,
    g_STILL := ⟨.ref a_STILL, _, PySem.W.mg_of X G y_STILL, rfl, fun F => ⟨a_STILL, [.int 0, .int 0, .int 0], rfl, .inr ⟨_, _, _, x_STILL, rfl, rfl, by show 3 ≤ sizeLine; decide, (.cons ⟨_, rfl⟩ (.cons ⟨_, rfl⟩ (.cons ⟨_, rfl⟩ .nil)))⟩, ⟨_, _, rfl, rfl, ⟨_, _, rfl, rfl, ⟨_, _, rfl, rfl, rfl⟩⟩⟩⟩⟩ }
  exact ⟨PySem.W.fnOf "law" "law" (defArgs s_law) (defBody s_law) (defScope s_law) .none kV15 dc15 pm15 an15 cd15 ct15, fun s v => .of_eq rfl, fun base _ _ => ok_law T⟩
/-! ### operations, where they hold -/
theorem mod_ok (i j : Int) (S : Sto) (h : 0 < j) : modW (.da (.int i)) (.da (.int j)) S = .ok (.da (.int (i % j))) := by
  exact ifc_pos h
theorem div_ok (i j : Int) (S : Sto) (h : 0 < j) (h2 : j < 1073741824) : divW (.da (.int i)) (.da (.int j)) S = .ok (.da (.int (i / j))) := by
  exact ifc_pos ⟨h, h2⟩
theorem mul_r (i j : Int) (S : Sto) (h : -1000000000 < j) (h2 : j < 1000000000) : mulW (.da (.int i)) (.da (.int j)) S = .ok (.da (.int (i * j))) := by
  have q : (-(2 ^ 64) < i ∧ i < 2 ^ 64) ∨ (-(2 ^ 64) < j ∧ j < 2 ^ 64) := .inr ⟨Int.lt_trans (by decide) h, Int.lt_trans h2 (by decide)⟩
  exact ifc_pos q
theorem mul_l (i j : Int) (S : Sto) (h : -1000000000 < i) (h2 : i < 1000000000) : mulW (.da (.int i)) (.da (.int j)) S = .ok (.da (.int (i * j))) := by
  have q : (-(2 ^ 64) < i ∧ i < 2 ^ 64) ∨ (-(2 ^ 64) < j ∧ j < 2 ^ 64) := .inl ⟨Int.lt_trans (by decide) h, Int.lt_trans h2 (by decide)⟩
  exact ifc_pos q
theorem pow_ok (i j : Int) (S : Sto) (h : 0 ≤ j) (h2 : j ≤ 1000000) (h3 : i.natAbs < 2 ^ 64) : powW (.da (.int i)) (.da (.int j)) S = .ok (.da (.int (i ^ j.toNat))) := by
  exact ifc_pos ⟨h, h2, h3⟩
theorem nc_0 : ((0 : Nat) : Int) = 0 := rfl
theorem nc_1 : ((1 : Nat) : Int) = 1 := rfl
theorem nc_2 : ((2 : Nat) : Int) = 2 := rfl
theorem nc_3 : ((3 : Nat) : Int) = 3 := rfl
theorem nc_4 : ((4 : Nat) : Int) = 4 := rfl
theorem nc_5 : ((5 : Nat) : Int) = 5 := rfl
theorem nc_6 : ((6 : Nat) : Int) = 6 := rfl
theorem nc_7 : ((7 : Nat) : Int) = 7 := rfl
theorem nc_8 : ((8 : Nat) : Int) = 8 := rfl
theorem nc_9 : ((9 : Nat) : Int) = 9 := rfl
theorem nc_10 : ((10 : Nat) : Int) = 10 := rfl
theorem nc_11 : ((11 : Nat) : Int) = 11 := rfl
theorem nc_12 : ((12 : Nat) : Int) = 12 := rfl
theorem nc_13 : ((13 : Nat) : Int) = 13 := rfl
theorem nc_14 : ((14 : Nat) : Int) = 14 := rfl
theorem nc_15 : ((15 : Nat) : Int) = 15 := rfl
theorem nc_16 : ((16 : Nat) : Int) = 16 := rfl
theorem nc_17 : ((17 : Nat) : Int) = 17 := rfl
theorem nc_18 : ((18 : Nat) : Int) = 18 := rfl
theorem nc_19 : ((19 : Nat) : Int) = 19 := rfl
theorem nc_20 : ((20 : Nat) : Int) = 20 := rfl
theorem nc_21 : ((21 : Nat) : Int) = 21 := rfl
theorem nc_22 : ((22 : Nat) : Int) = 22 := rfl
theorem nc_23 : ((23 : Nat) : Int) = 23 := rfl
theorem nc_24 : ((24 : Nat) : Int) = 24 := rfl
theorem kb_t_t : kitB "tuple" "tuple" = some true := by decide +kernel
theorem kb_t_l : kitB "tuple" "list" = some false := by decide +kernel
theorem kb_l_t : kitB "list" "tuple" = some false := by decide +kernel
theorem kb_l_l : kitB "list" "list" = some true := by decide +kernel
theorem kb_i_t : kitB "int" "tuple" = some false := by decide +kernel
theorem kb_i_l : kitB "int" "list" = some false := by decide +kernel
theorem kb_i_b : kitB "int" "bool" = some false := by decide +kernel
theorem kb_i_i : kitB "int" "int" = some true := by decide +kernel
theorem kb_b_t : kitB "bool" "tuple" = some false := by decide +kernel
theorem kb_b_l : kitB "bool" "list" = some false := by decide +kernel
theorem kb_b_b : kitB "bool" "bool" = some true := by decide +kernel
theorem kb_b_i : kitB "bool" "int" = some true := by decide +kernel
theorem kb_s_t : kitB "str" "tuple" = some false := by decide +kernel
theorem kb_s_l : kitB "str" "list" = some false := by decide +kernel
theorem kb_s_b : kitB "str" "bool" = some false := by decide +kernel
theorem kb_s_i : kitB "str" "int" = some false := by decide +kernel
theorem kb_s_s : kitB "str" "str" = some true := by decide +kernel
theorem kb_n_t : kitB "NoneType" "tuple" = some false := by decide +kernel
theorem kb_n_l : kitB "NoneType" "list" = some false := by decide +kernel
theorem kb_n_b : kitB "NoneType" "bool" = some false := by decide +kernel
theorem eqD_ii (i j : Int) : eqD (.int i) (.int j) = .ok (dec (i = j)) := rfl
theorem eqD_ss (i j : Str) : eqD (.str i) (.str j) = .ok (dec (i = j)) := rfl
theorem eqD_bb (i j : Bool) : eqD (.bl i) (.bl j) = .ok (dec (i = j)) := rfl
theorem rng1_ok (j : Int) (h : 0 ≤ j) (h2 : j ≤ 1000000) : rng1 [.da (.int j)] = some (0, j.toNat) := by
  exact ifc_pos ⟨by omega, by omega⟩
theorem rng2_ok (i j : Int) (h1 : -1000000 ≤ i) (h2 : i ≤ 1000000) (h3 : -1000000 ≤ j) (h4 : j ≤ 1000000) : rng2 [.da (.int i), .da (.int j)] = some (i, (j - i).toNat) := by
  exact ifc_pos ⟨by omega, by omega, by omega, by omega⟩
theorem sz0 : 0 ≤ sizeLine := by decide
theorem sz1 : 1 ≤ sizeLine := by decide
theorem sz2 : 2 ≤ sizeLine := by decide
theorem sz3 : 3 ≤ sizeLine := by decide
theorem sz4 : 4 ≤ sizeLine := by decide
theorem sz5 : 5 ≤ sizeLine := by decide
theorem sz6 : 6 ≤ sizeLine := by decide
theorem sz7 : 7 ≤ sizeLine := by decide
theorem sz8 : 8 ≤ sizeLine := by decide
theorem sz9 : 9 ≤ sizeLine := by decide
theorem sz10 : 10 ≤ sizeLine := by decide
theorem sz11 : 11 ≤ sizeLine := by decide
theorem sz12 : 12 ≤ sizeLine := by decide
theorem sz13 : 13 ≤ sizeLine := by decide
theorem sz14 : 14 ≤ sizeLine := by decide
theorem sz15 : 15 ≤ sizeLine := by decide
theorem sz16 : 16 ≤ sizeLine := by decide
theorem sz17 : 17 ≤ sizeLine := by decide
theorem sz18 : 18 ≤ sizeLine := by decide
theorem sz19 : 19 ≤ sizeLine := by decide
theorem sz20 : 20 ≤ sizeLine := by decide
theorem sz_lt {n : Nat} (h : n < 100000) : n < sizeLine := Nat.lt_of_lt_of_le h (by decide)
theorem sz_le {n : Nat} (h : n ≤ 100000) : n ≤ sizeLine := Nat.le_trans h (by decide)
theorem atI_lit {a : Type} (x : a) (xs : List a) (k : Nat) : atI xs (k : Int) = xs[k]? := by
  unfold atI ixN
  rw [if_pos (Int.natCast_nonneg k)]
  by_cases h : k < xs.length
  · rw [if_pos (by omega)]; simp
  · rw [if_neg (by omega)]; simp; omega
theorem at_0 {a : Type} (x0 : a) (xs : List a) : atI (x0 :: xs) 0 = some x0 := (atI_lit x0 (x0 :: xs) 0).trans rfl
theorem at_1 {a : Type} (x0 x1 : a) (xs : List a) : atI (x0 :: x1 :: xs) 1 = some x1 := (atI_lit x0 (x0 :: x1 :: xs) 1).trans rfl
theorem at_2 {a : Type} (x0 x1 x2 : a) (xs : List a) : atI (x0 :: x1 :: x2 :: xs) 2 = some x2 := (atI_lit x0 (x0 :: x1 :: x2 :: xs) 2).trans rfl
theorem at_3 {a : Type} (x0 x1 x2 x3 : a) (xs : List a) : atI (x0 :: x1 :: x2 :: x3 :: xs) 3 = some x3 := (atI_lit x0 (x0 :: x1 :: x2 :: x3 :: xs) 3).trans rfl
theorem at_4 {a : Type} (x0 x1 x2 x3 x4 : a) (xs : List a) : atI (x0 :: x1 :: x2 :: x3 :: x4 :: xs) 4 = some x4 := (atI_lit x0 (x0 :: x1 :: x2 :: x3 :: x4 :: xs) 4).trans rfl
theorem at_5 {a : Type} (x0 x1 x2 x3 x4 x5 : a) (xs : List a) : atI (x0 :: x1 :: x2 :: x3 :: x4 :: x5 :: xs) 5 = some x5 := (atI_lit x0 (x0 :: x1 :: x2 :: x3 :: x4 :: x5 :: xs) 5).trans rfl
theorem at_6 {a : Type} (x0 x1 x2 x3 x4 x5 x6 : a) (xs : List a) : atI (x0 :: x1 :: x2 :: x3 :: x4 :: x5 :: x6 :: xs) 6 = some x6 := (atI_lit x0 (x0 :: x1 :: x2 :: x3 :: x4 :: x5 :: x6 :: xs) 6).trans rfl
theorem at_7 {a : Type} (x0 x1 x2 x3 x4 x5 x6 x7 : a) (xs : List a) : atI (x0 :: x1 :: x2 :: x3 :: x4 :: x5 :: x6 :: x7 :: xs) 7 = some x7 := (atI_lit x0 (x0 :: x1 :: x2 :: x3 :: x4 :: x5 :: x6 :: x7 :: xs) 7).trans rfl
theorem at_8 {a : Type} (x0 x1 x2 x3 x4 x5 x6 x7 x8 : a) (xs : List a) : atI (x0 :: x1 :: x2 :: x3 :: x4 :: x5 :: x6 :: x7 :: x8 :: xs) 8 = some x8 := (atI_lit x0 (x0 :: x1 :: x2 :: x3 :: x4 :: x5 :: x6 :: x7 :: x8 :: xs) 8).trans rfl
theorem at_9 {a : Type} (x0 x1 x2 x3 x4 x5 x6 x7 x8 x9 : a) (xs : List a) : atI (x0 :: x1 :: x2 :: x3 :: x4 :: x5 :: x6 :: x7 :: x8 :: x9 :: xs) 9 = some x9 := (atI_lit x0 (x0 :: x1 :: x2 :: x3 :: x4 :: x5 :: x6 :: x7 :: x8 :: x9 :: xs) 9).trans rfl
theorem at_10 {a : Type} (x0 x1 x2 x3 x4 x5 x6 x7 x8 x9 x10 : a) (xs : List a) : atI (x0 :: x1 :: x2 :: x3 :: x4 :: x5 :: x6 :: x7 :: x8 :: x9 :: x10 :: xs) 10 = some x10 := (atI_lit x0 (x0 :: x1 :: x2 :: x3 :: x4 :: x5 :: x6 :: x7 :: x8 :: x9 :: x10 :: xs) 10).trans rfl
theorem at_11 {a : Type} (x0 x1 x2 x3 x4 x5 x6 x7 x8 x9 x10 x11 : a) (xs : List a) : atI (x0 :: x1 :: x2 :: x3 :: x4 :: x5 :: x6 :: x7 :: x8 :: x9 :: x10 :: x11 :: xs) 11 = some x11 := (atI_lit x0 (x0 :: x1 :: x2 :: x3 :: x4 :: x5 :: x6 :: x7 :: x8 :: x9 :: x10 :: x11 :: xs) 11).trans rfl
theorem at_12 {a : Type} (x0 x1 x2 x3 x4 x5 x6 x7 x8 x9 x10 x11 x12 : a) (xs : List a) : atI (x0 :: x1 :: x2 :: x3 :: x4 :: x5 :: x6 :: x7 :: x8 :: x9 :: x10 :: x11 :: x12 :: xs) 12 = some x12 := (atI_lit x0 (x0 :: x1 :: x2 :: x3 :: x4 :: x5 :: x6 :: x7 :: x8 :: x9 :: x10 :: x11 :: x12 :: xs) 12).trans rfl
theorem at_13 {a : Type} (x0 x1 x2 x3 x4 x5 x6 x7 x8 x9 x10 x11 x12 x13 : a) (xs : List a) : atI (x0 :: x1 :: x2 :: x3 :: x4 :: x5 :: x6 :: x7 :: x8 :: x9 :: x10 :: x11 :: x12 :: x13 :: xs) 13 = some x13 := (atI_lit x0 (x0 :: x1 :: x2 :: x3 :: x4 :: x5 :: x6 :: x7 :: x8 :: x9 :: x10 :: x11 :: x12 :: x13 :: xs) 13).trans rfl
theorem at_14 {a : Type} (x0 x1 x2 x3 x4 x5 x6 x7 x8 x9 x10 x11 x12 x13 x14 : a) (xs : List a) : atI (x0 :: x1 :: x2 :: x3 :: x4 :: x5 :: x6 :: x7 :: x8 :: x9 :: x10 :: x11 :: x12 :: x13 :: x14 :: xs) 14 = some x14 := (atI_lit x0 (x0 :: x1 :: x2 :: x3 :: x4 :: x5 :: x6 :: x7 :: x8 :: x9 :: x10 :: x11 :: x12 :: x13 :: x14 :: xs) 14).trans rfl
theorem at_15 {a : Type} (x0 x1 x2 x3 x4 x5 x6 x7 x8 x9 x10 x11 x12 x13 x14 x15 : a) (xs : List a) : atI (x0 :: x1 :: x2 :: x3 :: x4 :: x5 :: x6 :: x7 :: x8 :: x9 :: x10 :: x11 :: x12 :: x13 :: x14 :: x15 :: xs) 15 = some x15 := (atI_lit x0 (x0 :: x1 :: x2 :: x3 :: x4 :: x5 :: x6 :: x7 :: x8 :: x9 :: x10 :: x11 :: x12 :: x13 :: x14 :: x15 :: xs) 15).trans rfl
theorem at_16 {a : Type} (x0 x1 x2 x3 x4 x5 x6 x7 x8 x9 x10 x11 x12 x13 x14 x15 x16 : a) (xs : List a) : atI (x0 :: x1 :: x2 :: x3 :: x4 :: x5 :: x6 :: x7 :: x8 :: x9 :: x10 :: x11 :: x12 :: x13 :: x14 :: x15 :: x16 :: xs) 16 = some x16 := (atI_lit x0 (x0 :: x1 :: x2 :: x3 :: x4 :: x5 :: x6 :: x7 :: x8 :: x9 :: x10 :: x11 :: x12 :: x13 :: x14 :: x15 :: x16 :: xs) 16).trans rfl
theorem at_17 {a : Type} (x0 x1 x2 x3 x4 x5 x6 x7 x8 x9 x10 x11 x12 x13 x14 x15 x16 x17 : a) (xs : List a) : atI (x0 :: x1 :: x2 :: x3 :: x4 :: x5 :: x6 :: x7 :: x8 :: x9 :: x10 :: x11 :: x12 :: x13 :: x14 :: x15 :: x16 :: x17 :: xs) 17 = some x17 := (atI_lit x0 (x0 :: x1 :: x2 :: x3 :: x4 :: x5 :: x6 :: x7 :: x8 :: x9 :: x10 :: x11 :: x12 :: x13 :: x14 :: x15 :: x16 :: x17 :: xs) 17).trans rfl
theorem at_18 {a : Type} (x0 x1 x2 x3 x4 x5 x6 x7 x8 x9 x10 x11 x12 x13 x14 x15 x16 x17 x18 : a) (xs : List a) : atI (x0 :: x1 :: x2 :: x3 :: x4 :: x5 :: x6 :: x7 :: x8 :: x9 :: x10 :: x11 :: x12 :: x13 :: x14 :: x15 :: x16 :: x17 :: x18 :: xs) 18 = some x18 := (atI_lit x0 (x0 :: x1 :: x2 :: x3 :: x4 :: x5 :: x6 :: x7 :: x8 :: x9 :: x10 :: x11 :: x12 :: x13 :: x14 :: x15 :: x16 :: x17 :: x18 :: xs) 18).trans rfl
theorem at_19 {a : Type} (x0 x1 x2 x3 x4 x5 x6 x7 x8 x9 x10 x11 x12 x13 x14 x15 x16 x17 x18 x19 : a) (xs : List a) : atI (x0 :: x1 :: x2 :: x3 :: x4 :: x5 :: x6 :: x7 :: x8 :: x9 :: x10 :: x11 :: x12 :: x13 :: x14 :: x15 :: x16 :: x17 :: x18 :: x19 :: xs) 19 = some x19 := (atI_lit x0 (x0 :: x1 :: x2 :: x3 :: x4 :: x5 :: x6 :: x7 :: x8 :: x9 :: x10 :: x11 :: x12 :: x13 :: x14 :: x15 :: x16 :: x17 :: x18 :: x19 :: xs) 19).trans rfl
theorem at_20 {a : Type} (x0 x1 x2 x3 x4 x5 x6 x7 x8 x9 x10 x11 x12 x13 x14 x15 x16 x17 x18 x19 x20 : a) (xs : List a) : atI (x0 :: x1 :: x2 :: x3 :: x4 :: x5 :: x6 :: x7 :: x8 :: x9 :: x10 :: x11 :: x12 :: x13 :: x14 :: x15 :: x16 :: x17 :: x18 :: x19 :: x20 :: xs) 20 = some x20 := (atI_lit x0 (x0 :: x1 :: x2 :: x3 :: x4 :: x5 :: x6 :: x7 :: x8 :: x9 :: x10 :: x11 :: x12 :: x13 :: x14 :: x15 :: x16 :: x17 :: x18 :: x19 :: x20 :: xs) 20).trans rfl
theorem at_21 {a : Type} (x0 x1 x2 x3 x4 x5 x6 x7 x8 x9 x10 x11 x12 x13 x14 x15 x16 x17 x18 x19 x20 x21 : a) (xs : List a) : atI (x0 :: x1 :: x2 :: x3 :: x4 :: x5 :: x6 :: x7 :: x8 :: x9 :: x10 :: x11 :: x12 :: x13 :: x14 :: x15 :: x16 :: x17 :: x18 :: x19 :: x20 :: x21 :: xs) 21 = some x21 := (atI_lit x0 (x0 :: x1 :: x2 :: x3 :: x4 :: x5 :: x6 :: x7 :: x8 :: x9 :: x10 :: x11 :: x12 :: x13 :: x14 :: x15 :: x16 :: x17 :: x18 :: x19 :: x20 :: x21 :: xs) 21).trans rfl
theorem at_22 {a : Type} (x0 x1 x2 x3 x4 x5 x6 x7 x8 x9 x10 x11 x12 x13 x14 x15 x16 x17 x18 x19 x20 x21 x22 : a) (xs : List a) : atI (x0 :: x1 :: x2 :: x3 :: x4 :: x5 :: x6 :: x7 :: x8 :: x9 :: x10 :: x11 :: x12 :: x13 :: x14 :: x15 :: x16 :: x17 :: x18 :: x19 :: x20 :: x21 :: x22 :: xs) 22 = some x22 := (atI_lit x0 (x0 :: x1 :: x2 :: x3 :: x4 :: x5 :: x6 :: x7 :: x8 :: x9 :: x10 :: x11 :: x12 :: x13 :: x14 :: x15 :: x16 :: x17 :: x18 :: x19 :: x20 :: x21 :: x22 :: xs) 22).trans rfl
theorem at_23 {a : Type} (x0 x1 x2 x3 x4 x5 x6 x7 x8 x9 x10 x11 x12 x13 x14 x15 x16 x17 x18 x19 x20 x21 x22 x23 : a) (xs : List a) : atI (x0 :: x1 :: x2 :: x3 :: x4 :: x5 :: x6 :: x7 :: x8 :: x9 :: x10 :: x11 :: x12 :: x13 :: x14 :: x15 :: x16 :: x17 :: x18 :: x19 :: x20 :: x21 :: x22 :: x23 :: xs) 23 = some x23 := (atI_lit x0 (x0 :: x1 :: x2 :: x3 :: x4 :: x5 :: x6 :: x7 :: x8 :: x9 :: x10 :: x11 :: x12 :: x13 :: x14 :: x15 :: x16 :: x17 :: x18 :: x19 :: x20 :: x21 :: x22 :: x23 :: xs) 23).trans rfl
theorem at_24 {a : Type} (x0 x1 x2 x3 x4 x5 x6 x7 x8 x9 x10 x11 x12 x13 x14 x15 x16 x17 x18 x19 x20 x21 x22 x23 x24 : a) (xs : List a) : atI (x0 :: x1 :: x2 :: x3 :: x4 :: x5 :: x6 :: x7 :: x8 :: x9 :: x10 :: x11 :: x12 :: x13 :: x14 :: x15 :: x16 :: x17 :: x18 :: x19 :: x20 :: x21 :: x22 :: x23 :: x24 :: xs) 24 = some x24 := (atI_lit x0 (x0 :: x1 :: x2 :: x3 :: x4 :: x5 :: x6 :: x7 :: x8 :: x9 :: x10 :: x11 :: x12 :: x13 :: x14 :: x15 :: x16 :: x17 :: x18 :: x19 :: x20 :: x21 :: x22 :: x23 :: x24 :: xs) 24).trans rfl
local macro_rules | `(tactic| walk_at "ev") => `(tactic| all_goals try simp only [runP, startR, endP, mSeq, mSet, mSkip, mAsg, mRet, mIf, mDrop, mPar, mInc, incW, mVar, mC, mOp, mUn, mCons, mNil, mCall, mCallP, mTup, mLst, mTst, mTru, mAnd, mOr, mNot, mAndV, mOrV, mNotV, mChain, boolOf, dats, dat, Re.bind, Re.out, gtName, gtTup, gtCons, gtNil, mForR, rng1_ok, rng2_ok, mFor, listOf, tupOf, wI, addW, subW, mod_ok, div_ok, mul_r, negW, ltW, leW, gtW, geW, ixSeq, seqW, at_0, at_1, at_2, at_3, at_4, at_5, at_6, at_7, at_8, at_9, at_10, at_11, at_12, at_13, at_14, at_15, at_16, at_17, at_18, at_19, at_20, at_21, at_22, at_23, at_24, lenW, truW, isiW, tyW, tyD, kb_t_t, kb_t_l, kb_l_t, kb_l_l, kb_i_t, kb_i_l, kb_i_b, kb_i_i, kb_b_t, kb_b_l, kb_b_b, kb_b_i, kb_s_t, kb_s_l, kb_s_b, kb_s_i, kb_s_s, kb_n_t, kb_n_l, kb_n_b, mNewL, mAppend, datC, eqW, neW, eqB, nc_0, nc_1, nc_2, nc_3, nc_4, nc_5, nc_6, nc_7, nc_8, nc_9, nc_10, nc_11, nc_12, nc_13, nc_14, nc_15, nc_16, nc_17, nc_18, nc_19, nc_20, nc_21, nc_22, nc_23, nc_24, eqD_ii, eqD_ss, eqD_bb, isNW, notNW, min2W, max2W,
  List.map_cons, List.map_nil, List.map_map, List.length_cons, List.length_nil, List.length_map, List.length_append, List.cons_append, List.nil_append, List.append_nil, List.replicate, List.set_cons_zero, List.set_cons_succ, List.getElem?_cons_zero, List.getElem?_cons_succ, List.getElem?_nil, Option.bind_some, Option.bind, Option.map, if_true, if_false, Bool.false_eq_true, Bool.true_eq_false, ite_true, ite_false, reduceIte, Nat.reduceAdd, Nat.reduceSub, Nat.reduceEqDiff, Nat.reduceLT, Nat.reduceLeDiff, Int.reduceLT, Int.reduceLE, Int.reduceNeg, Int.reduceAdd, Int.reduceSub, Int.reduceMul, Int.reduceDiv, Int.reduceMod, Int.reduceToNat, Int.reducePow, Nat.reducePow, Bool.not_true, Bool.not_false, Bool.and_true, Bool.and_false, Bool.true_and, Bool.false_and, Bool.or_true, Bool.or_false, Bool.true_or, Bool.false_or, ifc_true, ifc_false, dec_true, dec_false, eq_self, and_self, and_true, true_and, or_true, true_or, sz0, sz1, sz2, sz3, sz4, sz5, sz6, sz7, sz8, sz9, sz10, sz11, sz12, sz13, sz14, sz15, sz16, sz17, sz18, sz19, sz20])
local macro_rules | `(tactic| walk_at "evl") => `(tactic| all_goals try simp only [runP, startR, endP, mSeq, mSet, mSkip, mAsg, mRet, mIf, mDrop, mPar, mInc, incW, mVar, mC, mOp, mUn, mCons, mNil, mCall, mCallP, mTup, mLst, mTst, mTru, mAnd, mOr, mNot, mAndV, mOrV, mNotV, mChain, boolOf, dats, dat, Re.bind, Re.out, gtName, gtTup, gtCons, gtNil, mForR, rng1_ok, rng2_ok, loopM, intsD, mFor, listOf, tupOf, wI, addW, subW, mod_ok, div_ok, mul_r, negW, ltW, leW, gtW, geW, ixSeq, seqW, at_0, at_1, at_2, at_3, at_4, at_5, at_6, at_7, at_8, at_9, at_10, at_11, at_12, at_13, at_14, at_15, at_16, at_17, at_18, at_19, at_20, at_21, at_22, at_23, at_24, lenW, truW, isiW, tyW, tyD, kb_t_t, kb_t_l, kb_l_t, kb_l_l, kb_i_t, kb_i_l, kb_i_b, kb_i_i, kb_b_t, kb_b_l, kb_b_b, kb_b_i, kb_s_t, kb_s_l, kb_s_b, kb_s_i, kb_s_s, kb_n_t, kb_n_l, kb_n_b, mNewL, mAppend, datC, eqW, neW, eqB, nc_0, nc_1, nc_2, nc_3, nc_4, nc_5, nc_6, nc_7, nc_8, nc_9, nc_10, nc_11, nc_12, nc_13, nc_14, nc_15, nc_16, nc_17, nc_18, nc_19, nc_20, nc_21, nc_22, nc_23, nc_24, eqD_ii, eqD_ss, eqD_bb, isNW, notNW, min2W, max2W,
  List.map_cons, List.map_nil, List.map_map, List.length_cons, List.length_nil, List.length_map, List.length_append, List.cons_append, List.nil_append, List.append_nil, List.replicate, List.set_cons_zero, List.set_cons_succ, List.getElem?_cons_zero, List.getElem?_cons_succ, List.getElem?_nil, Option.bind_some, Option.bind, Option.map, if_true, if_false, Bool.false_eq_true, Bool.true_eq_false, ite_true, ite_false, reduceIte, Nat.reduceAdd, Nat.reduceSub, Nat.reduceEqDiff, Nat.reduceLT, Nat.reduceLeDiff, Int.reduceLT, Int.reduceLE, Int.reduceNeg, Int.reduceAdd, Int.reduceSub, Int.reduceMul, Int.reduceDiv, Int.reduceMod, Int.reduceToNat, Int.reducePow, Nat.reducePow, Bool.not_true, Bool.not_false, Bool.and_true, Bool.and_false, Bool.true_and, Bool.false_and, Bool.or_true, Bool.or_false, Bool.true_or, Bool.false_or, ifc_true, ifc_false, dec_true, dec_false, eq_self, and_self, and_true, true_and, or_true, true_or, sz0, sz1, sz2, sz3, sz4, sz5, sz6, sz7, sz8, sz9, sz10, sz11, sz12, sz13, sz14, sz15, sz16, sz17, sz18, sz19, sz20])
local macro_rules | `(tactic| walk_at "evh") => `(tactic| all_goals try simp only [*, not_true_eq_false, not_false_eq_true, Bool.false_eq_true, Bool.true_eq_false, runP, startR, endP, mSeq, mSet, mSkip, mAsg, mRet, mIf, mDrop, mPar, mInc, incW, mVar, mC, mOp, mUn, mCons, mNil, mCall, mCallP, mTup, mLst, mTst, mTru, mAnd, mOr, mNot, mAndV, mOrV, mNotV, mChain, boolOf, dats, dat, Re.bind, Re.out, gtName, gtTup, gtCons, gtNil, mForR, rng1_ok, rng2_ok, mFor, listOf, tupOf, wI, addW, subW, mod_ok, div_ok, mul_r, negW, ltW, leW, gtW, geW, ixSeq, seqW, at_0, at_1, at_2, at_3, at_4, at_5, at_6, at_7, at_8, at_9, at_10, at_11, at_12, at_13, at_14, at_15, at_16, at_17, at_18, at_19, at_20, at_21, at_22, at_23, at_24, lenW, truW, isiW, tyW, tyD, kb_t_t, kb_t_l, kb_l_t, kb_l_l, kb_i_t, kb_i_l, kb_i_b, kb_i_i, kb_b_t, kb_b_l, kb_b_b, kb_b_i, kb_s_t, kb_s_l, kb_s_b, kb_s_i, kb_s_s, kb_n_t, kb_n_l, kb_n_b, mNewL, mAppend, datC, eqW, neW, eqB, nc_0, nc_1, nc_2, nc_3, nc_4, nc_5, nc_6, nc_7, nc_8, nc_9, nc_10, nc_11, nc_12, nc_13, nc_14, nc_15, nc_16, nc_17, nc_18, nc_19, nc_20, nc_21, nc_22, nc_23, nc_24, eqD_ii, eqD_ss, eqD_bb, isNW, notNW, min2W, max2W,
  List.map_cons, List.map_nil, List.map_map, List.length_cons, List.length_nil, List.length_map, List.length_append, List.cons_append, List.nil_append, List.append_nil, List.replicate, List.set_cons_zero, List.set_cons_succ, List.getElem?_cons_zero, List.getElem?_cons_succ, List.getElem?_nil, Option.bind_some, Option.bind, Option.map, if_true, if_false, Bool.false_eq_true, Bool.true_eq_false, ite_true, ite_false, reduceIte, Nat.reduceAdd, Nat.reduceSub, Nat.reduceEqDiff, Nat.reduceLT, Nat.reduceLeDiff, Int.reduceLT, Int.reduceLE, Int.reduceNeg, Int.reduceAdd, Int.reduceSub, Int.reduceMul, Int.reduceDiv, Int.reduceMod, Int.reduceToNat, Int.reducePow, Nat.reducePow, Bool.not_true, Bool.not_false, Bool.and_true, Bool.and_false, Bool.true_and, Bool.false_and, Bool.or_true, Bool.or_false, Bool.true_or, Bool.false_or, ifc_true, ifc_false, dec_true, dec_false, eq_self, and_self, and_true, true_and, or_true, true_or, sz0, sz1, sz2, sz3, sz4, sz5, sz6, sz7, sz8, sz9, sz10, sz11, sz12, sz13, sz14, sz15, sz16, sz17, sz18, sz19, sz20])
abbrev iW (i : Int) : W := .da (.int i)
abbrev rowC (row : List Int) : Cell := .lst (row.map iW)
theorem dats_da : ∀ ds : List D, dats (ds.map .da) = .ok ds
  | [] => rfl
  | x :: r => by simp [dats, dat, Re.bind, dats_da r]
theorem dats_ints : ∀ row : List Int, dats (row.map iW) = .ok (row.map .int)
  | [] => rfl
  | x :: r => by simp [dats, dat, Re.bind, dats_ints r]
theorem law_end {K : PySem.W.Frag} {H : Hp} {a : Addr} {ns : List Int} {cl : Str → Option Addr} {p : List D → Re D} (hS : SqL K H a (ns.map V.int)) (h : p [.lst false (ns.map .int)] = .ok (.bl true)) : SpP K cl p [.ref a] H (fun v _ => v = .bl true) fun _ _ _ => False := by
  have rl : ∀ ns : List Int, RpL K cl H (ns.map .int) (ns.map V.int) := fun ns => by
    induction ns with
    | nil => exact rfl
    | cons x r ih => exact ⟨_, _, rfl, rfl, ih⟩
  refine ⟨H, [.lst false (ns.map .int)], (Ex.refl H).xt, ⟨_, _, rfl, ⟨a, ns.map V.int, rfl, hS, rl ns⟩, rfl⟩, ?_⟩
  rw [h]
  exact fun v F' H' _ r => r
/-- the end: the law's plain function tells True of every script -/
theorem walk_ng {l : PySem.W.OpenLaw} {q : Program} {loose : List Str} {XP : (Str → Option Value) → Heap → Prop} {YP : World → Heap → Prop} {d : DefRec} {K : Params → PySem.W.Frag} {k : Nat} {x : Str} {p : List D → Re D}
    (hn : l.most = some 63) (hdf : d.params.defaults = []) (hr : Room k callerA) (hY : ∀ (w : World) (h : Heap), YP w h → (K w.params).In h)
    (F : ∀ (w : World) (mg : Str → Option Value) (fa : Addr) (h : Heap), (K w.params).In h → h.Ns mainGlobals mg → mg d.name = some (.ref fa) →
      ∃ fd : FuncData, (∀ (s : Shared) (u : Value), BindsTo s fd ⟨[u], []⟩ [(x, u)]) ∧ ∀ base : Heap, (K w.params).In base → base.Ns mainGlobals mg → FnOk l.prog w (K w.params) mg base (L2.CX l.prog w) k fa fd [x] (SpP (K w.params) (clOf (K w.params)) p))
    (hp : ∀ ns : List Int, ns.length ≤ 63 → p [.lst false (ns.map .int)] = .ok (.bl true)) : PySem.W.WalkO q loose XP YP l.row.toRowW d [] (fun f vs => PySem.call f vs) :=
  L2.walk_of (n := 63) (k := k) (x := x) (CX := fun w => L2.CX l.prog w) (sp := fun w => SpP (K w.params) (clOf (K w.params)) p) hn (by decide) hdf hr hY F (fun w H a ns hl _ hS => law_end hS (hp ns hl)) (fun _ _ _ _ _ h => by
    obtain ⟨_, _, _, _, _, _, _, _, _, _, _, _, z⟩ := h
    exact z)
theorem mSeq_nx {a b : MS} {r r' : Rho} {s s' : Sto} (h : a r s = .nx r' s') : mSeq a b r s = b r' s' := by
  unfold mSeq
  rw [h]
theorem mSeq_rt {a b : MS} {r : Rho} {s s' : Sto} {w : W} (h : a r s = .rt w s') : mSeq a b r s = .rt w s' := by
  unfold mSeq
  rw [h]
theorem mIf_t {t : MT} {a b : MS} {r : Rho} {s : Sto} (h : t r s = .ok true) : mIf t a b r s = a r s := by
  unfold mIf
  rw [h]
  rfl
theorem mIf_f {t : MT} {a b : MS} {r : Rho} {s : Sto} (h : t r s = .ok false) : mIf t a b r s = b r s := by
  unfold mIf
  rw [h]
  rfl
/-- a loop that goes through, by what holds between its turns -/
theorem loop_inv {g : MG} {body : MS} {I : Rho → Sto → Prop} : ∀ (ds : List D) (r : Rho) (s : Sto), (∀ d ∈ ds, ∀ r s, I r s → ∃ r1, g (.da d) r = some r1 ∧ ∃ r2 s2, body r1 s = .nx r2 s2 ∧ I r2 s2) → I r s → ∃ r' s', loopM g body ds r s = .nx r' s' ∧ I r' s'
  | [], r, s, _, h => ⟨r, s, rfl, h⟩
  | d :: ds, r, s, hs, h => by
    obtain ⟨r1, e1, r2, s2, e2, h2⟩ := hs d (List.mem_cons_self) r s h
    obtain ⟨r', s', e3, h3⟩ := loop_inv ds r2 s2 (fun x hx => hs x (List.mem_cons_of_mem _ hx)) h2
    refine ⟨r', s', ?_, h3⟩
    unfold loopM
    rw [e1]
    simp only [e2]
    exact e3
theorem mem_ints : ∀ (n : Nat) (lo : Int) (d : D), d ∈ intsD lo n → ∃ t : Int, d = .int t ∧ lo ≤ t ∧ t < lo + n
  | 0, lo, d, h => by cases h
  | n + 1, lo, d, h => by
    rcases List.mem_cons.mp h with rfl | h
    · exact ⟨lo, rfl, Int.le_refl _, by omega⟩
    · obtain ⟨t, e, h1, h2⟩ := mem_ints n (lo + 1) d h
      exact ⟨t, e, by omega, by omega⟩
/-! ### the draws: so many numbers from 0 to 1012, whatever the script is -/
theorem c_draws_0 (sc at_ : W) (many cell seed : Int) (row : List Int) : c_l_draws_0 [some sc, some at_, some (iW many), some (iW cell), some (iW seed), some (.lo 0), none] [rowC row] = .ok (dec (0 < cell) && dec ((row.length : Int) < many)) := by
  unfold c_l_draws_0
  walk_at "ev"
  by_cases h : 0 < cell
  · rw [dec_pos h]; rfl
  · rw [dec_neg h]; rfl
theorem b_draws_1 (sc at_ : W) (many cell seed : Int) (row : List Int) (h : row.length < 100000) : b_l_draws_1 [some sc, some at_, some (iW many), some (iW cell), some (iW seed), some (.lo 0), none] [rowC row] =
    .nx [some sc, some at_, some (iW many), some (iW (cell / 1013)), some (iW seed), some (.lo 0), none] [rowC (row ++ [cell % 1013])] := by
  have h2 := sz_lt h
  unfold b_l_draws_1
  walk_at "ev"
  simp only [h2, ifc_true]
  walk_at "ev"
  simp only [rowC, List.map_append, List.map_cons, List.map_nil]
theorem wh_draws_1 (sc at_ : W) (many seed : Int) (hm : many ≤ 1000) : ∀ (n : Nat) (cell : Int) (row : List Int), 0 ≤ cell → (row.length : Int) + n = many → (∀ x ∈ row, 0 ≤ x ∧ x < 1013) →
    ∃ cell' row', whileN c_l_draws_0 b_l_draws_1 (n + 1) [some sc, some at_, some (iW many), some (iW cell), some (iW seed), some (.lo 0), none] [rowC row] = .nx [some sc, some at_, some (iW many), some (iW cell'), some (iW seed), some (.lo 0), none] [rowC row'] ∧ (row'.length : Int) ≤ many ∧ ∀ x ∈ row', 0 ≤ x ∧ x < 1013
  | n, cell, row, hc, hl, hr => by
    unfold whileN
    rw [c_draws_0]
    by_cases h1 : 0 < cell ∧ (row.length : Int) < many
    · cases n with
      | zero => omega
      | succ n =>
        have hx : ∀ x ∈ row ++ [cell % 1013], 0 ≤ x ∧ x < 1013 := by
          intro x hx
          rcases List.mem_append.mp hx with z | z
          · exact hr x z
          · simp at z; subst z; omega
        obtain ⟨c', r', e, h3, h4⟩ := wh_draws_1 sc at_ many seed hm n (cell / 1013) (row ++ [cell % 1013]) (Int.ediv_nonneg hc (by decide)) (by simp; omega) hx
        refine ⟨c', r', ?_, h3, h4⟩
        simp only [dec_pos h1.1, dec_pos h1.2, Bool.and_self]
        rw [b_draws_1 _ _ _ _ _ _ (by omega)]
        exact e
    · refine ⟨cell, row, ?_, by omega, hr⟩
      have hf : (dec (0 < cell) && dec ((row.length : Int) < many)) = false := by
        rw [Bool.and_eq_false_iff]
        by_cases h2 : 0 < cell
        · right; exact dec_neg (fun z => h1 ⟨h2, z⟩)
        · left; exact dec_neg h2
      rw [hf]
theorem c_draws_2 (sc at_ : W) (many cell seed : Int) (mk : Option W) (row : List Int) : c_l_draws_2 [some sc, some at_, some (iW many), some (iW cell), some (iW seed), some (.lo 0), mk] [rowC row] = .ok (dec ((row.length : Int) < many)) := by
  unfold c_l_draws_2
  walk_at "ev"
theorem b_draws_z (sc at_ : W) (many cell seed z : Int) (row : List Int) (h : row.length < 100000) (z1 : -1000000000 < z) (z2 : z < 1000000000) : ∃ seed' x, (mSeq (mSet 4 (mOp modW (mOp addW (mOp addW (mOp mulW (mVar 4) (mC (.int 48271))) (mOp mulW (mOp mulW (mVar 6) (mVar 6)) (mC (.int 6133)))) (mC (.int 17))) (mC (.int 2147483647)))) (mAppend 5 (mOp modW (mOp modW (mOp mulW (mOp modW (mVar 4) (mC (.int 65521))) (mOp addW (mOp modW (mOp divW (mVar 4) (mC (.int 65521))) (mC (.int 32749))) (mC (.int 1)))) (mC (.int 1000003))) (mC (.int 1013))))) [some sc, some at_, some (iW many), some (iW cell), some (iW seed), some (.lo 0), some (iW z)] [rowC row] =
    .nx [some sc, some at_, some (iW many), some (iW cell), some (iW seed'), some (.lo 0), some (iW z)] [rowC (row ++ [x])] ∧ 0 ≤ x ∧ x < 1013 := by
  have h3 : row.length < sizeLine := sz_lt h
  have h4 := mul_l z z [rowC row] z1 z2
  have h5 : ∀ s : Int, mulW (.da (.int (s % 65521))) (.da (.int (s / 65521 % 32749 + 1))) [rowC row] = .ok (.da (.int (s % 65521 * (s / 65521 % 32749 + 1)))) := fun s => mul_l _ _ _ (by omega) (by omega)
  have e2 : ∃ s, mSet 4 (mOp modW (mOp addW (mOp addW (mOp mulW (mVar 4) (mC (.int 48271))) (mOp mulW (mOp mulW (mVar 6) (mVar 6)) (mC (.int 6133)))) (mC (.int 17))) (mC (.int 2147483647))) [some sc, some at_, some (iW many), some (iW cell), some (iW seed), some (.lo 0), some (iW z)] [rowC row] =
      .nx [some sc, some at_, some (iW many), some (iW cell), some (iW s), some (.lo 0), some (iW z)] [rowC row] := by
    refine ⟨(seed * 48271 + z * z * 6133 + 17) % 2147483647, ?_⟩
    walk_at "ev"
    simp only [h4]
    walk_at "ev"
  obtain ⟨s, e2⟩ := e2
  have e3 : mAppend 5 (mOp modW (mOp modW (mOp mulW (mOp modW (mVar 4) (mC (.int 65521))) (mOp addW (mOp modW (mOp divW (mVar 4) (mC (.int 65521))) (mC (.int 32749))) (mC (.int 1)))) (mC (.int 1000003))) (mC (.int 1013))) [some sc, some at_, some (iW many), some (iW cell), some (iW s), some (.lo 0), some (iW z)] [rowC row] =
      .nx [some sc, some at_, some (iW many), some (iW cell), some (iW s), some (.lo 0), some (iW z)] [rowC (row ++ [s % 65521 * (s / 65521 % 32749 + 1) % 1000003 % 1013])] := by
    walk_at "ev"
    simp only [h5]
    walk_at "ev"
    simp only [h3, ifc_true, rowC, List.map_append, List.map_cons, List.map_nil]
  exact ⟨s, _, (mSeq_nx e2).trans e3, Int.emod_nonneg _ (by decide), Int.emod_lt_of_pos _ (by decide)⟩
theorem b_draws_3 (sc at_ : W) (many cell seed : Int) (mk : Option W) (row : List Int) (h : row.length < 100000) : ∃ seed' mk' x, b_l_draws_3 [some sc, some at_, some (iW many), some (iW cell), some (iW seed), some (.lo 0), mk] [rowC row] =
    .nx [some sc, some at_, some (iW many), some (iW cell), some (iW seed'), some (.lo 0), mk'] [rowC (row ++ [x])] ∧ 0 ≤ x ∧ x < 1013 := by
  have e1 : ∃ z, mSet 6 (mOp addW (mCall lenW (mCons (mVar 5) mNil)) (mC (.int 1))) [some sc, some at_, some (iW many), some (iW cell), some (iW seed), some (.lo 0), mk] [rowC row] = .nx [some sc, some at_, some (iW many), some (iW cell), some (iW seed), some (.lo 0), some (iW z)] [rowC row] ∧ -1000000000 < z ∧ z < 1000000000 := by
    refine ⟨(row.length : Int) + 1, ?_, by omega, by omega⟩
    walk_at "ev"
  obtain ⟨z, e1, z1, z2⟩ := e1
  obtain ⟨s, x, e2, h1, h2⟩ := b_draws_z sc at_ many cell seed z row h z1 z2
  exact ⟨s, some (iW z), x, (mSeq_nx e1).trans e2, h1, h2⟩
theorem wh_draws_3 (sc at_ : W) (many cell : Int) (hm : many ≤ 1000) : ∀ (n : Nat) (seed : Int) (mk : Option W) (row : List Int), (row.length : Int) + n = many → (∀ x ∈ row, 0 ≤ x ∧ x < 1013) →
    ∃ seed' mk' row', whileN c_l_draws_2 b_l_draws_3 (n + 1) [some sc, some at_, some (iW many), some (iW cell), some (iW seed), some (.lo 0), mk] [rowC row] = .nx [some sc, some at_, some (iW many), some (iW cell), some (iW seed'), some (.lo 0), mk'] [rowC row'] ∧ (row'.length : Int) = many ∧ ∀ x ∈ row', 0 ≤ x ∧ x < 1013
  | n, seed, mk, row, hl, hr => by
    unfold whileN
    rw [c_draws_2]
    cases n with
    | zero =>
      refine ⟨seed, mk, row, ?_, by omega, hr⟩
      rw [dec_neg (by omega : ¬ (row.length : Int) < many)]
    | succ n =>
      obtain ⟨s', k', x, e, h1, h2⟩ := b_draws_3 sc at_ many cell seed mk row (by omega)
      have hx : ∀ y ∈ row ++ [x], 0 ≤ y ∧ y < 1013 := by
        intro y hy
        rcases List.mem_append.mp hy with z | z
        · exact hr y z
        · simp at z; subst z; exact ⟨h1, h2⟩
      obtain ⟨s2, k2, r2, e2, h3, h4⟩ := wh_draws_3 sc at_ many cell hm n s' k' (row ++ [x]) (by simp; omega) hx
      refine ⟨s2, k2, r2, ?_, h3, h4⟩
      rw [dec_pos (by omega : (row.length : Int) < many)]
      simp only [e]
      exact e2
/-- a row of draws -/
def Drawn (n : Nat) (d : D) : Prop := ∃ row : List Int, row.length = n ∧ (∀ x ∈ row, 0 ≤ x ∧ x < 1013) ∧ d = .lst true (row.map .int)
theorem draws_from (sc at_ : W) (many cell seed : Int) (h0 : 0 ≤ many) (hm : many ≤ 1000) : ∃ d, Drawn many.toNat d ∧
    endP ((mSeq (mNewL 5 mNil) (mSeq (mIf (mTst (mOp geW (mVar 3) (mOp powW (mC (.int 10)) (mC (.int 18))))) (mWhile c_l_draws_0 b_l_draws_1) mSkip) (mSeq (mWhile c_l_draws_2 b_l_draws_3) (mRet (mVar 5)))))
      [some sc, some at_, some (iW many), some (iW cell), some (iW seed), none, none] []) = .ok d := by
  have hp := pow_ok 10 18 [rowC []] (by decide) (by decide) (by decide)
  have fin : ∀ (cell : Int) (row : List Int), (row.length : Int) ≤ many → (∀ x ∈ row, 0 ≤ x ∧ x < 1013) → ∃ d, Drawn many.toNat d ∧ endP ((mSeq (mWhile c_l_draws_2 b_l_draws_3) (mRet (mVar 5))) [some sc, some at_, some (iW many), some (iW cell), some (iW seed), some (.lo 0), none] [rowC row]) = .ok d := by
    intro cell row hl hr
    obtain ⟨s', k', r', e, h1, h2⟩ := wh_draws_3 sc at_ many cell hm (many - row.length).toNat seed none row (by omega) hr
    refine ⟨.lst true (r'.map .int), ⟨r', by omega, h2, rfl⟩, ?_⟩
    have hw := mWhile_of _ (by rw [e]; intro z; cases z)
    rw [e] at hw
    show endP (match mWhile c_l_draws_2 b_l_draws_3 _ _ with | .nx ρ' S' => mRet (mVar 5) ρ' S' | o => o) = _
    rw [hw]
    simp [mRet, mVar, Re.out, endP, datC, dats_ints]
  have e1 : mNewL 5 mNil [some sc, some at_, some (iW many), some (iW cell), some (iW seed), none, none] [] = .nx [some sc, some at_, some (iW many), some (iW cell), some (iW seed), some (.lo 0), none] [rowC []] := by
    walk_at "ev"
    rfl
  have e2 : mTst (mOp geW (mVar 3) (mOp powW (mC (.int 10)) (mC (.int 18)))) [some sc, some at_, some (iW many), some (iW cell), some (iW seed), some (.lo 0), none] [rowC []] = .ok (dec ((10 : Int) ^ 18 ≤ cell)) := by
    unfold mTst mOp
    simp only [mVar, mC, Re.bind, List.getElem?_cons_succ, List.getElem?_cons_zero, hp]
    rfl
  rw [mSeq_nx e1]
  by_cases hc : (10 : Int) ^ 18 ≤ cell
  · rw [dec_pos hc] at e2
    obtain ⟨c', r', e, h1, h2⟩ := wh_draws_1 sc at_ many seed hm many.toNat cell [] (Int.le_trans (by decide) hc) (by simp; omega) (by simp)
    obtain ⟨d, hd, e3⟩ := fin c' r' h1 h2
    refine ⟨d, hd, ?_⟩
    have hw := mWhile_of _ (by rw [e]; intro z; cases z)
    rw [e] at hw
    rw [mSeq_nx ((mIf_t e2).trans hw)]
    exact e3
  · rw [dec_neg hc] at e2
    obtain ⟨d, hd, e3⟩ := fin cell [] (by simpa using h0) (by simp)
    refine ⟨d, hd, ?_⟩
    rw [mSeq_nx (r' := [some sc, some at_, some (iW many), some (iW cell), some (iW seed), some (.lo 0), none]) (s' := [rowC []]) (mIf_f (b := mSkip) e2)]
    exact e3
theorem draws_ok (g : Bool) (ns : List Int) (at_ many : Int) (ha : 0 ≤ at_) (ha2 : at_ ≤ 1000000) (h0 : 0 ≤ many) (hm : many ≤ 1000) (hn : ns.length ≤ 1000) : ∃ d, Drawn many.toNat d ∧ p_l_draws [.lst g (ns.map .int), .int at_, .int many] = .ok d := by
  have m1 := mul_l at_ at_ [] (by omega) (by omega)
  have m2 := mul_l 7 at_ [] (by decide) (by decide)
  have m3 := mul_l 31 at_ [] (by decide) (by decide)
  have first : ∃ cell : Int, mIf (mTst (mOp ltW (mVar 1) (mCall lenW (mCons (mVar 0) mNil)))) (mSet 3 (mOp ixSeq (mVar 0) (mVar 1))) (mIf (mTst (mOp gtW (mCall lenW (mCons (mVar 0) mNil)) (mC (.int 0)))) (mSet 3 (mOp addW (mOp addW (mOp modW (mOp ixSeq (mVar 0) (mOp modW (mVar 1) (mCall lenW (mCons (mVar 0) mNil)))) (mC (.int 999983))) (mOp mulW (mOp mulW (mVar 1) (mVar 1)) (mC (.int 97)))) (mC (.int 1)))) mSkip)
      [some (.da (.lst g (ns.map .int))), some (iW at_), some (iW many), some (iW (7 * at_ + 1)), none, none, none] [] = .nx [some (.da (.lst g (ns.map .int))), some (iW at_), some (iW many), some (iW cell), none, none, none] [] := by
    by_cases h1 : at_ < (ns.length : Int)
    · have hi : at_.toNat < ns.length := by omega
      refine ⟨ns[at_.toNat], ?_⟩
      refine (mIf_t (by walk_at "ev"; rw [dec_pos h1])).trans ?_
      walk_at "ev"
      rw [show atI (List.map (W.da ∘ D.int) ns) at_ = some (iW ns[at_.toNat]) by
        unfold atI ixN
        rw [if_pos ha, List.length_map, if_pos h1]
        simp [hi]]
    · by_cases h2 : (0 : Int) < (ns.length : Int)
      · have hq : 0 ≤ at_ % (ns.length : Int) := Int.emod_nonneg _ (by omega)
        have hq2 : at_ % (ns.length : Int) < (ns.length : Int) := Int.emod_lt_of_pos _ h2
        have hi : (at_ % (ns.length : Int)).toNat < ns.length := by omega
        refine ⟨ns[(at_ % (ns.length : Int)).toNat] % 999983 + at_ * at_ * 97 + 1, ?_⟩
        have hm3 := mod_ok at_ (ns.length : Int) [] h2
        refine (mIf_f (by walk_at "ev"; rw [dec_neg h1])).trans ?_
        refine (mIf_t (by walk_at "ev"; rw [dec_pos h2])).trans ?_
        walk_at "ev"
        simp only [hm3]
        rw [show atI (List.map (W.da ∘ D.int) ns) (at_ % (ns.length : Int)) = some (iW ns[(at_ % (ns.length : Int)).toNat]) by
          unfold atI ixN
          rw [if_pos hq, List.length_map, if_pos hq2]
          simp [hi]]
        simp only [m1]
        walk_at "ev"
      · refine ⟨7 * at_ + 1, ?_⟩
        refine (mIf_f (by walk_at "ev"; rw [dec_neg h1])).trans ?_
        exact mIf_f (by walk_at "ev"; rw [dec_neg h2])
  obtain ⟨cell, e1⟩ := first
  obtain ⟨d, hd, e2⟩ := draws_from (.da (.lst g (ns.map .int))) (iW at_) many cell (cell % 999983 + 31 * at_ + 5) h0 hm
  refine ⟨d, hd, ?_⟩
  unfold p_l_draws m_l_draws
  have s0 : mSet 3 (mOp addW (mOp mulW (mC (.int 7)) (mVar 1)) (mC (.int 1))) [some (.da (.lst g (ns.map .int))), some (iW at_), some (iW many), none, none, none, none] [] = .nx [some (.da (.lst g (ns.map .int))), some (iW at_), some (iW many), some (iW (7 * at_ + 1)), none, none, none] [] := by
    walk_at "ev"
    simp only [m2]
  have s2 : mSet 4 (mOp addW (mOp addW (mOp modW (mVar 3) (mC (.int 999983))) (mOp mulW (mC (.int 31)) (mVar 1))) (mC (.int 5))) [some (.da (.lst g (ns.map .int))), some (iW at_), some (iW many), some (iW cell), none, none, none] [] = .nx [some (.da (.lst g (ns.map .int))), some (iW at_), some (iW many), some (iW cell), some (iW (cell % 999983 + 31 * at_ + 5)), none, none] [] := by
    walk_at "ev"
    simp only [m3]
  show (if _ = 3 then _ else _) = _
  rw [if_pos (show [D.lst g (List.map D.int ns), D.int at_, D.int many].length = 3 from rfl)]
  rw [show startR 7 [D.lst g (List.map D.int ns), D.int at_, D.int many] = [some (.da (.lst g (ns.map .int))), some (iW at_), some (iW many), none, none, none, none] from rfl]
  rw [mSeq_nx s0, mSeq_nx e1, mSeq_nx s2]
  exact e2
/-! ### numbers far and near: some number -/
theorem far_ok (a b : Int) (ha : 0 ≤ a) (ha2 : a < 1013) (hb : 0 ≤ b) (hb2 : b < 1013) : ∃ r, p_l_far [.int a, .int b] = .ok (.int r) := by
  have hp := pow_ok 10 27 [] (by decide) (by decide) (by decide)
  have hm : ∀ j, mulW (.da (.int (b - 506))) (.da (.int j)) [] = .ok (.da (.int ((b - 506) * j))) := fun j => mul_l _ _ _ (by omega) (by omega)
  unfold p_l_far m_l_far
  by_cases h1 : a % 5 < 3
  · refine ⟨a / 5 % 13 - 6, ?_⟩
    walk_at "evh"
  · by_cases h2 : a % 5 = 3
    · refine ⟨a * 1013 + b - 513000, ?_⟩
      walk_at "evh"
    · refine ⟨(b - 506) * (10 ^ Int.toNat 27) + a, ?_⟩
      walk_at "evh"
/-! ### turns and motions, by the program and by the law -/
def turnP (t : Int) (x y : Int) : Int × Int :=
  if t = 0 then (x, y) else if t = 1 then (-y, x) else if t = 2 then (-x, -y) else if t = 3 then (y, -x)
  else if t = 4 then (-x, y) else if t = 5 then (-y, -x) else if t = 6 then (x, -y) else (y, x)
theorem turn8 {t : Int} (h0 : 0 ≤ t) (h7 : t ≤ 7) : t = 0 ∨ t = 1 ∨ t = 2 ∨ t = 3 ∨ t = 4 ∨ t = 5 ∨ t = 6 ∨ t = 7 := by omega
theorem turn_add (t x y r u : Int) (h0 : 0 ≤ t) (h7 : t ≤ 7) : turnP t (x + r) (y + u) = ((turnP t x y).1 + (turnP t r u).1, (turnP t x y).2 + (turnP t r u).2) := by
  rcases turn8 h0 h7 with rfl | rfl | rfl | rfl | rfl | rfl | rfl | rfl <;> simp [turnP] <;> omega
theorem turned_eq (t x y : Int) (g : Bool) (h0 : 0 ≤ t) (h7 : t ≤ 7) : p_turned [.int t, .tup g [.int x, .int y]] = .ok (.tup true [.int (turnP t x y).1, .int (turnP t x y).2]) := by
  unfold p_turned m_turned
  rcases turn8 h0 h7 with rfl | rfl | rfl | rfl | rfl | rfl | rfl | rfl <;> (unfold b_turned_0; walk_at "evl"; simp [turnP, mod_ok])
theorem l_turned_eq (t x y : Int) (h0 : 0 ≤ t) (h7 : t ≤ 7) : p_l_turned [.int t, .int x, .int y] = .ok (.tup true [.int (turnP t x y).1, .int (turnP t x y).2]) := by
  unfold p_l_turned m_l_turned
  rcases turn8 h0 h7 with rfl | rfl | rfl | rfl | rfl | rfl | rfl | rfl <;> (walk_at "ev"; simp [turnP, sizeLine_eq])
theorem l_moved_eq (t r u x y : Int) (g g2 : Bool) (h0 : 0 ≤ t) (h7 : t ≤ 7) : p_l_moved [.tup g [.int t, .int r, .int u], .tup g2 [.int x, .int y]] = .ok (.tup true [.int ((turnP t x y).1 + r), .int ((turnP t x y).2 + u)]) := by
  unfold p_l_moved m_l_moved
  walk_at "ev"
  simp only [l_turned_eq t x y h0 h7]
  walk_at "ev"
/-! ### == of small tuples -/
theorem eqD_t2 (a b c d : Int) (g g2 : Bool) : eqD (.tup g [.int a, .int b]) (.tup g2 [.int c, .int d]) = .ok (a == c && b == d) := by
  show ifc (SeqAt.shaped (toPy (.tup g [.int a, .int b])) = true ∧ SeqAt.shaped (toPy (.tup g2 [.int c, .int d])) = true) (Re.ok (PyData.eqv (toPy (.tup g [.int a, .int b])) (toPy (.tup g2 [.int c, .int d])))) .stuck = _
  rw [ifc_pos ⟨by rfl, by rfl⟩]
  simp [toPy, toPyL, PyData.eqv, PyData.eqvAll]
theorem l_motion_at (x0 x1 x2 x3 x4 : Int) (g : Bool) (row : List D) (k : Int) (h0 : atI (row.map W.da) k = some (iW x0)) (h1 : atI (row.map W.da) (k + 1) = some (iW x1)) (h2 : atI (row.map W.da) (k + 2) = some (iW x2)) (h3 : atI (row.map W.da) (k + 3) = some (iW x3)) (h4 : atI (row.map W.da) (k + 4) = some (iW x4))
    (b0 : 0 ≤ x0 ∧ x0 < 1013) (b1 : 0 ≤ x1 ∧ x1 < 1013) (b2 : 0 ≤ x2 ∧ x2 < 1013) (b3 : 0 ≤ x3 ∧ x3 < 1013) (b4 : 0 ≤ x4 ∧ x4 < 1013) :
    ∃ t r u, p_l_motion [.lst g row, .int k] = .ok (.tup true [.int t, .int r, .int u]) ∧ 0 ≤ t ∧ t ≤ 7 := by
  obtain ⟨r, er⟩ := far_ok x1 x2 b1.1 b1.2 b2.1 b2.2
  obtain ⟨u, eu⟩ := far_ok x3 x4 b3.1 b3.2 b4.1 b4.2
  refine ⟨x0 % 8, r, u, ?_, by omega, by omega⟩
  unfold p_l_motion m_l_motion
  walk_at "ev"
  simp only [h0, h1, h2, h3, h4]
  walk_at "ev"
  simp only [er, eu]
  walk_at "ev"
theorem l_is_motion_ok (t r u : Int) (g : Bool) (h0 : 0 ≤ t) (h7 : t ≤ 7) : p_l_is_motion [.tup g [.int t, .int r, .int u]] = .ok (.bl true) := by
  unfold p_l_is_motion m_l_is_motion b_l_is_motion_0
  walk_at "evl"
  all_goals try simp only [h0, h7]
  walk_at "evl"
def tbP (t1 t2 : Int) : Int := ((if 4 ≤ t2 then -(t1 % 4) else t1 % 4) + t2) % 4 + 4 * ((t1 / 4 + t2 / 4) % 2)
theorem tb_range (t1 t2 : Int) : 0 ≤ tbP t1 t2 ∧ tbP t1 t2 ≤ 7 := by unfold tbP; omega
theorem turn_behind_eq (t1 t2 : Int) : p_turn_behind [.int t1, .int t2] = .ok (.int (tbP t1 t2)) := by
  have hm : ∀ z : Int, mulW (.da (.int 4)) (.da (.int z)) [] = .ok (.da (.int (4 * z))) := fun z => mul_l _ _ _ (by decide) (by decide)
  unfold p_turn_behind m_turn_behind tbP
  by_cases h : 4 ≤ t2
  · walk_at "ev"
    simp only [h, dec_true, if_true]
    walk_at "ev"
    simp only [hm]
    walk_at "ev"
  · walk_at "ev"
    simp only [h, dec_false, if_false, Bool.false_eq_true]
    walk_at "ev"
    simp only [hm]
    walk_at "ev"
theorem behind_eq (t1 r1 u1 t2 r2 u2 : Int) (g g2 : Bool) (h0 : 0 ≤ t2) (h7 : t2 ≤ 7) : p_behind [.tup g [.int t1, .int r1, .int u1], .tup g2 [.int t2, .int r2, .int u2]] = .ok (.tup true [.int (tbP t1 t2), .int ((turnP t2 r1 u1).1 + r2), .int ((turnP t2 r1 u1).2 + u2)]) := by
  unfold p_behind m_behind
  walk_at "ev"
  simp only [turned_eq t2 r1 u1 true h0 h7]
  walk_at "ev"
  simp only [turn_behind_eq]
  walk_at "ev"
theorem turn_turn (t1 t2 x y : Int) (h0 : 0 ≤ t1) (h7 : t1 ≤ 7) (k0 : 0 ≤ t2) (k7 : t2 ≤ 7) : turnP (tbP t1 t2) x y = turnP t2 (turnP t1 x y).1 (turnP t1 x y).2 := by
  rcases turn8 h0 h7 with rfl | rfl | rfl | rfl | rfl | rfl | rfl | rfl <;> rcases turn8 k0 k7 with rfl | rfl | rfl | rfl | rfl | rfl | rfl | rfl <;> simp [turnP, tbP]
def bkP (t : Int) : Int := if 4 ≤ t then t else (4 - t) % 4
theorem bk_range (t : Int) (h0 : 0 ≤ t) (h7 : t ≤ 7) : 0 ≤ bkP t ∧ bkP t ≤ 7 := by
  unfold bkP
  split <;> omega
theorem turn_back_eq (t : Int) : p_turn_back [.int t] = .ok (.int (bkP t)) := by
  unfold p_turn_back m_turn_back bkP
  by_cases h : 4 ≤ t
  · walk_at "ev"
    all_goals try simp only [h]
    walk_at "ev"
  · walk_at "ev"
    all_goals try simp only [h]
    walk_at "ev"
theorem back_eq (t r u : Int) (g : Bool) (h0 : 0 ≤ t) (h7 : t ≤ 7) : p_back [.tup g [.int t, .int r, .int u]] = .ok (.tup true [.int (bkP t), .int (-(turnP (bkP t) r u).1), .int (-(turnP (bkP t) r u).2)]) := by
  have hb := bk_range t h0 h7
  unfold p_back m_back
  walk_at "ev"
  iterate 3 (all_goals try simp only [turn_back_eq, turned_eq (bkP t) r u true hb.1 hb.2]; walk_at "ev")
theorem turn_bk (t x y : Int) (h0 : 0 ≤ t) (h7 : t ≤ 7) : turnP (bkP t) (turnP t x y).1 (turnP t x y).2 = (x, y) := by
  rcases turn8 h0 h7 with rfl | rfl | rfl | rfl | rfl | rfl | rfl | rfl <;> simp [turnP, bkP]
/-! ### the very same -/
def Sm : Nat → D → D → Prop
  | 0, _, _ => False
  | n + 1, a, b => match a, b with
    | .non, .non => True
    | .bl x, .bl y => x = y
    | .int x, .int y => x = y
    | .str x, .str y => x = y
    | .tup _ xs, .tup _ ys => xs.length = ys.length ∧ xs.length ≤ 100000 ∧ ∀ (i : Nat) (x y : D), xs[i]? = some x → ys[i]? = some y → Sm n x y
    | .lst _ xs, .lst _ ys => xs.length = ys.length ∧ xs.length ≤ 100000 ∧ ∀ (i : Nat) (x y : D), xs[i]? = some x → ys[i]? = some y → Sm n x y
    | _, _ => False
/-- the loop over the places -/
theorem same_loop (p : List D → Re D) (a b : W) (xs ys : List D) (ha : seqW [] a = some (xs.map .da)) (hb : seqW [] b = some (ys.map .da)) (hl : xs.length = ys.length) (h : ∀ (i : Nat) (x y : D), xs[i]? = some x → ys[i]? = some y → p [x, y] = .ok (.bl true)) :
    ∀ (n k : Nat) (o : Option W), k + n = xs.length → ∃ o', loopM (gtName 2) (b_l_same_0 p) (intsD (k : Int) n) [some a, some b, o] [] = .nx [some a, some b, o'] []
  | 0, k, o, _ => ⟨o, rfl⟩
  | n + 1, k, o, hk => by
    have h1 : k < xs.length := by omega
    have h2 : k < ys.length := by omega
    have e1 : atI (xs.map W.da) (k : Int) = some (.da xs[k]) := by rw [atI_lit (W.da .non)]; simp [h1]
    have e2 : atI (ys.map W.da) (k : Int) = some (.da ys[k]) := by rw [atI_lit (W.da .non)]; simp [h2]
    have e3 := h k xs[k] ys[k] (by simp [h1]) (by simp [h2])
    obtain ⟨o', e⟩ := same_loop p a b xs ys ha hb hl h n (k + 1) (some (iW k)) (by omega)
    refine ⟨o', ?_⟩
    rw [← e]
    show loopM (gtName 2) (b_l_same_0 p) (.int (k : Int) :: intsD ((k : Int) + 1) n) _ _ = _
    have eb : b_l_same_0 p [some a, some b, some (iW k)] [] = .nx [some a, some b, some (iW k)] [] := by
      unfold b_l_same_0
      refine mIf_f ?_
      simp only [mNot, mTru, mCallP, mCons, mNil, mOp, mVar, Re.bind, List.getElem?_cons_zero, List.getElem?_cons_succ, ixSeq, ha, hb, e1, e2, dats, dat, e3, truW, Bool.not_true]
    rw [show loopM (gtName 2) (b_l_same_0 p) (.int (k : Int) :: intsD ((k : Int) + 1) n) [some a, some b, o] [] = (match b_l_same_0 p [some a, some b, some (iW k)] [] with
      | .nx ρ2 S2 => loopM (gtName 2) (b_l_same_0 p) (intsD ((k : Int) + 1) n) ρ2 S2
      | .ct ρ2 S2 => loopM (gtName 2) (b_l_same_0 p) (intsD ((k : Int) + 1) n) ρ2 S2
      | .bk ρ2 S2 => .nx ρ2 S2
      | .rt w S2 => .rt w S2
      | .ex x ρ2 S2 => .ex x ρ2 S2
      | .stuck => .stuck) from rfl, eb]
    rfl
theorem same_non (p : List D → Re D) : m_l_same p [some (.da .non), some (.da .non), none] [] = .rt (.da (.bl true)) [] := by
  unfold m_l_same
  walk_at "ev"
theorem same_bl (p : List D → Re D) (x : Bool) : m_l_same p [some (.da (.bl x)), some (.da (.bl x)), none] [] = .rt (.da (.bl true)) [] := by
  unfold m_l_same
  walk_at "ev"
theorem same_int (p : List D → Re D) (x : Int) : m_l_same p [some (.da (.int x)), some (.da (.int x)), none] [] = .rt (.da (.bl true)) [] := by
  unfold m_l_same
  walk_at "ev"
theorem same_str (p : List D → Re D) (x : Str) : m_l_same p [some (.da (.str x)), some (.da (.str x)), none] [] = .rt (.da (.bl true)) [] := by
  unfold m_l_same
  walk_at "ev"
theorem same_seq (p : List D → Re D) (a b : W) (xs ys : List D) (k : String) (ha : seqW [] a = some (xs.map .da)) (hb : seqW [] b = some (ys.map .da)) (ta : tyW [] a = some k) (tb : tyW [] b = some k) (hk : k = "tuple" ∨ k = "list") (hl : xs.length = ys.length) (hz : (xs.length : Int) ≤ 1000000) (h : ∀ (i : Nat) (x y : D), xs[i]? = some x → ys[i]? = some y → p [x, y] = .ok (.bl true)) :
    m_l_same p [some a, some b, none] [] = .rt (.da (.bl true)) [] := by
  obtain ⟨o', e⟩ := same_loop p a b xs ys ha hb hl h xs.length 0 none (by omega)
  have r1 : rng1 [iW (ys.length : Int)] = some (0, xs.length) := by
    rw [rng1_ok _ (by omega) (by omega), hl]
    rfl
  have f1 : (mForR rng1 (mCons (mCall lenW (mCons (mVar 1) mNil)) mNil) (gtName 2) (b_l_same_0 p)) [some a, some b, none] [] = .nx [some a, some b, o'] [] := by
    unfold mForR
    simp only [mCons, mCall, mVar, mNil, Re.bind, lenW, hb, List.getElem?_cons_zero, List.getElem?_cons_succ, List.length_map, Re.out, r1]
    exact e
  have t1 : mTru (mUn (isiW ["tuple", "list"]) (mVar 1)) [some a, some b, none] [] = .ok true := by
    unfold mTru mUn isiW
    rcases hk with rfl | rfl <;> simp only [mVar, Re.bind, tb, List.getElem?_cons_zero, List.getElem?_cons_succ, kb_t_t, kb_t_l, kb_l_t, kb_l_l, truW, Bool.or_false, Bool.or_true, Bool.true_or, Bool.false_or]
  have t2 : mOr (mTst (mOp neW (mUn (isiW ["tuple"]) (mVar 1)) (mUn (isiW ["tuple"]) (mVar 0)))) (mTst (mOp neW (mUn (isiW ["list"]) (mVar 1)) (mUn (isiW ["list"]) (mVar 0)))) [some a, some b, none] [] = .ok false := by
    unfold mOr mTst mOp mUn isiW
    rcases hk with rfl | rfl <;> simp only [mVar, Re.bind, ta, tb, List.getElem?_cons_zero, List.getElem?_cons_succ, kb_t_t, kb_t_l, kb_l_t, kb_l_l, neW, eqB, eqD, eq_self, dec_true, Bool.not_true, boolOf, Bool.false_eq_true, if_false]
  have t3 : mTst (mOp neW (mCall lenW (mCons (mVar 0) mNil)) (mCall lenW (mCons (mVar 1) mNil))) [some a, some b, none] [] = .ok false := by
    unfold mTst mOp mCall mCons mNil lenW
    simp only [mVar, Re.bind, ha, hb, List.getElem?_cons_zero, List.getElem?_cons_succ, List.length_map, hl, neW, eqB, eqD, eq_self, dec_true, Bool.not_true, boolOf]
  unfold m_l_same
  refine mSeq_rt ?_
  refine (mIf_t t1).trans ?_
  refine (mSeq_nx (r' := [some a, some b, none]) (s' := []) (mIf_f (b := mSkip) t2)).trans ?_
  refine (mSeq_nx (r' := [some a, some b, none]) (s' := []) (mIf_f (b := mSkip) t3)).trans ?_
  exact (mSeq_nx f1).trans rfl
theorem same_run (n : Nat) (a b : D) (h : m_l_same (p_l_same n) [some (.da a), some (.da b), none] [] = .rt (.da (.bl true)) []) : p_l_same (n + 1) [a, b] = .ok (.bl true) := by
  show (if [a, b].length = 2 then endP (m_l_same (p_l_same n) (startR 3 [a, b]) []) else .stuck) = _
  rw [if_pos (show [a, b].length = 2 from rfl), show startR 3 [a, b] = [some (.da a), some (.da b), none] from rfl, h]
  rfl
theorem same_ok : ∀ (n : Nat) (a b : D), Sm n a b → p_l_same n [a, b] = .ok (.bl true)
  | 0, _, _, h => h.elim
  | n + 1, a, b, h => by
    refine same_run n a b ?_
    unfold Sm at h
    split at h
    · exact same_non _
    · cases h; exact same_bl _ _
    · cases h; exact same_int _ _
    · cases h; exact same_str _ _
    · rename_i g xs g2 ys
      obtain ⟨hl, hz, hs⟩ := h
      exact same_seq (p_l_same n) (.da (.tup g xs)) (.da (.tup g2 ys)) xs ys "tuple" rfl rfl rfl rfl (.inl rfl) hl (by omega) (fun i x y h1 h2 => same_ok n x y (hs i x y h1 h2))
    · rename_i g xs g2 ys
      obtain ⟨hl, hz, hs⟩ := h
      exact same_seq (p_l_same n) (.da (.lst g xs)) (.da (.lst g2 ys)) xs ys "list" rfl rfl rfl rfl (.inr rfl) hl (by omega) (fun i x y h1 h2 => same_ok n x y (hs i x y h1 h2))
    · exact h.elim
theorem sm_int (n : Nat) (i : Int) : Sm (n + 1) (.int i) (.int i) := rfl
theorem same2 (a b : Int) (g g2 : Bool) : p_l_same 4 [.tup g [.int a, .int b], .tup g2 [.int a, .int b]] = .ok (.bl true) := same_ok 4 _ _ ⟨rfl, (by show 2 ≤ 100000; omega), fun i x y h1 h2 => by
  match i, h1, h2 with
  | 0, h1, h2 => cases h1; cases h2; exact sm_int _ _
  | 1, h1, h2 => cases h1; cases h2; exact sm_int _ _
  | i + 2, h1, h2 => simp at h1⟩
theorem same3 (a b c : Int) (g g2 : Bool) : p_l_same 4 [.tup g [.int a, .int b, .int c], .tup g2 [.int a, .int b, .int c]] = .ok (.bl true) := same_ok 4 _ _ ⟨rfl, (by show 3 ≤ 100000; omega), fun i x y h1 h2 => by
  match i, h1, h2 with
  | 0, h1, h2 => cases h1; cases h2; exact sm_int _ _
  | 1, h1, h2 => cases h1; cases h2; exact sm_int _ _
  | 2, h1, h2 => cases h1; cases h2; exact sm_int _ _
  | i + 3, h1, h2 => simp at h1⟩
/-! ### motions as things that act -/
abbrev Mo := Int × Int × Int
def okM (m : Mo) : Prop := 0 ≤ m.1 ∧ m.1 ≤ 7
def dG (g : Bool) (m : Mo) : D := .tup g [.int m.1, .int m.2.1, .int m.2.2]
def pl (g : Bool) (p : Int × Int) : D := .tup g [.int p.1, .int p.2]
def still : Mo := (0, 0, 0)
def bh (m n : Mo) : Mo := (tbP m.1 n.1, (turnP n.1 m.2.1 m.2.2).1 + n.2.1, (turnP n.1 m.2.1 m.2.2).2 + n.2.2)
def act (m : Mo) (p : Int × Int) : Int × Int := ((turnP m.1 p.1 p.2).1 + m.2.1, (turnP m.1 p.1 p.2).2 + m.2.2)
theorem ok_still : okM still := ⟨by decide, by decide⟩
theorem ok_bh (m n : Mo) : okM (bh m n) := tb_range _ _
theorem act_still (p : Int × Int) : act still p = p := by
  obtain ⟨x, y⟩ := p
  simp [act, still, turnP]
theorem act_bh (m n : Mo) (p : Int × Int) (hm : okM m) (hn : okM n) : act (bh m n) p = act n (act m p) := by
  obtain ⟨x, y⟩ := p
  obtain ⟨t1, r1, u1⟩ := m
  obtain ⟨t2, r2, u2⟩ := n
  simp only [act, bh]
  rw [turn_turn t1 t2 x y hm.1 hm.2 hn.1 hn.2, turn_add t2 _ _ _ _ hn.1 hn.2]
  simp only [Prod.mk.injEq]
  omega
theorem turn_inj {a b : Int} (a0 : 0 ≤ a) (a7 : a ≤ 7) (b0 : 0 ≤ b) (b7 : b ≤ 7) (h : turnP a 1 2 = turnP b 1 2) : a = b := by
  rcases turn8 a0 a7 with rfl | rfl | rfl | rfl | rfl | rfl | rfl | rfl <;> rcases turn8 b0 b7 with rfl | rfl | rfl | rfl | rfl | rfl | rfl | rfl <;> simp [turnP] at h ⊢
theorem turn_00 {a : Int} (a0 : 0 ≤ a) (a7 : a ≤ 7) : turnP a 0 0 = (0, 0) := by
  rcases turn8 a0 a7 with rfl | rfl | rfl | rfl | rfl | rfl | rfl | rfl <;> simp [turnP]
theorem act_inj {m n : Mo} (hm : okM m) (hn : okM n) (h : ∀ p, act m p = act n p) : m = n := by
  obtain ⟨t1, r1, u1⟩ := m
  obtain ⟨t2, r2, u2⟩ := n
  have h0 := h (0, 0)
  have h1 := h (1, 2)
  simp only [act] at h0 h1
  rw [turn_00 hm.1 hm.2, turn_00 hn.1 hn.2] at h0
  simp only [Prod.mk.injEq] at h0 h1
  have e := turn_inj (a := t1) (b := t2) hm.1 hm.2 hn.1 hn.2 (Prod.ext (by have := h0.1; have := h1.1; omega) (by have := h0.2; have := h1.2; omega))
  simp only [Prod.mk.injEq]
  exact ⟨e, by omega, by omega⟩
theorem behind_mo (m n : Mo) (g g2 : Bool) (hn : okM n) : p_behind [dG g m, dG g2 n] = .ok (dG true (bh m n)) := behind_eq _ _ _ _ _ _ g g2 hn.1 hn.2
def bkM (m : Mo) : Mo := (bkP m.1, -(turnP (bkP m.1) m.2.1 m.2.2).1, -(turnP (bkP m.1) m.2.1 m.2.2).2)
theorem ok_bk {m : Mo} (h : okM m) : okM (bkM m) := bk_range _ h.1 h.2
theorem turn_bk2 (t x y : Int) (h0 : 0 ≤ t) (h7 : t ≤ 7) : turnP t (turnP (bkP t) x y).1 (turnP (bkP t) x y).2 = (x, y) := by
  rcases turn8 h0 h7 with rfl | rfl | rfl | rfl | rfl | rfl | rfl | rfl <;> simp [turnP, bkP]
theorem act_bk (m : Mo) (p : Int × Int) (hm : okM m) : act (bkM m) (act m p) = p := by
  obtain ⟨x, y⟩ := p
  obtain ⟨t, r, u⟩ := m
  have hb := bk_range t hm.1 hm.2
  simp only [act, bkM]
  rw [turn_add (bkP t) _ _ _ _ hb.1 hb.2, turn_bk t x y hm.1 hm.2]
  simp only [Prod.mk.injEq]
  omega
theorem turn_neg (t x y : Int) (h0 : 0 ≤ t) (h7 : t ≤ 7) : turnP t (-x) (-y) = (-(turnP t x y).1, -(turnP t x y).2) := by
  rcases turn8 h0 h7 with rfl | rfl | rfl | rfl | rfl | rfl | rfl | rfl <;> simp [turnP]
theorem act_bk2 (m : Mo) (p : Int × Int) (hm : okM m) : act m (act (bkM m) p) = p := by
  obtain ⟨x, y⟩ := p
  obtain ⟨t, r, u⟩ := m
  have hb := bk_range t hm.1 hm.2
  simp only [act, bkM]
  rw [turn_add t _ _ _ _ hm.1 hm.2, turn_neg t _ _ hm.1 hm.2, turn_bk2 t x y hm.1 hm.2, turn_bk2 t r u hm.1 hm.2]
  simp only [Prod.mk.injEq]
  omega
theorem bh_still (m : Mo) (hm : okM m) : bh m still = m := act_inj (ok_bh _ _) hm fun p => by rw [act_bh _ _ _ hm ok_still, act_still]
theorem still_bh (m : Mo) (hm : okM m) : bh still m = m := act_inj (ok_bh _ _) hm fun p => by rw [act_bh _ _ _ ok_still hm, act_still]
theorem bh_assoc (a b c : Mo) (ha : okM a) (hb : okM b) (hc : okM c) : bh (bh a b) c = bh a (bh b c) := act_inj (ok_bh _ _) (ok_bh _ _) fun p => by
  rw [act_bh _ _ _ (ok_bh _ _) hc, act_bh _ _ _ ha hb, act_bh _ _ _ ha (ok_bh _ _), act_bh _ _ _ hb hc]
theorem bh_bk (m : Mo) (hm : okM m) : bh m (bkM m) = still := act_inj (ok_bh _ _) ok_still fun p => by rw [act_bh _ _ _ hm (ok_bk hm), act_bk _ _ hm, act_still]
theorem bk_bh (a m : Mo) (ha : okM a) (hm : okM m) : bkM (bh a m) = bh (bkM m) (bkM a) := act_inj (ok_bk (ok_bh _ _)) (ok_bh _ _) fun p => by
  have e := act_bk (bh a m) (act (bkM a) (act (bkM m) p)) (ok_bh _ _)
  rw [act_bh _ _ _ ha hm, act_bk2 _ _ ha, act_bk2 _ _ hm] at e
  rw [e, act_bh _ _ _ (ok_bk hm) (ok_bk ha)]
theorem bk_still : bkM still = still := by decide
theorem back_mo (m : Mo) (g : Bool) (hm : okM m) : p_back [dG g m] = .ok (dG true (bkM m)) := back_eq _ _ _ g hm.1 hm.2
theorem moved_mo (m : Mo) (p : Int × Int) (g g2 : Bool) (hm : okM m) : p_l_moved [dG g m, pl g2 p] = .ok (pl true (act m p)) := l_moved_eq _ _ _ _ _ g g2 hm.1 hm.2
theorem same_mo (m : Mo) (g g2 : Bool) : p_l_same 4 [dG g m, dG g2 m] = .ok (.bl true) := same3 _ _ _ g g2
theorem is_motion_mo (m : Mo) (g : Bool) (hm : okM m) : p_l_is_motion [dG g m] = .ok (.bl true) := l_is_motion_ok _ _ _ g hm.1 hm.2
theorem eq_pl (p : Int × Int) (g g2 : Bool) : eqD (pl g p) (pl g2 p) = .ok true := by
  unfold pl
  rw [eqD_t2]
  simp
theorem ix2_0 : ixN 2 0 = some 0 := by decide
theorem ix2_1 : ixN 2 1 = some 1 := by decide
/-- one motion of the row -/
theorem e_row (ns : List Int) (hl : ns.length ≤ 63) (k : Int) (h0 : 0 ≤ k) (h1 : k ≤ 63) : ∃ m : Mo, okM m ∧ e_law_0 [some (.da (.lst false (ns.map .int))), none, none, none, none, none, none, none, none, some (iW k)] [] = .ok (.da (dG true m)) := by
  obtain ⟨d, ⟨row, hr, hb, rfl⟩, ed⟩ := draws_ok false ns k 5 h0 (by omega) (by decide) (by decide) (by omega)
  match row, hr, hb with
  | [a0, a1, a2, a3, a4], _, hb =>
    simp only [List.mem_cons, List.not_mem_nil, or_false, forall_eq_or_imp, forall_eq] at hb
    obtain ⟨b0, b1, b2, b3, b4⟩ := hb
    simp only [List.map_cons, List.map_nil] at ed
    obtain ⟨t, r, u, em, t0, t7⟩ := l_motion_at a0 a1 a2 a3 a4 true [.int a0, .int a1, .int a2, .int a3, .int a4] 0 rfl rfl rfl rfl rfl b0 b1 b2 b3 b4
    refine ⟨(t, r, u), ⟨t0, t7⟩, ?_⟩
    unfold e_law_0 dG
    walk_at "ev"
    iterate 3 (all_goals try simp only [ed, em]; walk_at "ev")
theorem lc_row (ns : List Int) (hl : ns.length ≤ 63) : ∀ (n : Nat) (lo : Int) (acc : List D), 0 ≤ lo → lo + n ≤ 63 → acc.length + n ≤ 63 →
    ∃ ms : List Mo, ms.length = n ∧ (∀ m ∈ ms, okM m) ∧ lcLoop (gtName 9) mYes e_law_0 [some (.da (.lst false (ns.map .int))), none, none, none, none, none, none, none, none, none] [] (intsD lo n) acc = .ok (acc ++ ms.map (dG true))
  | 0, lo, acc, _, _, _ => ⟨[], rfl, by simp, by simp [intsD, lcLoop]⟩
  | n + 1, lo, acc, h0, h1, h2 => by
    obtain ⟨m, hm, e⟩ := e_row ns hl lo h0 (by omega)
    obtain ⟨ms, e1, e2, e3⟩ := lc_row ns hl n (lo + 1) (acc ++ [dG true m]) (by omega) (by omega) (by simp; omega)
    refine ⟨m :: ms, by simp [e1], (fun x hx => (List.mem_cons.mp hx).elim (fun z => z ▸ hm) (e2 x)), ?_⟩
    show lcLoop (gtName 9) mYes e_law_0 _ [] (.int lo :: intsD (lo + 1) n) acc = _
    unfold lcLoop
    simp only [gtName, mYes, List.set_cons_succ, List.set_cons_zero, e]
    rw [ifc_pos (sz_lt (by omega)), e3]
    simp
theorem b_turn (sc d st : Option W) (ms : List Mo) (k : Nat) (cut : Int) (p : Int × Int) (a h p0 p1 m : Mo) (ga gh g0 g1 : Bool) (hk : ms[k]? = some m) (hm : okM m) (ha : okM a) (hh : okM h) (h0 : okM p0) (h1 : okM p1)
    (hall : bh p0 p1 = a) (hhome : h = bkM a) (hcut : (k : Int) ≤ cut → p1 = still) :
    ∃ q0 q1 b0 b1, okM q0 ∧ okM q1 ∧ bh q0 q1 = bh a m ∧ (((k + 1 : Nat) : Int) ≤ cut → q1 = still) ∧
    b_law_1 [sc, some (.da (.lst true (ms.map (dG true)))), d, st, some (iW cut), some (.da (pl true p)), some (.da (dG ga a)), some (.da (dG gh h)), some (.lo 0), some (iW k)] [.lst [.da (dG g0 p0), .da (dG g1 p1)]] =
      .nx [sc, some (.da (.lst true (ms.map (dG true)))), d, st, some (iW cut), some (.da (pl true (act m p))), some (.da (dG true (bh a m))), some (.da (dG true (bkM (bh a m)))), some (.lo 0), some (iW k)] [.lst [.da (dG b0 q0), .da (dG b1 q1)]] := by
  have ea : atI (ms.map (W.da ∘ dG true)) (k : Int) = some (.da (dG true m)) := by
    rw [atI_lit (W.da .non)]; simp [hk]
  by_cases hc : cut ≤ (k : Int)
  · refine ⟨p0, bh p1 m, g0, true, h0, ok_bh _ _, by rw [← hall, bh_assoc _ _ _ h0 h1 hm], fun z => by omega, ?_⟩
    unfold b_law_1
    walk_at "ev"
    rw [bk_bh a m ha hm, ← hhome]
    iterate 9 (all_goals try simp only [ea, moved_mo m p true true hm, fun n g => behind_mo n m g true hm, back_mo m true hm, behind_mo (bkM m) h true gh hh, mSetL, hc, dec_true, intW, if_true, ix2_1]; walk_at "ev")
  · have e1 := hcut (by omega)
    subst e1
    rw [bh_still _ h0] at hall
    subst hall
    refine ⟨bh p0 m, still, true, g1, ok_bh _ _, ok_still, bh_still _ (ok_bh _ _), fun _ => rfl, ?_⟩
    unfold b_law_1
    walk_at "ev"
    rw [bk_bh p0 m h0 hm, ← hhome]
    iterate 9 (all_goals try simp only [ea, moved_mo m p true true hm, fun n g => behind_mo n m g true hm, back_mo m true hm, behind_mo (bkM m) h true gh hh, mSetL, hc, dec_false, intW, if_false, Bool.false_eq_true, ix2_0]; walk_at "ev")
theorem loop_all (sc d st : Option W) (ms : List Mo) (cut : Int) (hok : ∀ m ∈ ms, okM m) (s : Int × Int) : ∀ (n k : Nat) (a h p0 p1 : Mo) (ga gh g0 g1 : Bool) (o : Option W), k + n = ms.length → okM a → okM h → okM p0 → okM p1 →
    bh p0 p1 = a → h = bkM a → ((k : Int) ≤ cut → p1 = still) → ∃ a' p0' p1' ga' gh' g0' g1' o', okM a' ∧ okM p0' ∧ okM p1' ∧ bh p0' p1' = a' ∧
      loopM (gtName 9) b_law_1 (intsD (k : Int) n) [sc, some (.da (.lst true (ms.map (dG true)))), d, st, some (iW cut), some (.da (pl true (act a s))), some (.da (dG ga a)), some (.da (dG gh h)), some (.lo 0), o] [.lst [.da (dG g0 p0), .da (dG g1 p1)]] =
      .nx [sc, some (.da (.lst true (ms.map (dG true)))), d, st, some (iW cut), some (.da (pl true (act a' s))), some (.da (dG ga' a')), some (.da (dG gh' (bkM a'))), some (.lo 0), o'] [.lst [.da (dG g0' p0'), .da (dG g1' p1')]]
  | 0, k, a, h, p0, p1, ga, gh, g0, g1, o, _, ha, hh, h0, h1, hall, hhome, _ => ⟨a, p0, p1, ga, gh, g0, g1, o, ha, h0, h1, hall, by rw [hhome]; rfl⟩
  | n + 1, k, a, h, p0, p1, ga, gh, g0, g1, o, hk, ha, hh, h0, h1, hall, hhome, hcut => by
    have hlt : k < ms.length := by omega
    have hm := hok _ (List.getElem_mem hlt)
    obtain ⟨q0, q1, b0, b1, k0, k1, eall, ecut, eb⟩ := b_turn sc d st ms k cut (act a s) a h p0 p1 ms[k] ga gh g0 g1 (by simp [hlt]) hm ha hh h0 h1 hall hhome hcut
    rw [← act_bh _ _ _ ha hm] at eb
    obtain ⟨a', p0', p1', ga', gh', g0', g1', o', r1, r2, r3, r4, r5⟩ := loop_all sc d st ms cut hok s n (k + 1) (bh a ms[k]) _ q0 q1 true true b0 b1 (some (iW k)) (by omega) (ok_bh _ _) (ok_bk (ok_bh _ _)) k0 k1 eall rfl ecut
    refine ⟨a', p0', p1', ga', gh', g0', g1', o', r1, r2, r3, r4, ?_⟩
    rw [← r5]
    show loopM (gtName 9) b_law_1 (.int (k : Int) :: intsD ((k : Int) + 1) n) _ _ = _
    conv => lhs; unfold loopM
    simp only [gtName, List.set_cons_succ, List.set_cons_zero]
    rw [eb]
    rfl
theorem law_true (ns : List Int) (hl : ns.length ≤ 63) : p_law [.lst false (ns.map .int)] = .ok (.bl true) := by
  obtain ⟨d, ⟨row, hr, hb, rfl⟩, ed⟩ := draws_ok false ns 0 12 (by decide) (by decide) (by decide) (by decide) (by omega)
  match row, hr, hb with
  | [a0, a1, a2, a3, a4, a5, a6, a7, a8, a9, a10, a11], _, hb =>
    simp only [List.mem_cons, List.not_mem_nil, or_false, forall_eq_or_imp, forall_eq] at hb
    obtain ⟨b0, b1, b2, b3, b4, b5, b6, b7, b8, b9, b10, b11⟩ := hb
    obtain ⟨x, ex⟩ := far_ok a8 a9 b8.1 b8.2 b9.1 b9.2
    obtain ⟨y, ey⟩ := far_ok a10 a11 b10.1 b10.2 b11.1 b11.2
    simp only [List.map_cons, List.map_nil] at ed
    obtain ⟨ms, e1, e2, e3⟩ := lc_row ns hl ns.length 0 [] (by decide) (by omega) (by simp; omega)
    have hz : (ns.length : Int) ≤ 63 := by omega
    generalize hzz : (ns.length : Int) = z at hz
    have rz : rng1 [.da (.int z)] = some (0, ns.length) := by
      rw [rng1_ok z (by omega) (by omega), ← hzz]; rfl
    have mz : modW (.da (.int a7)) (.da (.int (z + 1))) [] = .ok (.da (.int (a7 % (z + 1)))) := mod_ok _ _ _ (by omega)
    obtain ⟨a', p0', p1', ga', gh', g0', g1', o', r1, r2, r3, r4, r5⟩ := loop_all (some (.da (.lst false (ns.map .int)))) (some (.da (.lst true [.int a0, .int a1, .int a2, .int a3, .int a4, .int a5, .int a6, .int a7, .int a8, .int a9, .int a10, .int a11]))) (some (.da (pl true (x, y)))) ms (a7 % (z + 1)) e2 (x, y) ns.length 0 still still still still false false false false none (by omega) ok_still ok_still ok_still ok_still (bh_still _ ok_still) bk_still.symm (fun _ => rfl)
    have rr : rng1 [.da (.int (ms.length : Int))] = some (0, ns.length) := by rw [e1, hzz]; exact rz
    have mr : modW (.da (.int a7)) (.da (.int ((ms.length : Int) + 1))) [] = .ok (.da (.int (a7 % (z + 1)))) := by rw [e1, hzz]; exact mz
    rw [act_still, nc_0] at r5
    rw [List.nil_append] at e3
    have hs : D.tup false [.int 0, .int 0, .int 0] = dG false still := rfl
    have hp : D.tup true [.int x, .int y] = pl true (x, y) := rfl
    have hq : D.tup true [.int 0, .int 0, .int 0] = dG true still := rfl
    have n1 : act a' (x, y) = act a' (x, y) := rfl
    unfold p_law m_law
    walk_at "ev"
    iterate 14 (all_goals try simp only [mLcR, wipeR, hzz, rz, e3, ed, ex, ey, mr, rr, hs, hp, hq, r5, mFrz, datC, fun g => is_motion_mo a' g r1, fun q g g2 => moved_mo a' q g g2 r1, eq_pl, fun n g g2 => behind_mo n p1' g g2 r3, r4, same_mo, fun g => back_mo a' g r1, fun n g g2 => behind_mo n (bkM a') g g2 (ok_bk r1), bh_bk a' r1, fun q g g2 => moved_mo (bkM a') q g g2 (ok_bk r1), fun q => act_bk a' q r1, List.getElem?_cons_zero, List.getElem?_cons_succ, List.nil_append]; walk_at "ev")
end Ng
open PySem PySem.W PyProof.Rows
set_option maxRecDepth 100000 in
set_option maxHeartbeats 0 in
theorem PySem.Challenge.cw_nightglass_k05_whole_rows_of_motions_holds : PySem.Challenge.rw_nightglass_k05_whole_rows_of_motions.Holds := by
  w_on; o_law; k_head; (case hw => w_witness2)
  k_fill
  refine Ng.walk_ng (l := PySem.Challenge.rw_nightglass_k05_whole_rows_of_motions) (k := 5) (x := "_law_script") (p := Ng.p_law) rfl rfl ⟨rfl, by decide, by decide⟩ (fun w h Y => PySem.W.kIn_of Y) ?F Ng.law_true
  case F =>
    intro w mg fa h KX G hmg
    refine' Ng.all_mk KX G hmg ?a2 ?l2 ?c2 ?k2 ?a3 ?l3 ?c3 ?k3 ?a4 ?l4 ?c4 ?k4 ?a5 ?l5 ?c5 ?k5 ?a6 ?l6 ?c6 ?k6 ?a8 ?l8 ?c8 ?k8 ?a9 ?l9 ?c9 ?k9 ?a10 ?l10 ?c10 ?k10 ?a11 ?l11 ?c11 ?k11 ?a12 ?l12 ?c12 ?k12 ?a13 ?l13 ?c13 ?k13 ?a14 ?l14 ?c14 ?k14 ?a15 ?l15 ?c15 ?k15 ?z_bool ?z_int ?z_isinstance ?z_len ?z_list ?z_range ?z_str ?z_tuple ?y_STILL ?x_STILL
    (case a2 => k_is); (case l2 => k_is); (case c2 => k_is); (case k2 => k_is); (case a3 => k_is); (case l3 => k_is); (case c3 => k_is); (case k3 => k_is); (case a4 => k_is); (case l4 => k_is); (case c4 => k_is); (case k4 => k_is); (case a5 => k_is); (case l5 => k_is); (case c5 => k_is); (case k5 => k_is); (case a6 => k_is); (case l6 => k_is); (case c6 => k_is); (case k6 => k_is); (case a8 => k_is); (case l8 => k_is); (case c8 => k_is); (case k8 => k_is); (case a9 => k_is); (case l9 => k_is); (case c9 => k_is); (case k9 => k_is); (case a10 => k_is); (case l10 => k_is); (case c10 => k_is); (case k10 => k_is); (case a11 => k_is); (case l11 => k_is); (case c11 => k_is); (case k11 => k_is); (case a12 => k_is); (case l12 => k_is); (case c12 => k_is); (case k12 => k_is); (case a13 => k_is); (case l13 => k_is); (case c13 => k_is); (case k13 => k_is); (case a14 => k_is); (case l14 => k_is); (case c14 => k_is); (case k14 => k_is); (case a15 => k_is); (case l15 => k_is); (case c15 => k_is); (case k15 => k_is); (case z_bool => k_is); (case z_int => k_is); (case z_isinstance => k_is); (case z_len => k_is); (case z_list => k_is); (case z_range => k_is); (case z_str => k_is); (case z_tuple => k_is); (case y_STILL => k_is); (case x_STILL => k_is)
