import PyProof.Rows.All
import Wide.All
import OpenK.AllK
import Wide.FinOn
import HandS.ForMost
import HandS.Walk
import HandS.Style
import HandS.Conv
import HandS.IsInst
import HandS.Deep
import HandS.TupAny
import PySem.Challenge.RW_pixellines_k04_whole_fractions
set_option Elab.async false
set_option linter.all false
set_option maxRecDepth 100000
set_option maxHeartbeats 4000000
/-! Data readings: a layer of its own over HandS. Values are plain data; the heap is met once, in the rules. -/
namespace Dz
open PySem PySem.Spec PyProof.Rows L2

inductive D where
  | non
  | bl (b : Bool)
  | int (i : Int)
  | str (s : Str)
  | tup (l : List D)
  | lst (l : List D)
  | hdl (a : Addr)

mutual
inductive Rep (G : Hp) : V → D → Prop where
  | non : Rep G .non .non
  | bl (b : Bool) : Rep G (.bl b) (.bl b)
  | int (i : Int) : Rep G (.int i) (.int i)
  | str (s : Str) : Rep G (.str s) (.str s)
  | hdl (a : Addr) : Rep G (.ref a) (.hdl a)
  | tup {a : Addr} {vs : List V} {ds : List D} : G a = some (.tup vs) → RepL G vs ds → Rep G (.ref a) (.tup ds)
  | lst {a : Addr} {vs : List V} {ds : List D} : G a = some (.lst vs) → RepL G vs ds → Rep G (.ref a) (.lst ds)
inductive RepL (G : Hp) : List V → List D → Prop where
  | nil : RepL G [] []
  | cons {v : V} {vs : List V} {d : D} {ds : List D} : Rep G v d → RepL G vs ds → RepL G (v :: vs) (d :: ds)
end

mutual
theorem Rep.mono {G G' : Hp} (e : Same G G') : ∀ {v : V} {d : D}, Rep G v d → Rep G' v d
  | _, _, .non => .non
  | _, _, .bl b => .bl b
  | _, _, .int i => .int i
  | _, _, .str s => .str s
  | _, _, .hdl a => .hdl a
  | _, _, .tup h r => .tup (e _ _ h) (RepL.mono e r)
  | _, _, .lst h r => .lst (e _ _ h) (RepL.mono e r)
theorem RepL.mono {G G' : Hp} (e : Same G G') : ∀ {vs : List V} {ds : List D}, RepL G vs ds → RepL G' vs ds
  | _, _, .nil => .nil
  | _, _, .cons h r => .cons (Rep.mono e h) (RepL.mono e r)
end

theorem RepL.length {G : Hp} : ∀ {vs : List V} {ds : List D}, RepL G vs ds → vs.length = ds.length
  | _, _, .nil => rfl
  | _, _, .cons _ r => by simp [RepL.length r]
theorem RepL.get {G : Hp} : ∀ {vs : List V} {ds : List D} {i : Nat} {d : D}, RepL G vs ds → ds[i]? = some d → ∃ v, vs[i]? = some v ∧ Rep G v d
  | _, _, _, _, .nil, h => by simp at h
  | _, _, 0, _, .cons h _, e => by simp at e; subst e; exact ⟨_, rfl, h⟩
  | _, _, i + 1, d, .cons _ r, e => by
    obtain ⟨v, h1, h2⟩ := RepL.get (i := i) (d := d) r (by simpa using e)
    exact ⟨v, by simpa using h1, h2⟩
theorem RepL.getV {G : Hp} {vs : List V} {ds : List D} {i : Nat} {v : V} (r : RepL G vs ds) (h : vs[i]? = some v) : ∃ d, ds[i]? = some d ∧ Rep G v d := by
  have hl : i < ds.length := by
    rw [← r.length]
    exact (List.getElem?_eq_some_iff.mp h).1
  obtain ⟨v', h1, h2⟩ := r.get (List.getElem?_eq_getElem hl)
  rw [h] at h1
  cases h1
  exact ⟨_, List.getElem?_eq_getElem hl, h2⟩
theorem RepL.append {G : Hp} : ∀ {vs ws : List V} {ds es : List D}, RepL G vs ds → RepL G ws es → RepL G (vs ++ ws) (ds ++ es)
  | _, _, _, _, .nil, s => s
  | _, _, _, _, .cons h r, s => .cons h (RepL.append r s)
theorem RepL.one {G : Hp} {v : V} {d : D} (h : Rep G v d) : RepL G [v] [d] := .cons h .nil
theorem RepL.drop {G : Hp} : ∀ {vs : List V} {ds : List D} (n : Nat), RepL G vs ds → RepL G (vs.drop n) (ds.drop n)
  | _, _, 0, r => r
  | _, _, _ + 1, .nil => .nil
  | _, _, n + 1, .cons _ r => RepL.drop n r
theorem RepL.take {G : Hp} : ∀ {vs : List V} {ds : List D} (n : Nat), RepL G vs ds → RepL G (vs.take n) (ds.take n)
  | _, _, 0, _ => .nil
  | _, _, _ + 1, .nil => .nil
  | _, _, n + 1, .cons h r => .cons h (RepL.take n r)
theorem RepL.reverse {G : Hp} {vs : List V} {ds : List D} (r : RepL G vs ds) : RepL G vs.reverse ds.reverse := by
  induction r using RepL.rec (motive_1 := fun _ _ _ => True) with
  | nil => exact .nil
  | cons h r _ ih => simp only [List.reverse_cons]; exact ih.append (.one h)
  | _ => trivial
theorem RepL.set {G : Hp} {v : V} {d : D} (h : Rep G v d) : ∀ {vs : List V} {ds : List D} (i : Nat), RepL G vs ds → RepL G (vs.set i v) (ds.set i d)
  | _, _, _, .nil => .nil
  | _, _, 0, .cons _ r => .cons h r
  | _, _, i + 1, .cons q r => .cons q (RepL.set h i r)
theorem RepL.dropLast {G : Hp} {vs : List V} {ds : List D} (r : RepL G vs ds) : RepL G vs.dropLast ds.dropLast := by
  rw [List.dropLast_eq_take, List.dropLast_eq_take, r.length]
  exact r.take _
theorem RepL.ints {G : Hp} : ∀ (ns : List Int) {vs : List V}, RepL G vs (ns.map D.int) → vs = ns.map V.int
  | [], _, .nil => rfl
  | n :: r, _, .cons (.int _) h => by rw [RepL.ints r h]; rfl
theorem RepL.ofInts {G : Hp} : ∀ ns : List Int, RepL G (ns.map V.int) (ns.map D.int)
  | [] => .nil
  | n :: r => .cons (.int n) (RepL.ofInts r)
theorem RepL.bools {G : Hp} : ∀ (bs : List Bool) {vs : List V}, RepL G vs (bs.map D.bl) → vs = bs.map V.bl
  | [], _, .nil => rfl
  | n :: r, _, .cons (.bl _) h => by rw [RepL.bools r h]; rfl

/-! ### private things -/
inductive MO where
  | lst (l : List D)
  | drw (n : Addr)
  | opq
  | ins (C dx : Addr) (fs : List (Str × D))
abbrev Mu := Addr → Option MO
abbrev Rho := List (Option D)
inductive RepF (G : Hp) : List (Str × V) → List (Str × D) → Prop where
  | nil : RepF G [] []
  | cons {n : Str} {v : V} {d : D} {vs : List (Str × V)} {ds : List (Str × D)} : Rep G v d → RepF G vs ds → RepF G ((n, v) :: vs) ((n, d) :: ds)
theorem RepF.mono {G G' : Hp} (e : Same G G') : ∀ {vs : List (Str × V)} {ds : List (Str × D)}, RepF G vs ds → RepF G' vs ds
  | _, _, .nil => .nil
  | _, _, .cons h r => .cons (h.mono e) (r.mono e)

def MOk (G : Hp) (μ : Mu) (H : Hp) (a : Addr) : MO → Prop
  | .lst ds => ∃ vs, H a = some (.lst vs) ∧ RepL G vs ds
  | .drw n => ∃ (k : Int) (ns : List Int), H a = some (.lst [.ref n, .int k]) ∧ n ≠ a ∧ μ n = some .opq ∧ H n = some (.lst (ns.map V.int)) ∧ ns ≠ []
  | .opq => H a ≠ none
  | .ins C dx fs => ∃ fv, H a = some (.ins C dx fv) ∧ RepF G fv fs ∧ μ dx = some .opq
theorem MOk.some {G : Hp} {μ : Mu} {H : Hp} {a : Addr} {m : MO} (h : MOk G μ H a m) : H a ≠ none := by
  cases m with
  | lst ds => obtain ⟨vs, e, _⟩ := h; rw [e]; simp
  | drw n => obtain ⟨k, ns, e, _⟩ := h; rw [e]; simp
  | opq => exact h
  | ins C dx fs => obtain ⟨fv, e, _⟩ := h; rw [e]; simp
theorem MOk.mono {G G' : Hp} {μ : Mu} {H : Hp} {a : Addr} {m : MO} (e : Same G G') (h : MOk G μ H a m) : MOk G' μ H a m := by
  cases m with
  | lst ds => obtain ⟨vs, e1, r⟩ := h; exact ⟨vs, e1, r.mono e⟩
  | drw n => exact h
  | opq => exact h
  | ins C dx fs => obtain ⟨fv, e1, r, q⟩ := h; exact ⟨fv, e1, r.mono e, q⟩

structure W3 (G : Hp) (μ : Mu) (H : Hp) : Prop where
  sub : Same G H
  dis : ∀ a, μ a ≠ none → G a = none
  ok : ∀ a m, μ a = some m → MOk G μ H a m
structure Stp (G : Hp) (μ : Mu) (H : Hp) (G' : Hp) (μ' : Mu) (H' : Hp) : Prop where
  ext : Same G G'
  fr : ∀ a o, H a = some o → G a = none → μ a = none → G' a = none ∧ μ' a = none ∧ H' a = some o
  keep : ∀ a, H' a = none → H a = none
  w : W3 G' μ' H'
theorem Stp.refl {G : Hp} {μ : Mu} {H : Hp} (w : W3 G μ H) : Stp G μ H G μ H := ⟨Same.refl G, fun _ _ h1 h2 h3 => ⟨h2, h3, h1⟩, fun _ h => h, w⟩
theorem Stp.trans {G G1 G2 : Hp} {μ μ1 μ2 : Mu} {H H1 H2 : Hp} (a : Stp G μ H G1 μ1 H1) (b : Stp G1 μ1 H1 G2 μ2 H2) : Stp G μ H G2 μ2 H2 :=
  ⟨a.ext.trans b.ext, fun x o h1 h2 h3 => let ⟨q1, q2, q3⟩ := a.fr x o h1 h2 h3; b.fr x o q3 q1 q2, fun x h => a.keep x (b.keep x h), b.w⟩
theorem W3.gnone {G : Hp} {μ : Mu} {H : Hp} (w : W3 G μ H) {p : Addr} (h : H p = none) : G p = none := w.sub.free h
theorem W3.mnone {G : Hp} {μ : Mu} {H : Hp} (w : W3 G μ H) {p : Addr} (h : H p = none) : μ p = none := by
  cases e : μ p with
  | none => rfl
  | some m => exact absurd h (w.ok p m e).some
theorem same_new {G : Hp} {p : Addr} {o : HO} (h : G p = none) : Same G (upd G p o) := fun a u e => by
  rw [upd_ne (ne_of_none e h)]
  exact e
/-- a new visible object -/
theorem W3.alloc {G : Hp} {μ : Mu} {H : Hp} (w : W3 G μ H) {p : Addr} {o : HO} (h : H p = none) : Stp G μ H (upd G p o) μ (upd H p o) := by
  have hg := w.gnone h
  have hm := w.mnone h
  refine ⟨same_new hg, fun a u h1 h2 h3 => ?_, fun a ha => ?_, fun a u e => ?_, fun a ha => ?_, fun a m e => ?_⟩
  · have ne : a ≠ p := ne_of_none h1 h
    rw [upd_ne ne, upd_ne ne]
    exact ⟨h2, h3, h1⟩
  · by_cases ap : a = p
    · subst ap; exact h
    · rw [upd_ne ap] at ha; exact ha
  · by_cases ap : a = p
    · subst ap; rw [upd_same] at e ⊢; exact e
    · rw [upd_ne ap] at e ⊢; exact w.sub a u e
  · have ne : a ≠ p := fun z => ha (by rw [z]; exact hm)
    rw [upd_ne ne]; exact w.dis a ha
  · have ok := w.ok a m e
    have ne : a ≠ p := fun z => by rw [z, hm] at e; cases e
    have ok' := ok.mono (same_new (o := o) hg)
    cases m with
    | lst ds => obtain ⟨vs, e1, r⟩ := ok'; exact ⟨vs, by rw [upd_ne ne]; exact e1, r⟩
    | drw n =>
      obtain ⟨k, ns, e1, e2, e3, e4, e5⟩ := ok'
      have nn : n ≠ p := fun z => by rw [z, hm] at e3; cases e3
      exact ⟨k, ns, by rw [upd_ne ne]; exact e1, e2, e3, by rw [upd_ne nn]; exact e4, e5⟩
    | opq =>
      show upd H p o a ≠ none
      rw [upd_ne ne]; exact ok'
    | ins C dx fs => obtain ⟨fv, e1, r, q⟩ := ok'; exact ⟨fv, by rw [upd_ne ne]; exact e1, r, q⟩

/-! ### slots -/
structure Slots (G : Hp) (σ : L2.St) (ρ : Rho) : Prop where
  len : ρ.length = σ.length
  at_ : ∀ (i : Nat) (d : D), ρ[i]? = some (some d) → ∃ v, σ[i]? = some (some v) ∧ Rep G v d
theorem Slots.mono {G G' : Hp} {σ : L2.St} {ρ : Rho} (e : Same G G') (s : Slots G σ ρ) : Slots G' σ ρ :=
  ⟨s.len, fun i d h => let ⟨v, h1, h2⟩ := s.at_ i d h; ⟨v, h1, h2.mono e⟩⟩
theorem Slots.set {G : Hp} {σ : L2.St} {ρ : Rho} {v : V} {d : D} (s : Slots G σ ρ) (i : Nat) (r : Rep G v d) : Slots G (σ.set i (some v)) (ρ.set i (some d)) := by
  refine ⟨by simp [s.len], fun j e h => ?_⟩
  by_cases ij : i = j
  · subst ij
    by_cases hi : i < ρ.length
    · rw [List.getElem?_set_self hi] at h
      cases h
      exact ⟨v, List.getElem?_set_self (by rw [← s.len]; exact hi), r⟩
    · rw [List.getElem?_eq_none (by simpa using hi)] at h
      cases h
  · rw [List.getElem?_set_ne ij] at h ⊢
    exact s.at_ j e h
theorem Slots.setNone {G : Hp} {σ : L2.St} {ρ : Rho} {o : Option V} (s : Slots G σ ρ) (i : Nat) : Slots G (σ.set i o) (ρ.set i none) := by
  refine ⟨by simp [s.len], fun j e h => ?_⟩
  by_cases ij : i = j
  · subst ij
    by_cases hi : i < ρ.length
    · rw [List.getElem?_set_self hi] at h
      cases h
    · rw [List.getElem?_eq_none (by simpa using hi)] at h
      cases h
  · rw [List.getElem?_set_ne ij] at h ⊢
    exact s.at_ j e h
def wipeD (ρ : Rho) : List Nat → Rho
  | [] => ρ
  | v :: vs => (wipeD ρ vs).set v none
theorem Slots.wipe {G : Hp} {σ : L2.St} {ρ : Rho} (s : Slots G σ ρ) : ∀ vs : List Nat, Slots G (L2.wipe σ vs) (wipeD ρ vs)
  | [] => s
  | v :: vs => (s.wipe vs).setNone v

/-! ### readings over data -/
abbrev DE := Rho → Mu → (D → Mu → Prop) → Prop
abbrev DT := Rho → Mu → (Bool → Mu → Prop) → Prop
abbrev DA := Rho → Mu → (List D → Mu → Prop) → Prop
def MonoW {α : Type} (f : Rho → Mu → (α → Mu → Prop) → Prop) : Prop := ∀ ρ μ P P', f ρ μ P → (∀ d μ', P d μ' → P' d μ') → f ρ μ P'
structure Gam where
  G : Hp
  M : Mu
  H : Hp
structure Hold (Γ : Gam) (ρ : Rho) (G : Hp) (μ : Mu) (σ : L2.St) (H : Hp) : Prop where
  stp : Stp Γ.G Γ.M Γ.H G μ H
  sl : Slots G σ ρ
theorem Hold.step {Γ : Gam} {ρ : Rho} {G G' : Hp} {μ μ' : Mu} {σ : L2.St} {H H' : Hp} (h : Hold Γ ρ G μ σ H) (s : Stp G μ H G' μ' H') : Hold Γ ρ G' μ' σ H' :=
  ⟨h.stp.trans s, h.sl.mono s.ext⟩
def lift (Γ : Gam) (f : DE) : TE := fun σ H Q => ∃ ρ G μ, Hold Γ ρ G μ σ H ∧ f ρ μ fun d μ' => ∀ v G' H', Stp G μ H G' μ' H' → Rep G' v d → Q v H'
def liftT (Γ : Gam) (f : DT) : TT := fun σ H Q => ∃ ρ G μ, Hold Γ ρ G μ σ H ∧ f ρ μ fun b μ' => ∀ G' H', Stp G μ H G' μ' H' → Q b H'
def liftA (Γ : Gam) (f : DA) : TA := fun σ H Q => ∃ ρ G μ, Hold Γ ρ G μ σ H ∧ f ρ μ fun ds μ' => ∀ vs G' H', Stp G μ H G' μ' H' → RepL G' vs ds → Q vs H'
structure PD (X : Cx) (Γ : Gam) (e : Expr) (f : DE) : Prop where
  mono : MonoW f
  pe : PE X e (lift Γ f)
structure PDT (X : Cx) (Γ : Gam) (e : Expr) (f : DT) : Prop where
  mono : MonoW f
  pt : PT X e (liftT Γ f)
structure PDA (X : Cx) (Γ : Gam) (es : List Expr) (f : DA) : Prop where
  mono : MonoW f
  pa : PA X es (liftA Γ f)
theorem PE.imp {X : Cx} {e : Expr} {t t' : TE} (h : PE X e t) (i : ∀ σ H Q, t' σ H Q → t σ H Q) : PE X e t' := ⟨fun pins s σ H Q I q => h.run pins s σ H Q I (i σ H Q q)⟩
theorem PT.imp {X : Cx} {e : Expr} {t t' : TT} (h : PT X e t) (i : ∀ σ H Q, t' σ H Q → t σ H Q) : PT X e t' := ⟨fun pins s σ H Q I q => h.run pins s σ H Q I (i σ H Q q)⟩
theorem PA.imp {X : Cx} {e : List Expr} {t t' : TA} (h : PA X e t) (i : ∀ σ H Q, t' σ H Q → t σ H Q) : PA X e t' := ⟨fun pos pins s σ H Q I q => h.run pos pins s σ H Q I (i σ H Q q)⟩

section
variable {X : Cx} {Γ : Gam} {a b c e : Expr} {f g h : DE} {pos : Pos}

/-! names and constants -/
def dVar (i : Nat) : DE := fun ρ μ Q => match ρ[i]? with
  | some (some d) => Q d μ
  | _ => False
theorem monoVar {i : Nat} : MonoW (dVar i) := fun ρ μ P P' h k => by
  unfold dVar at *
  split at h
  · exact k _ _ h
  · exact h.elim
theorem pd_var (i : Nat) (h : PE X e (tVar i)) : PD X Γ e (dVar i) := ⟨monoVar, PE.imp h fun σ H Q q => by
  obtain ⟨ρ, G, μ, hh, q⟩ := q
  unfold dVar at q
  split at q
  · rename_i d hd
    obtain ⟨v, h1, h2⟩ := hh.sl.at_ i d hd
    exact ⟨v, h1, q v G H (Stp.refl hh.stp.w) h2⟩
  · exact q.elim⟩
def dC (d : D) : DE := fun _ μ Q => Q d μ
theorem monoC {d : D} : MonoW (dC d) := fun _ _ _ _ h k => k _ _ h
theorem pd_c {v : V} {d : D} (r : ∀ G, Rep G v d) (h : PE X e (tC v)) : PD X Γ e (dC d) := ⟨monoC, PE.imp h fun σ H Q q => by
  obtain ⟨ρ, G, μ, hh, q⟩ := q
  exact q v G H (Stp.refl hh.stp.w) (r G)⟩
theorem pd_int {i : Int} {j : Nat} : PD X Γ (.Constant (.int i) j pos) (dC (.int i)) := pd_c (fun _ => .int i) pe_int
theorem pd_bl {k : Bool} {j : Nat} : PD X Γ (.Constant (.bool k) j pos) (dC (.bl k)) := pd_c (fun _ => .bl k) pe_bl
theorem pd_non {j : Nat} : PD X Γ (.Constant .none j pos) (dC .non) := pd_c (fun _ => .non) pe_non
theorem pd_str {x : Str} {j : Nat} : PD X Γ (.Constant (.str x) j pos) (dC (.str x)) := pd_c (fun _ => .str x) pe_str

/-! operations on one, two values -/
def d1 (φ : D → Mu → (D → Mu → Prop) → Prop) (f : DE) : DE := fun ρ μ Q => f ρ μ fun a μ1 => φ a μ1 Q
def d2 (φ : D → D → Mu → (D → Mu → Prop) → Prop) (f g : DE) : DE := fun ρ μ Q => f ρ μ fun a μ1 => g ρ μ1 fun b μ2 => φ a b μ2 Q
def Mono1 (φ : D → Mu → (D → Mu → Prop) → Prop) : Prop := ∀ a μ P P', φ a μ P → (∀ d μ', P d μ' → P' d μ') → φ a μ P'
def Mono2 (φ : D → D → Mu → (D → Mu → Prop) → Prop) : Prop := ∀ a b μ P P', φ a b μ P → (∀ d μ', P d μ' → P' d μ') → φ a b μ P'
theorem mono1 {φ : D → Mu → (D → Mu → Prop) → Prop} (hφ : Mono1 φ) (hf : MonoW f) : MonoW (d1 φ f) := fun ρ μ P P' h k => hf ρ μ _ _ h fun a μ1 q => hφ a μ1 _ _ q k
theorem mono2 {φ : D → D → Mu → (D → Mu → Prop) → Prop} (hφ : Mono2 φ) (hf : MonoW f) (hg : MonoW g) : MonoW (d2 φ f g) := fun ρ μ P P' h k =>
  hf ρ μ _ _ h fun a μ1 q => hg ρ μ1 _ _ q fun b μ2 q => hφ a b μ2 _ _ q k
/-- what a rule of HandS over values asks is what the data operation asks -/
def Sim1 (r : V → Hp → VK → Prop) (φ : D → Mu → (D → Mu → Prop) → Prop) : Prop := ∀ (G : Hp) (μ : Mu) (H : Hp) (x : V) (a : D) (Q : VK), W3 G μ H → Rep G x a →
  φ a μ (fun d μ' => ∀ v G' H', Stp G μ H G' μ' H' → Rep G' v d → Q v H') → r x H Q
def Sim2 (r : R2) (φ : D → D → Mu → (D → Mu → Prop) → Prop) : Prop := ∀ (G : Hp) (μ : Mu) (H : Hp) (x y : V) (a b : D) (Q : VK), W3 G μ H → Rep G x a → Rep G y b →
  φ a b μ (fun d μ' => ∀ v G' H', Stp G μ H G' μ' H' → Rep G' v d → Q v H') → r x y H Q
theorem sim_un {r : V → Hp → VK → Prop} {φ : D → Mu → (D → Mu → Prop) → Prop} (hφ : Mono1 φ) (hs : Sim1 r φ) (hf : MonoW f) {σ : L2.St} {H : Hp} {Q : VK} (q : lift Γ (d1 φ f) σ H Q) : tUn r (lift Γ f) σ H Q := by
  obtain ⟨ρ, G, μ, hh, q⟩ := q
  refine ⟨ρ, G, μ, hh, hf ρ μ _ _ q fun a μ1 q1 x G1 H1 s1 r1 => ?_⟩
  exact hs G1 μ1 H1 x a Q s1.w r1 (hφ _ _ _ _ q1 fun d μ' k v G' H' s' rv => k v G' H' (s1.trans s') rv)
theorem sim_op {r : R2} {φ : D → D → Mu → (D → Mu → Prop) → Prop} (hφ : Mono2 φ) (hs : Sim2 r φ) (hf : MonoW f) (hg : MonoW g) {σ : L2.St} {H : Hp} {Q : VK} (q : lift Γ (d2 φ f g) σ H Q) : tOp r (lift Γ f) (lift Γ g) σ H Q := by
  obtain ⟨ρ, G, μ, hh, q⟩ := q
  refine ⟨ρ, G, μ, hh, hf ρ μ _ _ q fun a μ1 q1 x G1 H1 s1 r1 => ?_⟩
  refine ⟨ρ, G1, μ1, hh.step s1, hg ρ μ1 _ _ q1 fun b μ2 q2 y G2 H2 s2 r2 => ?_⟩
  exact hs G2 μ2 H2 x y a b Q s2.w (r1.mono s2.ext) r2 (hφ _ _ _ _ _ q2 fun d μ' k v G' H' s' rv => k v G' H' ((s1.trans s2).trans s') rv)
theorem pd_op {op : Operator} {r : R2} {φ : D → D → Mu → (D → Mu → Prop) → Prop} (ho : OpR X (binaryOp op) r) (hφ : Mono2 φ) (hs : Sim2 r φ) (ha : PD X Γ a f) (hb : PD X Γ b g) : PD X Γ (.BinOp a op b pos) (d2 φ f g) :=
  ⟨mono2 hφ ha.mono hb.mono, PE.imp (pe_op ho ha.pe hb.pe) fun _ _ _ q => sim_op hφ hs ha.mono hb.mono q⟩
theorem pd_un {op : UnaryOp} {r : V → Hp → VK → Prop} {φ : D → Mu → (D → Mu → Prop) → Prop} (ho : UnR X (unaryOp op) r) (hφ : Mono1 φ) (hs : Sim1 r φ) (ha : PD X Γ a f) : PD X Γ (.UnaryOp op a pos) (d1 φ f) :=
  ⟨mono1 hφ ha.mono, PE.imp (pe_un ho ha.pe) fun _ _ _ q => sim_un hφ hs ha.mono q⟩
theorem pd_cmp {op : CmpOp} {r : R2} {φ : D → D → Mu → (D → Mu → Prop) → Prop} (ho : OpR X (compareOp op) r) (hφ : Mono2 φ) (hs : Sim2 r φ) (ha : PD X Γ a f) (hb : PD X Γ b g) (hm : behindInMarks op b = false) : PD X Γ (.Compare a [op] [b] pos) (d2 φ f g) :=
  ⟨mono2 hφ ha.mono hb.mono, PE.imp (pe_cmpR ho ha.pe hb.pe hm) fun _ _ _ q => sim_op hφ hs ha.mono hb.mono q⟩
theorem pd_ixR {r : R2} {φ : D → D → Mu → (D → Mu → Prop) → Prop} (ho : IxR X r) (hφ : Mono2 φ) (hs : Sim2 r φ) (ha : PD X Γ a f) (hb : PD X Γ b g) (hp : PlainIx b) : PD X Γ (.Subscript a b pos) (d2 φ f g) :=
  ⟨mono2 hφ ha.mono hb.mono, PE.imp (pe_ix ho ha.pe hb.pe hp) fun _ _ _ q => sim_op hφ hs ha.mono hb.mono q⟩

/-! ints -/
def fI (g : Int → Int → D) : D → D → Mu → (D → Mu → Prop) → Prop := fun a b μ P => match a, b with
  | .int x, .int y => P (g x y) μ
  | _, _ => False
def fIC (C : Int → Int → Prop) (g : Int → Int → D) : D → D → Mu → (D → Mu → Prop) → Prop := fun a b μ P => match a, b with
  | .int x, .int y => C x y ∧ P (g x y) μ
  | _, _ => False
theorem fI_mono {g : Int → Int → D} : Mono2 (fI g) := fun a b μ P P' h k => by
  unfold fI at *; split at h
  · exact k _ _ h
  · exact h.elim
theorem fIC_mono {C : Int → Int → Prop} {g : Int → Int → D} : Mono2 (fIC C g) := fun a b μ P P' h k => by
  unfold fIC at *; split at h
  · exact ⟨h.1, k _ _ h.2⟩
  · exact h.elim
theorem fI_sim {g : Int → Int → V} {g' : Int → Int → D} (hg : ∀ G i j, Rep G (g i j) (g' i j)) : Sim2 (rI0 g) (fI g') := fun G μ H x y a b Q w rx ry q => by
  unfold fI at q; split at q
  · cases rx; cases ry
    exact ⟨_, _, rfl, rfl, q _ G H (Stp.refl w) (hg G _ _)⟩
  · exact q.elim
theorem fIC_sim {C : Int → Int → Prop} {g : Int → Int → V} {g' : Int → Int → D} (hg : ∀ G i j, Rep G (g i j) (g' i j)) : Sim2 (rI C g) (fIC C g') := fun G μ H x y a b Q w rx ry q => by
  unfold fIC at q; split at q
  · cases rx; cases ry
    exact ⟨_, _, rfl, rfl, q.1, q.2 _ G H (Stp.refl w) (hg G _ _)⟩
  · exact q.elim
abbrev fAdd := fI fun i j => .int (i + j)
abbrev fSub := fI fun i j => .int (i - j)
abbrev fMul := fIC CMul fun i j => .int (i * j)
abbrev fDiv := fIC CDiv fun i j => .int (i / j)
abbrev fMod := fIC (fun _ j => 0 < j) fun i j => .int (i % j)
abbrev fPow := fIC CPow fun i j => .int (i ^ j.toNat)
abbrev fLt := fI fun i j => .bl (decide (i < j))
abbrev fLe := fI fun i j => .bl (decide (i ≤ j))
abbrev fGt := fI fun i j => .bl (decide (j < i))
abbrev fGe := fI fun i j => .bl (decide (j ≤ i))
theorem pd_add (ha : PD X Γ a f) (hb : PD X Γ b g) : PD X Γ (.BinOp a .Add b pos) (d2 fAdd f g) := pd_op op_add fI_mono (fI_sim fun _ _ _ => .int _) ha hb
theorem pd_sub (ha : PD X Γ a f) (hb : PD X Γ b g) : PD X Γ (.BinOp a .Sub b pos) (d2 fSub f g) := pd_op op_sub fI_mono (fI_sim fun _ _ _ => .int _) ha hb
theorem pd_mul (ha : PD X Γ a f) (hb : PD X Γ b g) : PD X Γ (.BinOp a .Mult b pos) (d2 fMul f g) := pd_op op_mul fIC_mono (fIC_sim fun _ _ _ => .int _) ha hb
theorem pd_div (ha : PD X Γ a f) (hb : PD X Γ b g) : PD X Γ (.BinOp a .FloorDiv b pos) (d2 fDiv f g) := pd_op op_fdiv fIC_mono (fIC_sim fun _ _ _ => .int _) ha hb
theorem pd_mod (ha : PD X Γ a f) (hb : PD X Γ b g) : PD X Γ (.BinOp a .Mod b pos) (d2 fMod f g) := pd_op op_mod fIC_mono (fIC_sim fun _ _ _ => .int _) ha hb
theorem pd_pow (ha : PD X Γ a f) (hb : PD X Γ b g) : PD X Γ (.BinOp a .Pow b pos) (d2 fPow f g) := pd_op op_pow fIC_mono (fIC_sim fun _ _ _ => .int _) ha hb
theorem pd_lt (ha : PD X Γ a f) (hb : PD X Γ b g) : PD X Γ (.Compare a [.Lt] [b] pos) (d2 fLt f g) := pd_cmp op_lt fI_mono (fI_sim fun _ _ _ => .bl _) ha hb (nomark _)
theorem pd_le (ha : PD X Γ a f) (hb : PD X Γ b g) : PD X Γ (.Compare a [.LtE] [b] pos) (d2 fLe f g) := pd_cmp op_le fI_mono (fI_sim fun _ _ _ => .bl _) ha hb (nomark _)
theorem pd_gt (ha : PD X Γ a f) (hb : PD X Γ b g) : PD X Γ (.Compare a [.Gt] [b] pos) (d2 fGt f g) := pd_cmp op_gt fI_mono (fI_sim fun _ _ _ => .bl _) ha hb (nomark _)
theorem pd_ge (ha : PD X Γ a f) (hb : PD X Γ b g) : PD X Γ (.Compare a [.GtE] [b] pos) (d2 fGe f g) := pd_cmp op_ge fI_mono (fI_sim fun _ _ _ => .bl _) ha hb (nomark _)
def fU (g : Int → D) : D → Mu → (D → Mu → Prop) → Prop := fun a μ P => match a with
  | .int x => P (g x) μ
  | _ => False
theorem fU_mono {g : Int → D} : Mono1 (fU g) := fun a μ P P' h k => by
  unfold fU at *; split at h
  · exact k _ _ h
  · exact h.elim
theorem pd_neg (ha : PD X Γ a f) : PD X Γ (.UnaryOp .USub a pos) (d1 (fU fun i => .int (-i)) f) := pd_un un_neg fU_mono (fun G μ H x a Q w rx q => by
  unfold fU at q; split at q
  · cases rx
    exact ⟨_, rfl, q _ G H (Stp.refl w) (.int _)⟩
  · exact q.elim) ha

/-! == of data -/
mutual
def toPy : D → PyData
  | .non => .none
  | .bl b => .bool b
  | .int i => .int i
  | .str s => .str s
  | .tup l => .tuple (toPys l)
  | .lst l => .list (toPys l)
  | .hdl _ => .none
def toPys : List D → List PyData
  | [] => []
  | d :: ds => toPy d :: toPys ds
end
mutual
def plain : D → Bool
  | .tup l => plains l
  | .lst l => plains l
  | .hdl _ => false
  | _ => true
def plains : List D → Bool
  | [] => true
  | d :: ds => plain d && plains ds
end
end
end Dz

namespace Dz
open PySem PySem.Spec PyProof.Rows L2
/-! ### shapes, equality -/
inductive Sh : Nat → D → Prop where
  | non {n : Nat} : Sh n .non
  | bl {n : Nat} {b : Bool} : Sh n (.bl b)
  | int {n : Nat} {i : Int} : Sh n (.int i)
  | str {n : Nat} {s : Str} : PyData.canLay0 (.str s) = true → Sh n (.str s)
  | tup {n : Nat} {l : List D} : (∀ d ∈ l, Sh n d) → Sh (n + 1) (.tup l)
  | lst {n : Nat} {l : List D} : (∀ d ∈ l, Sh n d) → Sh (n + 1) (.lst l)
theorem sh_non {n : Nat} : Sh n .non ↔ True := ⟨fun _ => trivial, fun _ => .non⟩
theorem sh_bl {n : Nat} {b : Bool} : Sh n (.bl b) ↔ True := ⟨fun _ => trivial, fun _ => .bl⟩
theorem sh_int {n : Nat} {i : Int} : Sh n (.int i) ↔ True := ⟨fun _ => trivial, fun _ => .int⟩
theorem sh_str {n : Nat} {s : Str} : Sh n (.str s) ↔ PyData.canLay0 (.str s) = true := ⟨fun h => by cases h; assumption, fun h => .str h⟩
theorem sh_tup {n : Nat} {l : List D} : Sh (n + 1) (.tup l) ↔ ∀ d ∈ l, Sh n d := ⟨fun h => by cases h; assumption, fun h => .tup h⟩
theorem sh_lst {n : Nat} {l : List D} : Sh (n + 1) (.lst l) ↔ ∀ d ∈ l, Sh n d := ⟨fun h => by cases h; assumption, fun h => .lst h⟩
theorem toPys_eq : ∀ l : List D, toPys l = l.map toPy
  | [] => rfl
  | d :: ds => by rw [toPys, toPys_eq ds]; rfl
theorem layAll_of : ∀ l : List D, (∀ d ∈ l, (toPy d).canLay0 = true) → PyData.canLayAll0 (toPys l) = true
  | [], _ => rfl
  | d :: ds, h => by
    rw [toPys, PyData.canLayAll0, h d (by simp), layAll_of ds fun x hx => h x (by simp [hx])]; rfl
theorem depthAll_of {n : Nat} : ∀ l : List D, (∀ d ∈ l, (toPy d).depth ≤ n) → PyData.depthAll (toPys l) ≤ n
  | [], _ => by rw [toPys, PyData.depthAll]; exact Nat.zero_le _
  | d :: ds, h => by
    rw [toPys, PyData.depthAll]
    have h1 := h d (by simp)
    have h2 := depthAll_of ds fun x hx => h x (by simp [hx])
    omega
theorem Sh.lay {n : Nat} {d : D} (h : Sh n d) : (toPy d).canLay0 = true ∧ (toPy d).depth ≤ n := by
  induction h with
  | non => exact ⟨rfl, Nat.zero_le _⟩
  | bl => exact ⟨rfl, Nat.zero_le _⟩
  | int => exact ⟨rfl, Nat.zero_le _⟩
  | str e => exact ⟨e, by rw [toPy, PyData.depth]; exact Nat.zero_le _⟩
  | tup _ ih =>
    refine ⟨?_, ?_⟩
    · rw [toPy, PyData.canLay0]; exact layAll_of _ fun d hd => (ih d hd).1
    · rw [toPy, PyData.depth]
      have := depthAll_of _ fun d hd => (ih d hd).2
      omega
  | lst _ ih =>
    refine ⟨?_, ?_⟩
    · rw [toPy, PyData.canLay0]; exact layAll_of _ fun d hd => (ih d hd).1
    · rw [toPy, PyData.depth]
      have := depthAll_of _ fun d hd => (ih d hd).2
      omega
theorem Sh.shaped {n : Nat} {d : D} (h : Sh n d) (hn : n ≤ 64) : SeqAt.shaped (toPy d) = true := by
  unfold SeqAt.shaped
  rw [h.lay.1, decide_eq_true (Nat.le_trans h.lay.2 hn)]; rfl
mutual
theorem Sh.dp {K : PySem.W.Frag} {G H : Hp} (e : Same G H) : ∀ {v : V} {d : D}, Rep G v d → ∀ {n : Nat}, Sh n d → Dp K H v (toPy d)
  | _, _, .non, _, _ => .non
  | _, _, .bl b, _, _ => .bl b
  | _, _, .int i, _, _ => .int i
  | _, _, .str s, _, _ => .str s
  | _, _, .hdl a, _, h => nomatch h
  | _, _, .tup h r, _, .tup q => .tup (SqT.of (e _ _ h)) (Sh.dpAll e r q)
  | _, _, .lst h r, _, .lst q => .lst (SqL.of (e _ _ h)) (Sh.dpAll e r q)
theorem Sh.dpAll {K : PySem.W.Frag} {G H : Hp} (e : Same G H) : ∀ {vs : List V} {ds : List D}, RepL G vs ds → ∀ {n : Nat}, (∀ d ∈ ds, Sh n d) → DpAll K H vs (toPys ds)
  | _, _, .nil, _, _ => .nil
  | _, _, .cons h r, _, q => .cons (Sh.dp e h (q _ (by simp))) (Sh.dpAll e r fun d hd => q d (by simp [hd]))
end
def deq (a b : D) : Bool := PyData.eqv (toPy a) (toPy b)
def deqs (a b : List D) : Bool := PyData.eqvAll (toPys a) (toPys b)
theorem deq_int {i j : Int} : deq (.int i) (.int j) = decide (i = j) := by unfold deq; rw [toPy, toPy, PyData.eqv]; exact (Bool.beq_eq_decide_eq i j)
theorem deq_bl {i j : Bool} : deq (.bl i) (.bl j) = decide (i = j) := by unfold deq; rw [toPy, toPy, PyData.eqv]; exact (Bool.beq_eq_decide_eq i j)
theorem deq_str {i j : Str} : deq (.str i) (.str j) = decide (i = j) := by unfold deq; rw [toPy, toPy, PyData.eqv]; by_cases e : i = j <;> simp [e]
theorem deq_non : deq .non .non = true := rfl
theorem deq_tup {a b : List D} : deq (.tup a) (.tup b) = deqs a b := by unfold deq deqs; rw [toPy, toPy, PyData.eqv]
theorem deq_lst {a b : List D} : deq (.lst a) (.lst b) = deqs a b := by unfold deq deqs; rw [toPy, toPy, PyData.eqv]
theorem deqs_nil : deqs [] [] = true := rfl
theorem deqs_cons {x y : D} {a b : List D} : deqs (x :: a) (y :: b) = (deq x y && deqs a b) := by unfold deq deqs; rw [toPys, toPys, PyData.eqvAll]
theorem deqs_nil_cons {y : D} {b : List D} : deqs [] (y :: b) = false := rfl
theorem deqs_cons_nil {y : D} {b : List D} : deqs (y :: b) [] = false := rfl
theorem deq_tup_str {a : List D} {s : Str} : deq (.tup a) (.str s) = false := rfl
theorem deq_str_tup {a : List D} {s : Str} : deq (.str s) (.tup a) = false := rfl
theorem deq_lst_str {a : List D} {s : Str} : deq (.lst a) (.str s) = false := rfl
theorem deq_str_lst {a : List D} {s : Str} : deq (.str s) (.lst a) = false := rfl
theorem deq_tup_non {a : List D} : deq (.tup a) .non = false := rfl
theorem deq_non_tup {a : List D} : deq .non (.tup a) = false := rfl
theorem deq_lst_non {a : List D} : deq (.lst a) .non = false := rfl
theorem deq_non_lst {a : List D} : deq .non (.lst a) = false := rfl
theorem deq_non_int {a : Int} : deq .non (.int a) = false := rfl
theorem deq_int_non {a : Int} : deq (.int a) .non = false := rfl
theorem deq_str_non {a : Str} : deq (.str a) .non = false := rfl
theorem deq_non_str {a : Str} : deq .non (.str a) = false := rfl
theorem deq_str_int {a : Str} {i : Int} : deq (.str a) (.int i) = false := rfl
theorem deq_int_str {a : Str} {i : Int} : deq (.int i) (.str a) = false := rfl
theorem deqs_map {α : Type} {enc : α → D} [DecidableEq α] (h : ∀ x y, deq (enc x) (enc y) = decide (x = y)) : ∀ a b : List α, deqs (a.map enc) (b.map enc) = decide (a = b)
  | [], [] => rfl
  | [], _ :: _ => rfl
  | _ :: _, [] => rfl
  | x :: a, y :: b => by
    rw [List.map_cons, List.map_cons, deqs_cons, h, deqs_map h a b]
    by_cases e1 : x = y <;> by_cases e2 : a = b <;> simp [e1, e2]

section
variable {X : Cx} {Γ : Gam} {a b c e : Expr} {f g h : DE} {pos : Pos}
def fEq (neg : Bool) : D → D → Mu → (D → Mu → Prop) → Prop := fun a b μ P => Sh 20 a ∧ Sh 20 b ∧ P (.bl (if neg then !deq a b else deq a b)) μ
theorem fEq_mono {neg : Bool} : Mono2 (fEq neg) := fun a b μ P P' h k => ⟨h.1, h.2.1, k _ _ h.2.2⟩
theorem pd_eq (hu : X.A.units + 64 < cLine) (ha : PD X Γ a f) (hb : PD X Γ b g) : PD X Γ (.Compare a [.Eq] [b] pos) (d2 (fEq false) f g) :=
  pd_cmp (op_eqD hu) fEq_mono (fun G μ H x y a b Q w rx ry q => ⟨_, _, q.1.dp w.sub rx, q.2.1.dp w.sub ry, q.1.shaped (by decide), q.2.1.shaped (by decide), q.2.2 _ G H (Stp.refl w) (.bl _)⟩) ha hb (nomark _)
theorem pd_ne (hu : X.A.units + 64 < cLine) (ha : PD X Γ a f) (hb : PD X Γ b g) : PD X Γ (.Compare a [.NotEq] [b] pos) (d2 (fEq true) f g) :=
  pd_cmp (op_neD hu) fEq_mono (fun G μ H x y a b Q w rx ry q => ⟨_, _, q.1.dp w.sub rx, q.2.1.dp w.sub ry, q.1.shaped (by decide), q.2.1.shaped (by decide), q.2.2 _ G H (Stp.refl w) (.bl _)⟩) ha hb (nomark _)
/-! is None, is not None, is True .. -/
def isNon : D → Bool
  | .non => true
  | _ => false
theorem isNon_rep {G : Hp} {v : V} {d : D} (r : Rep G v d) : decide (v = V.non) = isNon d := by cases r <;> simp [isNon]
def fIsN (neg : Bool) : D → D → Mu → (D → Mu → Prop) → Prop := fun a b μ P => match b with
  | .non => P (.bl (if neg then !isNon a else isNon a)) μ
  | _ => False
theorem fIsN_mono {neg : Bool} : Mono2 (fIsN neg) := fun a b μ P P' h k => by
  unfold fIsN at *; split at h
  · exact k _ _ h
  · exact h.elim
theorem pd_isN (ha : PD X Γ a f) (hb : PD X Γ b g) : PD X Γ (.Compare a [.Is] [b] pos) (d2 (fIsN false) f g) :=
  pd_cmp op_isN fIsN_mono (fun G μ H x y a b Q w rx ry q => by
    unfold fIsN at q; split at q
    · cases ry
      exact ⟨rfl, by rw [isNon_rep rx]; exact q _ G H (Stp.refl w) (.bl _)⟩
    · exact q.elim) ha hb (nomark _)
theorem pd_notN (ha : PD X Γ a f) (hb : PD X Γ b g) : PD X Γ (.Compare a [.IsNot] [b] pos) (d2 (fIsN true) f g) :=
  pd_cmp op_notN fIsN_mono (fun G μ H x y a b Q w rx ry q => by
    unfold fIsN at q; split at q
    · cases ry
      exact ⟨rfl, by rw [isNon_rep rx]; exact q _ G H (Stp.refl w) (.bl _)⟩
    · exact q.elim) ha hb (nomark _)
def fIsB (neg : Bool) : D → D → Mu → (D → Mu → Prop) → Prop := fun a b μ P => match a, b with
  | .bl x, .bl y => P (.bl (if neg then !decide (x = y) else decide (x = y))) μ
  | _, _ => False
theorem fIsB_mono {neg : Bool} : Mono2 (fIsB neg) := fun a b μ P P' h k => by
  unfold fIsB at *; split at h
  · exact k _ _ h
  · exact h.elim
theorem pd_isB (ha : PD X Γ a f) (hb : PD X Γ b g) : PD X Γ (.Compare a [.Is] [b] pos) (d2 (fIsB false) f g) :=
  pd_cmp op_isBl fIsB_mono (fun G μ H x y a b Q w rx ry q => by
    unfold fIsB at q; split at q
    · cases rx; cases ry
      exact ⟨_, _, rfl, rfl, q _ G H (Stp.refl w) (.bl _)⟩
    · exact q.elim) ha hb (nomark _)
theorem pd_notB (ha : PD X Γ a f) (hb : PD X Γ b g) : PD X Γ (.Compare a [.IsNot] [b] pos) (d2 (fIsB true) f g) :=
  pd_cmp op_notBl fIsB_mono (fun G μ H x y a b Q w rx ry q => by
    unfold fIsB at q; split at q
    · cases rx; cases ry
      exact ⟨_, _, rfl, rfl, q _ G H (Stp.refl w) (.bl _)⟩
    · exact q.elim) ha hb (nomark _)

/-! ### items -/
def ixD (d : D) (i : Int) : Option D := match d with
  | .tup l => atI l i
  | .lst l => atI l i
  | _ => none
def fIx : D → D → Mu → (D → Mu → Prop) → Prop := fun a b μ P => match b with
  | .int i => (match ixD a i with
    | some d => P d μ
    | none => False)
  | _ => False
theorem fIx_mono : Mono2 fIx := fun a b μ P P' h k => by
  unfold fIx at *; split at h
  · split at h
    · exact k _ _ h
    · exact h.elim
  · exact h.elim
theorem atI_rep {G : Hp} {vs : List V} {ds : List D} {i : Int} {d : D} (r : RepL G vs ds) (h : atI ds i = some d) : ∃ v, atI vs i = some v ∧ Rep G v d := by
  unfold atI at h ⊢
  rw [r.length]
  cases e : ixN ds.length i with
  | none => rw [e] at h; cases h
  | some j =>
    rw [e] at h
    obtain ⟨v, h1, h2⟩ := r.get h
    exact ⟨v, h1, h2⟩
theorem pd_ix (ha : PD X Γ a f) (hb : PD X Γ b g) (hp : PlainIx b := by exact fun _ _ => rfl) : PD X Γ (.Subscript a b pos) (d2 fIx f g) :=
  pd_ixR (ix_list.or ix_tup) fIx_mono (fun G μ H x y a b Q w rx ry q => by
    unfold fIx at q; split at q
    · cases ry
      split at q
      · rename_i i d hd
        cases rx with
        | tup h r =>
          obtain ⟨v, h1, h2⟩ := atI_rep r hd
          exact .inr ⟨_, _, _, _, rfl, rfl, SqT.of (w.sub _ _ h), h1, q v G H (Stp.refl w) h2⟩
        | lst h r =>
          obtain ⟨v, h1, h2⟩ := atI_rep r hd
          exact .inl ⟨_, _, _, _, rfl, rfl, SqL.of (w.sub _ _ h), h1, q v G H (Stp.refl w) h2⟩
        | _ => cases hd
      · exact q.elim
    · exact q.elim) ha hb hp
/-- an item of a private list -/
def fIxH : D → D → Mu → (D → Mu → Prop) → Prop := fun a b μ P => match a, b with
  | .hdl p, .int i => (match μ p with
    | some (.lst l) => (match atI l i with
      | some d => P d μ
      | none => False)
    | _ => False)
  | _, _ => False
theorem fIxH_mono : Mono2 fIxH := fun a b μ P P' h k => by
  unfold fIxH at *; split at h
  · split at h
    · split at h
      · exact k _ _ h
      · exact h.elim
    · exact h.elim
  · exact h.elim
theorem pd_ixH (ha : PD X Γ a f) (hb : PD X Γ b g) (hp : PlainIx b := by exact fun _ _ => rfl) : PD X Γ (.Subscript a b pos) (d2 fIxH f g) :=
  pd_ixR ix_list fIxH_mono (fun G μ H x y a b Q w rx ry q => by
    unfold fIxH at q; split at q
    · cases ry; cases rx
      split at q
      · rename_i l hl
        split at q
        · rename_i d hd
          obtain ⟨vs, h1, r⟩ := w.ok _ _ hl
          obtain ⟨v, h2, h3⟩ := atI_rep r hd
          exact ⟨_, _, _, _, rfl, rfl, SqL.of h1, h2, q v G H (Stp.refl w) h3⟩
        · exact q.elim
      · exact q.elim
    · exact q.elim) ha hb hp

/-! ### tests -/
def dTest (f : DE) : DT := fun ρ μ Q => f ρ μ fun d μ' => match d with
  | .bl b => Q b μ'
  | _ => False
theorem dTest_mono (hf : MonoW f) : MonoW (dTest f) := fun ρ μ P P' h k => hf ρ μ _ _ h fun d μ' q => by
  split at q
  · exact k _ _ q
  · exact q.elim
theorem lift_tB {σ : L2.St} {H : Hp} {Q : Bool → Hp → Prop} (hf : MonoW f) (q : liftT Γ (dTest f) σ H Q) : lift Γ f σ H fun x H1 => ∃ k, x = .bl k ∧ Q k H1 := by
  obtain ⟨ρ, G, μ, hh, q⟩ := q
  refine ⟨ρ, G, μ, hh, hf ρ μ _ _ q fun d μ' q1 v G' H' s' rv => ?_⟩
  split at q1
  · cases rv
    exact ⟨_, rfl, q1 G' H' s'⟩
  · exact q1.elim
theorem pdt_val (ha : PD X Γ e f) (he : ∀ whole, isTrue e X.env whole = (do let v ← whole; standAt e.pos; holding [v] (truthy v)) := by intro _; rfl) : PDT X Γ e (dTest f) :=
  ⟨dTest_mono ha.mono, PT.imp (pt_val ha.pe he) fun σ H Q q => lift_tB ha.mono q⟩
variable {t u : DT}
def dNot (t : DT) : DT := fun ρ μ Q => t ρ μ fun b μ' => Q (!b) μ'
def dAnd (t u : DT) : DT := fun ρ μ Q => t ρ μ fun b μ1 => if b = true then u ρ μ1 Q else Q false μ1
def dOr (t u : DT) : DT := fun ρ μ Q => t ρ μ fun b μ1 => if b = true then Q true μ1 else u ρ μ1 Q
theorem dNot_mono (ht : MonoW t) : MonoW (dNot t) := fun ρ μ P P' h k => ht ρ μ _ _ h fun b μ' q => k _ _ q
theorem dAnd_mono (ht : MonoW t) (hu : MonoW u) : MonoW (dAnd t u) := fun ρ μ P P' h k => ht ρ μ _ _ h fun b μ1 q => by
  cases b
  · exact k _ _ q
  · exact hu ρ μ1 _ _ q k
theorem dOr_mono (ht : MonoW t) (hu : MonoW u) : MonoW (dOr t u) := fun ρ μ P P' h k => ht ρ μ _ _ h fun b μ1 q => by
  cases b
  · exact hu ρ μ1 _ _ q k
  · exact k _ _ q
theorem pdt_not (ha : PDT X Γ a t) : PDT X Γ (.UnaryOp .Not a pos) (dNot t) := ⟨dNot_mono ha.mono, PT.imp (pt_not ha.pt) fun σ H Q q => by
  obtain ⟨ρ, G, μ, hh, q⟩ := q
  exact ⟨ρ, G, μ, hh, q⟩⟩
structure PDW (X : Cx) (Γ : Gam) (e : Expr) (f : DT) : Prop where
  mono : MonoW f
  pw : PW X e (liftT Γ f)
theorem PW.imp {X : Cx} {e : Expr} {t t' : TT} (h : PW X e t) (i : ∀ σ H Q, t' σ H Q → t σ H Q) : PW X e t' := ⟨fun whole pins s σ H Q I q => h.run whole pins s σ H Q I (i σ H Q q)⟩
theorem PDW.pdt (h : PDW X Γ e t) : PDT X Γ e t := ⟨h.mono, h.pw.pt⟩
theorem pdw_and1 (ha : PDT X Γ a t) : PDW X Γ (.BoolOp .And [a] pos) t := ⟨ha.mono, pw_and1 ha.pt⟩
theorem pdw_or1 (ha : PDT X Γ a t) : PDW X Γ (.BoolOp .Or [a] pos) t := ⟨ha.mono, pw_or1 ha.pt⟩
theorem lift_and (ht : MonoW t) (hu : MonoW u) {σ : L2.St} {H : Hp} {Q : Bool → Hp → Prop} (q : liftT Γ (dAnd t u) σ H Q) : tAnd (liftT Γ t) (liftT Γ u) σ H Q := by
  obtain ⟨ρ, G, μ, hh, q⟩ := q
  refine ⟨ρ, G, μ, hh, ht ρ μ _ _ q fun b μ1 q1 G1 H1 s1 => ?_⟩
  cases b
  · exact q1 G1 H1 s1
  · exact ⟨ρ, G1, μ1, hh.step s1, hu ρ μ1 _ _ q1 fun b μ2 q2 G2 H2 s2 => q2 G2 H2 (s1.trans s2)⟩
theorem lift_or (ht : MonoW t) (hu : MonoW u) {σ : L2.St} {H : Hp} {Q : Bool → Hp → Prop} (q : liftT Γ (dOr t u) σ H Q) : tOr (liftT Γ t) (liftT Γ u) σ H Q := by
  obtain ⟨ρ, G, μ, hh, q⟩ := q
  refine ⟨ρ, G, μ, hh, ht ρ μ _ _ q fun b μ1 q1 G1 H1 s1 => ?_⟩
  cases b
  · exact ⟨ρ, G1, μ1, hh.step s1, hu ρ μ1 _ _ q1 fun b μ2 q2 G2 H2 s2 => q2 G2 H2 (s1.trans s2)⟩
  · exact q1 G1 H1 s1
theorem pdw_and {rest : List Expr} (ha : PDT X Γ a t) (hb : PDW X Γ (.BoolOp .And (b :: rest) pos) u) : PDW X Γ (.BoolOp .And (a :: b :: rest) pos) (dAnd t u) :=
  ⟨dAnd_mono ha.mono hb.mono, PW.imp (pw_and ha.pt hb.pw) fun _ _ _ q => lift_and ha.mono hb.mono q⟩
theorem pdw_or {rest : List Expr} (ha : PDT X Γ a t) (hb : PDW X Γ (.BoolOp .Or (b :: rest) pos) u) : PDW X Γ (.BoolOp .Or (a :: b :: rest) pos) (dOr t u) :=
  ⟨dOr_mono ha.mono hb.mono, PW.imp (pw_or ha.pt hb.pw) fun _ _ _ q => lift_or ha.mono hb.mono q⟩
/-! and, or, not as values -/
def dAndV (f g : DE) : DE := fun ρ μ Q => f ρ μ fun d μ1 => match d with
  | .bl true => g ρ μ1 Q
  | .bl false => Q (.bl false) μ1
  | _ => False
def dOrV (f g : DE) : DE := fun ρ μ Q => f ρ μ fun d μ1 => match d with
  | .bl true => Q (.bl true) μ1
  | .bl false => g ρ μ1 Q
  | _ => False
def dNotV (f : DE) : DE := fun ρ μ Q => f ρ μ fun d μ1 => match d with
  | .bl b => Q (.bl (!b)) μ1
  | _ => False
theorem dAndV_mono (hf : MonoW f) (hg : MonoW g) : MonoW (dAndV f g) := fun ρ μ P P' h k => hf ρ μ _ _ h fun d μ1 q => by
  split at q
  · exact hg ρ μ1 _ _ q k
  · exact k _ _ q
  · exact q.elim
theorem dOrV_mono (hf : MonoW f) (hg : MonoW g) : MonoW (dOrV f g) := fun ρ μ P P' h k => hf ρ μ _ _ h fun d μ1 q => by
  split at q
  · exact k _ _ q
  · exact hg ρ μ1 _ _ q k
  · exact q.elim
theorem dNotV_mono (hf : MonoW f) : MonoW (dNotV f) := fun ρ μ P P' h k => hf ρ μ _ _ h fun d μ1 q => by
  split at q
  · exact k _ _ q
  · exact q.elim
theorem pd_one {op : BoolOp} (ha : PD X Γ a f) : PD X Γ (.BoolOp op [a] pos) f := ⟨ha.mono, pe_one ha.pe⟩
theorem pd_andV {rest : List Expr} (ha : PD X Γ a f) (hb : PD X Γ (.BoolOp .And (b :: rest) pos) g) : PD X Γ (.BoolOp .And (a :: b :: rest) pos) (dAndV f g) :=
  ⟨dAndV_mono ha.mono hb.mono, PE.imp (pe_and ha.pe hb.pe) fun σ H Q q => by
    obtain ⟨ρ, G, μ, hh, q⟩ := q
    refine ⟨ρ, G, μ, hh, ha.mono ρ μ _ _ q fun d μ1 q1 v G1 H1 s1 rv => ?_⟩
    split at q1
    · cases rv
      exact ⟨true, rfl, ρ, G1, μ1, hh.step s1, hb.mono ρ μ1 _ _ q1 fun d μ2 q2 v2 G2 H2 s2 r2 => q2 v2 G2 H2 (s1.trans s2) r2⟩
    · cases rv
      exact ⟨false, rfl, q1 _ G1 H1 s1 (.bl _)⟩
    · exact q1.elim⟩
theorem pd_orV {rest : List Expr} (ha : PD X Γ a f) (hb : PD X Γ (.BoolOp .Or (b :: rest) pos) g) : PD X Γ (.BoolOp .Or (a :: b :: rest) pos) (dOrV f g) :=
  ⟨dOrV_mono ha.mono hb.mono, PE.imp (pe_or ha.pe hb.pe) fun σ H Q q => by
    obtain ⟨ρ, G, μ, hh, q⟩ := q
    refine ⟨ρ, G, μ, hh, ha.mono ρ μ _ _ q fun d μ1 q1 v G1 H1 s1 rv => ?_⟩
    split at q1
    · cases rv
      exact ⟨true, rfl, q1 _ G1 H1 s1 (.bl _)⟩
    · cases rv
      exact ⟨false, rfl, ρ, G1, μ1, hh.step s1, hb.mono ρ μ1 _ _ q1 fun d μ2 q2 v2 G2 H2 s2 r2 => q2 v2 G2 H2 (s1.trans s2) r2⟩
    · exact q1.elim⟩
theorem pd_notV (ha : PD X Γ a f) : PD X Γ (.UnaryOp .Not a pos) (dNotV f) := ⟨dNotV_mono ha.mono, PE.imp (pe_not ha.pe) fun σ H Q q => by
    obtain ⟨ρ, G, μ, hh, q⟩ := q
    refine ⟨ρ, G, μ, hh, ha.mono ρ μ _ _ q fun d μ1 q1 v G1 H1 s1 rv => ?_⟩
    split at q1
    · cases rv
      exact ⟨_, rfl, q1 _ G1 H1 s1 (.bl _)⟩
    · exact q1.elim⟩
/-! a if t else b -/
def dIfE (t : DT) (f g : DE) : DE := fun ρ μ Q => t ρ μ fun b μ1 => if b = true then f ρ μ1 Q else g ρ μ1 Q
theorem dIfE_mono (ht : MonoW t) (hf : MonoW f) (hg : MonoW g) : MonoW (dIfE t f g) := fun ρ μ P P' h k => ht ρ μ _ _ h fun b μ1 q => by
  cases b
  · exact hg ρ μ1 _ _ q k
  · exact hf ρ μ1 _ _ q k
theorem pd_ifE (hc : PDT X Γ c t) (ha : PD X Γ a f) (hb : PD X Γ b g) : PD X Γ (.IfExp c a b pos) (dIfE t f g) :=
  ⟨dIfE_mono hc.mono ha.mono hb.mono, PE.imp (pe_ifExp hc.pt ha.pe hb.pe) fun σ H Q q => by
    obtain ⟨ρ, G, μ, hh, q⟩ := q
    refine ⟨ρ, G, μ, hh, hc.mono ρ μ _ _ q fun b μ1 q1 G1 H1 s1 => ?_⟩
    cases b
    · exact ⟨ρ, G1, μ1, hh.step s1, hb.mono ρ μ1 _ _ q1 fun d μ2 q2 v2 G2 H2 s2 r2 => q2 v2 G2 H2 (s1.trans s2) r2⟩
    · exact ⟨ρ, G1, μ1, hh.step s1, ha.mono ρ μ1 _ _ q1 fun d μ2 q2 v2 G2 H2 s2 r2 => q2 v2 G2 H2 (s1.trans s2) r2⟩⟩
/-! a < b < c -/
def d3c (φ ψ : D → D → Mu → (D → Mu → Prop) → Prop) (f g h : DE) : DE := fun ρ μ Q => f ρ μ fun a μ1 => g ρ μ1 fun b μ2 => φ a b μ2 fun z μ3 => match z with
  | .bl true => h ρ μ3 fun c μ4 => ψ b c μ4 Q
  | .bl false => Q (.bl false) μ3
  | _ => False
theorem d3c_mono {φ ψ : D → D → Mu → (D → Mu → Prop) → Prop} (hφ : Mono2 φ) (hψ : Mono2 ψ) (hf : MonoW f) (hg : MonoW g) (hh : MonoW h) : MonoW (d3c φ ψ f g h) := fun ρ μ P P' q k =>
  hf ρ μ _ _ q fun a μ1 q => hg ρ μ1 _ _ q fun b μ2 q => hφ a b μ2 _ _ q fun z μ3 q => by
    split at q
    · exact hh ρ μ3 _ _ q fun c μ4 q => hψ b c μ4 _ _ q k
    · exact k _ _ q
    · exact q.elim
theorem lift_chain {r r' : R2} {φ ψ : D → D → Mu → (D → Mu → Prop) → Prop} (hφ : Mono2 φ) (hψ : Mono2 ψ) (hs : Sim2 r φ) (hs' : Sim2 r' ψ) (hf : MonoW f) (hg : MonoW g) (hh : MonoW h) {σ : L2.St} {H : Hp} {Q : VK}
    (q : lift Γ (d3c φ ψ f g h) σ H Q) : tChain r r' (lift Γ f) (lift Γ g) (lift Γ h) σ H Q := by
  obtain ⟨ρ, G, μ, ho, q⟩ := q
  refine ⟨ρ, G, μ, ho, hf ρ μ _ _ q fun a μ1 q1 x G1 H1 s1 r1 => ?_⟩
  refine ⟨ρ, G1, μ1, ho.step s1, hg ρ μ1 _ _ q1 fun b μ2 q2 y G2 H2 s2 r2 => ?_⟩
  refine hs G2 μ2 H2 x y a b _ s2.w (r1.mono s2.ext) r2 (hφ _ _ _ _ _ q2 fun z μ3 q3 v G3 H3 s3 r3 => ?_)
  split at q3
  · cases r3
    refine ⟨true, rfl, ?_⟩
    refine ⟨ρ, G3, μ3, (ho.step (s1.trans s2)).step s3, hh ρ μ3 _ _ q3 fun c μ4 q4 u G4 H4 s4 r4 => ?_⟩
    exact hs' G4 μ4 H4 y u b c Q s4.w (r2.mono (s3.ext.trans s4.ext)) r4 (hψ _ _ _ _ _ q4 fun d μ5 q5 v5 G5 H5 s5 r5 => q5 v5 G5 H5 ((((s1.trans s2).trans s3).trans s4).trans s5) r5)
  · cases r3
    exact ⟨false, rfl, q3 _ G3 H3 ((s1.trans s2).trans s3) (.bl _)⟩
  · exact q3.elim
end
end Dz

namespace Dz
open PySem PySem.Spec PyProof.Rows L2
section
variable {X : Cx} {Γ : Gam} {a b c e : Expr} {es : List Expr} {f g h : DE} {fa : DA} {t u : DT} {pos : Pos}
/-! ### chains -/
theorem pd_chain {op op' : CmpOp} {r r' : R2} {φ ψ : D → D → Mu → (D → Mu → Prop) → Prop} (ho : OpR X (compareOp op) r) (ho' : OpR X (compareOp op') r') (hφ : Mono2 φ) (hψ : Mono2 ψ) (hs : Sim2 r φ) (hs' : Sim2 r' ψ)
    (ha : PD X Γ a f) (hb : PD X Γ b g) (hc : PD X Γ c h) (hm : lastMarks [op, op'] [b, c] = false := by with_unfolding_all rfl) : PD X Γ (.Compare a [op, op'] [b, c] pos) (d3c φ ψ f g h) :=
  ⟨d3c_mono hφ hψ ha.mono hb.mono hc.mono, PE.imp (pe_chain ho ho' ha.pe hb.pe hc.pe hm) fun _ _ _ q => lift_chain hφ hψ hs hs' ha.mono hb.mono hc.mono q⟩
theorem pdt_chain {op op' : CmpOp} {r r' : R2} {φ ψ : D → D → Mu → (D → Mu → Prop) → Prop} (ho : OpR X (compareOp op) r) (ho' : OpR X (compareOp op') r') (hφ : Mono2 φ) (hψ : Mono2 ψ) (hs : Sim2 r φ) (hs' : Sim2 r' ψ)
    (ha : PD X Γ a f) (hb : PD X Γ b g) (hc : PD X Γ c h) (hm : lastMarks [op, op'] [b, c] = false := by with_unfolding_all rfl) : PDT X Γ (.Compare a [op, op'] [b, c] pos) (dTest (d3c φ ψ f g h)) :=
  ⟨dTest_mono (d3c_mono hφ hψ ha.mono hb.mono hc.mono), PT.imp (pt_chain ho ho' ha.pe hb.pe hc.pe hm) fun _ _ _ q => lift_chain hφ hψ hs hs' ha.mono hb.mono hc.mono (lift_tB (d3c_mono hφ hψ ha.mono hb.mono hc.mono) q)⟩
theorem sLt : Sim2 (rI0 fun i j => .bl (decide (i < j))) fLt := fI_sim fun _ _ _ => .bl _
theorem sLe : Sim2 (rI0 fun i j => .bl (decide (i ≤ j))) fLe := fI_sim fun _ _ _ => .bl _
theorem sGt : Sim2 (rI0 fun i j => .bl (decide (j < i))) fGt := fI_sim fun _ _ _ => .bl _
theorem sGe : Sim2 (rI0 fun i j => .bl (decide (j ≤ i))) fGe := fI_sim fun _ _ _ => .bl _

/-! ### arguments -/
def dNil : DA := fun _ μ Q => Q [] μ
def dCons (f : DE) (fa : DA) : DA := fun ρ μ Q => f ρ μ fun d μ1 => fa ρ μ1 fun ds μ2 => Q (d :: ds) μ2
theorem dNil_mono : MonoW dNil := fun _ _ _ _ h k => k _ _ h
theorem dCons_mono (hf : MonoW f) (ha : MonoW fa) : MonoW (dCons f fa) := fun ρ μ P P' q k => hf ρ μ _ _ q fun d μ1 q => ha ρ μ1 _ _ q fun ds μ2 q => k _ _ q
theorem pda_nil : PDA X Γ [] dNil := ⟨dNil_mono, PA.imp pa_nil fun σ H Q q => by
  obtain ⟨ρ, G, μ, hh, q⟩ := q
  exact q [] G H (Stp.refl hh.stp.w) .nil⟩
theorem lift_cons (hf : MonoW f) (ha : MonoW fa) {σ : L2.St} {H : Hp} {Q : List V → Hp → Prop} (q : liftA Γ (dCons f fa) σ H Q) : tCons (lift Γ f) (liftA Γ fa) σ H Q := by
  obtain ⟨ρ, G, μ, hh, q⟩ := q
  refine ⟨ρ, G, μ, hh, hf ρ μ _ _ q fun d μ1 q1 x G1 H1 s1 r1 => ?_⟩
  refine ⟨ρ, G1, μ1, hh.step s1, ha ρ μ1 _ _ q1 fun ds μ2 q2 xs G2 H2 s2 r2 => ?_⟩
  exact q2 (x :: xs) G2 H2 (s1.trans s2) (.cons (r1.mono s2.ext) r2)
theorem pda_cons (h1 : PD X Γ e f) (h2 : PDA X Γ es fa) (hs : starEach (e :: es) X.env = (false, eval e X.env) :: starEach es X.env := by rfl) : PDA X Γ (e :: es) (dCons f fa) :=
  ⟨dCons_mono h1.mono h2.mono, PA.imp (pa_cons h1.pe h2.pa hs) fun _ _ _ q => lift_cons h1.mono h2.mono q⟩

/-! ### tuples and lists -/
def dAs (φ : List D → Mu → (D → Mu → Prop) → Prop) (fa : DA) : DE := fun ρ μ Q => fa ρ μ fun ds μ1 => φ ds μ1 Q
def MonoA (φ : List D → Mu → (D → Mu → Prop) → Prop) : Prop := ∀ ds μ P P', φ ds μ P → (∀ d μ', P d μ' → P' d μ') → φ ds μ P'
theorem dAs_mono {φ : List D → Mu → (D → Mu → Prop) → Prop} (hφ : MonoA φ) (ha : MonoW fa) : MonoW (dAs φ fa) := fun ρ μ P P' q k => ha ρ μ _ _ q fun ds μ1 q => hφ ds μ1 _ _ q k
def SimA (r : List V → Hp → VK → Prop) (φ : List D → Mu → (D → Mu → Prop) → Prop) : Prop := ∀ (G : Hp) (μ : Mu) (H : Hp) (xs : List V) (ds : List D) (Q : VK), W3 G μ H → RepL G xs ds →
  φ ds μ (fun d μ' => ∀ v G' H', Stp G μ H G' μ' H' → Rep G' v d → Q v H') → r xs H Q
theorem sim_as {r : List V → Hp → VK → Prop} {φ : List D → Mu → (D → Mu → Prop) → Prop} (hφ : MonoA φ) (hs : SimA r φ) (ha : MonoW fa) {σ : L2.St} {H : Hp} {Q : VK} (q : lift Γ (dAs φ fa) σ H Q) :
    liftA Γ fa σ H fun xs H1 => r xs H1 Q := by
  obtain ⟨ρ, G, μ, hh, q⟩ := q
  refine ⟨ρ, G, μ, hh, ha ρ μ _ _ q fun ds μ1 q1 xs G1 H1 s1 r1 => ?_⟩
  exact hs G1 μ1 H1 xs ds Q s1.w r1 (hφ _ _ _ _ q1 fun d μ' k v G' H' s' rv => k v G' H' (s1.trans s') rv)
def fTup : List D → Mu → (D → Mu → Prop) → Prop := fun ds μ P => ds.length ≤ 100000 ∧ P (.tup ds) μ
def fLst : List D → Mu → (D → Mu → Prop) → Prop := fun ds μ P => ds.length ≤ 100000 ∧ P (.lst ds) μ
theorem fTup_mono : MonoA fTup := fun _ _ _ _ h k => ⟨h.1, k _ _ h.2⟩
theorem fLst_mono : MonoA fLst := fun _ _ _ _ h k => ⟨h.1, k _ _ h.2⟩
theorem sz_of {n : Nat} (h : n ≤ 100000) : n ≤ sizeLine := Nat.le_trans h (by decide)
theorem rep_new {G : Hp} {p : Addr} {o : HO} {d : D} {vs : List V} {ds : List D} (hg : G p = none) (r : RepL G vs ds) : RepL (upd G p o) vs ds := r.mono (same_new hg)
theorem pd_tup {k : Nat} (ha : PDA X Γ es fa) : PD X Γ (.Tuple es k pos) (dAs fTup fa) := ⟨dAs_mono fTup_mono ha.mono, PE.imp (pe_tup ha.pa) fun σ H Q q =>
  sim_as (r := fun xs H1 Q => xs.length ≤ sizeLine ∧ ∀ p, H1 p = none → Q (.ref p) (upd H1 p (.tup xs))) fTup_mono (fun G μ H xs ds Q w r q =>
    ⟨by rw [r.length]; exact sz_of q.1, fun p hp => q.2 _ _ _ (w.alloc hp) (.tup upd_same (r.mono (same_new (w.gnone hp))))⟩) ha.mono q⟩
theorem pd_lst (ha : PDA X Γ es fa) : PD X Γ (.List es pos) (dAs fLst fa) := ⟨dAs_mono fLst_mono ha.mono, PE.imp (pe_lst ha.pa) fun σ H Q q =>
  sim_as (r := fun xs H1 Q => xs.length ≤ sizeLine ∧ ∀ p, H1 p = none → Q (.ref p) (upd H1 p (.lst xs))) fLst_mono (fun G μ H xs ds Q w r q =>
    ⟨by rw [r.length]; exact sz_of q.1, fun p hp => q.2 _ _ _ (w.alloc hp) (.lst upd_same (r.mono (same_new (w.gnone hp))))⟩) ha.mono q⟩

/-! ### built-in functions -/
/-- a built-in function, over data -/
def BI (X : Cx) (id : String) (φ : List D → Mu → (D → Mu → Prop) → Prop) : Prop := ∃ r, CallR X (.builtin id) r ∧ MonoA φ ∧ SimA r φ
def BT (X : Cx) (T : String) (φ : List D → Mu → (D → Mu → Prop) → Prop) : Prop := ∃ r, CallR X (.type T) r ∧ MonoA φ ∧ SimA r φ
theorem pd_B {x : Str} {p : Pos} {id : String} {φ : List D → Mu → (D → Mu → Prop) → Prop} (hb : BI X id φ) (hg : Gl X x) (hm : X.mg x = none) (hv : bootBuiltins x = some (.builtin id))
    (ha : PDA X Γ (e :: es) fa) (hn : x ≠ "__name__" := by decide) (hdb : (x == ("__debug__" : Str)) = false := by decide)
    (he : starEach (e :: es) X.env = (false, eval e X.env) :: starEach es X.env := by rfl) (hpl : (backTo pos (starEach es X.env)).any (·.1) = false := by rfl) : PD X Γ (.Call (.Name x p) (e :: es) [] pos) (dAs φ fa) := by
  obtain ⟨r, hc, hφ, hs⟩ := hb
  exact ⟨dAs_mono hφ ha.mono, PE.imp (pe_callB hc hg hm hv ha.pa hn hdb he hpl) fun σ H Q q => sim_as hφ hs ha.mono q⟩
theorem pd_T {x : Str} {p : Pos} {T : String} {φ : List D → Mu → (D → Mu → Prop) → Prop} (hb : BT X T φ) (hg : Gl X x) (hm : X.mg x = none) (hv : bootBuiltins x = some (.type T))
    (ha : PDA X Γ (e :: es) fa) (hn : x ≠ "__name__" := by decide) (hdb : (x == ("__debug__" : Str)) = false := by decide)
    (he : starEach (e :: es) X.env = (false, eval e X.env) :: starEach es X.env := by rfl) (hpl : (backTo pos (starEach es X.env)).any (·.1) = false := by rfl) : PD X Γ (.Call (.Name x p) (e :: es) [] pos) (dAs φ fa) := by
  obtain ⟨r, hc, hφ, hs⟩ := hb
  exact ⟨dAs_mono hφ ha.mono, PE.imp (pe_callTy hc hg hm hv ha.pa hn hdb he hpl) fun σ H Q q => sim_as hφ hs ha.mono q⟩
/-- one argument, by a function -/
def f1 (φ : D → Mu → (D → Mu → Prop) → Prop) : List D → Mu → (D → Mu → Prop) → Prop := fun ds μ P => match ds with
  | [d] => φ d μ P
  | _ => False
theorem f1_mono {φ : D → Mu → (D → Mu → Prop) → Prop} (h : Mono1 φ) : MonoA (f1 φ) := fun ds μ P P' q k => by
  unfold f1 at *; split at q
  · exact h _ _ _ _ q k
  · exact q.elim
theorem f1_sim {r : List V → Hp → VK → Prop} {φ : D → Mu → (D → Mu → Prop) → Prop} (h : ∀ (G : Hp) (μ : Mu) (H : Hp) (x : V) (d : D) (Q : VK), W3 G μ H → Rep G x d → φ d μ (fun d μ' => ∀ v G' H', Stp G μ H G' μ' H' → Rep G' v d → Q v H') → r [x] H Q) :
    SimA r (f1 φ) := fun G μ H xs ds Q w rl q => by
  unfold f1 at q; split at q
  · cases rl with
    | cons r1 r2 =>
      cases r2
      exact h G μ H _ _ Q w r1 q
  · exact q.elim
def f2 (φ : D → D → Mu → (D → Mu → Prop) → Prop) : List D → Mu → (D → Mu → Prop) → Prop := fun ds μ P => match ds with
  | [d, e] => φ d e μ P
  | _ => False
theorem f2_mono {φ : D → D → Mu → (D → Mu → Prop) → Prop} (h : Mono2 φ) : MonoA (f2 φ) := fun ds μ P P' q k => by
  unfold f2 at *; split at q
  · exact h _ _ _ _ _ q k
  · exact q.elim
theorem f2_sim {r : List V → Hp → VK → Prop} {φ : D → D → Mu → (D → Mu → Prop) → Prop} (h : ∀ (G : Hp) (μ : Mu) (H : Hp) (x y : V) (d e : D) (Q : VK), W3 G μ H → Rep G x d → Rep G y e → φ d e μ (fun d μ' => ∀ v G' H', Stp G μ H G' μ' H' → Rep G' v d → Q v H') → r [x, y] H Q) :
    SimA r (f2 φ) := fun G μ H xs ds Q w rl q => by
  unfold f2 at q; split at q
  · cases rl with
    | cons r1 r2 =>
      cases r2 with
      | cons r3 r4 =>
        cases r4
        exact h G μ H _ _ _ _ Q w r1 r3 q
  · exact q.elim
/-- len -/
def fLen : D → Mu → (D → Mu → Prop) → Prop := fun d μ P => match d with
  | .lst l => P (.int l.length) μ
  | .tup l => P (.int l.length) μ
  | .hdl p => (match μ p with
    | some (.lst l) => P (.int l.length) μ
    | _ => False)
  | _ => False
theorem fLen_mono : Mono1 fLen := fun a μ P P' h k => by
  unfold fLen at *; split at h
  · exact k _ _ h
  · exact k _ _ h
  · split at h
    · exact k _ _ h
    · exact h.elim
  · exact h.elim
theorem bi_len : BI X "len" (f1 fLen) := ⟨_, call_len_seq, f1_mono fLen_mono, f1_sim fun G μ H x d Q w r q => by
    unfold fLen at q; split at q
    · cases r with | lst h rl => exact ⟨_, _, rfl, .inl (SqL.of (w.sub _ _ h)), by rw [rl.length]; exact q _ G H (Stp.refl w) (.int _)⟩
    · cases r with | tup h rl => exact ⟨_, _, rfl, .inr (SqT.of (w.sub _ _ h)), by rw [rl.length]; exact q _ G H (Stp.refl w) (.int _)⟩
    · cases r
      split at q
      · rename_i l hl
        obtain ⟨vs, h1, rl⟩ := w.ok _ _ hl
        exact ⟨_, _, rfl, .inl (SqL.of h1), by rw [rl.length]; exact q _ G H (Stp.refl w) (.int _)⟩
      · exact q.elim
    · exact q.elim⟩
/-- abs, min, max of ints -/
theorem bi_abs : BI X "abs" (f1 (fU fun i => .int (if i < 0 then -i else i))) := ⟨_, call_abs, f1_mono fU_mono, f1_sim fun G μ H x d Q w r q => by
    unfold fU at q; split at q
    · cases r; exact ⟨_, rfl, q _ G H (Stp.refl w) (.int _)⟩
    · exact q.elim⟩
theorem bi_max2 (hc : X.calm = true) : BI X "max" (f2 (fI fun i j => .int (if j > i then j else i))) := ⟨_, call_max2 hc, f2_mono fI_mono, f2_sim fun G μ H x y d e Q w r1 r2 q => by
    unfold fI at q; split at q
    · cases r1; cases r2; exact ⟨_, _, rfl, q _ G H (Stp.refl w) (.int _)⟩
    · exact q.elim⟩
theorem bi_min2 (hc : X.calm = true) : BI X "min" (f2 (fI fun i j => .int (if j < i then j else i))) := ⟨_, call_min2 hc, f2_mono fI_mono, f2_sim fun G μ H x y d e Q w r1 r2 q => by
    unfold fI at q; split at q
    · cases r1; cases r2; exact ⟨_, _, rfl, q _ G H (Stp.refl w) (.int _)⟩
    · exact q.elim⟩
/-- sum, min, max, all of a list -/
def fInts (φ : List Int → (D → Prop) → Prop) : D → Mu → (D → Mu → Prop) → Prop := fun d μ P => ∃ ns : List Int, d = .lst (ns.map D.int) ∧ φ ns fun d => P d μ
def fBools (φ : List Bool → (D → Prop) → Prop) : D → Mu → (D → Mu → Prop) → Prop := fun d μ P => ∃ ns : List Bool, d = .lst (ns.map D.bl) ∧ φ ns fun d => P d μ
theorem fInts_mono {φ : List Int → (D → Prop) → Prop} (h : ∀ ns P P', φ ns P → (∀ d, P d → P' d) → φ ns P') : Mono1 (fInts φ) := fun a μ P P' q k => by
  obtain ⟨ns, e, q⟩ := q; exact ⟨ns, e, h _ _ _ q fun d => k d μ⟩
theorem fBools_mono {φ : List Bool → (D → Prop) → Prop} (h : ∀ ns P P', φ ns P → (∀ d, P d → P' d) → φ ns P') : Mono1 (fBools φ) := fun a μ P P' q k => by
  obtain ⟨ns, e, q⟩ := q; exact ⟨ns, e, h _ _ _ q fun d => k d μ⟩
abbrev fSum := fInts fun ns P => P (.int ns.sum)
abbrev fMaxL := fInts fun ns P => 0 < ns.length ∧ ∀ m ∈ ns, (∀ x ∈ ns, x ≤ m) → P (.int m)
abbrev fMinL := fInts fun ns P => 0 < ns.length ∧ ∀ m ∈ ns, (∀ x ∈ ns, m ≤ x) → P (.int m)
abbrev fAll := fBools fun ns P => P (.bl (ns.all id))
theorem bi_sum (hc : X.calm = true) : BI X "sum" (f1 fSum) := ⟨_, cr_sum hc, f1_mono (fInts_mono fun _ _ _ h k => k _ h), f1_sim fun G μ H x d Q w r q => by
    obtain ⟨ns, rfl, q⟩ := q
    cases r with | lst h rl =>
    rw [RepL.ints ns rl] at h
    exact ⟨_, ns, rfl, SqL.of (w.sub _ _ h), q _ G H (Stp.refl w) (.int _)⟩⟩
theorem bi_all (hc : X.calm = true) : BI X "all" (f1 fAll) := ⟨_, cr_all hc, f1_mono (fBools_mono fun _ _ _ h k => k _ h), f1_sim fun G μ H x d Q w r q => by
    obtain ⟨ns, rfl, q⟩ := q
    cases r with | lst h rl =>
    rw [RepL.bools ns rl] at h
    exact ⟨_, ns, rfl, SqL.of (w.sub _ _ h), q _ G H (Stp.refl w) (.bl _)⟩⟩
theorem bi_maxL (hc : X.calm = true) : BI X "max" (f1 fMaxL) := ⟨_, cr_max hc, f1_mono (fInts_mono fun _ _ _ h k => ⟨h.1, fun m h1 h2 => k _ (h.2 m h1 h2)⟩), f1_sim fun G μ H x d Q w r q => by
    obtain ⟨ns, rfl, q⟩ := q
    cases r with | lst h rl =>
    rw [RepL.ints ns rl] at h
    exact ⟨_, ns, rfl, SqL.of (w.sub _ _ h), q.1, fun m h1 h2 => q.2 m h1 h2 _ G H (Stp.refl w) (.int _)⟩⟩
theorem bi_minL (hc : X.calm = true) : BI X "min" (f1 fMinL) := ⟨_, cr_min hc, f1_mono (fInts_mono fun _ _ _ h k => ⟨h.1, fun m h1 h2 => k _ (h.2 m h1 h2)⟩), f1_sim fun G μ H x d Q w r q => by
    obtain ⟨ns, rfl, q⟩ := q
    cases r with | lst h rl =>
    rw [RepL.ints ns rl] at h
    exact ⟨_, ns, rfl, SqL.of (w.sub _ _ h), q.1, fun m h1 h2 => q.2 m h1 h2 _ G H (Stp.refl w) (.int _)⟩⟩
theorem bt_abs : bootBuiltins "abs" = some (.builtin "abs") := by decide +kernel
theorem bt_max : bootBuiltins "max" = some (.builtin "max") := by decide +kernel
theorem bt_min : bootBuiltins "min" = some (.builtin "min") := by decide +kernel
theorem bt_sum : bootBuiltins "sum" = some (.builtin "sum") := by decide +kernel
theorem bt_all : bootBuiltins "all" = some (.builtin "all") := by decide +kernel
theorem bt_sorted : bootBuiltins "sorted" = some (.builtin "sorted") := by decide +kernel
theorem bt_isinstance : bootBuiltins "isinstance" = some (.builtin "isinstance") := by decide +kernel
theorem bt_list : bootBuiltins "list" = some (.type "list") := by decide +kernel
theorem bt_tuple : bootBuiltins "tuple" = some (.type "tuple") := by decide +kernel
theorem bt_int : bootBuiltins "int" = some (.type "int") := by decide +kernel
theorem bt_bool : bootBuiltins "bool" = some (.type "bool") := by decide +kernel
theorem bt_str : bootBuiltins "str" = some (.type "str") := by decide +kernel
/-! list(..), tuple(..) of data -/
def fListOf : D → Mu → (D → Mu → Prop) → Prop := fun d μ P => match d with
  | .lst l => P (.lst l) μ
  | .tup l => P (.lst l) μ
  | _ => False
def fTupOf : D → Mu → (D → Mu → Prop) → Prop := fun d μ P => match d with
  | .lst l => P (.tup l) μ
  | .tup l => P (.tup l) μ
  | _ => False
theorem fListOf_mono : Mono1 fListOf := fun a μ P P' h k => by
  unfold fListOf at *; split at h
  · exact k _ _ h
  · exact k _ _ h
  · exact h.elim
theorem fTupOf_mono : Mono1 fTupOf := fun a μ P P' h k => by
  unfold fTupOf at *; split at h
  · exact k _ _ h
  · exact k _ _ h
  · exact h.elim
theorem bT_list : BT X "list" (f1 fListOf) := ⟨_, call_list_of, f1_mono fListOf_mono, f1_sim fun G μ H x d Q w r q => by
    unfold fListOf at q; split at q
    · cases r with | lst h rl => exact ⟨_, _, rfl, .inl (SqL.of (w.sub _ _ h)), fun l hl => q _ _ _ (w.alloc hl) (.lst upd_same (rl.mono (same_new (w.gnone hl))))⟩
    · cases r with | tup h rl => exact ⟨_, _, rfl, .inr (SqT.of (w.sub _ _ h)), fun l hl => q _ _ _ (w.alloc hl) (.lst upd_same (rl.mono (same_new (w.gnone hl))))⟩
    · exact q.elim⟩
theorem bT_tuple : BT X "tuple" (f1 fTupOf) := ⟨_, call_tuple_of, f1_mono fTupOf_mono, f1_sim fun G μ H x d Q w r q => by
    unfold fTupOf at q; split at q
    · cases r with | lst h rl => exact ⟨_, _, rfl, .inl ⟨SqL.of (w.sub _ _ h), fun l hl => q _ _ _ (w.alloc hl) (.tup upd_same (rl.mono (same_new (w.gnone hl))))⟩⟩
    · cases r with | tup h rl => exact ⟨_, _, rfl, .inr ⟨SqT.of (w.sub _ _ h), q _ G H (Stp.refl w) (.tup h rl)⟩⟩
    · exact q.elim⟩
/-! isinstance(e, T) -/
def isiD (T : String) (d : D) : Option Bool := match d with
  | .non => kitB "NoneType" T
  | .bl _ => kitB "bool" T
  | .int _ => kitB "int" T
  | .str _ => kitB "str" T
  | .tup _ => kitB "tuple" T
  | .lst _ => kitB "list" T
  | .hdl _ => none
def fIsi (T : String) : D → Mu → (D → Mu → Prop) → Prop := fun d μ P => match isiD T d with
  | some b => P (.bl b) μ
  | none => False
theorem fIsi_mono {T : String} : Mono1 (fIsi T) := fun a μ P P' h k => by
  unfold fIsi at *; split at h
  · exact k _ _ h
  · exact h.elim
/-- the built-in class as an argument -/
theorem pd_isi {x : Str} {T : String} {p p2 : Pos} (hg : Gl X "isinstance") (hm : X.mg "isinstance" = none) (hgT : Gl X x) (hmT : X.mg x = none) (hT : bootBuiltins x = some (.type T)) (ha : PD X Γ e f) (hn : x ≠ "__name__" := by decide) (hd : (x == ("__debug__" : Str)) = false := by decide)
    (hs : starEach [e, .Name x p2] X.env = (false, eval e X.env) :: starEach [.Name x p2] X.env := by rfl) (hs2 : starEach [.Name x p2] X.env = (false, eval (.Name x p2) X.env) :: starEach [] X.env := by rfl)
    (hpl : (backTo pos (starEach [.Name x p2] X.env)).any (·.1) = false := by rfl) : PD X Γ (.Call (.Name "isinstance" p) [e, .Name x p2] [] pos) (d1 (fIsi T) f) :=
  ⟨mono1 fIsi_mono ha.mono, PE.imp (pe_callB (t := tCons (lift Γ f) (tCons (tC (.ty T)) tNil)) call_isi hg hm bt_isinstance (pa_cons ha.pe (pa_cons (pe_bltn hgT hmT hT (v := .ty T) rfl hn hd) pa_nil hs2) hs) (by decide) (by decide) hs hpl) fun σ H Q q => by
    obtain ⟨ρ, G, μ, hh, q⟩ := q
    refine ⟨ρ, G, μ, hh, ha.mono ρ μ _ _ q fun d μ1 q1 v G1 H1 s1 r1 => ?_⟩
    unfold fIsi at q1
    split at q1
    · rename_i b hb
      refine ⟨v, .ty T, ?_⟩
      have ap := q1 _ G1 H1 s1 (.bl b)
      cases r1 with
      | non => exact ⟨_, _, b, rfl, .ty T, .base .non, kit_ty hb, ap⟩
      | bl y => exact ⟨_, _, b, rfl, .ty T, .base (.bl y), kit_ty hb, ap⟩
      | int y => exact ⟨_, _, b, rfl, .ty T, .base (.int y), kit_ty hb, ap⟩
      | str y => exact ⟨_, _, b, rfl, .ty T, .base (.str y), kit_ty hb, ap⟩
      | tup h rl => exact ⟨_, _, b, rfl, .ty T, .base (.tup (s1.w.sub _ _ h)), kit_ty hb, ap⟩
      | lst h rl => exact ⟨_, _, b, rfl, .ty T, .base (.lst (s1.w.sub _ _ h)), kit_ty hb, ap⟩
      | hdl y => cases hb
    · exact q1.elim⟩
end
end Dz

namespace Dz
open PySem PySem.Spec PyProof.Rows L2
section
variable {X : Cx} {Γ : Gam} {a b c e : Expr} {es : List Expr} {f g h : DE} {fa : DA} {t u : DT} {pos : Pos}
/-! ### xs + ys -/
def fCat : D → D → Mu → (D → Mu → Prop) → Prop := fun a b μ P => match a, b with
  | .lst x, .lst y => x.length + y.length ≤ 100000 ∧ P (.lst (x ++ y)) μ
  | .tup x, .tup y => x.length + y.length ≤ 100000 ∧ P (.tup (x ++ y)) μ
  | _, _ => False
theorem fCat_mono : Mono2 fCat := fun a b μ P P' h k => by
  unfold fCat at *; split at h
  · exact ⟨h.1, k _ _ h.2⟩
  · exact ⟨h.1, k _ _ h.2⟩
  · exact h.elim
theorem pd_cat (ha : PD X Γ a f) (hb : PD X Γ b g) : PD X Γ (.BinOp a .Add b pos) (d2 fCat f g) := pd_op (op_cat.or op_catA) fCat_mono (fun G μ H x y a b Q w rx ry q => by
  unfold fCat at q; split at q
  · cases rx with | lst h1 r1 =>
    cases ry with | lst h2 r2 =>
    exact .inl ⟨_, _, _, _, rfl, rfl, w.sub _ _ h1, w.sub _ _ h2, by rw [r1.length, r2.length]; exact sz_of q.1, fun p hp => q.2 _ _ _ (w.alloc hp) (.lst upd_same ((r1.append r2).mono (same_new (w.gnone hp))))⟩
  · cases rx with | tup h1 r1 =>
    cases ry with | tup h2 r2 =>
    refine .inr ⟨_, _, _, _, rfl, rfl, SqT.of (w.sub _ _ h1), SqT.of (w.sub _ _ h2), by rw [r1.length, r2.length]; exact sz_of q.1, fun e => ?_, fun e1 e2 => ?_, fun _ _ p hp => q.2 _ _ _ (w.alloc hp) (.tup upd_same ((r1.append r2).mono (same_new (w.gnone hp))))⟩
    · subst e
      cases r1
      exact q.2 _ G H (Stp.refl w) (.tup h2 r2)
    · subst e2
      cases r2
      exact q.2 _ G H (Stp.refl w) (by rw [List.append_nil]; exact .tup h1 r1)
  · exact q.elim) ha hb
/-! ### slices -/
def cutL {α : Type} (xs : List α) (lo hi : Option Int) : List α := (xs.drop (HT.sIx xs.length 0 lo)).take (HT.sIx xs.length xs.length hi - HT.sIx xs.length 0 lo)
theorem cut_rep {G : Hp} {vs : List V} {ds : List D} (r : RepL G vs ds) (lo hi : Option Int) : RepL G (cutV vs lo hi) (cutL ds lo hi) := by
  unfold cutV cutL
  rw [r.length]
  exact (r.drop _).take _
def DO := Rho → Mu → (Option Int → Mu → Prop) → Prop
def liftO (Γ : Gam) (f : DO) : TO := fun σ H Q => ∃ ρ G μ, Hold Γ ρ G μ σ H ∧ f ρ μ fun o μ' => ∀ G' H', Stp G μ H G' μ' H' → Q o H'
structure PDO (X : Cx) (Γ : Gam) (e : Option Expr) (f : DO) : Prop where
  mono : MonoW f
  po : PO X e (liftO Γ f)
theorem PO.imp {e : Option Expr} {t t' : TO} (h : PO X e t) (i : ∀ σ H Q, t' σ H Q → t σ H Q) : PO X e t' := by
  refine ⟨fun pins s σ H Q I q => ?_⟩
  exact h.run pins s σ H Q I (i σ H Q q)
def dNoPart : DO := fun _ μ Q => Q none μ
def dPart (f : DE) : DO := fun ρ μ Q => f ρ μ fun d μ1 => match d with
  | .int i => Q (some i) μ1
  | _ => False
theorem pdo_none : PDO X Γ none dNoPart := ⟨fun _ _ _ _ h k => k _ _ h, PO.imp po_none fun σ H Q q => by
  obtain ⟨ρ, G, μ, hh, q⟩ := q
  exact q G H (Stp.refl hh.stp.w)⟩
theorem pdo_some (ha : PD X Γ e f) : PDO X Γ (some e) (dPart f) := ⟨fun ρ μ P P' h k => ha.mono ρ μ _ _ h fun d μ1 q => by
    split at q
    · exact k _ _ q
    · exact q.elim, PO.imp (po_some ha.pe) fun σ H Q q => by
  obtain ⟨ρ, G, μ, hh, q⟩ := q
  refine ⟨ρ, G, μ, hh, ha.mono ρ μ _ _ q fun d μ1 q1 v G1 H1 s1 r1 => ?_⟩
  split at q1
  · cases r1
    exact ⟨_, rfl, q1 G1 H1 s1⟩
  · exact q1.elim⟩
def dSl (f : DE) (lo hi : DO) : DE := fun ρ μ Q => f ρ μ fun d μ1 => lo ρ μ1 fun l μ2 => hi ρ μ2 fun u μ3 => match d with
  | .lst x => Q (.lst (cutL x l u)) μ3
  | .tup x => Q (.tup (cutL x l u)) μ3
  | _ => False
theorem dSl_mono {lo hi : DO} (hf : MonoW f) (hl : MonoW lo) (hh : MonoW hi) : MonoW (dSl f lo hi) := fun ρ μ P P' q k => hf ρ μ _ _ q fun d μ1 q => hl ρ μ1 _ _ q fun l μ2 q => hh ρ μ2 _ _ q fun u μ3 q => by
  split at q
  · exact k _ _ q
  · exact k _ _ q
  · exact q.elim
theorem cut_whole {α : Type} (x : List α) (l u : Option Int) (h : HT.sIx x.length 0 l = 0 ∧ HT.sIx x.length x.length u = x.length) : cutL x l u = x := by
  unfold cutL
  rw [h.1, h.2, Nat.sub_zero, List.drop_zero, List.take_length]
theorem pd_slice {lo hi : Option Expr} {fl fh : DO} {p2 : Pos} (ha : PD X Γ e f) (hl : PDO X Γ lo fl) (hh : PDO X Γ hi fh) : PD X Γ (.Subscript e (.Slice lo hi none p2) pos) (dSl f fl fh) :=
  ⟨dSl_mono ha.mono hl.mono hh.mono, PE.imp (pe_slice (sl_list.or sl_tupA) ha.pe hl.po hh.po) fun σ H Q q => by
    obtain ⟨ρ, G, μ, ho, q⟩ := q
    refine ⟨ρ, G, μ, ho, ha.mono ρ μ _ _ q fun d μ1 q1 v G1 H1 s1 r1 => ?_⟩
    refine ⟨ρ, G1, μ1, ho.step s1, hl.mono ρ μ1 _ _ q1 fun l μ2 q2 G2 H2 s2 => ?_⟩
    refine ⟨ρ, G2, μ2, (ho.step s1).step s2, hh.mono ρ μ2 _ _ q2 fun u μ3 q3 G3 H3 s3 => ?_⟩
    have r3 := r1.mono (s2.ext.trans s3.ext)
    have st := (s1.trans s2).trans s3
    split at q3
    · cases r3 with | lst h1 rl =>
      exact .inl ⟨_, _, rfl, SqL.of (s3.w.sub _ _ h1), fun p hp => q3 _ _ _ (st.trans (s3.w.alloc hp)) (.lst upd_same ((cut_rep rl l u).mono (same_new (s3.w.gnone hp))))⟩
    · cases r3 with | tup h1 rl =>
      refine .inr ⟨_, _, rfl, SqT.of (s3.w.sub _ _ h1), fun hw => ?_, fun _ p hp => q3 _ _ _ (st.trans (s3.w.alloc hp)) (.tup upd_same ((cut_rep rl l u).mono (same_new (s3.w.gnone hp))))⟩
      rw [rl.length] at hw
      refine q3 _ G3 H3 st ?_
      rw [cut_whole _ _ _ hw]
      exact .tup h1 rl
    · exact q3.elim⟩
/-- xs[::-1] of a list -/
def fRev : D → Mu → (D → Mu → Prop) → Prop := fun d μ P => match d with
  | .lst x => P (.lst x.reverse) μ
  | _ => False
theorem fRev_mono : Mono1 fRev := fun a μ P P' h k => by
  unfold fRev at *; split at h
  · exact k _ _ h
  · exact h.elim
theorem pd_rev {k : Nat} {p1 p2 p3 : Pos} (ha : PD X Γ e f) : PD X Γ (.Subscript e (.Slice none none (some (.UnaryOp .USub (.Constant (.int 1) k p1) p2)) p3) pos) (d1 fRev f) :=
  ⟨mono1 fRev_mono ha.mono, PE.imp (pe_revL ha.pe) fun σ H Q q => by
    obtain ⟨ρ, G, μ, ho, q⟩ := q
    refine ⟨ρ, G, μ, ho, ha.mono ρ μ _ _ q fun d μ1 q1 v G1 H1 s1 r1 => ?_⟩
    unfold fRev at q1
    split at q1
    · cases r1 with | lst h1 rl =>
      exact ⟨_, _, rfl, SqL.of (s1.w.sub _ _ h1), fun p hp => q1 _ _ _ (s1.trans (s1.w.alloc hp)) (.lst upd_same (rl.reverse.mono (same_new (s1.w.gnone hp))))⟩
    · exact q1.elim⟩
/-! ### in, not in -/
def fIn (neg : Bool) : D → D → Mu → (D → Mu → Prop) → Prop := fun a b μ P => match b with
  | .lst l => Sh 20 a ∧ Sh 20 b ∧ P (.bl (if neg then !l.any (fun z => deq z a) else l.any fun z => deq z a)) μ
  | _ => False
theorem fIn_mono {neg : Bool} : Mono2 (fIn neg) := fun a b μ P P' h k => by
  unfold fIn at *; split at h
  · exact ⟨h.1, h.2.1, k _ _ h.2.2⟩
  · exact h.elim
theorem any_deq (a : D) : ∀ l : List D, ((toPys l).any fun z => PyData.eqv z (toPy a)) = l.any fun z => deq z a
  | [] => rfl
  | d :: ds => by rw [toPys, List.any_cons, any_deq a ds, List.any_cons]; rfl
theorem pd_in (hu : X.A.units + 65 < cLine) (ha : PD X Γ a f) (hb : PD X Γ b g) (hm : behindInMarks .In b = false := by rfl) : PD X Γ (.Compare a [.In] [b] pos) (d2 (fIn false) f g) :=
  pd_cmp (op_inD hu) fIn_mono (fun G μ H x y a b Q w rx ry q => by
    unfold fIn at q; split at q
    · refine ⟨_, _, q.1.dp w.sub rx, ?_, q.1.shaped (by decide), ?_, by rw [any_deq]; exact q.2.2 _ G H (Stp.refl w) (.bl _)⟩
      · have := q.2.1.dp (K := X.K) w.sub ry; rw [toPy] at this; exact this
      · have := q.2.1.shaped (by decide); rw [toPy] at this; exact this
    · exact q.elim) ha hb hm
theorem pd_notIn (hu : X.A.units + 65 < cLine) (ha : PD X Γ a f) (hb : PD X Γ b g) (hm : behindInMarks .NotIn b = false := by rfl) : PD X Γ (.Compare a [.NotIn] [b] pos) (d2 (fIn true) f g) :=
  pd_cmp (op_notInD hu) fIn_mono (fun G μ H x y a b Q w rx ry q => by
    unfold fIn at q; split at q
    · refine ⟨_, _, q.1.dp w.sub rx, ?_, q.1.shaped (by decide), ?_, by rw [any_deq]; exact q.2.2 _ G H (Stp.refl w) (.bl _)⟩
      · have := q.2.1.dp (K := X.K) w.sub ry; rw [toPy] at this; exact this
      · have := q.2.1.shaped (by decide); rw [toPy] at this; exact this
    · exact q.elim) ha hb hm
/-- flat items, in a list, a tuple or a private list -/
def flatD : D → Option V
  | .non => some .non
  | .bl b => some (.bl b)
  | .int i => some (.int i)
  | .str s => some (.str s)
  | _ => none
theorem flat_rep {G : Hp} {v : V} {d : D} {x : V} (r : Rep G v d) (h : flatD d = some x) : v = x ∧ flatV v = true := by
  cases r <;> simp [flatD] at h <;> (subst h; exact ⟨rfl, rfl⟩)
def itemsF (μ : Mu) : D → Option (List D)
  | .lst l => some l
  | .tup l => some l
  | .hdl p => (match μ p with
    | some (.lst l) => some l
    | _ => none)
  | _ => none
def fInF (neg : Bool) : D → D → Mu → (D → Mu → Prop) → Prop := fun a b μ P => ∃ l, itemsF μ b = some l ∧ (flatD a).isSome = true ∧ (∀ d ∈ l, (flatD d).isSome = true) ∧ P (.bl (if neg then !l.any (fun z => deq z a) else l.any fun z => deq z a)) μ
theorem fInF_mono {neg : Bool} : Mono2 (fInF neg) := fun a b μ P P' ⟨l, h1, h2, h3, h4⟩ k => ⟨l, h1, h2, h3, k _ _ h4⟩
theorem eqV_deq {G : Hp} {x y : V} {a b : D} (rx : Rep G x a) (ry : Rep G y b) (ha : (flatD a).isSome = true) (hb : (flatD b).isSome = true) : eqV y x = deq b a := by
  cases rx <;> simp [flatD] at ha <;> cases ry <;> simp [flatD] at hb <;> first | rfl | (simp only [eqV, deq, toPy, PyData.eqv])
theorem any_eqV {G : Hp} {x : V} {a : D} (rx : Rep G x a) (ha : (flatD a).isSome = true) : ∀ {vs : List V} {l : List D}, RepL G vs l → (∀ d ∈ l, (flatD d).isSome = true) → inV x vs = l.any fun z => deq z a
  | _, _, .nil, _ => rfl
  | _, _, .cons r rl, hl => by
    have ih := any_eqV rx ha rl fun d hd => hl d (by simp [hd])
    unfold inV at ih ⊢
    rw [List.any_cons, List.any_cons, ih, eqV_deq rx r ha (hl _ (by simp))]
theorem all_flat {G : Hp} : ∀ {vs : List V} {l : List D}, RepL G vs l → (∀ d ∈ l, (flatD d).isSome = true) → vs.all flatV = true
  | _, _, .nil, _ => rfl
  | _, _, .cons r rl, hl => by
    obtain ⟨x, hx⟩ := Option.isSome_iff_exists.mp (hl _ List.mem_cons_self)
    rw [List.all_cons, (flat_rep r hx).2, all_flat rl fun d hd => hl d (by simp [hd])]; rfl
theorem fInF_sim {neg : Bool} : Sim2 (rIn X.K neg) (fInF neg) := fun G μ H x y a b Q w rx ry q => by
  obtain ⟨l, h1, h2, h3, h4⟩ := q
  obtain ⟨x0, hx⟩ := Option.isSome_iff_exists.mp h2
  have fx := (flat_rep rx hx).2
  have ap := h4 _ G H (Stp.refl w) (.bl _)
  cases ry with
  | lst hh rl =>
    cases h1
    exact ⟨_, _, rfl, .inl (SqL.of (w.sub _ _ hh)), fx, all_flat rl h3, by rw [any_eqV rx h2 rl h3]; exact ap⟩
  | tup hh rl =>
    cases h1
    exact ⟨_, _, rfl, .inr (SqT.of (w.sub _ _ hh)), fx, all_flat rl h3, by rw [any_eqV rx h2 rl h3]; exact ap⟩
  | hdl p =>
    unfold itemsF at h1
    dsimp only at h1
    split at h1
    · rename_i l' hl
      cases h1
      obtain ⟨vs, e1, rl⟩ := w.ok _ _ hl
      exact ⟨_, _, rfl, .inl (SqL.of e1), fx, all_flat rl h3, by rw [any_eqV rx h2 rl h3]; exact ap⟩
    · cases h1
  | non => cases h1
  | bl _ => cases h1
  | int _ => cases h1
  | str _ => cases h1
theorem pd_inF (ha : PD X Γ a f) (hb : PD X Γ b g) (hm : behindInMarks .In b = false := by rfl) : PD X Γ (.Compare a [.In] [b] pos) (d2 (fInF false) f g) := pd_cmp op_in_seq fInF_mono fInF_sim ha hb hm
theorem pd_notInF (ha : PD X Γ a f) (hb : PD X Γ b g) (hm : behindInMarks .NotIn b = false := by rfl) : PD X Γ (.Compare a [.NotIn] [b] pos) (d2 (fInF true) f g) := pd_cmp op_notIn_seq fInF_mono fInF_sim ha hb hm
/-! ### lists times a number -/
def fRep : D → D → Mu → (D → Mu → Prop) → Prop := fun a b μ P => match a, b with
  | .lst x, .int k => (0 ≤ k ∧ k ≤ 100000 ∧ x.length * k.toNat ≤ 100000) ∧ P (.lst (List.replicate k.toNat x).flatten) μ
  | _, _ => False
theorem fRep_mono : Mono2 fRep := fun a b μ P P' h k => by
  unfold fRep at *; split at h
  · exact ⟨h.1, k _ _ h.2⟩
  · exact h.elim
theorem rep_flatten {G : Hp} {vs : List V} {ds : List D} (r : RepL G vs ds) : ∀ k : Nat, RepL G (List.replicate k vs).flatten (List.replicate k ds).flatten
  | 0 => .nil
  | k + 1 => by rw [List.replicate_succ, List.replicate_succ, List.flatten_cons, List.flatten_cons]; exact r.append (rep_flatten r k)
theorem pd_rep (ha : PD X Γ a f) (hb : PD X Γ b g) : PD X Γ (.BinOp a .Mult b pos) (d2 fRep f g) := pd_op op_rep fRep_mono (fun G μ H x y a b Q w rx ry q => by
  unfold fRep at q; split at q
  · cases rx with | lst h1 r1 =>
    cases ry
    obtain ⟨⟨q1, q2, q3⟩, q4⟩ := q
    exact ⟨_, _, _, rfl, rfl, w.sub _ _ h1, by omega, by omega, by rw [r1.length]; exact sz_of q3, fun p hp => q4 _ _ _ (w.alloc hp) (.lst upd_same ((rep_flatten r1 _).mono (same_new (w.gnone hp))))⟩
  · exact q.elim) ha hb
end
end Dz

namespace Dz
open PySem PySem.Spec PyProof.Rows L2
/-! ### what is walked -/
abbrev DI := Rho → Mu → (List D → Mu → Prop) → Prop
def Wk (G : Hp) (J : It) (ds : List D) : Prop := Walk J ds.length (fun H => Same G H) fun i H x H' => ∀ G1 μ1, Same G G1 → W3 G1 μ1 H → ∃ G2 d, Stp G1 μ1 H G2 μ1 H' ∧ ds[i]? = some d ∧ Rep G2 x d
def liftI (Γ : Gam) (f : DI) : TI := fun σ H R => ∃ ρ G μ, Hold Γ ρ G μ σ H ∧ f ρ μ fun ds μ' => ∀ J G' H', Stp G μ H G' μ' H' → Wk G' J ds → R J H'
structure PDI (X : Cx) (Γ : Gam) (tg iter : Expr) (f : DI) : Prop where
  mono : MonoW f
  pi : PI X tg iter (liftI Γ f)
theorem PI.imp {X : Cx} {tg e : Expr} {t t' : TI} (h : PI X tg e t) (i : ∀ σ H Q, t' σ H Q → t σ H Q) : PI X tg e t' := ⟨fun pins s σ H Q I q => h.run pins s σ H Q I (i σ H Q q)⟩
theorem wk_list {K : PySem.W.Frag} {G : Hp} {a : Addr} {vs : List V} {ds : List D} (h : G a = some (.lst vs)) (r : RepL G vs ds) : Wk G (Itl K a) ds := by
  unfold Wk
  rw [← r.length]
  refine (walk_list (K := K) (a := a) (xs := vs)).mono (fun H s => SqL.of (s _ _ h)) fun i H x H' hi s y G1 μ1 s1 w => ?_
  obtain ⟨rfl, hx⟩ := y
  obtain ⟨d, hd, rd⟩ := r.getV hx
  exact ⟨G1, d, Stp.refl w, hd, rd.mono s1⟩
theorem wk_tup {K : PySem.W.Frag} {G : Hp} {a : Addr} {vs : List V} {ds : List D} (h : G a = some (.tup vs)) (r : RepL G vs ds) : Wk G (Itt K a) ds := by
  unfold Wk
  rw [← r.length]
  refine (walk_tup (K := K) (a := a) (xs := vs)).mono (fun H s => SqT.of (s _ _ h)) fun i H x H' hi s y G1 μ1 s1 w => ?_
  obtain ⟨rfl, hx⟩ := y
  obtain ⟨d, hd, rd⟩ := r.getV hx
  exact ⟨G1, d, Stp.refl w, hd, rd.mono s1⟩
def rgD (lo : Int) (n : Nat) : List D := (List.range n).map fun i => .int (lo + (i : Nat))
theorem rgD_length (lo : Int) (n : Nat) : (rgD lo n).length = n := by unfold rgD; simp
theorem rgD_get (lo : Int) (n i : Nat) (h : i < n) : (rgD lo n)[i]? = some (.int (lo + (i : Nat))) := by
  unfold rgD; simp [h]
theorem wk_range {G : Hp} {lo : Int} {n : Nat} : Wk G (Itr lo n) (rgD lo n) := by
  unfold Wk
  rw [rgD_length]
  refine (walk_range (lo := lo) (n := n)).mono (fun _ _ => trivial) fun i H x H' hi s y G1 μ1 s1 w => ?_
  obtain ⟨rfl, rfl⟩ := y
  exact ⟨G1, _, Stp.refl w, rgD_get lo n i hi, .int _⟩
def rgC (lo c : Int) (n : Nat) : List D := (List.range n).map fun i => .int (lo + (i : Nat) * c)
theorem wk_rangeC {G : Hp} {lo c : Int} {n : Nat} : Wk G (Itc lo c n) (rgC lo c n) := by
  unfold Wk
  rw [show (rgC lo c n).length = n by unfold rgC; simp]
  refine (walk_rangeC (lo := lo) (c := c) (n := n)).mono (fun _ _ => trivial) fun i H x H' hi s y G1 μ1 s1 w => ?_
  obtain ⟨rfl, rfl⟩ := y
  exact ⟨G1, _, Stp.refl w, by unfold rgC; simp [hi], .int _⟩
def enD (k : Nat) : List D → List D
  | [] => []
  | d :: ds => .tup [.int (k : Nat), d] :: enD (k + 1) ds
theorem enD_length : ∀ (k : Nat) (ds : List D), (enD k ds).length = ds.length
  | _, [] => rfl
  | k, d :: ds => by rw [enD, List.length_cons, enD_length, List.length_cons]
theorem enD_get : ∀ (k : Nat) (ds : List D) (i : Nat) (d : D), ds[i]? = some d → (enD k ds)[i]? = some (.tup [.int ((k + i : Nat) : Int), d])
  | _, [], _, _, h => by simp at h
  | k, x :: ds, 0, d, h => by simp at h; subst h; rfl
  | k, x :: ds, i + 1, d, h => by
    have := enD_get (k + 1) ds i d (by simpa using h)
    rw [enD, List.getElem?_cons_succ, this, show k + 1 + i = k + (i + 1) by omega]
theorem wk_pair {J : It} {G : Hp} {ds : List D} {Gd : Hp → Prop} {xs ys : Nat → Option V} (w : Walk J ds.length Gd (YPair xs ys)) (hg : ∀ H, Same G H → Gd H)
    (hi : ∀ i x y, i < ds.length → xs i = some x → ys i = some y → ∃ d e, ds[i]? = some (.tup [d, e]) ∧ Rep G x d ∧ Rep G y e) : Wk G J ds := by
  refine w.mono hg fun i H v H' hi' s y G1 μ1 s1 w1 => ?_
  obtain ⟨T, x, y, rfl, hT, rfl, hx, hy⟩ := y
  obtain ⟨d, e, h1, r1, r2⟩ := hi i x y hi' hx hy
  exact ⟨_, _, w1.alloc hT, h1, .tup upd_same (.cons ((r1.mono s1).mono (same_new (w1.gnone hT))) (.cons ((r2.mono s1).mono (same_new (w1.gnone hT))) .nil))⟩
theorem wk_enum {K : PySem.W.Frag} {G : Hp} {a : Addr} {vs : List V} {ds : List D} (h : G a = some (.lst vs)) (r : RepL G vs ds) : Wk G (Ite K a) (enD 0 ds) := by
  refine wk_pair (Gd := fun H => SqL K H a vs) (by rw [enD_length, ← r.length]; exact walk_enum) (fun H s => SqL.of (s _ _ h)) fun i x y hi hx hy => ?_
  obtain ⟨d, hd, rd⟩ := r.getV hy
  cases hx
  refine ⟨_, _, enD_get 0 ds i d hd, ?_, rd⟩
  rw [Nat.zero_add]
  exact .int _
def zpD : List D → List D → List D
  | a :: as, b :: bs => .tup [a, b] :: zpD as bs
  | _, _ => []
theorem zpD_length : ∀ as bs : List D, (zpD as bs).length = min as.length bs.length
  | [], _ => by simp [zpD]
  | _ :: _, [] => by simp [zpD]
  | a :: as, b :: bs => by rw [zpD, List.length_cons, zpD_length, List.length_cons, List.length_cons]; omega
theorem zpD_get : ∀ (as bs : List D) (i : Nat) (a b : D), as[i]? = some a → bs[i]? = some b → (zpD as bs)[i]? = some (.tup [a, b])
  | [], _, _, _, _, h, _ => by simp at h
  | _ :: _, [], _, _, _, _, h => by simp at h
  | x :: as, y :: bs, 0, a, b, h1, h2 => by simp at h1 h2; subst h1; subst h2; rfl
  | x :: as, y :: bs, i + 1, a, b, h1, h2 => by
    rw [zpD, List.getElem?_cons_succ]
    exact zpD_get as bs i a b (by simpa using h1) (by simpa using h2)
theorem wk_zip {K : PySem.W.Frag} {G : Hp} {a b : Addr} {vs ws : List V} {ds es : List D} (h : G a = some (.lst vs)) (r : RepL G vs ds) (h' : G b = some (.lst ws)) (r' : RepL G ws es) : Wk G (Itz K a b) (zpD ds es) := by
  refine wk_pair (Gd := fun H => SqL K H a vs ∧ SqL K H b ws) (xs := fun i => vs[i]?) (ys := fun i => ws[i]?) (walk_zip (by rw [zpD_length, r.length, r'.length])) (fun H s => ⟨SqL.of (s _ _ h), SqL.of (s _ _ h')⟩) fun i x y hi hx hy => ?_
  obtain ⟨d, hd, rd⟩ := r.getV hx
  obtain ⟨e, he, re⟩ := r'.getV hy
  exact ⟨_, _, zpD_get ds es i d e hd he, rd, re⟩

section
variable {X : Cx} {Γ : Gam} {a b c e tg : Expr} {es : List Expr} {f g h : DE} {fa : DA} {t u : DT} {pos : Pos}
def iLst (f : DE) : DI := fun ρ μ Q => f ρ μ fun d μ1 => match d with
  | .lst l => Q l μ1
  | _ => False
def iTupD (f : DE) : DI := fun ρ μ Q => f ρ μ fun d μ1 => match d with
  | .tup l => Q l μ1
  | _ => False
theorem iLst_mono (hf : MonoW f) : MonoW (iLst f) := fun ρ μ P P' q k => hf ρ μ _ _ q fun d μ1 q => by
  split at q
  · exact k _ _ q
  · exact q.elim
theorem iTupD_mono (hf : MonoW f) : MonoW (iTupD f) := fun ρ μ P P' q k => hf ρ μ _ _ q fun d μ1 q => by
  split at q
  · exact k _ _ q
  · exact q.elim
theorem pdi_list (ha : PD X Γ e f) : PDI X Γ tg e (iLst f) := ⟨iLst_mono ha.mono, PI.imp (pi_list ha.pe) fun σ H R q => by
  obtain ⟨ρ, G, μ, hh, q⟩ := q
  refine ⟨ρ, G, μ, hh, ha.mono ρ μ _ _ q fun d μ1 q1 v G1 H1 s1 r1 => ?_⟩
  split at q1
  · cases r1 with | lst h rl =>
    exact ⟨_, rfl, ⟨_, SqL.of (s1.w.sub _ _ h)⟩, q1 _ G1 H1 s1 (wk_list h rl)⟩
  · exact q1.elim⟩
theorem pdi_tup (ha : PD X Γ e f) : PDI X Γ tg e (iTupD f) := ⟨iTupD_mono ha.mono, PI.imp (pi_tup ha.pe) fun σ H R q => by
  obtain ⟨ρ, G, μ, hh, q⟩ := q
  refine ⟨ρ, G, μ, hh, ha.mono ρ μ _ _ q fun d μ1 q1 v G1 H1 s1 r1 => ?_⟩
  split at q1
  · cases r1 with | tup h rl =>
    exact ⟨_, rfl, ⟨_, SqT.of (s1.w.sub _ _ h)⟩, q1 _ G1 H1 s1 (wk_tup h rl)⟩
  · exact q1.elim⟩
def rgOk (n : Int) : Prop := -1000000000000 < n ∧ n < 1000000000000
def iRg1 (fa : DA) : DI := fun ρ μ Q => fa ρ μ fun ds μ1 => match ds with
  | [.int n] => rgOk n ∧ Q (rgD 0 n.toNat) μ1
  | _ => False
def iRg2 (fa : DA) : DI := fun ρ μ Q => fa ρ μ fun ds μ1 => match ds with
  | [.int a, .int b] => (rgOk a ∧ rgOk b) ∧ Q (rgD a (b - a).toNat) μ1
  | _ => False
def iRg3 (fa : DA) : DI := fun ρ μ Q => fa ρ μ fun ds μ1 => match ds with
  | [.int a, .int b, .int c] => (rgOk a ∧ rgOk b) ∧ c = -1 ∧ Q (rgC a (-1) (a - b).toNat) μ1
  | _ => False
def iEnm (fa : DA) : DI := fun ρ μ Q => fa ρ μ fun ds μ1 => match ds with
  | [.lst l] => Q (enD 0 l) μ1
  | _ => False
def iZp (fa : DA) : DI := fun ρ μ Q => fa ρ μ fun ds μ1 => match ds with
  | [.lst l, .lst m] => Q (zpD l m) μ1
  | _ => False
theorem iRg1_mono (ha : MonoW fa) : MonoW (iRg1 fa) := fun ρ μ P P' q k => ha ρ μ _ _ q fun d μ1 q => by
  split at q
  · exact ⟨q.1, k _ _ q.2⟩
  · exact q.elim
theorem iRg2_mono (ha : MonoW fa) : MonoW (iRg2 fa) := fun ρ μ P P' q k => ha ρ μ _ _ q fun d μ1 q => by
  split at q
  · exact ⟨q.1, k _ _ q.2⟩
  · exact q.elim
theorem iRg3_mono (ha : MonoW fa) : MonoW (iRg3 fa) := fun ρ μ P P' q k => ha ρ μ _ _ q fun d μ1 q => by
  split at q
  · exact ⟨q.1, q.2.1, k _ _ q.2.2⟩
  · exact q.elim
theorem iEnm_mono (ha : MonoW fa) : MonoW (iEnm fa) := fun ρ μ P P' q k => ha ρ μ _ _ q fun d μ1 q => by
  split at q
  · exact k _ _ q
  · exact q.elim
theorem iZp_mono (ha : MonoW fa) : MonoW (iZp fa) := fun ρ μ P P' q k => ha ρ μ _ _ q fun d μ1 q => by
  split at q
  · exact k _ _ q
  · exact q.elim
theorem pdi_range1 {p : Pos} (hg : Gl X "range") (hm : X.mg "range" = none) (ha : PDA X Γ [a] fa) (hs : starEach [a] X.env = [(false, eval a X.env)] := by rfl) : PDI X Γ tg (.Call (.Name "range" p) [a] [] pos) (iRg1 fa) :=
  ⟨iRg1_mono ha.mono, PI.imp (pi_range1 hg hm ha.pa hs) fun σ H R q => by
    obtain ⟨ρ, G, μ, hh, q⟩ := q
    refine ⟨ρ, G, μ, hh, ha.mono ρ μ _ _ q fun d μ1 q1 vs G1 H1 s1 r1 => ?_⟩
    split at q1
    · cases r1 with | cons r1 r2 =>
      cases r1; cases r2
      obtain ⟨⟨b1, b2⟩, q1⟩ := q1
      exact ⟨_, rfl, by omega, by omega, q1 _ G1 H1 s1 wk_range⟩
    · exact q1.elim⟩
theorem pdi_range2 {p : Pos} (hg : Gl X "range") (hm : X.mg "range" = none) (ha : PDA X Γ [a, b] fa) (hs : starEach [a, b] X.env = [(false, eval a X.env), (false, eval b X.env)] := by rfl) (hs2 : starEach [b] X.env = [(false, eval b X.env)] := by rfl) :
    PDI X Γ tg (.Call (.Name "range" p) [a, b] [] pos) (iRg2 fa) :=
  ⟨iRg2_mono ha.mono, PI.imp (pi_range2 hg hm ha.pa hs hs2) fun σ H R q => by
    obtain ⟨ρ, G, μ, hh, q⟩ := q
    refine ⟨ρ, G, μ, hh, ha.mono ρ μ _ _ q fun d μ1 q1 vs G1 H1 s1 r1 => ?_⟩
    split at q1
    · cases r1 with | cons r1 r2 =>
      cases r1
      cases r2 with | cons r2 r3 =>
      cases r2; cases r3
      obtain ⟨⟨⟨b1, b2⟩, b3, b4⟩, q1⟩ := q1
      exact ⟨_, _, rfl, ⟨by omega, by omega, by omega, by omega⟩, q1 _ G1 H1 s1 wk_range⟩
    · exact q1.elim⟩
theorem pdi_enum {p tpos : Pos} {elts : List Expr} {kk : Nat} (hg : Gl X "enumerate") (hm : X.mg "enumerate" = none) (ha : PDA X Γ [e] fa) (hs : starEach [e] X.env = [(false, eval e X.env)] := by rfl) :
    PDI X Γ (.Tuple elts kk tpos) (.Call (.Name "enumerate" p) [e] [] pos) (iEnm fa) :=
  ⟨iEnm_mono ha.mono, PI.imp (pi_enum hg hm ha.pa hs) fun σ H R q => by
    obtain ⟨ρ, G, μ, hh, q⟩ := q
    refine ⟨ρ, G, μ, hh, ha.mono ρ μ _ _ q fun d μ1 q1 vs G1 H1 s1 r1 => ?_⟩
    split at q1
    · cases r1 with | cons r1 r2 =>
      cases r2
      cases r1 with | lst h rl =>
      exact ⟨_, _, rfl, SqL.of (s1.w.sub _ _ h), q1 _ G1 H1 s1 (wk_enum h rl)⟩
    · exact q1.elim⟩
theorem pdi_zip {p tpos : Pos} {e2 : Expr} {elts : List Expr} {kk : Nat} (hg : Gl X "zip") (hm : X.mg "zip" = none) (ha : PDA X Γ [e, e2] fa) (hs : starEach [e, e2] X.env = (false, eval e X.env) :: starEach [e2] X.env := by rfl) (hs2 : (backTo pos (starEach [e2] X.env)).any (·.1) = false := by rfl) :
    PDI X Γ (.Tuple elts kk tpos) (.Call (.Name "zip" p) [e, e2] [] pos) (iZp fa) :=
  ⟨iZp_mono ha.mono, PI.imp (pi_zip hg hm ha.pa hs hs2) fun σ H R q => by
    obtain ⟨ρ, G, μ, hh, q⟩ := q
    refine ⟨ρ, G, μ, hh, ha.mono ρ μ _ _ q fun d μ1 q1 vs G1 H1 s1 r1 => ?_⟩
    split at q1
    · cases r1 with | cons r1 r2 =>
      cases r2 with | cons r2 r3 =>
      cases r3
      cases r1 with | lst h rl =>
      cases r2 with | lst h2 rl2 =>
      exact ⟨_, _, _, _, rfl, SqL.of (s1.w.sub _ _ h), SqL.of (s1.w.sub _ _ h2), q1 _ G1 H1 s1 (wk_zip h rl h2 rl2)⟩
    · exact q1.elim⟩
/-! ### targets -/
inductive Tg where
  | name (i : Nat)
  | tup (is : List Nat)
def setMany : List Nat → List D → Rho → Option Rho
  | [], [], ρ => some ρ
  | i :: is, d :: ds, ρ => setMany is ds (ρ.set i (some d))
  | _, _, _ => none
def setT (t : Tg) (d : D) (ρ : Rho) : Option Rho := match t with
  | .name i => some (ρ.set i (some d))
  | .tup is => (match d with
    | .tup ds => setMany is ds ρ
    | _ => none)
def gNames : List Nat → TGs
  | [] => gNil
  | i :: is => gCons (gName i) (gNames is)
def tgT (K : PySem.W.Frag) : Tg → TG
  | .name i => gName i
  | .tup is => gTup K is.length (gNames is)
def Tg.slots : Tg → List Nat
  | .name i => [i]
  | .tup is => is
theorem setMany_len : ∀ {is : List Nat} {ds : List D} {ρ ρ' : Rho}, setMany is ds ρ = some ρ' → ds.length = is.length
  | [], [], _, _, _ => rfl
  | [], _ :: _, _, _, h => by simp [setMany] at h
  | _ :: _, [], _, _, h => by simp [setMany] at h
  | i :: is, d :: ds, ρ, ρ', h => by
    rw [setMany] at h
    simp [setMany_len h]
theorem wipe_pull : ∀ (ws : List Nat) (σ : L2.St) (j : Nat) (o : Option V), (wipe (σ.set j o) ws).set j none = (wipe σ ws).set j none := by
  intro ws
  induction ws with
  | nil => intro σ j o; show (σ.set j o).set j none = σ.set j none; rw [List.set_set]
  | cons v vs ih =>
    intro σ j o
    show ((wipe (σ.set j o) vs).set v none).set j none = ((wipe σ vs).set v none).set j none
    by_cases e : v = j
    · subst e; rw [List.set_set, List.set_set]; exact ih σ v o
    · rw [List.set_comm _ _ e, ih, List.set_comm _ _ (Ne.symm e)]
theorem wipe_set {σ : L2.St} {i : Nat} {o : Option V} {ws : List Nat} (hi : i ∈ ws) : wipe (σ.set i o) ws = wipe σ ws := by
  induction ws with
  | nil => cases hi
  | cons v vs ih =>
    show (wipe (σ.set i o) vs).set v none = (wipe σ vs).set v none
    by_cases e : v = i
    · subst e; exact wipe_pull vs σ v o
    · rw [ih (by
        rcases List.mem_cons.mp hi with z | z
        · exact absurd z.symm e
        · exact z)]
theorem names_ok {G : Hp} : ∀ {is : List Nat} {ds : List D} {vs : List V} {ρ ρ' : Rho} {σ : L2.St} {H : Hp} {Q : L2.St → Hp → Prop}, setMany is ds ρ = some ρ' → RepL G vs ds → Slots G σ ρ → (∀ σ', Slots G σ' ρ' → (∀ ws : List Nat, (∀ i ∈ is, i ∈ ws) → wipe σ' ws = wipe σ ws) → Q σ' H) → gNames is vs σ H Q
  | [], [], _, ρ, ρ', σ, H, Q, h, .nil, s, k => by
    cases h
    exact ⟨rfl, k σ s fun _ _ => rfl⟩
  | i :: is, d :: ds, _, ρ, ρ', σ, H, Q, h, .cons r rl, s, k => by
    rw [setMany] at h
    refine ⟨_, _, rfl, ?_⟩
    refine names_ok h rl (s.set i r) fun σ' s' hw => k σ' s' fun ws hi => ?_
    rw [hw ws fun j hj => hi j (by simp [hj])]
    exact wipe_set (hi i (by simp))
  | [], _ :: _, _, _, _, _, _, _, h, _, _, _ => by simp [setMany] at h
  | _ :: _, [], _, _, _, _, _, _, h, _, _, _ => by simp [setMany] at h
theorem target_ok {K : PySem.W.Frag} {G H : Hp} {t : Tg} {d : D} {v : V} {ρ ρ' : Rho} {σ : L2.St} {Q : L2.St → Hp → Prop} (hs : Same G H) (h : setT t d ρ = some ρ') (r : Rep G v d) (s : Slots G σ ρ)
    (k : ∀ σ', Slots G σ' ρ' → (∀ ws : List Nat, (∀ i ∈ t.slots, i ∈ ws) → wipe σ' ws = wipe σ ws) → Q σ' H) : tgT K t v σ H Q := by
  cases t with
  | name i =>
    cases h
    exact k _ (s.set i r) fun ws hi => wipe_set (hi i (by simp [Tg.slots]))
  | tup is =>
    unfold setT at h
    dsimp only at h
    split at h
    · cases r with | tup ha rl =>
      exact ⟨_, _, rfl, SqT.of (hs _ _ ha), by rw [rl.length]; exact setMany_len h, names_ok h rl s k⟩
    · cases h
/-! ### comprehensions -/
def compL (t : Tg) (ρ0 : Rho) (tt : DT) (te : DE) (Q : List D → Mu → Prop) : List D → List D → Mu → Prop
  | [], acc, μ => Q acc μ
  | d :: ds, acc, μ => match setT t d ρ0 with
    | none => False
    | some ρ1 => tt ρ1 μ fun b μ1 => if b = true then te ρ1 μ1 fun y μ2 => compL t ρ0 tt te Q ds (acc ++ [y]) μ2 else compL t ρ0 tt te Q ds acc μ1
def dComp (it : DI) (t : Tg) (vs : List Nat) (tt : DT) (te : DE) : DE := fun ρ μ Q => it ρ μ fun ds μ1 => ds.length ≤ 100000 ∧ compL t (wipeD ρ vs) tt te (fun l μ' => Q (.lst l) μ') ds [] μ1
theorem compL_mono {t : Tg} {ρ0 : Rho} {tt : DT} {te : DE} (ht : MonoW tt) (he : MonoW te) {P P' : List D → Mu → Prop} (k : ∀ d μ', P d μ' → P' d μ') : ∀ (ds acc : List D) (μ : Mu), compL t ρ0 tt te P ds acc μ → compL t ρ0 tt te P' ds acc μ
  | [], acc, μ, h => k _ _ h
  | d :: ds, acc, μ, h => by
    unfold compL at h ⊢
    split at h
    · exact h.elim
    · refine ht _ _ _ _ h fun b μ1 q => ?_
      cases b
      · exact compL_mono ht he k ds acc μ1 q
      · exact he _ _ _ _ q fun y μ2 q => compL_mono ht he k ds _ μ2 q
theorem dComp_mono {it : DI} {t : Tg} {vs : List Nat} {tt : DT} {te : DE} (hi : MonoW it) (ht : MonoW tt) (he : MonoW te) : MonoW (dComp it t vs tt te) := fun ρ μ P P' q k =>
  hi ρ μ _ _ q fun ds μ1 q => ⟨q.1, compL_mono ht he (fun l μ' => k _ _) _ _ _ q.2⟩
def dYes : DT := fun _ μ Q => Q true μ
theorem dYes_mono : MonoW dYes := fun _ _ _ _ h k => k _ _ h
structure PDTs (X : Cx) (Γ : Gam) (ifs : List Expr) (f : DT) : Prop where
  mono : MonoW f
  pts : PTs X ifs (liftT Γ f)
theorem PTs.imp {X : Cx} {e : List Expr} {t t' : TT} (h : PTs X e t) (i : ∀ σ H Q, t' σ H Q → t σ H Q) : PTs X e t' := ⟨fun pins s σ H Q I q => h.run pins s σ H Q I (i σ H Q q)⟩
theorem pdts_nil : PDTs X Γ [] dYes := ⟨dYes_mono, PTs.imp pts_nil fun σ H Q q => by
  obtain ⟨ρ, G, μ, hh, q⟩ := q
  exact q G H (Stp.refl hh.stp.w)⟩
theorem pdts_one (h : PDT X Γ e t) : PDTs X Γ [e] t := ⟨h.mono, pts_one h.pt⟩
/-- a list that grows hidden, between two states -/
theorem W3.hidden {G : Hp} {μ : Mu} {H : Hp} (w : W3 G μ H) {p : Addr} {o : HO} (hg : G p = none) (hm : μ p = none) : W3 G μ (upd H p o) := by
  refine ⟨fun a u e => ?_, w.dis, fun a m e => ?_⟩
  · rw [upd_ne (ne_of_none e hg)]; exact w.sub a u e
  · have ne : a ≠ p := fun z => by rw [z, hm] at e; cases e
    have ok := w.ok a m e
    cases m with
    | lst ds => obtain ⟨vs, e1, r⟩ := ok; exact ⟨vs, by rw [upd_ne ne]; exact e1, r⟩
    | drw n =>
      obtain ⟨k, ns, e1, e2, e3, e4, e5⟩ := ok
      have nn : n ≠ p := fun z => by rw [z, hm] at e3; cases e3
      exact ⟨k, ns, by rw [upd_ne ne]; exact e1, e2, e3, by rw [upd_ne nn]; exact e4, e5⟩
    | opq =>
      show upd H p o a ≠ none
      rw [upd_ne ne]; exact ok
    | ins C dx fs => obtain ⟨fv, e1, r, q⟩ := ok; exact ⟨fv, by rw [upd_ne ne]; exact e1, r, q⟩
/-- publish a hidden list -/
theorem W3.show_ {G : Hp} {μ : Mu} {H : Hp} (w : W3 G μ H) {p : Addr} {o : HO} (hg : G p = none) (hm : μ p = none) (h : H p = some o) : W3 (upd G p o) μ H := by
  refine ⟨fun a u e => ?_, fun a ha => ?_, fun a m e => (w.ok a m e).mono (same_new hg)⟩
  · by_cases ap : a = p
    · subst ap; rw [upd_same] at e; rw [h]; exact e
    · rw [upd_ne ap] at e; exact w.sub a u e
  · have ne : a ≠ p := fun z => ha (by rw [z]; exact hm)
    rw [upd_ne ne]; exact w.dis a ha
theorem Stp.hid {G G' : Hp} {μ μ' : Mu} {H H' : Hp} (s : Stp G μ H G' μ' H') {p : Addr} {o : HO} (h0 : H p = none) (hg : G' p = none) (hm : μ' p = none) : Stp G μ H G' μ' (upd H' p o) :=
  ⟨s.ext, fun a u h1 h2 h3 => by
    obtain ⟨q1, q2, q3⟩ := s.fr a u h1 h2 h3
    exact ⟨q1, q2, by rw [upd_ne (ne_of_none h1 h0)]; exact q3⟩, fun a ha => by
    by_cases ap : a = p
    · subst ap; exact h0
    · rw [upd_ne ap] at ha; exact s.keep a ha, s.w.hidden hg hm⟩
theorem Stp.pub {G G' : Hp} {μ μ' : Mu} {H H' : Hp} (s : Stp G μ H G' μ' H') {p : Addr} {o : HO} (h0 : H p = none) (hg : G' p = none) (hm : μ' p = none) (h : H' p = some o) : Stp G μ H (upd G' p o) μ' H' :=
  ⟨s.ext.trans (same_new hg), fun a u h1 h2 h3 => by
    obtain ⟨q1, q2, q3⟩ := s.fr a u h1 h2 h3
    exact ⟨by rw [upd_ne (ne_of_none h1 h0)]; exact q1, q2, q3⟩, s.keep, s.w.show_ hg hm h⟩
theorem wipe_wipe (σ : L2.St) : ∀ vs : List Nat, wipe (wipe σ vs) vs = wipe σ vs
  | [] => rfl
  | v :: vs => by
    show (wipe ((wipe σ vs).set v none) vs).set v none = (wipe σ vs).set v none
    rw [wipe_pull vs (wipe σ vs) v none, wipe_wipe σ vs]
/-- the heart: what a comprehension's reading asks; Qd p G μ H vs ds: at the end -/
theorem comp_core {it : DI} {t : Tg} {vs : List Nat} {tt : DT} {te : DE} (hi : MonoW it) (ht : MonoW tt) (he : MonoW te) (hv : ∀ i ∈ t.slots, i ∈ vs) {σ : L2.St} {H : Hp} {Q : VK} {QD : List D → Mu → Prop}
    {ρ : Rho} {G : Hp} {μ : Mu} (hh : Hold Γ ρ G μ σ H) (q : it ρ μ fun ds μ1 => ds.length ≤ 100000 ∧ compL t (wipeD ρ vs) tt te QD ds [] μ1)
    (fin : ∀ (ds : List D) (ws : List V) (μ' : Mu) (p : Addr) (G' H' : Hp), QD ds μ' → H p = none → Stp G μ H G' μ' H' → G' p = none → μ' p = none → H' p = some (.lst ws) → RepL G' ws ds → Q (.ref p) H') :
    tLc (liftI Γ it) (tgT X.K t) (liftT Γ tt) (lift Γ te) vs σ H Q := by
  refine ⟨ρ, G, μ, hh, hi ρ μ _ _ q fun ds μ1 q1 J G1 H1 s1 wk p hp => ?_⟩
  obtain ⟨hlen, q1⟩ := q1
  have hp0 : H p = none := s1.keep p hp
  have hg1 : G1 p = none := s1.w.gnone hp
  have hm1 : μ1 p = none := s1.w.mnone hp
  -- the state before turn i
  refine lc_it wk (fun i H2 => ∃ (acc : List D) (ws : List V) (G2 : Hp) (μ2 : Mu), Stp G1 μ1 H1 G2 μ2 H2 ∧ G2 p = none ∧ μ2 p = none ∧ H2 p = some (.lst ws) ∧ RepL G2 ws acc ∧ acc.length ≤ i ∧
      compL t (wipeD ρ vs) tt te QD (ds.drop i) acc μ2) ?_ ?_ ?_ ?_
  · exact ⟨[], [], G1, μ1, (Stp.refl s1.w).hid hp hg1 hm1, hg1, hm1, upd_same, .nil, Nat.zero_le _, q1⟩
  · rintro i H2 hi ⟨acc, ws, G2, μ2, s2, _⟩
    exact s2.ext.trans s2.w.sub
  · rintro i x H2 H3 hi ⟨acc, ws, G2, μ2, s2, e1, e2, e3, rl, hz, q2⟩ y
    obtain ⟨G3, d, s3, hd, rd⟩ := y G2 μ2 s2.ext s2.w
    have hdrop : ds.drop i = d :: ds.drop (i + 1) := by
      rw [List.drop_eq_getElem_cons hi]
      congr 1
      rw [List.getElem?_eq_getElem hi] at hd
      exact Option.some.inj hd
    rw [hdrop] at q2
    unfold compL at q2
    split at q2
    · exact q2.elim
    · rename_i ρ1 hρ
      obtain ⟨f1, f2, f3⟩ := s3.fr p _ e3 e1 e2
      have sl3 : Slots G3 (wipe σ vs) (wipeD ρ vs) := ((hh.sl.mono (s1.ext.trans (s2.ext.trans s3.ext))).wipe vs)
      refine target_ok s3.w.sub hρ rd sl3 fun σ2 sl hw => ⟨?_, ?_⟩
      · rw [hw vs hv]
        exact wipe_wipe σ vs
      · have hold3 : Hold Γ ρ1 G3 μ2 σ2 H3 := ⟨hh.stp.trans (s1.trans (s2.trans s3)), sl⟩
        refine ⟨ρ1, G3, μ2, hold3, ht _ _ _ _ q2 fun b μ4 q4 G4 H4 s4 => ?_⟩
        obtain ⟨f4, f5, f6⟩ := s4.fr p _ f3 f1 f2
        cases b with
        | false => exact ⟨acc, ws, G4, μ4, s2.trans (s3.trans s4), f4, f5, f6, rl.mono (s3.ext.trans s4.ext), by omega, q4⟩
        | true =>
          refine ⟨ρ1, G4, μ4, hold3.step s4, he _ _ _ _ q4 fun y μ5 q5 v G5 H5 s5 r5 => ?_⟩
          obtain ⟨f7, f8, f9⟩ := s5.fr p _ f6 f4 f5
          refine ⟨ws, f9, ?_, acc ++ [y], ws ++ [v], G5, μ5, ?_, f7, f8, upd_same, (rl.mono (s3.ext.trans (s4.ext.trans s5.ext))).append (.one r5), by simp; omega, q5⟩
          · rw [rl.length]
            have : i < ds.length := hi
            exact Nat.lt_of_lt_of_le (by omega : acc.length < 100001) (by decide)
          · exact (s2.trans (s3.trans (s4.trans s5))).hid hp f7 f8
  · rintro H2 ⟨acc, ws, G2, μ2, s2, e1, e2, e3, rl, hz, q2⟩
    rw [List.drop_length] at q2
    exact fin acc ws μ2 p G2 H2 q2 hp0 (s1.trans s2) e1 e2 e3 rl
end
end Dz

namespace Dz
open PySem PySem.Spec PyProof.Rows L2
section
variable {X : Cx} {Γ : Gam} {a b c e tg iter elt : Expr} {es ifs : List Expr} {f g h : DE} {fa : DA} {t u : DT} {pos : Pos}
/-! ### comprehensions as values -/
theorem pd_lc {scope : Scope} {own : List (Str × Nat)} {it : DI} {tt : DT} {te : DE} {t : Tg} (hc : X.calm = true) (hN : X.N.Nodup) (hi : PDI X Γ tg iter it) (ok : BlkOk X.N X.env.scope scope own) (hv : ∀ i ∈ t.slots, i ∈ own.map (·.2))
    (hg : ∀ (s : Shared) (H : Hp) (C : Addr) (cl : List (Str × Addr)) (fp : List Addr), PG (X.blk s H scope (compEnvC scope cl C X.env) fp) tg (tgT X.K t)) (ht : ∀ (s : Shared) (H : Hp) (C : Addr) (cl : List (Str × Addr)) (fp : List Addr), PDTs (X.blk s H scope (compEnvC scope cl C X.env) fp) Γ ifs tt)
    (he : ∀ (s : Shared) (H : Hp) (C : Addr) (cl : List (Str × Addr)) (fp : List Addr), PD (X.blk s H scope (compEnvC scope cl C X.env) fp) Γ elt te) (s0 : Shared) (H0 : Hp) (hs : ∀ x, foldedSetIterable iter X.env x = pure x := by intro _; rfl) :
    PD X Γ (.ListComp elt [⟨tg, iter, ifs, 0⟩] scope pos) (dComp it t (own.map (·.2)) tt te) := by
  have mt := (ht s0 H0 0 [] []).mono
  have me := (he s0 H0 0 [] []).mono
  refine ⟨dComp_mono hi.mono mt me, PE.imp (pe_lc hc hN hi.pi ok hg (fun s H C cl fp => (ht s H C cl fp).pts) (fun s H C cl fp => (he s H C cl fp).pe) hs) fun σ H Q q => ?_⟩
  obtain ⟨ρ, G, μ, hh, q⟩ := q
  refine comp_core (QD := fun ds μ' => ∀ v G' H', Stp G μ H G' μ' H' → Rep G' v (.lst ds) → Q v H') hi.mono mt me hv hh q ?_
  · intro ds ws μ' p G' H' q hp st hg hm hp' rl
    exact q _ _ _ (st.pub hp hg hm hp') (.lst upd_same (rl.mono (same_new hg)))
/-! ### statements -/
structure DEnds where
  nx : Rho → Mu → Prop
  rt : D → Mu → Prop
  bk : Rho → Mu → Prop := fun _ _ => False
  ct : Rho → Mu → Prop := fun _ _ => False
structure DEnds.Le (E E' : DEnds) : Prop where
  nx : ∀ ρ μ, E.nx ρ μ → E'.nx ρ μ
  rt : ∀ d μ, E.rt d μ → E'.rt d μ
  bk : ∀ ρ μ, E.bk ρ μ → E'.bk ρ μ
  ct : ∀ ρ μ, E.ct ρ μ → E'.ct ρ μ
abbrev DS := Rho → Mu → DEnds → Prop
def MonoS (F : DS) : Prop := ∀ ρ μ E E', F ρ μ E → E.Le E' → F ρ μ E'
def endsAt (G : Hp) (μ : Mu) (H : Hp) (E : Ends) : DEnds where
  nx := fun ρ' μ' => ∀ σ' G' H', Stp G μ H G' μ' H' → Slots G' σ' ρ' → E.nx σ' H'
  rt := fun d μ' => ∀ v G' H', Stp G μ H G' μ' H' → Rep G' v d → E.rt v H'
  bk := fun ρ' μ' => ∀ σ' G' H', Stp G μ H G' μ' H' → Slots G' σ' ρ' → E.bk σ' H'
  ct := fun ρ' μ' => ∀ σ' G' H', Stp G μ H G' μ' H' → Slots G' σ' ρ' → E.ct σ' H'
theorem endsAt_le {G G' : Hp} {μ μ' : Mu} {H H' : Hp} {E : Ends} (s : Stp G μ H G' μ' H') : (endsAt G μ H E).Le (endsAt G' μ' H' E) :=
  ⟨fun _ _ q σ' G2 H2 s2 sl => q σ' G2 H2 (s.trans s2) sl, fun _ _ q v G2 H2 s2 r => q v G2 H2 (s.trans s2) r, fun _ _ q σ' G2 H2 s2 sl => q σ' G2 H2 (s.trans s2) sl, fun _ _ q σ' G2 H2 s2 sl => q σ' G2 H2 (s.trans s2) sl⟩
def liftS (Γ : Gam) (F : DS) : TS := fun E σ H => ∃ ρ G μ, Hold Γ ρ G μ σ H ∧ F ρ μ (endsAt G μ H E)
structure PSD (X : Cx) (Γ : Gam) (st : Stmt) (F : DS) : Prop where
  mono : MonoS F
  ps : PS X st (liftS Γ F)
structure PSDs (X : Cx) (Γ : Gam) (st : List Stmt) (F : DS) : Prop where
  mono : MonoS F
  pss : PSs X st (liftS Γ F)
theorem PS.imp {X : Cx} {e : Stmt} {t t' : TS} (h : PS X e t) (i : ∀ E σ H, t' E σ H → t E σ H) : PS X e t' := ⟨fun pins s σ H E I q => h.run pins s σ H E I (i E σ H q)⟩
theorem PSs.imp {X : Cx} {e : List Stmt} {t t' : TS} (h : PSs X e t) (i : ∀ E σ H, t' E σ H → t E σ H) : PSs X e t' := ⟨fun pins s σ H E I q => h.run pins s σ H E I (i E σ H q)⟩
variable {st : Stmt} {rest : List Stmt} {F F1 F2 : DS}
def dNext : DS := fun ρ μ E => E.nx ρ μ
def dSeq (F1 F2 : DS) : DS := fun ρ μ E => F1 ρ μ { E with nx := fun ρ' μ' => F2 ρ' μ' E }
theorem dNext_mono : MonoS dNext := fun ρ μ E E' h k => k.nx _ _ h
theorem dSeq_mono (h1 : MonoS F1) (h2 : MonoS F2) : MonoS (dSeq F1 F2) := fun ρ μ E E' h k => h1 ρ μ _ _ h ⟨fun ρ' μ' q => h2 ρ' μ' _ _ q k, k.rt, k.bk, k.ct⟩
theorem psd_nil : PSDs X Γ [] dNext := ⟨dNext_mono, PSs.imp pss_nil fun E σ H q => by
  obtain ⟨ρ, G, μ, hh, q⟩ := q
  exact q σ G H (Stp.refl hh.stp.w) hh.sl⟩
theorem psd_cons (h1 : PSD X Γ st F1) (h2 : PSDs X Γ rest F2) : PSDs X Γ (st :: rest) (dSeq F1 F2) := ⟨dSeq_mono h1.mono h2.mono, PSs.imp (pss_cons h1.ps h2.pss) fun E σ H q => by
  obtain ⟨ρ, G, μ, hh, q⟩ := q
  refine ⟨ρ, G, μ, hh, h1.mono ρ μ _ _ q ⟨fun ρ' μ' q' σ' G' H' s' sl => ⟨ρ', G', μ', ⟨hh.stp.trans s', sl⟩, h2.mono _ _ _ _ q' (endsAt_le s')⟩, fun _ _ q => q, fun _ _ q => q, fun _ _ q => q⟩⟩⟩
theorem psd_one (h1 : PSD X Γ st F1) : PSDs X Γ [st] F1 := ⟨h1.mono, pss_one h1.ps⟩
def dNever : DS := fun _ _ _ => False
theorem psd_never : PSD X Γ st dNever := ⟨fun _ _ _ _ h _ => h, PS.imp ps_never fun E σ H q => by
  obtain ⟨ρ, G, μ, hh, q⟩ := q
  exact q⟩
theorem psd_pass : PSD X Γ (.Pass pos) dNext := ⟨dNext_mono, PS.imp ps_pass fun E σ H q => by
  obtain ⟨ρ, G, μ, hh, q⟩ := q
  exact q σ G H (Stp.refl hh.stp.w) hh.sl⟩
def dRet (f : DE) : DS := fun ρ μ E => f ρ μ E.rt
theorem psd_ret (h : PD X Γ e f) : PSD X Γ (.Return (some e) pos) (dRet f) := ⟨fun ρ μ E E' q k => h.mono ρ μ _ _ q k.rt, PS.imp (ps_ret h.pe) fun E σ H q => by
  obtain ⟨ρ, G, μ, hh, q⟩ := q
  exact ⟨ρ, G, μ, hh, q⟩⟩
def dDrop (f : DE) : DS := fun ρ μ E => f ρ μ fun _ μ' => E.nx ρ μ'
theorem psd_expr (h : PD X Γ e f) (hs : swapsWith e none pos.line X.env = pure false := by rfl) : PSD X Γ (.Expr e pos) (dDrop f) := ⟨fun ρ μ E E' q k => h.mono ρ μ _ _ q fun _ μ' => k.nx _ _, PS.imp (ps_expr h.pe hs) fun E σ H q => by
  obtain ⟨ρ, G, μ, hh, q⟩ := q
  exact ⟨ρ, G, μ, hh, h.mono ρ μ _ _ q fun d μ' q v G' H' s r => q σ G' H' s (hh.sl.mono s.ext)⟩⟩
def dIf (t : DT) (F1 F2 : DS) : DS := fun ρ μ E => t ρ μ fun b μ1 => if b = true then F1 ρ μ1 E else F2 ρ μ1 E
theorem dIf_mono (ht : MonoW t) (h1 : MonoS F1) (h2 : MonoS F2) : MonoS (dIf t F1 F2) := fun ρ μ E E' q k => ht ρ μ _ _ q fun b μ1 q => by
  cases b
  · exact h2 _ _ _ _ q k
  · exact h1 _ _ _ _ q k
theorem psd_if {b1 b2 : List Stmt} (hc : PDT X Γ c t) (h1 : PSDs X Γ b1 F1) (h2 : PSDs X Γ b2 F2) : PSD X Γ (.If c b1 b2 pos) (dIf t F1 F2) := ⟨dIf_mono hc.mono h1.mono h2.mono, PS.imp (ps_if hc.pt h1.pss h2.pss) fun E σ H q => by
  obtain ⟨ρ, G, μ, hh, q⟩ := q
  refine ⟨ρ, G, μ, hh, hc.mono ρ μ _ _ q fun b μ1 q G1 H1 s1 => ?_⟩
  cases b
  · exact ⟨ρ, G1, μ1, hh.step s1, h2.mono _ _ _ _ q (endsAt_le s1)⟩
  · exact ⟨ρ, G1, μ1, hh.step s1, h1.mono _ _ _ _ q (endsAt_le s1)⟩⟩
/-- a target's assignment -/
def dAsg (t : Tg) (f : DE) : DS := fun ρ μ E => f ρ μ fun d μ1 => match setT t d ρ with
  | some ρ' => E.nx ρ' μ1
  | none => False
theorem dAsg_mono {t : Tg} (hf : MonoW f) : MonoS (dAsg t f) := fun ρ μ E E' q k => hf ρ μ _ _ q fun d μ1 q => by
  split at q
  · exact k.nx _ _ q
  · exact q.elim
theorem lift_asg {t : Tg} (hf : MonoW f) {E : Ends} {σ : L2.St} {H : Hp} (q : liftS Γ (dAsg t f) E σ H) : tAsg (lift Γ f) (tgT X.K t) E σ H := by
  obtain ⟨ρ, G, μ, hh, q⟩ := q
  refine ⟨ρ, G, μ, hh, hf ρ μ _ _ q fun d μ1 q v G1 H1 s1 r => ?_⟩
  split at q
  · rename_i ρ' hρ
    exact target_ok s1.w.sub hρ r (hh.sl.mono s1.ext) fun σ' sl _ => q σ' G1 H1 s1 sl
  · exact q.elim
theorem psd_set {i : Nat} {x : Str} {pos' : Pos} (hN : X.N.Nodup) (hi : X.N[i]? = some x) (hx : Loc X.env.scope x) (he : PD X Γ e f) (hs : swapsWith e (some (.Name x pos')) pos.line X.env = pure false := by rfl) (hf : X.fn x = true ∨ X.env.scope.names.lookup x = some .local := by first | exact .inl rfl | exact .inr rfl | assumption) :
    PSD X Γ (.Assign [.Name x pos'] e pos) (dAsg (.name i) f) := ⟨dAsg_mono he.mono, PS.imp (ps_set hN hi hx he.pe hs hf) fun E σ H q => lift_asg (X := X) he.mono q⟩
theorem psd_asg {t : Tg} (he : PD X Γ e f) (hg : PG X tg (tgT X.K t)) (hs : swapsWithSole [tg] e pos.line X.env = pure false := by rfl) (hw : swappedStores [tg] e X.env = pure none := by rfl)
    (h1 : (assignEach [tg] X.env).map (·.2) = [assign tg X.env] := by rfl) : PSD X Γ (.Assign [tg] e pos) (dAsg t f) :=
  ⟨dAsg_mono he.mono, PS.imp (ps_asg he.pe hg hs hw h1) fun E σ H q => lift_asg he.mono q⟩
end
end Dz

namespace Dz
open PySem PySem.Spec PyProof.Rows L2
section
variable {X : Cx} {Γ : Gam} {a b c e tg iter elt : Expr} {es ifs : List Expr} {f g h : DE} {fa : DA} {t u : DT} {pos : Pos} {st : Stmt} {rest body : List Stmt} {F F1 F2 : DS}
/-! a, b = x, y -/
def dPar (i j : Nat) (fa : DA) : DS := fun ρ μ E => fa ρ μ fun ds μ1 => match ds with
  | [v, w] => E.nx ((ρ.set i (some v)).set j (some w)) μ1
  | _ => False
theorem dPar_mono {i j : Nat} (hf : MonoW fa) : MonoS (dPar i j fa) := fun ρ μ E E' q k => hf ρ μ _ _ q fun ds μ1 q => by
  split at q
  · exact k.nx _ _ q
  · exact q.elim
theorem psd_par {i j : Nat} {x y : Str} {px py pt : Pos} {kt k2 pt2} (hc : X.calm = true) (hN : X.N.Nodup) (hi : X.N[i]? = some x) (hj : X.N[j]? = some y) (hij : i ≠ j)
    (hx : X.env.scope.names.lookup x = some .local) (hy : X.env.scope.names.lookup y = some .local) (ha : PDA X Γ [a, b] fa)
    (hw : swappedStores [.Tuple [.Name x px, .Name y py] kt pt] (.Tuple [a, b] k2 pt2) X.env = pure (some [x, y]))
    (hs : swapsWithSole [.Tuple [.Name x px, .Name y py] kt pt] (.Tuple [a, b] k2 pt2) pos.line X.env = pure false := by rfl) :
    PSD X Γ (.Assign [.Tuple [.Name x px, .Name y py] kt pt] (.Tuple [a, b] k2 pt2) pos) (dPar i j fa) := ⟨dPar_mono ha.mono, PS.imp (ps_par hc hN hi hj hij hx hy ha.pa hw hs) fun E σ H q => by
  obtain ⟨ρ, G, μ, hh, q⟩ := q
  refine ⟨ρ, G, μ, hh, ha.mono ρ μ _ _ q fun ds μ1 q1 vs G1 H1 s1 r => ?_⟩
  split at q1
  · cases r with | cons r1 r2 =>
    cases r2 with | cons r2 r3 =>
    cases r3
    exact ⟨_, _, rfl, q1 _ G1 H1 s1 (((hh.sl.mono s1.ext).set i r1).set j r2)⟩
  · exact q1.elim⟩
def dPar3 (i j l : Nat) (fa : DA) : DS := fun ρ μ E => fa ρ μ fun ds μ1 => match ds with
  | [v, w, x] => E.nx (((ρ.set i (some v)).set j (some w)).set l (some x)) μ1
  | _ => False
theorem dPar3_mono {i j l : Nat} (hf : MonoW fa) : MonoS (dPar3 i j l fa) := fun ρ μ E E' q k => hf ρ μ _ _ q fun ds μ1 q => by
  split at q
  · exact k.nx _ _ q
  · exact q.elim
theorem lift_par3 {i j l : Nat} (hf : MonoW fa) {E : Ends} {σ : L2.St} {H : Hp} (q : liftS Γ (dPar3 i j l fa) E σ H) : tPar3 i j l (liftA Γ fa) E σ H := by
  obtain ⟨ρ, G, μ, hh, q⟩ := q
  refine ⟨ρ, G, μ, hh, hf ρ μ _ _ q fun ds μ1 q1 vs G1 H1 s1 r => ?_⟩
  split at q1
  · cases r with | cons r1 r2 =>
    cases r2 with | cons r2 r3 =>
    cases r3 with | cons r3 r4 =>
    cases r4
    exact ⟨_, _, _, rfl, q1 _ G1 H1 s1 ((((hh.sl.mono s1.ext).set i r1).set j r2).set l r3)⟩
  · exact q1.elim
/-! x op= e on ints -/
def dAug (i : Nat) (g : Int → Int → Int) (f : DE) : DS := fun ρ μ E => match ρ[i]? with
  | some (some (.int x)) => f ρ μ fun d μ1 => (match d with
    | .int y => E.nx (ρ.set i (some (.int (g x y)))) μ1
    | _ => False)
  | _ => False
theorem dAug_mono {i : Nat} {g : Int → Int → Int} (hf : MonoW f) : MonoS (dAug i g f) := fun ρ μ E E' q k => by
  unfold dAug at *
  split at q
  · exact hf ρ μ _ _ q fun d μ1 q => by
      split at q
      · exact k.nx _ _ q
      · exact q.elim
  · exact q.elim
theorem psd_aug {i : Nat} {x : Str} {op : Operator} {g : Int → Int → Int} {pos' : Pos} (hN : X.N.Nodup) (hi : X.N[i]? = some x) (hx : Loc X.env.scope x) (he : PD X Γ e f) (ho : PIp X op (ipI g)) (hf : X.fn x = true ∨ X.env.scope.names.lookup x = some .local := by first | exact .inl rfl | exact .inr rfl | assumption) :
    PSD X Γ (.AugAssign (.Name x pos') op e pos) (dAug i g f) := ⟨dAug_mono he.mono, PS.imp (ps_aug hN hi hx he.pe ho hf) fun E σ H q => by
  obtain ⟨ρ, G, μ, hh, q⟩ := q
  unfold dAug at q
  split at q
  · rename_i z hz
    obtain ⟨v, h1, h2⟩ := hh.sl.at_ i _ hz
    cases h2
    refine ⟨_, h1, ρ, G, μ, hh, he.mono ρ μ _ _ q fun d μ1 q1 v G1 H1 s1 r => ?_⟩
    split at q1
    · cases r
      exact ⟨_, _, rfl, rfl, q1 _ G1 H1 s1 ((hh.sl.mono s1.ext).set i (.int _))⟩
    · exact q1.elim
  · exact q.elim⟩
/-! for -/
def forL (t : Tg) (F : DS) (E : DEnds) : List D → Rho → Mu → Prop
  | [], ρ, μ => E.nx ρ μ
  | d :: ds, ρ, μ => match setT t d ρ with
    | none => False
    | some ρ1 => F ρ1 μ { nx := forL t F E ds, rt := E.rt, bk := E.nx, ct := forL t F E ds }
def dFor (it : DI) (t : Tg) (F : DS) : DS := fun ρ μ E => it ρ μ fun ds μ1 => forL t F E ds ρ μ1
theorem forL_mono {t : Tg} (hF : MonoS F) {E E' : DEnds} (k : E.Le E') : ∀ (ds : List D) (ρ : Rho) (μ : Mu), forL t F E ds ρ μ → forL t F E' ds ρ μ
  | [], ρ, μ, h => k.nx _ _ h
  | d :: ds, ρ, μ, h => by
    unfold forL at h ⊢
    split at h
    · exact h.elim
    · exact hF _ _ _ _ h ⟨fun ρ μ => forL_mono hF k ds ρ μ, k.rt, k.nx, fun ρ μ => forL_mono hF k ds ρ μ⟩
theorem dFor_mono {it : DI} {t : Tg} (hi : MonoW it) (hF : MonoS F) : MonoS (dFor it t F) := fun ρ μ E E' q k => hi ρ μ _ _ q fun ds μ1 q => forL_mono hF k ds ρ μ1 q
theorem psd_for {it : DI} {t : Tg} (hp : PassesOwn (model X.prog X.w) X.A X.env X.xe) (hc : X.calm = true) (hi : PDI X Γ tg iter it) (hg : PG X tg (tgT X.K t)) (hb : PSDs X Γ body F) (hs : ∀ x, foldedSetIterable iter X.env x = pure x := by intro _; rfl) :
    PSD X Γ (.For tg iter body [] pos) (dFor it t F) := ⟨dFor_mono hi.mono hb.mono, PS.imp (ps_for hp hc hi.pi hg hb.pss hs) fun E σ H q => by
  obtain ⟨ρ, G, μ, hh, q⟩ := q
  refine ⟨ρ, G, μ, hh, hi.mono ρ μ _ _ q fun ds μ1 q1 J G1 H1 s1 wk => ?_⟩
  refine for_it wk (fun i σ2 H2 => ∃ (ρ2 : Rho) (G2 : Hp) (μ2 : Mu), Stp G1 μ1 H1 G2 μ2 H2 ∧ Slots G2 σ2 ρ2 ∧ forL t F (endsAt G μ H E) (ds.drop i) ρ2 μ2) ⟨ρ, G1, μ1, Stp.refl s1.w, hh.sl.mono s1.ext, q1⟩ ?_ ?_ ?_
  · rintro i σ2 H2 hi ⟨ρ2, G2, μ2, s2, _⟩
    exact s2.ext.trans s2.w.sub
  · rintro i x σ2 H2 H3 hi ⟨ρ2, G2, μ2, s2, sl2, q2⟩ y
    obtain ⟨G3, d, s3, hd, rd⟩ := y G2 μ2 s2.ext s2.w
    have hdrop : ds.drop i = d :: ds.drop (i + 1) := by
      rw [List.drop_eq_getElem_cons hi]
      congr 1
      rw [List.getElem?_eq_getElem hi] at hd
      exact Option.some.inj hd
    rw [hdrop] at q2
    unfold forL at q2
    split at q2
    · exact q2.elim
    · rename_i ρ1 hρ
      have st := s2.trans s3
      refine target_ok s3.w.sub hρ rd (sl2.mono s3.ext) fun σ4 sl _ => ?_
      refine ⟨ρ1, G3, μ2, ⟨hh.stp.trans (s1.trans st), sl⟩, hb.mono _ _ _ _ q2 ⟨fun ρ5 μ5 q5 σ5 G5 H5 s5 sl5 => ?_, fun d5 μ5 q5 v5 G5 H5 s5 r5 => ?_, fun ρ5 μ5 q5 σ5 G5 H5 s5 sl5 => ?_, fun ρ5 μ5 q5 σ5 G5 H5 s5 sl5 => ?_⟩⟩
      · exact ⟨ρ5, G5, μ5, st.trans s5, sl5, q5⟩
      · exact q5 v5 G5 H5 (s1.trans (st.trans s5)) r5
      · exact q5 σ5 G5 H5 (s1.trans (st.trans s5)) sl5
      · exact ⟨ρ5, G5, μ5, st.trans s5, sl5, q5⟩
  · rintro σ2 H2 ⟨ρ2, G2, μ2, s2, sl2, q2⟩
    rw [List.drop_length] at q2
    exact q2 σ2 G2 H2 (s1.trans s2) sl2⟩
/-! while -/
def whileN (t : DT) (F : DS) (E : DEnds) : Nat → Rho → Mu → Prop
  | 0, _, _ => False
  | n + 1, ρ, μ => t ρ μ fun b μ1 => if b = true then F ρ μ1 { nx := whileN t F E n, rt := E.rt, bk := E.nx, ct := whileN t F E n } else E.nx ρ μ1
def dWhile (t : DT) (F : DS) : DS := fun ρ μ E => ∃ n, whileN t F E n ρ μ
theorem whileN_mono (ht : MonoW t) (hF : MonoS F) {E E' : DEnds} (k : E.Le E') : ∀ (n : Nat) (ρ : Rho) (μ : Mu), whileN t F E n ρ μ → whileN t F E' n ρ μ
  | 0, _, _, h => h
  | n + 1, ρ, μ, h => ht _ _ _ _ h fun b μ1 q => by
    cases b
    · exact k.nx _ _ q
    · exact hF _ _ _ _ q ⟨fun ρ μ => whileN_mono ht hF k n ρ μ, k.rt, k.nx, fun ρ μ => whileN_mono ht hF k n ρ μ⟩
theorem psd_while (hp : PassesOwn (model X.prog X.w) X.A X.env X.xe) (hc : PDT X Γ c t) (hb : PSDs X Γ body F) : PSD X Γ (.While c body [] pos) (dWhile t F) := ⟨fun ρ μ E E' ⟨n, q⟩ k => ⟨n, whileN_mono hc.mono hb.mono k n ρ μ q⟩, PS.imp (ps_while hp hc.pt hb.pss) fun E σ H q => by
  obtain ⟨ρ, G, μ, hh, n, q⟩ := q
  refine ⟨fun m σ2 H2 => ∃ (ρ2 : Rho) (G2 : Hp) (μ2 : Mu), Stp G μ H G2 μ2 H2 ∧ Slots G2 σ2 ρ2 ∧ whileN t F (endsAt G μ H E) m ρ2 μ2, ⟨n, ρ, G, μ, Stp.refl hh.stp.w, hh.sl, q⟩, ?_⟩
  rintro m σ2 H2 ⟨ρ2, G2, μ2, s2, sl2, q2⟩
  cases m with
  | zero => exact q2.elim
  | succ m =>
    refine ⟨ρ2, G2, μ2, ⟨hh.stp.trans s2, sl2⟩, hc.mono _ _ _ _ q2 fun b μ3 q3 G3 H3 s3 => ?_⟩
    have st := s2.trans s3
    cases b with
    | false => exact q3 σ2 G3 H3 st (sl2.mono s3.ext)
    | true =>
      refine ⟨fun σ4 H4 => ∃ (ρ4 : Rho) (G4 : Hp) (μ4 : Mu), Stp G μ H G4 μ4 H4 ∧ Slots G4 σ4 ρ4 ∧ whileN t F (endsAt G μ H E) m ρ4 μ4, fun σ4 H4 h4 => ⟨m, Nat.lt_succ_self m, h4⟩, ?_⟩
      refine ⟨ρ2, G3, μ3, ⟨hh.stp.trans st, sl2.mono s3.ext⟩, hb.mono _ _ _ _ q3 ⟨fun ρ5 μ5 q5 σ5 G5 H5 s5 sl5 => ⟨ρ5, G5, μ5, st.trans s5, sl5, q5⟩, fun d5 μ5 q5 v5 G5 H5 s5 r5 => q5 v5 G5 H5 (st.trans s5) r5, fun ρ5 μ5 q5 σ5 G5 H5 s5 sl5 => q5 σ5 G5 H5 (st.trans s5) sl5, fun ρ5 μ5 q5 σ5 G5 H5 s5 sl5 => ⟨ρ5, G5, μ5, st.trans s5, sl5, q5⟩⟩⟩⟩
end
end Dz

namespace Dz
open PySem PySem.Spec PyProof.Rows L2
/-! ### private lists -/
def put (μ : Mu) (p : Addr) (m : MO) : Mu := fun a => if a = p then some m else μ a
def del (μ : Mu) (p : Addr) : Mu := fun a => if a = p then none else μ a
theorem put_same {μ : Mu} {p : Addr} {m : MO} : put μ p m p = some m := by unfold put; rw [if_pos rfl]
theorem put_ne {μ : Mu} {p a : Addr} {m : MO} (h : a ≠ p) : put μ p m a = μ a := by unfold put; rw [if_neg h]
theorem put_put {μ : Mu} {p : Addr} {m m' : MO} : put (put μ p m) p m' = put μ p m' := by funext a; unfold put; split <;> rfl
theorem put_comm {μ : Mu} {p q : Addr} {m m' : MO} (h : p ≠ q) : put (put μ p m) q m' = put (put μ q m') p m := by
  funext a; unfold put
  by_cases h1 : a = q <;> by_cases h2 : a = p
  · subst h1; subst h2; exact absurd rfl h
  · simp [h1, h2, Ne.symm h]
  · simp [h1, h2, h]
  · simp [h1, h2]
theorem del_put {μ : Mu} {p : Addr} {m : MO} (h : μ p = none) : del (put μ p m) p = μ := by
  funext a; unfold del put
  by_cases e : a = p
  · subst e; simp [h]
  · simp [e]
theorem del_put_ne {μ : Mu} {p q : Addr} {m : MO} (h : q ≠ p) : del (put μ p m) q = put (del μ q) p m := by
  funext a; unfold del put
  by_cases h1 : a = q <;> by_cases h2 : a = p
  · subst h1; subst h2; exact absurd rfl h
  · simp [h1, h]
  · simp [h2, Ne.symm h]
  · simp [h1, h2]
theorem W3.own {G : Hp} {μ : Mu} {H : Hp} (w : W3 G μ H) {p : Addr} {ws : List V} {ds : List D} (hg : G p = none) (hm : μ p = none) (h : H p = some (.lst ws)) (r : RepL G ws ds) : W3 G (put μ p (.lst ds)) H := by
  refine ⟨w.sub, fun a ha => ?_, fun a m e => ?_⟩
  · by_cases ap : a = p
    · subst ap; exact hg
    · rw [put_ne ap] at ha; exact w.dis a ha
  · by_cases ap : a = p
    · subst ap; rw [put_same] at e; cases e; exact ⟨ws, h, r⟩
    · rw [put_ne ap] at e
      have ok := w.ok a m e
      cases m with
      | lst ds => exact ok
      | drw n =>
        obtain ⟨k, ns, e1, e2, e3, e4, e5⟩ := ok
        have nn : n ≠ p := fun z => by rw [z, hm] at e3; cases e3
        exact ⟨k, ns, e1, e2, by rw [put_ne nn]; exact e3, e4, e5⟩
      | opq => exact ok
      | ins C dx fs =>
        obtain ⟨fv, e1, r, q⟩ := ok
        have nn : dx ≠ p := fun z => by rw [z, hm] at q; cases q
        exact ⟨fv, e1, r, by rw [put_ne nn]; exact q⟩
theorem Stp.own {G G' : Hp} {μ μ' : Mu} {H H' : Hp} (s : Stp G μ H G' μ' H') {p : Addr} {ws : List V} {ds : List D} (h0 : H p = none) (hg : G' p = none) (hm : μ' p = none) (h : H' p = some (.lst ws)) (r : RepL G' ws ds) : Stp G μ H G' (put μ' p (.lst ds)) H' :=
  ⟨s.ext, fun a u h1 h2 h3 => by
    obtain ⟨q1, q2, q3⟩ := s.fr a u h1 h2 h3
    exact ⟨q1, by rw [put_ne (ne_of_none h1 h0)]; exact q2, q3⟩, s.keep, s.w.own hg hm h r⟩
/-- a private list is written -/
theorem W3.write {G : Hp} {μ : Mu} {H : Hp} (w : W3 G μ H) {p : Addr} {l ds : List D} {ws : List V} (hm : μ p = some (.lst l)) (r : RepL G ws ds) : Stp G μ H G (put μ p (.lst ds)) (upd H p (.lst ws)) := by
  have hg : G p = none := w.dis p (by rw [hm]; simp)
  refine ⟨Same.refl G, fun a u h1 h2 h3 => ?_, fun a ha => ?_, fun a u e => ?_, fun a ha => ?_, fun a m e => ?_⟩
  · have ne : a ≠ p := fun z => by rw [z, hm] at h3; cases h3
    rw [put_ne ne, upd_ne ne]; exact ⟨h2, h3, h1⟩
  · by_cases ap : a = p
    · subst ap; rw [upd_same] at ha; cases ha
    · rw [upd_ne ap] at ha; exact ha
  · rw [upd_ne (ne_of_none e hg)]; exact w.sub a u e
  · by_cases ap : a = p
    · subst ap; exact hg
    · rw [put_ne ap] at ha; exact w.dis a ha
  · by_cases ap : a = p
    · subst ap; rw [put_same] at e; cases e; exact ⟨ws, upd_same, r⟩
    · rw [put_ne ap] at e
      have ok := w.ok a m e
      cases m with
      | lst ds => obtain ⟨vs, e1, r⟩ := ok; exact ⟨vs, by rw [upd_ne ap]; exact e1, r⟩
      | drw n =>
        obtain ⟨k, ns, e1, e2, e3, e4, e5⟩ := ok
        have nn : n ≠ p := fun z => by rw [z, hm] at e3; cases e3
        exact ⟨k, ns, by rw [upd_ne ap]; exact e1, e2, by rw [put_ne nn]; exact e3, by rw [upd_ne nn]; exact e4, e5⟩
      | opq =>
        show upd H p _ a ≠ none
        rw [upd_ne ap]; exact ok
      | ins C dx fs =>
        obtain ⟨fv, e1, r, q⟩ := ok
        have nn : dx ≠ p := fun z => by rw [z, hm] at q; cases q
        exact ⟨fv, by rw [upd_ne ap]; exact e1, r, by rw [put_ne nn]; exact q⟩
/-- a private list becomes plain data -/
theorem W3.publish {G : Hp} {μ : Mu} {H : Hp} (w : W3 G μ H) {p : Addr} {l : List D} (hm : μ p = some (.lst l)) : ∃ G', Stp G μ H G' (del μ p) H ∧ Rep G' (.ref p) (.lst l) := by
  have hg : G p = none := w.dis p (by rw [hm]; simp)
  obtain ⟨ws, h, r⟩ := w.ok p _ hm
  refine ⟨upd G p (.lst ws), ⟨same_new hg, fun a u h1 h2 h3 => ?_, fun a ha => ha, fun a u e => ?_, fun a ha => ?_, fun a m e => ?_⟩, .lst upd_same (r.mono (same_new hg))⟩
  · have ne : a ≠ p := fun z => by rw [z, hm] at h3; cases h3
    unfold del
    rw [upd_ne ne, if_neg ne]; exact ⟨h2, h3, h1⟩
  · by_cases ap : a = p
    · subst ap; rw [upd_same] at e; rw [h]; exact e
    · rw [upd_ne ap] at e; exact w.sub a u e
  · unfold del at ha
    by_cases ap : a = p
    · subst ap; rw [if_pos rfl] at ha; exact absurd rfl ha
    · rw [if_neg ap] at ha; rw [upd_ne ap]; exact w.dis a ha
  · unfold del at e
    by_cases ap : a = p
    · rw [if_pos ap] at e; cases e
    · rw [if_neg ap] at e
      have ok := (w.ok a m e).mono (same_new (o := .lst ws) hg)
      cases m with
      | lst ds => exact ok
      | drw n =>
        obtain ⟨k, ns, e1, e2, e3, e4, e5⟩ := ok
        have nn : n ≠ p := fun z => by rw [z, hm] at e3; cases e3
        exact ⟨k, ns, e1, e2, by unfold del; rw [if_neg nn]; exact e3, e4, e5⟩
      | opq => exact ok
      | ins C dx fs =>
        obtain ⟨fv, e1, r, q⟩ := ok
        have nn : dx ≠ p := fun z => by rw [z, hm] at q; cases q
        exact ⟨fv, e1, r, by unfold del; rw [if_neg nn]; exact q⟩
def Closed (μ : Mu) : Prop := (∀ a n, μ a = some (.drw n) → μ n = some .opq) ∧ ∀ a C dx fs, μ a = some (.ins C dx fs) → μ dx = some .opq
theorem W3.closed {G : Hp} {μ : Mu} {H : Hp} (w : W3 G μ H) : Closed μ :=
  ⟨fun a n e => let ⟨_, _, _, _, h, _⟩ := w.ok a _ e; h, fun a C dx fs e => let ⟨_, _, _, h⟩ := w.ok a _ e; h⟩
structure Less (μ μ' : Mu) : Prop where
  sub : ∀ a m, μ a = some m → μ' a = some m
  cl : Closed μ
theorem Less.refl {μ : Mu} (h : Closed μ) : Less μ μ := ⟨fun _ _ e => e, h⟩
theorem Less.put {μ μ' : Mu} (h : Less μ μ') {p : Addr} {m : MO} (hp : μ p = none) : Less μ (put μ' p m) := ⟨fun a m' e => by
  have ne : a ≠ p := fun z => by rw [z, hp] at e; cases e
  rw [put_ne ne]; exact h.sub a m' e, h.cl⟩
theorem W3.less {G : Hp} {μ μ' : Mu} {H : Hp} (w : W3 G μ' H) (l : Less μ μ') : W3 G μ H := by
  refine ⟨w.sub, fun a ha => w.dis a fun z => ?_, fun a m e => ?_⟩
  · obtain ⟨m, hm⟩ := Option.ne_none_iff_exists'.mp ha
    rw [l.sub a m hm] at z; cases z
  · have ok := w.ok a m (l.sub a m e)
    cases m with
    | lst ds => exact ok
    | drw n => obtain ⟨k, ns, e1, e2, e3, e4, e5⟩ := ok; exact ⟨k, ns, e1, e2, l.cl.1 a n e, e4, e5⟩
    | opq => exact ok
    | ins C dx fs => obtain ⟨fv, e1, r, q⟩ := ok; exact ⟨fv, e1, r, l.cl.2 a C dx fs e⟩
theorem Stp.less {G G' : Hp} {μ μ' μ2 : Mu} {H H' : Hp} (s : Stp G μ H G' μ' H') (l : Less μ2 μ') : Stp G μ H G' μ2 H' := by
  refine ⟨s.ext, fun a u h1 h2 h3 => ?_, s.keep, s.w.less l⟩
  obtain ⟨q1, q2, q3⟩ := s.fr a u h1 h2 h3
  refine ⟨q1, ?_, q3⟩
  cases e : μ2 a with
  | none => rfl
  | some m => rw [l.sub a m e] at q2; cases q2

section
variable {X : Cx} {Γ : Gam} {a b c e tg iter elt : Expr} {es ifs : List Expr} {f g h : DE} {fa : DA} {t u : DT} {pos : Pos} {st : Stmt} {rest body : List Stmt} {F F1 F2 : DS}
/-! name = [..] -/
theorem psd_setLc {i : Nat} {y : Str} {py spos : Pos} {scope : Scope} {own : List (Str × Nat)} {it : DI} {tt : DT} {te : DE} {t : Tg} (hc : X.calm = true) (hN : X.N.Nodup) (hy : X.N[i]? = some y) (hyl : X.env.scope.names.lookup y = some .local)
    (hsw : swapsWith (.ListComp elt [⟨tg, iter, ifs, 0⟩] scope pos) (some (.Name y py)) spos.line X.env = pure true) (hi : PDI X Γ tg iter it) (ok : BlkOk X.N X.env.scope scope own) (hv : ∀ i ∈ t.slots, i ∈ own.map (·.2))
    (hg : ∀ (s : Shared) (H : Hp) (C : Addr) (cl : List (Str × Addr)) (fp : List Addr), PG (X.blk s H scope (compEnvC scope cl C X.env) fp) tg (tgT X.K t)) (ht : ∀ (s : Shared) (H : Hp) (C : Addr) (cl : List (Str × Addr)) (fp : List Addr), PDTs (X.blk s H scope (compEnvC scope cl C X.env) fp) Γ ifs tt)
    (he : ∀ (s : Shared) (H : Hp) (C : Addr) (cl : List (Str × Addr)) (fp : List Addr), PD (X.blk s H scope (compEnvC scope cl C X.env) fp) Γ elt te) (s0 : Shared) (H0 : Hp) (hs : ∀ x, foldedSetIterable iter X.env x = pure x := by intro _; rfl) :
    PSD X Γ (.Assign [.Name y py] (.ListComp elt [⟨tg, iter, ifs, 0⟩] scope pos) spos) (dAsg (.name i) (dComp it t (own.map (·.2)) tt te)) := by
  have mt := (ht s0 H0 0 [] []).mono
  have me := (he s0 H0 0 [] []).mono
  refine ⟨dAsg_mono (dComp_mono hi.mono mt me), PS.imp (ps_setLc hc hN hy hyl hsw hi.pi ok hg (fun s H C cl fp => (ht s H C cl fp).pts) (fun s H C cl fp => (he s H C cl fp).pe) hs) fun E σ H q => ?_⟩
  obtain ⟨ρ, G, μ, hh, q⟩ := q
  refine comp_core (X := X) (QD := fun ds μ' => (endsAt G μ H E).nx (ρ.set i (some (.lst ds))) μ') hi.mono mt me hv hh q ?_
  intro ds ws μ' p G' H' q hp st hg hm hp' rl
  exact q _ _ _ (st.pub hp hg hm hp') ((hh.sl.mono (st.ext.trans (same_new hg))).set i (.lst upd_same (rl.mono (same_new hg))))
/-- .. the list kept private -/
def dOwnC (i : Nat) (it : DI) (t : Tg) (vs : List Nat) (tt : DT) (te : DE) : DS := fun ρ μ E => it ρ μ fun ds μ1 => ds.length ≤ 100000 ∧ compL t (wipeD ρ vs) tt te (fun l μ' => ∀ p, μ' p = none → E.nx (ρ.set i (some (.hdl p))) (put μ' p (.lst l))) ds [] μ1
theorem psd_ownLc {i : Nat} {y : Str} {py spos : Pos} {scope : Scope} {own : List (Str × Nat)} {it : DI} {tt : DT} {te : DE} {t : Tg} (hc : X.calm = true) (hN : X.N.Nodup) (hy : X.N[i]? = some y) (hyl : X.env.scope.names.lookup y = some .local)
    (hsw : swapsWith (.ListComp elt [⟨tg, iter, ifs, 0⟩] scope pos) (some (.Name y py)) spos.line X.env = pure true) (hi : PDI X Γ tg iter it) (ok : BlkOk X.N X.env.scope scope own) (hv : ∀ i ∈ t.slots, i ∈ own.map (·.2))
    (hg : ∀ (s : Shared) (H : Hp) (C : Addr) (cl : List (Str × Addr)) (fp : List Addr), PG (X.blk s H scope (compEnvC scope cl C X.env) fp) tg (tgT X.K t)) (ht : ∀ (s : Shared) (H : Hp) (C : Addr) (cl : List (Str × Addr)) (fp : List Addr), PDTs (X.blk s H scope (compEnvC scope cl C X.env) fp) Γ ifs tt)
    (he : ∀ (s : Shared) (H : Hp) (C : Addr) (cl : List (Str × Addr)) (fp : List Addr), PD (X.blk s H scope (compEnvC scope cl C X.env) fp) Γ elt te) (s0 : Shared) (H0 : Hp) (hs : ∀ x, foldedSetIterable iter X.env x = pure x := by intro _; rfl) :
    PSD X Γ (.Assign [.Name y py] (.ListComp elt [⟨tg, iter, ifs, 0⟩] scope pos) spos) (dOwnC i it t (own.map (·.2)) tt te) := by
  have mt := (ht s0 H0 0 [] []).mono
  have me := (he s0 H0 0 [] []).mono
  refine ⟨fun ρ μ E E' q k => hi.mono ρ μ _ _ q fun ds μ1 q => ⟨q.1, compL_mono mt me (fun l μ' q p hp => k.nx _ _ (q p hp)) _ _ _ q.2⟩, PS.imp (ps_setLc hc hN hy hyl hsw hi.pi ok hg (fun s H C cl fp => (ht s H C cl fp).pts) (fun s H C cl fp => (he s H C cl fp).pe) hs) fun E σ H q => ?_⟩
  obtain ⟨ρ, G, μ, hh, q⟩ := q
  refine comp_core (X := X) (QD := fun l μ' => ∀ p, μ' p = none → (endsAt G μ H E).nx (ρ.set i (some (.hdl p))) (put μ' p (.lst l))) hi.mono mt me hv hh q ?_
  intro ds ws μ' p G' H' q hp st hg hm hp' rl
  exact q p hm _ G' H' (st.own hp hg hm hp' rl) ((hh.sl.mono st.ext).set i (.hdl p))
/-- name = [a, b, ..], the list kept private -/
def dOwnL (i : Nat) (fa : DA) : DS := fun ρ μ E => fa ρ μ fun ds μ1 => ds.length ≤ 100000 ∧ ∀ p, μ1 p = none → E.nx (ρ.set i (some (.hdl p))) (put μ1 p (.lst ds))
theorem psd_ownL {i : Nat} {x : Str} {pos' lpos : Pos} (hN : X.N.Nodup) (hi : X.N[i]? = some x) (hx : Loc X.env.scope x) (ha : PDA X Γ es fa) (hs : swapsWith (.List es lpos) (some (.Name x pos')) pos.line X.env = pure false := by rfl) (hf : X.fn x = true ∨ X.env.scope.names.lookup x = some .local := by first | exact .inl rfl | exact .inr rfl | assumption) :
    PSD X Γ (.Assign [.Name x pos'] (.List es lpos) pos) (dOwnL i fa) := ⟨fun ρ μ E E' q k => ha.mono ρ μ _ _ q fun ds μ1 q => ⟨q.1, fun p hp => k.nx _ _ (q.2 p hp)⟩, PS.imp (ps_set hN hi hx (pe_lst ha.pa) hs hf) fun E σ H q => by
  obtain ⟨ρ, G, μ, hh, q⟩ := q
  refine ⟨ρ, G, μ, hh, ha.mono ρ μ _ _ q fun ds μ1 q1 vs G1 H1 s1 r => ⟨by rw [r.length]; exact sz_of q1.1, fun p hp => ?_⟩⟩
  have hg := s1.w.gnone hp
  have hm := s1.w.mnone hp
  exact q1.2 p hm _ G1 _ ((s1.hid (s1.keep p hp) hg hm).own (s1.keep p hp) hg hm upd_same r) ((hh.sl.mono s1.ext).set i (.hdl p))⟩
/-- publish slot i ahead of what follows -/
def dPub (i : Nat) (F : DS) : DS := fun ρ μ E => match ρ[i]? with
  | some (some (.hdl p)) => (match μ p with
    | some (.lst l) => F (ρ.set i (some (.lst l))) (del μ p) E
    | _ => False)
  | _ => False
theorem Slots.same {G : Hp} {σ : L2.St} {ρ : Rho} {v : V} {d : D} (s : Slots G σ ρ) {i : Nat} (h : σ[i]? = some (some v)) (r : Rep G v d) : Slots G σ (ρ.set i (some d)) := by
  have := s.set i r
  rw [show σ.set i (some v) = σ from by
    apply List.ext_getElem?
    intro j
    by_cases e : i = j
    · subst e
      rw [List.getElem?_set_self (List.getElem?_eq_some_iff.mp h).1, h]
    · rw [List.getElem?_set_ne e]] at this
  exact this
theorem psd_pub {i : Nat} (h : PSDs X Γ rest F) : PSDs X Γ rest (dPub i F) := ⟨fun ρ μ E E' q k => by
    unfold dPub at *
    split at q
    · split at q
      · exact h.mono _ _ _ _ q k
      · exact q.elim
    · exact q.elim, PSs.imp h.pss fun E σ H q => by
  obtain ⟨ρ, G, μ, hh, q⟩ := q
  unfold dPub at q
  split at q
  · rename_i p hp
    split at q
    · rename_i l hl
      obtain ⟨G', s', r⟩ := hh.stp.w.publish hl
      obtain ⟨v, h1, h2⟩ := hh.sl.at_ i _ hp
      cases h2
      exact ⟨_, G', _, ⟨hh.stp.trans s', (hh.sl.mono s'.ext).same h1 r⟩, h.mono _ _ _ _ q (endsAt_le s')⟩
    · exact q.elim
  · exact q.elim⟩
/-- found.append(e) -/
def dApp (i : Nat) (fa : DA) : DS := fun ρ μ E => match ρ[i]? with
  | some (some (.hdl p)) => (∃ l0, μ p = some (.lst l0)) ∧ fa ρ μ fun ds μ1 => (match ds, μ1 p with
    | [d], some (.lst l) => l.length < 100000 ∧ E.nx ρ (put μ1 p (.lst (l ++ [d])))
    | _, _ => False)
  | _ => False
theorem dApp_mono {i : Nat} (ha : MonoW fa) : MonoS (dApp i fa) := fun ρ μ E E' q k => by
  unfold dApp at *
  split at q
  · refine ⟨q.1, ha ρ μ _ _ q.2 fun ds μ1 q => ?_⟩
    split at q
    · exact ⟨q.1, k.nx _ _ q.2⟩
    · exact q.elim
  · exact q.elim
theorem psd_app {i : Nat} {o : Expr} {apos cpos : Pos} (ho : PE X o (tVar i)) (ha : PDA X Γ [e] fa) (h : PE X (.Call (.Attribute o "append" apos) [e] [] cpos) (tBM X.K "list" rAppend (tVar i) (liftA Γ fa))) (hs : swapsWith (.Call (.Attribute o "append" apos) [e] [] cpos) none pos.line X.env = pure false := by rfl) :
    PSD X Γ (.Expr (.Call (.Attribute o "append" apos) [e] [] cpos) pos) (dApp i fa) := ⟨dApp_mono ha.mono, PS.imp (ps_expr h hs) fun E σ H q => by
  obtain ⟨ρ, G, μ, hh, q⟩ := q
  unfold dApp at q
  split at q
  · rename_i p hp
    obtain ⟨⟨l0, hl0⟩, q⟩ := q
    obtain ⟨v', e1, e2⟩ := hh.sl.at_ i _ hp
    cases e2
    obtain ⟨ws, e3, _⟩ := hh.stp.w.ok _ _ hl0
    refine ⟨.ref p, e1, .inl ⟨rfl, _, SqL.of e3⟩, ρ, G, μ, hh, ha.mono ρ μ _ _ q fun ds μ1 q1 vs G1 H1 s1 r => ?_⟩
    split at q1
    · rename_i d l hl
      cases r with | cons r1 r2 =>
      cases r2
      obtain ⟨vs, e4, rl⟩ := s1.w.ok _ _ hl
      exact ⟨_, _, _, rfl, rfl, e4, by rw [rl.length]; exact Nat.lt_of_lt_of_le q1.1 (by decide), q1.2 σ G1 _ (s1.trans (s1.w.write hl (rl.append (.one r1)))) (hh.sl.mono s1.ext)⟩
    · exact q1.elim
  · exact q.elim⟩
/-- found += e -/
def dExt (i : Nat) (f : DE) : DS := fun ρ μ E => match ρ[i]? with
  | some (some (.hdl p)) => f ρ μ fun d μ1 => (match d, μ1 p with
    | .lst m, some (.lst l) => l.length + m.length ≤ 100000 ∧ E.nx ρ (put μ1 p (.lst (l ++ m)))
    | _, _ => False)
  | _ => False
theorem dExt_mono {i : Nat} (hf : MonoW f) : MonoS (dExt i f) := fun ρ μ E E' q k => by
  unfold dExt at *
  split at q
  · refine hf ρ μ _ _ q fun ds μ1 q => ?_
    split at q
    · exact ⟨q.1, k.nx _ _ q.2⟩
    · exact q.elim
  · exact q.elim
theorem psd_ext {i : Nat} {x : Str} {pos' : Pos} (hN : X.N.Nodup) (hi : X.N[i]? = some x) (hx : Loc X.env.scope x) (he : PD X Γ e f) (hf : X.fn x = true ∨ X.env.scope.names.lookup x = some .local := by first | exact .inl rfl | exact .inr rfl | assumption) :
    PSD X Γ (.AugAssign (.Name x pos') .Add e pos) (dExt i f) := ⟨dExt_mono he.mono, PS.imp (ps_aug hN hi hx he.pe (ti := rExt2) iop_ext hf) fun E σ H q => by
  obtain ⟨ρ, G, μ, hh, q⟩ := q
  unfold dExt at q
  split at q
  · rename_i p hp
    obtain ⟨v', e1, e2⟩ := hh.sl.at_ i _ hp
    cases e2
    refine ⟨.ref p, e1, ρ, G, μ, hh, he.mono ρ μ _ _ q fun d μ1 q1 v G1 H1 s1 r => ?_⟩
    split at q1
    · rename_i m l hl
      cases r with | lst h2 r2 =>
      obtain ⟨vs, e4, rl⟩ := s1.w.ok _ _ hl
      refine ⟨_, _, _, _, rfl, rfl, e4, s1.w.sub _ _ h2, by rw [rl.length, r2.length]; exact sz_of q1.1, ?_⟩
      refine q1.2 _ G1 _ (s1.trans (s1.w.write hl (rl.append r2))) ?_
      have sl := (hh.sl.mono s1.ext).set i (Rep.hdl (G := G1) p)
      rw [show ρ.set i (some (.hdl p)) = ρ from by
        apply List.ext_getElem?
        intro j
        by_cases e : i = j
        · subst e
          rw [List.getElem?_set_self (List.getElem?_eq_some_iff.mp hp).1, hp]
        · rw [List.getElem?_set_ne e]] at sl
      exact sl
    · exact q1.elim
  · exact q.elim⟩
/-- found[e] = v, found private -/
def dSetI (i : Nat) (fv fi : DE) : DS := fun ρ μ E => fv ρ μ fun d μ1 => match ρ[i]? with
  | some (some (.hdl p)) => fi ρ μ1 fun k μ2 => (match k, μ2 p with
    | .int j, some (.lst l) => (match ixN l.length j with
      | some n => E.nx ρ (put μ2 p (.lst (l.set n d)))
      | none => False)
    | _, _ => False)
  | _ => False
theorem psd_setI {i : Nat} {o ix : Expr} {p2 : Pos} {fi : DE} (ho : PE X o (tVar i)) (hi : PD X Γ ix fi) (he : PD X Γ e f) (hs : swapsWithSole [.Subscript o ix p2] e pos.line X.env = pure false := by rfl) (hw : swappedStores [.Subscript o ix p2] e X.env = pure none := by rfl)
    (h1 : (assignEach [.Subscript o ix p2] X.env).map (·.2) = [assign (.Subscript o ix p2) X.env] := by rfl)
    (ha : ∀ v, assign (.Subscript o ix p2) X.env v = (do
      let ov ← holding [v] (eval o X.env)
      let iv ← holding [v, ov] (eval ix X.env)
      standAt p2
      holding [v, ov, iv] (setItem ov iv v)
      release [v, ov, iv] []) := by intro _; rfl) : PSD X Γ (.Assign [.Subscript o ix p2] e pos) (dSetI i f fi) := ⟨fun ρ μ E E' q k => he.mono ρ μ _ _ q fun d μ1 q => by
    split at q
    · refine hi.mono ρ μ1 _ _ q fun kk μ2 q => ?_
      split at q
      · split at q
        · exact k.nx _ _ q
        · exact q.elim
      · exact q.elim
    · exact q.elim, PS.imp (ps_asg he.pe (pg_sub ho hi.pe set_list ha) hs hw h1) fun E σ H q => by
  obtain ⟨ρ, G, μ, hh, q⟩ := q
  refine ⟨ρ, G, μ, hh, he.mono ρ μ _ _ q fun d μ1 q1 v G1 H1 s1 r1 => ?_⟩
  split at q1
  · rename_i p hp
    obtain ⟨v', e1, e2⟩ := hh.sl.at_ i _ hp
    cases e2
    refine ⟨_, e1, ρ, G1, μ1, hh.step s1, hi.mono ρ μ1 _ _ q1 fun kk μ2 q2 kv G2 H2 s2 r2 => ?_⟩
    split at q2
    · rename_i j l hl
      split at q2
      · rename_i n hn
        cases r2
        obtain ⟨vs, e4, rl⟩ := s2.w.ok _ _ hl
        exact ⟨_, _, _, n, rfl, rfl, e4, by rw [rl.length]; exact hn, q2 σ G2 _ ((s1.trans s2).trans (s2.w.write hl (rl.set (r1.mono s2.ext) n))) (hh.sl.mono (s1.ext.trans s2.ext))⟩
      · exact q2.elim
    · exact q2.elim
  · exact q1.elim⟩

/-! ### promises over data, calls -/
abbrev DSp := List D → Mu → (D → Mu → Prop) → (Str → Mu → Prop) → Prop
def MonoP (s : DSp) : Prop := ∀ ds μ P P' E E', s ds μ P E → (∀ d μ', P d μ' → P' d μ') → (∀ c μ', E c μ' → E' c μ') → s ds μ P' E'
def SpD (mg : Str → Option Value) (s : DSp) : Sp := fun vs H Q E => ∃ ds G μ, W3 G μ H ∧ RepL G vs ds ∧
  s ds μ (fun d μ' => ∀ v G' H', Stp G μ H G' μ' H' → Rep G' v d → Q v H') (fun c μ' => ∀ C G' H', mg c = some (.ref C) → Stp G μ H G' μ' H' → E (.ref C) none H')
/-- the general form: a ghost, what the arguments are, what is asked, what comes back, what is raised -/
def spG {α : Type} (args : α → List D) (pre : α → Mu → Prop) (post : α → Mu → D → Mu → Prop) (exc : α → Mu → Str → Mu → Prop) : DSp := fun ds μ P E => ∃ x, ds = args x ∧ pre x μ ∧ (∀ d μ', post x μ d μ' → P d μ') ∧ ∀ c μ', exc x μ c μ' → E c μ'
theorem spG_mono {α : Type} {args : α → List D} {pre : α → Mu → Prop} {post : α → Mu → D → Mu → Prop} {exc : α → Mu → Str → Mu → Prop} : MonoP (spG args pre post exc) :=
  fun ds μ P P' E E' ⟨x, h1, h2, h3, h4⟩ k1 k2 => ⟨x, h1, h2, fun d μ' q => k1 _ _ (h3 d μ' q), fun c μ' q => k2 _ _ (h4 c μ' q)⟩
/-- a plain function -/
def spF {α : Type} (args : α → List D) (pre : α → Prop) (f : α → D) : DSp := fun ds μ P _ => ∃ x, ds = args x ∧ pre x ∧ P (f x) μ
theorem spF_mono {α : Type} {args : α → List D} {pre : α → Prop} {f : α → D} : MonoP (spF args pre f) := fun ds μ P P' E E' ⟨x, h1, h2, h3⟩ k1 _ => ⟨x, h1, h2, k1 _ _ h3⟩
/-- a relation -/
def spR {α : Type} (args : α → List D) (pre : α → Mu → Prop) (post : α → D → Prop) : DSp := fun ds μ P _ => ∃ x, ds = args x ∧ pre x μ ∧ ∀ d, post x d → P d μ
theorem spR_mono {α : Type} {args : α → List D} {pre : α → Mu → Prop} {post : α → D → Prop} : MonoP (spR args pre post) := fun ds μ P P' E E' ⟨x, h1, h2, h3⟩ k1 _ => ⟨x, h1, h2, fun d q => k1 _ _ (h3 d q)⟩
/-- a function, or an exception -/
def spX {α : Type} (args : α → List D) (pre : α → Prop) (f : α → Except Str D) : DSp := fun ds μ P E => ∃ x, ds = args x ∧ pre x ∧ match f x with
  | .ok d => P d μ
  | .error c => E c μ
theorem spX_mono {α : Type} {args : α → List D} {pre : α → Prop} {f : α → Except Str D} : MonoP (spX args pre f) := fun ds μ P P' E E' ⟨x, h1, h2, h3⟩ k1 k2 => ⟨x, h1, h2, by
  split at h3
  · exact k1 _ _ h3
  · exact k2 _ _ h3⟩

structure Fn (P : Program) (w : World) (K : PySem.W.Frag) (mg : Str → Option Value) (base : Heap) (CX : CXT) (k : Nat) (x : Str) (ps : List Str) (s : DSp) : Prop where
  mono : MonoP s
  ex : ∃ f fd, mg x = some (.ref f) ∧ PySem.W.keepIn K (.ref f) = true ∧ Binds K fd ps [] ∧ FnOk P w K mg base CX k f fd ps (SpD mg s)
theorem Fn.up {P : Program} {w : World} {K : PySem.W.Frag} {mg : Str → Option Value} {base : Heap} {CX : CXT} {j k : Nat} {x : Str} {ps : List Str} {s : DSp} (F : Fn P w K mg base CX j x ps s) (h : j ≤ k) : Fn P w K mg base CX k x ps s :=
  ⟨F.mono, let ⟨f, fd, h1, h2, h3, h4⟩ := F.ex; ⟨f, fd, h1, h2, h3, h4.mono h⟩⟩
def dCall (s : DSp) (fa : DA) : DE := fun ρ μ Q => fa ρ μ fun ds μ1 => s ds μ1 Q fun _ _ => False
theorem dCall_mono {s : DSp} (hs : MonoP s) (ha : MonoW fa) : MonoW (dCall s fa) := fun ρ μ P P' q k => ha ρ μ _ _ q fun ds μ1 q => hs _ _ _ _ _ _ q k fun _ _ h => h
theorem lift_call {s : DSp} {mg : Str → Option Value} (hs : MonoP s) (ha : MonoW fa) {σ : L2.St} {H : Hp} {Q : VK} {E : XK} (q : lift Γ (dCall s fa) σ H Q) : liftA Γ fa σ H fun vs H1 => SpD mg s (vs ++ []) H1 Q E := by
  obtain ⟨ρ, G, μ, hh, q⟩ := q
  refine ⟨ρ, G, μ, hh, ha ρ μ _ _ q fun ds μ1 q1 vs G1 H1 s1 r => ?_⟩
  show SpD mg s (vs ++ []) H1 Q E
  rw [List.append_nil]
  exact ⟨ds, G1, μ1, s1.w, r, hs _ _ _ _ _ _ q1 (fun d μ' k v G' H' s' rv => k v G' H' (s1.trans s') rv) fun _ _ h => h.elim⟩
theorem pd_call {k : Nat} {x : Str} {ps : List Str} {s : DSp} {p : Pos} (F : Fn X.prog X.w X.K X.mg X.base CX0 k x ps s) (hr : Room k X.A) (hg : Gl X x) (ha : PDA X Γ (e :: es) fa)
    (hdb : (x == ("__debug__" : Str)) = false := by decide) (he : starEach (e :: es) X.env = (false, eval e X.env) :: starEach es X.env := by rfl) (hpl : (backTo pos (starEach es X.env)).any (·.1) = false := by rfl) :
    PD X Γ (.Call (.Name x p) (e :: es) [] pos) (dCall s fa) := by
  obtain ⟨f, fd, h1, h2, h3, h4⟩ := F.ex
  exact ⟨dCall_mono F.mono ha.mono, PE.imp (pe_call h4 hr hg h1 h2 h3 .nil pass0 ha.pa hdb he hpl) fun σ H Q q => lift_call F.mono ha.mono q⟩

/-! ### a def's body -/
def startD (N : List Str) (ds : List D) : Rho := ds.map some ++ List.replicate (N.length - ds.length) none
theorem start_slots {G : Hp} {N : List Str} {vs : List V} {ds : List D} (r : RepL G vs ds) : Slots G (L2.start N vs) (startD N ds) := by
  refine ⟨by unfold L2.start startD; simp [r.length], fun i d h => ?_⟩
  unfold startD at h
  by_cases hi : i < ds.length
  · rw [List.getElem?_append_left (by simpa using hi), List.getElem?_map] at h
    cases hd : ds[i]? with
    | none => rw [hd] at h; cases h
    | some d' =>
      rw [hd] at h
      cases h
      obtain ⟨v, h1, h2⟩ := r.get hd
      refine ⟨v, ?_, h2⟩
      unfold L2.start
      rw [List.getElem?_append_left (by simpa [r.length] using hi), List.getElem?_map, h1]
      rfl
  · rw [List.getElem?_append_right (by simpa using hi), List.getElem?_replicate] at h
    split at h <;> cases h
def endsD (P : D → Mu → Prop) : DEnds where
  nx := fun _ μ' => ∃ μ2, Less μ2 μ' ∧ P .non μ2
  rt := fun d μ' => ∃ μ2, Less μ2 μ' ∧ P d μ2
theorem fn_mk {P : Program} {w : World} {K : PySem.W.Frag} {mg : Str → Option Value} {base : Heap} {x qual : Str} {st : Stmt} {f : Addr} {fd : FuncData} {N ps : List Str} {k : Nat} {s : DSp} {F : DS} (hs : MonoP s) (Fu : Fun K x qual st f fd) (hb : Binds K fd ps []) (hg : mg x = some (.ref f)) (S : FnScope N ps (defScope st))
    (len : ∀ ds μ P E, s ds μ P E → ds.length = ps.length)
    (body : ∀ (Γ : Gam) (cdv : Value) (A : Around) (outer : List Env) (s : Shared) (H : Hp) (E : XK), Room k (A.deeper (envOfC qual (defScope st) s.heap.objs.size f cdv)) → PSDs (cxOf CX0 P w K mg base N qual (defScope st) f cdv A outer s H E).nox Γ (defBody st) F)
    (hd : ∀ ds μ P E, Closed μ → s ds μ P E → F (startD N ds) μ (endsD P)) : Fn P w K mg base CX0 (k + 1) x ps s := by
  refine ⟨hs, f, fd, hg, Fu.kp, hb, Fu.ok S (fun vs H Q E h => ?_) fun cdv A outer s' H vs Q E hr h => ?_⟩
  · obtain ⟨ds, G, μ, _, r, q⟩ := h
    rw [r.length]
    exact len _ _ _ _ q
  · obtain ⟨ds, G, μ, w3, r, q⟩ := h
    have B := body ⟨G, μ, H⟩ cdv A outer s' H E hr
    refine ⟨_, B.pss, startD N ds, G, μ, ⟨Stp.refl w3, start_slots r⟩, B.mono _ _ _ _ (hd _ _ _ _ w3.closed q) ⟨?_, ?_, ?_, ?_⟩⟩
    · rintro ρ' μ' ⟨μ2, l, q⟩ σ' G' H' s' sl
      exact q _ G' H' (s'.less l) .non
    · rintro d μ' ⟨μ2, l, q⟩ v G' H' s' rv
      exact q v G' H' (s'.less l) rv
    · exact fun _ _ h => h.elim
    · exact fun _ _ h => h.elim
end
end Dz

namespace Dz
open PySem PySem.Spec PyProof.Rows L2
/-! ### the draws -/
theorem W3.drawn {G : Hp} {μ : Mu} {H : Hp} (w : W3 G μ H) {dr n : Addr} (hm : μ dr = some (.drw n)) {k : Int} {ns : List Int} (hne : ns ≠ []) : Stp G μ H G μ (upd (upd H dr (.lst [.ref n, .int k])) n (.lst (ns.map V.int))) := by
  obtain ⟨k0, ns0, e1, e2, e3, e4, e5⟩ := w.ok dr _ hm
  have hg1 : G dr = none := w.dis dr (by rw [hm]; simp)
  have hg2 : G n = none := w.dis n (by rw [e3]; simp)
  have here : ∀ a, a ≠ dr → a ≠ n → upd (upd H dr (.lst [.ref n, .int k])) n (.lst (ns.map V.int)) a = H a := fun a h1 h2 => by rw [upd_ne h2, upd_ne h1]
  refine ⟨Same.refl G, fun a u h1 h2 h3 => ?_, fun a ha => ?_, fun a u e => ?_, w.dis, fun a m e => ?_⟩
  · have n1 : a ≠ dr := fun z => by rw [z, hm] at h3; cases h3
    have n2 : a ≠ n := fun z => by rw [z, e3] at h3; cases h3
    rw [here a n1 n2]; exact ⟨h2, h3, h1⟩
  · by_cases a2 : a = n
    · subst a2; rw [upd_same] at ha; cases ha
    · by_cases a1 : a = dr
      · subst a1; rw [upd_ne a2, upd_same] at ha; cases ha
      · rw [here a a1 a2] at ha; exact ha
  · rw [here a (ne_of_none e hg1) (ne_of_none e hg2)]; exact w.sub a u e
  · have ok := w.ok a m e
    by_cases a1 : a = dr
    · subst a1
      rw [hm] at e; cases e
      exact ⟨k, ns, by rw [upd_ne (Ne.symm e2), upd_same], e2, e3, upd_same, hne⟩
    · by_cases a2 : a = n
      · subst a2
        rw [e3] at e; cases e
        show upd _ _ _ _ ≠ none
        rw [upd_same]; simp
      · cases m with
        | lst ds => obtain ⟨vs, q1, r⟩ := ok; exact ⟨vs, by rw [here a a1 a2]; exact q1, r⟩
        | drw n' =>
          obtain ⟨k', ns', q1, q2, q3, q4, q5⟩ := ok
          have b1 : n' ≠ dr := fun z => by rw [z, hm] at q3; cases q3
          by_cases b2 : n' = n
          · subst b2
            exact ⟨k', ns, by rw [here a a1 a2]; exact q1, q2, q3, upd_same, hne⟩
          · exact ⟨k', ns', by rw [here a a1 a2]; exact q1, q2, q3, by rw [here n' b1 b2]; exact q4, q5⟩
        | opq =>
          show upd _ _ _ _ ≠ none
          rw [here a a1 a2]; exact ok
        | ins C dx fs => obtain ⟨fv, q1, r, q⟩ := ok; exact ⟨fv, by rw [here a a1 a2]; exact q1, r, q⟩
def sp__law_draw : DSp := fun ds μ P _ => ∃ dr n m, ds = [.hdl dr, .int m] ∧ μ dr = some (.drw n) ∧ (0 < m ∧ m < 1073741824) ∧ ∀ r : Int, 0 ≤ r → r < m → P (.int r) μ
theorem spDraw_mono : MonoP sp__law_draw := fun ds μ P P' E E' ⟨dr, n, m, h1, h2, h3, h4⟩ k1 _ => ⟨dr, n, m, h1, h2, h3, fun r a b => k1 _ _ (h4 r a b)⟩
theorem set_map {α β : Type} (f : α → β) : ∀ (l : List α) (i : Nat) (x : α), (l.map f).set i (f x) = (l.set i x).map f
  | [], _, _ => rfl
  | _ :: _, 0, _ => rfl
  | a :: l, i + 1, x => by show f a :: _ = f a :: _; rw [set_map f l i x]
section
variable {P : Program} {w : World} {K : PySem.W.Frag} {mg : Str → Option Value} {base : Heap}
/-- the body of the draw, of any text that has it -/
theorem ok_draw {st : Stmt} {f : Addr} {fd : FuncData} {k : Nat} (Fu : Fun K "_law_draw" "_law_draw" st f fd) (hb : Binds K fd ["draws", "limit"] []) (hg : mg "_law_draw" = some (.ref f)) (S : FnScope ["draws", "limit", "numbers", "at", "cell", "mixed"] ["draws", "limit"] (defScope st))
    (ml : mg "len" = none)
    (body : ∀ (cdv : Value) (A : Around) (outer : List Env) (s : Shared) (H : Hp) (E : XK), PSs (cxOf CX0 P w K mg base ["draws", "limit", "numbers", "at", "cell", "mixed"] "_law_draw" (defScope st) f cdv A outer s H E).nox (defBody st)
      (tSeq (tAsg (tOp (rIxL K) (tVar 0) (tC (.int 0))) (gName 2))
      (tSeq (tAsg (tOp (rI0 fun i j => .int (i + j)) (tOp (rIxL K) (tVar 0) (tC (.int 1))) (tC (.int 1))) (gSub (tVar 0) (tC (.int 1)) rSetL))
      (tSeq (tAsg (tOp (rI (fun _ j => 0 < j) fun i j => .int (i % j)) (tOp (rIxL K) (tVar 0) (tC (.int 1))) (tCB (fun xs H Q => ∃ p ys, xs = [.ref p] ∧ (SqL K H p ys ∨ SqT K H p ys) ∧ Q (.int ys.length) H) (tCons (tVar 2) tNil))) (gName 3))
      (tSeq (tAsg (tOp (rIxL K) (tVar 2) (tVar 3)) (gName 4))
      (tSeq (tIfS (tTest (tOp (rI0 fun i j => .bl (decide (j ≤ i))) (tVar 4) (tC (.int 1000000000000000000))))
          (tSeq (tAsg (tOp (rI CDiv fun i j => .int (i / j)) (tVar 4) (tVar 1)) (gSub (tVar 2) (tVar 3) rSetL)) (tRet (tOp (rI (fun _ j => 0 < j) fun i j => .int (i % j)) (tVar 4) (tVar 1)))) tNext)
      (tSeq (tAsg (tOp (rI (fun _ j => 0 < j) fun i j => .int (i % j)) (tOp (rI0 fun i j => .int (i + j)) (tVar 4) (tOp (rI CMul fun i j => .int (i * j)) (tC (.int 104729)) (tOp (rIxL K) (tVar 0) (tC (.int 1))))) (tC (.int 4294967291))) (gName 5))
      (tSeq (tAsg (tOp (rI (fun _ j => 0 < j) fun i j => .int (i % j)) (tOp (rI CPow fun i j => .int (i ^ j.toNat)) (tVar 5) (tC (.int 5))) (tC (.int 4294967279))) (gName 5))
      (tRet (tOp (rI (fun _ j => 0 < j) fun i j => .int (i % j)) (tOp (rI CDiv fun i j => .int (i / j)) (tOp (rI (fun _ j => 0 < j) fun i j => .int (i % j)) (tOp (rI0 fun i j => .int (i + j)) (tOp (rI CMul fun i j => .int (i * j)) (tOp (rI CDiv fun i j => .int (i / j)) (tVar 5) (tC (.int 64))) (tC (.int 69621))) (tVar 5)) (tC (.int 4294967231))) (tC (.int 8))) (tVar 1))))))))))) :
    Fn P w K mg base CX0 (k + 1) "_law_draw" ["draws", "limit"] sp__law_draw := by
  refine ⟨spDraw_mono, f, fd, hg, Fu.kp, hb, Fu.ok S (fun vs H Q E h => ?_) fun cdv A outer s' H vs Q E hr h => ⟨_, body cdv A outer s' H E, ?_⟩⟩
  · obtain ⟨ds, G, μ, _, r, dr, n, m, rfl, _⟩ := h
    rw [r.length]; rfl
  · obtain ⟨ds, G, μ, w3, r, dr, n, m, rfl, hm, ⟨m0, m1⟩, q⟩ := h
    obtain ⟨c0, ns, e1, e2, e3, e4, e5⟩ := w3.ok dr _ hm
    cases r with | cons r1 r2 =>
    cases r1
    cases r2 with | cons r2 r3 =>
    cases r2; cases r3
    have hpos : 0 < ns.length := List.length_pos_iff.mpr e5
    -- numbers = draws[0]
    refine ⟨_, rfl, dr, _, 0, .ref n, rfl, rfl, SqL.of e1, rfl, ?_⟩
    -- draws[1] = draws[1] + 1
    refine ⟨_, rfl, dr, _, 1, .int c0, rfl, rfl, SqL.of e1, rfl, c0, 1, rfl, rfl, _, rfl, dr, _, 1, 1, rfl, rfl, e1, rfl, ?_⟩
    have f1 : upd H dr (.lst ([V.ref n, V.int c0].set 1 (V.int (c0 + 1)))) dr = some (.lst [.ref n, .int (c0 + 1)]) := upd_same
    have f2 : upd H dr (.lst ([V.ref n, V.int c0].set 1 (V.int (c0 + 1)))) n = some (.lst (ns.map V.int)) := by rw [upd_ne e2]; exact e4
    -- at
    refine ⟨_, rfl, dr, _, 1, .int (c0 + 1), rfl, rfl, SqL.of f1, rfl, _, rfl, n, _, rfl, .inl (SqL.of f2), c0 + 1, _, rfl, rfl, by rw [List.length_map]; omega, ?_⟩
    dsimp only
    rw [List.length_map]
    have hat0 : 0 ≤ (c0 + 1) % (ns.length : Int) := Int.emod_nonneg _ (by omega)
    have hat1 : (c0 + 1) % (ns.length : Int) < ns.length := Int.emod_lt_of_pos _ (by omega)
    obtain ⟨at_, hat⟩ := Int.eq_ofNat_of_zero_le hat0
    rw [hat] at hat1 ⊢
    show tSeq (tAsg (tOp (rIxL K) (tVar 2) (tVar 3)) (gName 4)) _ _ _ _
    have hlt : at_ < ns.length := by omega
    -- cell
    have g1 : atI (ns.map V.int) (at_ : Int) = some (.int ns[at_]) := atI_nat (by rw [List.getElem?_map, List.getElem?_eq_getElem hlt]; rfl)
    refine ⟨_, rfl, _, rfl, n, _, (at_ : Int), _, rfl, rfl, SqL.of f2, g1, ?_⟩
    refine ⟨_, rfl, ns[at_], 1000000000000000000, rfl, rfl, _, rfl, ite2 (fun hb => ?_) fun hb => ?_⟩
    · refine ⟨_, rfl, _, rfl, ns[at_], m, rfl, rfl, ⟨m0, m1⟩, _, rfl, _, rfl, n, _, (at_ : Int), at_, rfl, rfl, f2, ?_, ?_⟩
      · unfold ixN; rw [if_pos (by omega), if_pos (by rw [List.length_map]; omega)]; simp
      refine ⟨_, rfl, _, rfl, ns[at_], m, rfl, rfl, m0, ?_⟩
      rw [set_map V.int]
      exact q _ (Int.emod_nonneg _ (by omega)) (Int.emod_lt_of_pos _ m0) _ G _ (w3.drawn hm (by intro z; have := congrArg List.length z; simp at this; exact e5 this)) (.int _)
    · have stp : Stp G μ H G μ (upd H dr (.lst ([V.ref n, V.int c0].set 1 (V.int (c0 + 1))))) := by
        have := w3.drawn hm (k := c0 + 1) e5
        rw [show upd (upd H dr (.lst [.ref n, .int (c0 + 1)])) n (.lst (ns.map V.int)) = upd H dr (.lst ([V.ref n, V.int c0].set 1 (V.int (c0 + 1)))) from by
          funext b
          by_cases hb : b = n
          · rw [hb, upd_same, f2]
          · rw [upd_ne hb]; rfl] at this
        exact this
      refine ⟨_, rfl, _, rfl, dr, _, 1, .int (c0 + 1), rfl, rfl, SqL.of f1, rfl, 104729, c0 + 1, rfl, rfl, .inl ⟨by decide, by decide⟩, ns[at_], _, rfl, rfl, _, 4294967291, rfl, rfl, (by show (0 : Int) < 4294967291; decide), ?_⟩
      have b0 : 0 ≤ (ns[at_] + 104729 * (c0 + 1)) % 4294967291 := Int.emod_nonneg _ (by decide)
      have b1 : (ns[at_] + 104729 * (c0 + 1)) % 4294967291 < 4294967291 := Int.emod_lt_of_pos _ (by decide)
      refine ⟨_, rfl, _, 5, rfl, rfl, ⟨by decide, by decide, by omega⟩, _, 4294967279, rfl, rfl, (by show (0 : Int) < 4294967279; decide), ?_⟩
      dsimp only
      generalize hx : ((ns[at_] + 104729 * (c0 + 1)) % 4294967291) ^ (5 : Int).toNat % 4294967279 = x
      have x0 : 0 ≤ x := by rw [← hx]; exact Int.emod_nonneg _ (by decide)
      have x1 : x < 4294967279 := by rw [← hx]; exact Int.emod_lt_of_pos _ (by decide)
      refine ⟨_, rfl, x, 64, rfl, rfl, ⟨by decide, by decide⟩, x / 64, 69621, rfl, rfl, .inr ⟨by decide, by decide⟩, _, rfl, _, x, rfl, rfl, _, 4294967231, rfl, rfl, (by show (0 : Int) < 4294967231; decide), _, 8, rfl, rfl, ⟨by decide, by decide⟩, _, rfl, _, m, rfl, rfl, m0, ?_⟩
      exact q _ (Int.emod_nonneg _ (by omega)) (Int.emod_lt_of_pos _ m0) _ G _ stp (.int _)
/-! ### the start -/
def spStart (K : PySem.W.Frag) : Sp := fun vs H Q _ => ∃ (a : Addr) (ns : List Int), vs = [.ref a] ∧ SqL K H a (ns.map V.int) ∧ ∀ (dr n : Addr) (ms : List Int) (H' : Hp), Same H H' → dr ≠ n → H dr = none → H n = none → H' dr = some (.lst [.ref n, .int 0]) → H' n = some (.lst (ms.map V.int)) → ms ≠ [] → Q (.ref dr) H'
theorem dp_ints {K : PySem.W.Frag} {H : Hp} : ∀ ns : List Int, DpAll K H (ns.map V.int) (ns.map PyData.int)
  | [] => .nil
  | n :: r => .cons (.int n) (dp_ints r)
theorem shaped_ints (ns : List Int) : SeqAt.shaped (.list (ns.map PyData.int)) = true := by
  have h := (Sh.lst (n := 1) (l := ns.map D.int) (fun d hd => by
    obtain ⟨x, _, rfl⟩ := List.mem_map.mp hd
    exact .int)).shaped (by decide)
  have e : toPy (.lst (ns.map D.int)) = .list (ns.map PyData.int) := by
    rw [toPy, toPys_eq, List.map_map]
    rfl
  rw [e] at h
  exact h
theorem ok_start {st : Stmt} {f : Addr} {fd : FuncData} {k : Nat} (Fu : Fun K "_law_start" "_law_start" st f fd) (S : FnScope ["script"] ["script"] (defScope st))
    (body : ∀ (cdv : Value) (A : Around) (outer : List Env) (s : Shared) (H : Hp) (E : XK), Room k (A.deeper (envOfC "_law_start" (defScope st) s.heap.objs.size f cdv)) → PSs (cxOf CX0 P w K mg base ["script"] "_law_start" (defScope st) f cdv A outer s H E).nox (defBody st)
      (tRet (tLst (tCons (tIf (tTest (tOp (rNeD K) (tVar 0) (tLst tNil))) (tCB (fun xs H Q => ∃ p ys, xs = [.ref p] ∧ (SqL K H p ys ∨ SqT K H p ys) ∧ ∀ l, H l = none → Q (.ref l) (upd H l (.lst ys))) (tCons (tVar 0) tNil)) (tLst (tCons (tC (.int 0)) tNil))) (tCons (tC (.int 0)) tNil))))) :
    FnOk P w K mg base CX0 (k + 1) f fd ["script"] (spStart K) := by
  refine Fu.ok S (fun vs H Q E h => ?_) fun cdv A outer s' H vs Q E hr h => ⟨_, body cdv A outer s' H E hr, ?_⟩
  · obtain ⟨a, ns, rfl, _⟩ := h; rfl
  · obtain ⟨a, ns, rfl, hS, q⟩ := h
    refine ⟨_, rfl, Nat.zero_le _, fun e he => ?_⟩
    have s1 : Same H (upd H e (.lst [])) := same_new he
    have hS1 := s1.seq hS
    refine ⟨.list (ns.map .int), .list [], .lst hS1 (dp_ints ns), .lst (SqL.of upd_same) .nil, shaped_ints ns, by decide +kernel, _, rfl, ?_⟩
    have fin : ∀ (n : Addr) (ms : List Int) (H2 : Hp), Same H H2 → H n = none → H2 n = some (.lst (ms.map V.int)) → ms ≠ [] → 
        ([V.ref n, V.int 0]).length ≤ sizeLine ∧ ∀ p, H2 p = none → Q (.ref p) (upd H2 p (.lst [V.ref n, V.int 0])) := fun n ms H2 s2 hn h2 hne =>
      ⟨by show 2 ≤ sizeLine; decide, fun p hp => q p n ms _ (s2.trans (same_new hp)) (Ne.symm (ne_of_none h2 hp)) (s2.free hp) hn upd_same (by rw [upd_ne (ne_of_none h2 hp)]; exact h2) hne⟩
    refine ite2 (fun hb => ?_) fun hb => ?_
    · refine ⟨_, rfl, a, _, rfl, .inl hS1, fun l hl => ?_⟩
      refine fin l ns _ (s1.trans (same_new hl)) (s1.free hl) upd_same ?_
      rintro rfl
      exact absurd hb (by decide)
    · refine ⟨by show 1 ≤ sizeLine; decide, fun l hl => ?_⟩
      exact fin l [0] _ (s1.trans (same_new hl)) (s1.free hl) upd_same (by simp)
/-- the law: what it does behind its first row -/
def spLawK (K : PySem.W.Frag) : Sp := fun vs H Q _ => ∃ (a : Addr) (ns : List Int), vs = [.ref a] ∧ SqL K H a (ns.map V.int) ∧ ∀ H', Q (.bl true) H'
theorem ok_lawBody {st st1 : Stmt} {rest : List Stmt} {f : Addr} {fd : FuncData} {N : List Str} {k : Nat} {F : DS} (Fu : Fun K "law" "law" st f fd) (S : FnScope N ["script"] (defScope st)) (hN : 2 ≤ N.length) (hbd : defBody st = st1 :: rest)
    (first : ∀ (cdv : Value) (A : Around) (outer : List Env) (s : Shared) (H : Hp) (E : XK), Room k (A.deeper (envOfC "law" (defScope st) s.heap.objs.size f cdv)) → PS (cxOf CX0 P w K mg base N "law" (defScope st) f cdv A outer s H E).nox st1 (tAsg (tCall (spStart K) [] E0 (tCons (tVar 0) tNil)) (gName 1)))
    (body : ∀ (Γ : Gam) (cdv : Value) (A : Around) (outer : List Env) (s : Shared) (H : Hp) (E : XK), Room k (A.deeper (envOfC "law" (defScope st) s.heap.objs.size f cdv)) → PSDs (cxOf CX0 P w K mg base N "law" (defScope st) f cdv A outer s H E).nox Γ rest F)
    (hd : ∀ (dr n : Addr) (μ : Mu), μ dr = some (.drw n) → Closed μ → F (none :: some (.hdl dr) :: List.replicate (N.length - 2) none) μ { nx := fun _ _ => False, rt := fun d _ => d = .bl true }) : FnOk P w K mg base CX0 (k + 1) f fd ["script"] (spLawK K) := by
  refine Fu.ok S (fun vs H Q E h => ?_) fun cdv A outer s' H vs Q E hr h => ?_
  · obtain ⟨a, ns, rfl, _⟩ := h; rfl
  · obtain ⟨a, ns, rfl, hS, q⟩ := h
    have B := fun Γ => body Γ cdv A outer s' H E hr
    have R : PSs (cxOf CX0 P w K mg base N "law" (defScope st) f cdv A outer s' H E).nox rest (fun E σ H => ∃ Γ, liftS Γ F E σ H) := ⟨fun pins s σ H E I ⟨Γ, h⟩ => (B Γ).pss.run pins s σ H E I h⟩
    refine ⟨_, by rw [hbd]; exact pss_cons (first cdv A outer s' H E hr) R, ?_⟩
    have h0 : (L2.start N [V.ref a])[0]? = some (some (.ref a)) := rfl
    refine ⟨_, h0, a, ns, rfl, hS, fun dr n ms H1 s1 hdn h1 h2 e1 e2 hne => ?_⟩
    let μ : Mu := fun b => if b = dr then some (.drw n) else if b = n then some .opq else none
    have m1 : μ dr = some (.drw n) := if_pos rfl
    have m2 : μ n = some .opq := by show (if n = dr then _ else if n = n then _ else _) = _; rw [if_neg (Ne.symm hdn), if_pos rfl]
    have w3 : W3 (fun _ => none) μ H1 := ⟨fun _ _ e => (nomatch e), fun _ _ => rfl, fun b m e => by
      by_cases b1 : b = dr
      · subst b1
        rw [m1] at e; cases e
        exact ⟨0, ms, e1, Ne.symm hdn, m2, e2, hne⟩
      · by_cases b2 : b = n
        · subst b2
          rw [m2] at e; cases e
          show H1 b ≠ none
          rw [e2]; simp
        · have : μ b = none := by show (if b = dr then _ else if b = n then _ else _) = _; rw [if_neg b1, if_neg b2]
          rw [this] at e; cases e⟩
    show ∃ Γ, liftS Γ F _ _ _
    refine ⟨⟨fun _ => none, μ, H1⟩, none :: some (.hdl dr) :: List.replicate (N.length - 2) none, fun _ => none, μ, ⟨Stp.refl w3, ?_⟩, ?_⟩
    · refine ⟨?_, fun i d hi => ?_⟩
      · unfold L2.start; simp; omega
      · match i, hi with
        | 1, hi =>
          cases hi
          refine ⟨.ref dr, ?_, .hdl dr⟩
          rw [List.getElem?_set_self]
          unfold L2.start; simp; omega
        | j + 2, hi =>
          simp only [List.getElem?_cons_succ, List.getElem?_replicate] at hi
          split at hi <;> cases hi
    · refine (B ⟨fun _ => none, μ, H1⟩).mono _ _ _ _ (hd dr n μ m1 w3.closed) ⟨fun _ _ h => h.elim, ?_, fun _ _ h => h.elim, fun _ _ h => h.elim⟩
      rintro d μ' rfl v G' H' s' r
      cases r
      exact q _
end
end Dz

namespace Dz
open PySem PySem.Spec PyProof.Rows L2
/-! ### evaluating readings -/
section
variable {X : Cx} {Γ : Gam} {pos : Pos}
theorem pd_globI {x : Str} {v : Int} (hg : Gl X x) (hm : ∃ t, X.mg x = some (.int v t)) (hd : (x == ("__debug__" : Str)) = false := by decide) : PD X Γ (.Name x pos) (dC (.int v)) := by
  obtain ⟨t, hm⟩ := hm
  exact pd_c (v := .int v) (fun _ => .int _) (pe_glob hg hm ⟨_, rfl⟩ hd)
end
theorem atI_c0 {α : Type} {a : α} {l : List α} : atI (a :: l) 0 = some a := by
  exact atI_nat (j := 0) rfl
theorem atI_c1 {α : Type} {a b : α} {l : List α} : atI (a :: b :: l) 1 = some b := by
  exact atI_nat (j := 1) rfl
theorem atI_c2 {α : Type} {a b c : α} {l : List α} : atI (a :: b :: c :: l) 2 = some c := by
  exact atI_nat (j := 2) rfl
theorem all_nil {p : D → Prop} : (∀ x, x ∈ ([] : List D) → p x) ↔ True := ⟨fun _ => trivial, fun _ _ h => nomatch h⟩
theorem isi_int_int {i : Int} : isiD "int" (.int i) = some true := rfl
theorem isi_int_bl {i : Bool} : isiD "int" (.bl i) = some true := by decide +revert
theorem isi_int_non : isiD "int" .non = some false := by decide
theorem isi_int_str {s : Str} : isiD "int" (.str s) = some false := by show kitB "str" "int" = _; decide
theorem isi_int_tup {l : List D} : isiD "int" (.tup l) = some false := by show kitB "tuple" "int" = _; decide
theorem isi_int_lst {l : List D} : isiD "int" (.lst l) = some false := by show kitB "list" "int" = _; decide
theorem isi_bool_int {i : Int} : isiD "bool" (.int i) = some false := by show kitB "int" "bool" = _; decide
theorem isi_bool_bl {i : Bool} : isiD "bool" (.bl i) = some true := rfl
theorem isi_tup_tup {l : List D} : isiD "tuple" (.tup l) = some true := rfl
theorem isi_tup_lst {l : List D} : isiD "tuple" (.lst l) = some false := by show kitB "list" "tuple" = _; decide
theorem isi_lst_lst {l : List D} : isiD "list" (.lst l) = some true := rfl
theorem isi_lst_tup {l : List D} : isiD "list" (.tup l) = some false := by show kitB "tuple" "list" = _; decide
/-- a loop by an invariant over what was taken -/
theorem forL_inv {α : Type} {t : Tg} {F : DS} {E : DEnds} (enc : α → D) (I : List α → Rho → Mu → Prop) :
    ∀ (post pre : List α) (ρ : Rho) (μ : Mu), I pre ρ μ →
      (∀ (p : List α) (x : α) (q : List α) (ρ : Rho) (μ : Mu), pre ++ post = p ++ x :: q → I p ρ μ → ∃ ρ1, setT t (enc x) ρ = some ρ1 ∧ ∀ nx, (∀ ρ μ, I (p ++ [x]) ρ μ → nx ρ μ) → F ρ1 μ { nx := nx, rt := E.rt, bk := E.nx, ct := nx }) →
      (∀ ρ μ, I (pre ++ post) ρ μ → E.nx ρ μ) → forL t F E (post.map enc) ρ μ
  | [], pre, ρ, μ, h, _, hd => by
    rw [List.append_nil] at hd
    exact hd ρ μ h
  | x :: post, pre, ρ, μ, h, hs, hd => by
    obtain ⟨ρ1, h1, h2⟩ := hs pre x post ρ μ rfl h
    show forL t F E (enc x :: post.map enc) ρ μ
    unfold forL
    rw [h1]
    exact h2 _ fun ρ' μ' h' => forL_inv enc I post (pre ++ [x]) ρ' μ' h' (fun p y q ρ μ e => hs p y q ρ μ (by rw [← e]; simp)) (fun ρ μ h => hd ρ μ (by simpa using h))
theorem rgD_cons {lo : Int} {n : Nat} : rgD lo (n + 1) = .int lo :: rgD (lo + 1) n := by
  unfold rgD
  rw [List.range_succ_eq_map, List.map_cons, List.map_map]
  congr 1
  · simp
  · apply List.map_congr_left
    intro i _
    show D.int (lo + ((i + 1 : Nat) : Int)) = D.int (lo + 1 + (i : Nat))
    congr 1
    omega
theorem rgD_zero {lo : Int} : rgD lo 0 = [] := rfl
/-- the loop over a range -/
theorem forL_range {t : Tg} {F : DS} {E : DEnds} {lo : Int} {n : Nat} (I : Int → Rho → Mu → Prop) {ρ : Rho} {μ : Mu} (h0 : I lo ρ μ)
    (hs : ∀ (i : Int) (ρ : Rho) (μ : Mu), lo ≤ i → i < lo + n → I i ρ μ → ∃ ρ1, setT t (.int i) ρ = some ρ1 ∧ ∀ nx, (∀ ρ μ, I (i + 1) ρ μ → nx ρ μ) → F ρ1 μ { nx := nx, rt := E.rt, bk := E.nx, ct := nx })
    (hd : ∀ ρ μ, I (lo + n) ρ μ → E.nx ρ μ) : forL t F E (rgD lo n) ρ μ := by
  induction n generalizing lo ρ μ with
  | zero => rw [rgD_zero]; exact hd ρ μ (by simpa using h0)
  | succ n ih =>
    rw [rgD_cons]
    obtain ⟨ρ1, h1, h2⟩ := hs lo ρ μ (by omega) (by omega) h0
    unfold forL
    rw [h1]
    exact h2 _ fun ρ' μ' h' => ih h' (fun i ρ μ a b => hs i ρ μ (by omega) (by omega)) (fun ρ μ h => hd ρ μ (by rw [show lo + ((n + 1 : Nat) : Int) = lo + 1 + n by omega]; exact h))
/-- a comprehension whose test and element are plain -/
theorem compL_pure {α : Type} {t : Tg} {ρ0 : Rho} {tt : DT} {te : DE} {Q : List D → Mu → Prop} {μ : Mu} (enc : α → D) (tf : α → Bool) (ef : α → D) :
    ∀ (xs : List α) (acc : List D), (∀ x ∈ xs, ∃ ρ1, setT t (enc x) ρ0 = some ρ1 ∧ (∀ Q : Bool → Mu → Prop, Q (tf x) μ → tt ρ1 μ Q) ∧ (tf x = true → ∀ Q : D → Mu → Prop, Q (ef x) μ → te ρ1 μ Q)) →
      Q (acc ++ (xs.filter tf).map ef) μ → compL t ρ0 tt te Q (xs.map enc) acc μ
  | [], acc, _, q => by
    show Q acc μ
    simpa using q
  | x :: xs, acc, h, q => by
    obtain ⟨ρ1, h1, h2, h3⟩ := h x (by simp)
    show compL t ρ0 tt te Q (enc x :: xs.map enc) acc μ
    unfold compL
    rw [h1]
    refine h2 _ ?_
    cases hb : tf x with
    | false =>
      show compL t ρ0 tt te Q (xs.map enc) acc μ
      refine compL_pure enc tf ef xs acc (fun y hy => h y (by simp [hy])) ?_
      rw [List.filter_cons_of_neg (by simp [hb])] at q
      exact q
    | true =>
      refine h3 hb _ ?_
      refine compL_pure enc tf ef xs _ (fun y hy => h y (by simp [hy])) ?_
      rw [List.filter_cons_of_pos hb] at q
      simpa using q
/-- without a test -/
theorem compL_map {α : Type} {t : Tg} {ρ0 : Rho} {te : DE} {Q : List D → Mu → Prop} {μ : Mu} (enc : α → D) (ef : α → D) (xs : List α)
    (h : ∀ x ∈ xs, ∃ ρ1, setT t (enc x) ρ0 = some ρ1 ∧ ∀ Q : D → Mu → Prop, Q (ef x) μ → te ρ1 μ Q) (q : Q (xs.map ef) μ) : compL t ρ0 dYes te Q (xs.map enc) [] μ := by
  refine compL_pure enc (fun _ => true) ef xs [] (fun x hx => ?_) (by rw [List.filter_eq_self.mpr (fun _ _ => rfl)]; exact q)
  obtain ⟨ρ1, h1, h2⟩ := h x hx
  exact ⟨ρ1, h1, fun Q q => q, fun _ => h2⟩
inductive All2 {α β : Type} (R : α → β → Prop) : List α → List β → Prop where
  | nil : All2 R [] []
  | cons {a : α} {b : β} {as : List α} {bs : List β} : R a b → All2 R as bs → All2 R (a :: as) (b :: bs)
theorem All2.length {α β : Type} {R : α → β → Prop} : ∀ {as : List α} {bs : List β}, All2 R as bs → as.length = bs.length
  | _, _, .nil => rfl
  | _, _, .cons _ h => by simp [h.length]
/-- elements drawn -/
theorem compL_rel {α β : Type} {t : Tg} {ρ0 : Rho} {te : DE} {Q : List D → Mu → Prop} {μ : Mu} (enc : α → D) (ec : β → D) (R : α → β → Prop) :
    ∀ (xs : List α) (acc : List β), (∀ x ∈ xs, ∃ ρ1, setT t (enc x) ρ0 = some ρ1 ∧ ∀ Q : D → Mu → Prop, (∀ y, R x y → Q (ec y) μ) → te ρ1 μ Q) →
      (∀ ys, All2 R xs ys → Q ((acc ++ ys).map ec) μ) → compL t ρ0 dYes te Q (xs.map enc) (acc.map ec) μ
  | [], acc, _, q => by
    show Q _ μ
    simpa using q [] .nil
  | x :: xs, acc, h, q => by
    obtain ⟨ρ1, h1, h2⟩ := h x (by simp)
    show compL t ρ0 dYes te Q (enc x :: xs.map enc) _ μ
    unfold compL
    rw [h1]
    show te ρ1 μ _
    refine h2 _ fun y hy => ?_
    have := compL_rel (te := te) enc ec R xs (acc ++ [y]) (fun z hz => h z (by simp [hz])) fun ys hys => by
      have := q (y :: ys) (.cons hy hys)
      simpa using this
    simpa using this
/-- a loop that is written out -/
theorem forL_cons {t : Tg} {F : DS} {E : DEnds} {d : D} {ds : List D} {ρ ρ1 : Rho} {μ : Mu} (h : setT t d ρ = some ρ1) (k : F ρ1 μ { nx := forL t F E ds, rt := E.rt, bk := E.nx, ct := forL t F E ds }) : forL t F E (d :: ds) ρ μ := by
  unfold forL
  rw [h]
  exact k
theorem forL_nil {t : Tg} {F : DS} {E : DEnds} {ρ : Rho} {μ : Mu} (k : E.nx ρ μ) : forL t F E [] ρ μ := k
end Dz
namespace Dz
open PySem PySem.Spec PyProof.Rows L2
theorem hu65_of {k : Nat} {A : Around} (hr : Room k A) : A.units + 65 < cLine := by have := hr.un; omega
theorem Fn.imp {P : Program} {w : World} {K : PySem.W.Frag} {mg : Str → Option Value} {base : Heap} {CX : CXT} {k : Nat} {x : Str} {ps : List Str} {s s' : DSp} (F : Fn P w K mg base CX k x ps s) (hs : MonoP s') (h : ∀ {ds μ P E}, s' ds μ P E → s ds μ P E) : Fn P w K mg base CX k x ps s' :=
  ⟨hs, let ⟨f, fd, h1, h2, h3, h4⟩ := F.ex; ⟨f, fd, h1, h2, h3, h4.imp fun vs H Q E ⟨ds, G, μ, w, r, q⟩ => ⟨ds, G, μ, w, r, h q⟩⟩⟩
/-- a promise that asks what cannot be -/
theorem fn_void {P : Program} {w : World} {K : PySem.W.Frag} {mg : Str → Option Value} {base : Heap} {x qual : Str} {st : Stmt} {f : Addr} {fd : FuncData} {ps : List Str} {s : DSp} (Fu : Fun K x qual st f fd) (hb : Binds K fd ps []) (hg : mg x = some (.ref f)) (hs : MonoP s) (h : ∀ ds μ P E, ¬ s ds μ P E) : Fn P w K mg base CX0 0 x ps s :=
  ⟨hs, f, fd, hg, Fu.kp, hb, ⟨fun vs H Q E ⟨ds, G, μ, _, _, q⟩ => (h _ _ _ _ q).elim, fun A outer s' H args us vs Q E _ _ _ _ ⟨ds, G, μ, _, _, q⟩ => (h _ _ _ _ q).elim⟩⟩
end Dz

namespace Dz
open PySem PySem.Spec PyProof.Rows L2
/-! ### comparisons, as values and as tests -/
def CP (X : Cx) (op : CmpOp) (φ : D → D → Mu → (D → Mu → Prop) → Prop) : Prop := ∃ r, OpR X (compareOp op) r ∧ Mono2 φ ∧ Sim2 r φ
section
variable {X : Cx} {Γ : Gam} {a b c e : Expr} {f g h : DE} {pos : Pos}
theorem pd_cp {op : CmpOp} {φ : D → D → Mu → (D → Mu → Prop) → Prop} (c : CP X op φ) (ha : PD X Γ a f) (hb : PD X Γ b g) (hm : behindInMarks op b = false := by first | exact nomark _ | rfl) : PD X Γ (.Compare a [op] [b] pos) (d2 φ f g) := by
  obtain ⟨r, ho, hφ, hs⟩ := c
  exact pd_cmp ho hφ hs ha hb hm
theorem pdt_cp {op : CmpOp} {φ : D → D → Mu → (D → Mu → Prop) → Prop} (c : CP X op φ) (ha : PD X Γ a f) (hb : PD X Γ b g) (hm : behindInMarks op b = false := by first | exact nomark _ | rfl) : PDT X Γ (.Compare a [op] [b] pos) (dTest (d2 φ f g)) := by
  obtain ⟨r, ho, hφ, hs⟩ := c
  have m := mono2 hφ ha.mono hb.mono
  exact ⟨dTest_mono m, PT.imp (pt_cmpR ho ha.pe hb.pe hm) fun σ H Q q => sim_op hφ hs ha.mono hb.mono (lift_tB m q)⟩
theorem cp_lt : CP X .Lt fLt := ⟨_, op_lt, fI_mono, sLt⟩
theorem cp_le : CP X .LtE fLe := ⟨_, op_le, fI_mono, sLe⟩
theorem cp_gt : CP X .Gt fGt := ⟨_, op_gt, fI_mono, sGt⟩
theorem cp_ge : CP X .GtE fGe := ⟨_, op_ge, fI_mono, sGe⟩
theorem cp_eq (hu : X.A.units + 64 < cLine) : CP X .Eq (fEq false) := ⟨_, op_eqD hu, fEq_mono, fun G μ H x y a b Q w rx ry q => ⟨_, _, q.1.dp w.sub rx, q.2.1.dp w.sub ry, q.1.shaped (by decide), q.2.1.shaped (by decide), q.2.2 _ G H (Stp.refl w) (.bl _)⟩⟩
theorem cp_ne (hu : X.A.units + 64 < cLine) : CP X .NotEq (fEq true) := ⟨_, op_neD hu, fEq_mono, fun G μ H x y a b Q w rx ry q => ⟨_, _, q.1.dp w.sub rx, q.2.1.dp w.sub ry, q.1.shaped (by decide), q.2.1.shaped (by decide), q.2.2 _ G H (Stp.refl w) (.bl _)⟩⟩
theorem cp_isN : CP X .Is (fIsN false) := ⟨_, op_isN, fIsN_mono, fun G μ H x y a b Q w rx ry q => by
    unfold fIsN at q; split at q
    · cases ry
      exact ⟨rfl, by rw [isNon_rep rx]; exact q _ G H (Stp.refl w) (.bl _)⟩
    · exact q.elim⟩
theorem cp_notN : CP X .IsNot (fIsN true) := ⟨_, op_notN, fIsN_mono, fun G μ H x y a b Q w rx ry q => by
    unfold fIsN at q; split at q
    · cases ry
      exact ⟨rfl, by rw [isNon_rep rx]; exact q _ G H (Stp.refl w) (.bl _)⟩
    · exact q.elim⟩
theorem cp_isB : CP X .Is (fIsB false) := ⟨_, op_isBl, fIsB_mono, fun G μ H x y a b Q w rx ry q => by
    unfold fIsB at q; split at q
    · cases rx; cases ry
      exact ⟨_, _, rfl, rfl, q _ G H (Stp.refl w) (.bl _)⟩
    · exact q.elim⟩
theorem cp_notB : CP X .IsNot (fIsB true) := ⟨_, op_notBl, fIsB_mono, fun G μ H x y a b Q w rx ry q => by
    unfold fIsB at q; split at q
    · cases rx; cases ry
      exact ⟨_, _, rfl, rfl, q _ G H (Stp.refl w) (.bl _)⟩
    · exact q.elim⟩
theorem cp_in (hu : X.A.units + 65 < cLine) : CP X .In (fIn false) := ⟨_, op_inD hu, fIn_mono, fun G μ H x y a b Q w rx ry q => by
    unfold fIn at q; split at q
    · refine ⟨_, _, q.1.dp w.sub rx, ?_, q.1.shaped (by decide), ?_, by rw [any_deq]; exact q.2.2 _ G H (Stp.refl w) (.bl _)⟩
      · have := q.2.1.dp (K := X.K) w.sub ry; rw [toPy] at this; exact this
      · have := q.2.1.shaped (by decide); rw [toPy] at this; exact this
    · exact q.elim⟩
theorem cp_notIn (hu : X.A.units + 65 < cLine) : CP X .NotIn (fIn true) := ⟨_, op_notInD hu, fIn_mono, fun G μ H x y a b Q w rx ry q => by
    unfold fIn at q; split at q
    · refine ⟨_, _, q.1.dp w.sub rx, ?_, q.1.shaped (by decide), ?_, by rw [any_deq]; exact q.2.2 _ G H (Stp.refl w) (.bl _)⟩
      · have := q.2.1.dp (K := X.K) w.sub ry; rw [toPy] at this; exact this
      · have := q.2.1.shaped (by decide); rw [toPy] at this; exact this
    · exact q.elim⟩
theorem cp_inF : CP X .In (fInF false) := ⟨_, op_in_seq, fInF_mono, fInF_sim⟩
theorem cp_notInF : CP X .NotIn (fInF true) := ⟨_, op_notIn_seq, fInF_mono, fInF_sim⟩
end
end Dz

namespace Dz
open PySem PySem.Spec PyProof.Rows L2
local macro_rules | `(tactic| walk_at "ev") => `(tactic| first | simp only [dSeq, dNext, dRet, dDrop, dIf, dAsg, dPar, dPar3, dCall, dCons, dNil, dAs, dVar, dC, d1, d2, d3c, dTest, dNot, dAnd, dOr, dAndV, dOrV, dNotV, dIfE, dNever, dFor, dAug, dOwnL, dPub, dApp, dExt, dSetI, dComp, dOwnC, dYes, iLst, iTupD, iRg1, iRg2, iEnm, iZp, fI, fIC, fU, fIx, fIxH, ixD, fLen, f1, f2, fTup, fLst, fEq, fIsN, fIsB, isNon, fIsi, fCat, fRep, fRev, fListOf, fTupOf, fIn, fInF, flatD, itemsF, dSl, dNoPart, dPart, setT, setMany, wipeD, put_same,     isi_int_int, isi_int_bl, isi_int_non, isi_int_str, isi_int_tup, isi_int_lst, isi_bool_int, isi_bool_bl, isi_tup_tup, isi_tup_lst, isi_lst_lst, isi_lst_tup,     sh_non, sh_bl, sh_int, sh_tup, sh_lst, List.forall_mem_cons, all_nil, not_true_eq_false, not_false_eq_true, deq_int, deq_bl, deq_non, deq_tup, deq_lst, deqs_nil, deqs_cons, deqs_nil_cons, deqs_cons_nil, deq_tup_str, deq_str_tup, deq_lst_str, deq_str_lst, deq_tup_non, deq_non_tup, deq_lst_non, deq_non_lst, deq_non_int, deq_int_non, deq_str_non, deq_non_str, deq_str_int, deq_int_str,     atI_c0, atI_c1, atI_c2, List.getElem?_cons_zero, List.getElem?_cons_succ, List.getElem?_nil, List.set_cons_zero, List.set_cons_succ, List.set_nil, List.length_cons, List.length_nil, List.length_map,     Bool.not_true, Bool.not_false, decide_eq_true_eq, decide_not, Bool.not_eq_true', decide_eq_false_iff_not, and_true, true_and, and_self, if_true, if_false, Bool.false_eq_true, reduceIte, ite_true, ite_false, implies_true, Int.reduceNeg, Nat.reduceLeDiff, Nat.reduceAdd, endsD, Option.isSome, reduceCtorEq, Bool.true_eq_false] | dsimp only | skip)
/-! ### fractions: plain mathematics -/
/-- p / q lies strictly between a / b and c / d (denominators above 0) -/
structure Btw (a b c d p q : Int) : Prop where
  q0 : 0 < q
  lo : a * q < p * b
  hi : p * d < c * q
/-- the fraction of least denominator, then nearest to 0 -/
structure IsSimp (a b c d p q : Int) : Prop where
  btw : Btw a b c d p q
  least : ∀ p' q', Btw a b c d p' q' → q ≤ q'
  near : ∀ p', Btw a b c d p' q → p.natAbs ≤ p'.natAbs
theorem Btw.low_lt {a b c d p q : Int} (hb : 0 < b) (hd : 0 < d) (h : Btw a b c d p q) : a * d < c * b := by
  obtain ⟨q0, lo, hi⟩ := h
  have h1 := Int.mul_lt_mul_of_pos_right lo hd
  have h2 := Int.mul_lt_mul_of_pos_right hi hb
  have h3 : (a * d) * q < (c * b) * q := by grind
  exact Int.lt_of_mul_lt_mul_right h3 (by omega)
/-- between two of one denominator lies one of a lesser one -/
theorem Btw.step {a b c d p q : Int} (hq : 1 < q) (hp : 0 ≤ p) (hpq : p + 1 < q) (hb : 0 < b) (hd : 0 < d) (h1 : Btw a b c d p q) (h2 : Btw a b c d (p + 1) q) : Btw a b c d p (q - 1) := by
  obtain ⟨_, lo1, hi1⟩ := h1
  obtain ⟨_, lo2, hi2⟩ := h2
  refine ⟨by omega, ?_, ?_⟩
  · -- a (q-1) < p b: if a < 0 .. : a q < p b
    by_cases ha : 0 ≤ a
    · grind
    · have h3 : a * (q - 1) < 0 := Int.mul_neg_of_neg_of_pos (by omega) (by omega)
      have h4 : 0 ≤ p * b := Int.mul_nonneg hp (by omega)
      omega
  · -- p d < c (q-1), from (p+1) d < c q and (p + 1) < q
    have h3 : p * q < (p + 1) * (q - 1) := by grind
    have h4 := Int.mul_lt_mul_of_pos_right h3 hd
    have h5 := Int.mul_lt_mul_of_pos_right hi2 (show 0 < q - 1 by omega)
    have h6 : (p * d) * q < (c * (q - 1)) * q := by grind
    exact Int.lt_of_mul_lt_mul_right h6 (by omega)
/-- shifted by a whole number -/
theorem btw_shift {a b c d p q fl : Int} : Btw a b c d p q ↔ Btw (a - fl * b) b (c - fl * d) d (p - fl * q) q := by
  constructor
  · rintro ⟨h1, h2, h3⟩
    exact ⟨h1, by grind, by grind⟩
  · rintro ⟨h1, h2, h3⟩
    exact ⟨h1, by grind, by grind⟩
/-- turned over: for 0 < a / b -/
theorem btw_turn {a b c d p q : Int} (ha : 0 < a) (hb : 0 < b) (h : Btw a b c d p q) : Btw d c b a q p := by
  obtain ⟨h1, h2, h3⟩ := h
  have hp : 0 < p := by
    have h4 : 0 < a * q := Int.mul_pos ha h1
    have h5 : 0 < p * b := by omega
    exact Int.pos_of_mul_pos_left h5 hb
  exact ⟨hp, by grind, by grind⟩
theorem Btw.floor_le {a b c d p q fl : Int} (hb : 0 < b) (hf : fl * b ≤ a) (h : Btw a b c d p q) : fl * q < p := by
  obtain ⟨h1, h2, h3⟩ := h
  have h4 := Int.mul_le_mul_of_nonneg_right hf (show 0 ≤ q by omega)
  have h5 : (fl * q) * b < p * b := by grind
  exact Int.lt_of_mul_lt_mul_right h5 (by omega)
theorem Btw.lt_ceil {a b c d p q k : Int} (hd : 0 < d) (hf : c ≤ k * d) (h : Btw a b c d p q) : p < k * q := by
  obtain ⟨h1, h2, h3⟩ := h
  have h4 := Int.mul_le_mul_of_nonneg_right hf (show 0 ≤ q by omega)
  have h5 : p * d < (k * q) * d := by grind
  exact Int.lt_of_mul_lt_mul_right h5 (by omega)
/-- numerators between two that fit fit -/
theorem Btw.mid {a b c d p p' r q : Int} (hb : 0 < b) (hd : 0 < d) (h1 : Btw a b c d p q) (h2 : Btw a b c d p' q) (h3 : p ≤ r) (h4 : r ≤ p') : Btw a b c d r q := by
  have e1 := Int.mul_le_mul_of_nonneg_right h3 (show 0 ≤ b by omega)
  have e2 := Int.mul_le_mul_of_nonneg_right h4 (show 0 ≤ d by omega)
  exact ⟨h1.q0, by have := h1.lo; omega, by have := h2.hi; omega⟩
/-- one numerator for a least denominator above 1 -/
theorem btw_unique {a b c d p p' q : Int} (hb : 0 < b) (hd : 0 < d) (hq : 1 < q) (hl : ∀ x y, Btw a b c d x y → q ≤ y) (h1 : Btw a b c d p q) (h2 : Btw a b c d p' q) : p = p' := by
  -- wlog p < p'
  have main : ∀ p p', Btw a b c d p q → Btw a b c d p' q → ¬ p < p' := by
    intro p p' h1 h2 hlt
    have hs := Btw.mid hb hd h1 h2 (r := p + 1) (by omega) (by omega)
    -- fl = floor of p / q; no whole number lies between, so p' < (fl + 1) q
    have g1 : p / q * q ≤ p := Int.ediv_mul_le p (by omega)
    have g2 : p < (p / q + 1) * q := by
      have := Int.lt_ediv_add_one_mul_self p (show 0 < q by omega)
      exact this
    have k1 : p ≠ p / q * q := by
      intro e
      have : Btw a b c d (p / q) 1 := by
        obtain ⟨_, l1, u1⟩ := h1
        rw [e] at l1 u1
        refine ⟨by omega, ?_, ?_⟩
        · have : (a * 1) * q < (p / q * b) * q := by grind
          exact Int.lt_of_mul_lt_mul_right this (by omega)
        · have : (p / q * d) * q < (c * 1) * q := by grind
          exact Int.lt_of_mul_lt_mul_right this (by omega)
      have := hl _ _ this
      omega
    have k2 : p + 1 ≠ (p / q + 1) * q := by
      intro e
      have : Btw a b c d (p / q + 1) 1 := by
        obtain ⟨_, l1, u1⟩ := hs
        rw [e] at l1 u1
        refine ⟨by omega, ?_, ?_⟩
        · have : (a * 1) * q < ((p / q + 1) * b) * q := by grind
          exact Int.lt_of_mul_lt_mul_right this (by omega)
        · have : ((p / q + 1) * d) * q < (c * 1) * q := by grind
          exact Int.lt_of_mul_lt_mul_right this (by omega)
      have := hl _ _ this
      omega
    have s1 := (btw_shift (fl := p / q)).mp h1
    have s2 := (btw_shift (fl := p / q)).mp hs
    rw [show p + 1 - p / q * q = (p - p / q * q) + 1 by omega] at s2
    have s3 := Btw.step hq (show 0 ≤ p - p / q * q by omega) (by
      have : (p / q + 1) * q = p / q * q + q := by grind
      omega) hb hd s1 s2
    have s4 : Btw a b c d (p - p / q * q + p / q * (q - 1)) (q - 1) := by
      refine (btw_shift (fl := p / q)).mpr ?_
      rw [show p - p / q * q + p / q * (q - 1) - p / q * (q - 1) = p - p / q * q by omega]
      exact s3
    have := hl _ _ s4
    omega
  have a1 := main p p' h1 h2
  have a2 := main p' p h2 h1
  omega
theorem IsSimp.unique {a b c d p q p' q' : Int} (hb : 0 < b) (hd : 0 < d) (h1 : IsSimp a b c d p q) (h2 : IsSimp a b c d p' q') : p = p' ∧ q = q' := by
  have e : q = q' := Int.le_antisymm (h1.least _ _ h2.btw) (h2.least _ _ h1.btw)
  subst e
  refine ⟨?_, rfl⟩
  by_cases hq : 1 < q
  · exact btw_unique hb hd hq h1.least h1.btw h2.btw
  · have q1 : q = 1 := by have := h1.btw.q0; omega
    subst q1
    have n1 := h1.near _ h2.btw
    have n2 := h2.near _ h1.btw
    by_cases e : p = p'
    · exact e
    · have e2 : p = -p' := by omega
      have z : Btw a b c d 0 1 := by
        by_cases hp : 0 ≤ p
        · exact Btw.mid hb hd h2.btw h1.btw (by omega) hp
        · exact Btw.mid hb hd h1.btw h2.btw (by omega) (by omega)
      have := h1.near _ z
      omega
/-- in lowest terms -/
theorem IsSimp.gcd {a b c d p q : Int} (h : IsSimp a b c d p q) : Int.gcd p q = 1 := by
  have q0 := h.btw.q0
  have g0 : 0 < (Int.gcd p q : Int) := by
    have := Int.gcd_pos_of_ne_zero_right p (show q ≠ 0 by omega)
    omega
  obtain ⟨p1, hp⟩ := Int.gcd_dvd_left p q
  obtain ⟨q1, hq⟩ := Int.gcd_dvd_right p q
  generalize hg : (Int.gcd p q : Int) = g at *
  have q1p : 0 < q1 := by
    rw [hq] at q0
    exact Int.pos_of_mul_pos_right q0 g0
  have bt : Btw a b c d p1 q1 := by
    obtain ⟨_, l, u⟩ := h.btw
    rw [hp, hq] at l u
    refine ⟨q1p, ?_, ?_⟩
    · have : (a * q1) * g < (p1 * b) * g := by grind
      exact Int.lt_of_mul_lt_mul_right this (by omega)
    · have : (p1 * d) * g < (c * q1) * g := by grind
      exact Int.lt_of_mul_lt_mul_right this (by omega)
  have le := h.least _ _ bt
  have : g ≤ 1 := by
    rw [hq] at le
    have : g * q1 ≤ 1 * q1 := by omega
    exact Int.le_of_mul_le_mul_right this q1p
  have : g = 1 := by omega
  omega
/-- in a positive range the numerator is least too -/
theorem IsSimp.num {a b c d p q : Int} (hb : 0 < b) (hd : 0 < d) (ha : 0 ≤ a) (h : IsSimp a b c d p q) {p' q' : Int} (h' : Btw a b c d p' q') : p ≤ p' := by
  by_cases hlt : p ≤ p'
  · exact hlt
  · have p0 : 0 < p' := by
      obtain ⟨h1, h2, h3⟩ := h'
      have h4 : 0 ≤ a * q' := Int.mul_nonneg ha (by omega)
      have h5 : 0 < p' * b := by omega
      exact Int.pos_of_mul_pos_left h5 hb
    have hq := h.least _ _ h'
    have bt : Btw a b c d p' q := by
      refine ⟨h.btw.q0, ?_, ?_⟩
      · have := Int.mul_le_mul_of_nonneg_left hq ha
        have := h'.lo
        omega
      · have e := Int.mul_lt_mul_of_pos_right (show p' < p by omega) hd
        have := h.btw.hi
        omega
    have := h.near _ bt
    omega
/-! the program's way -/
theorem simp_whole_zero {a b c d : Int} (hb : 0 < b) (hd : 0 < d) (h1 : a < 0) (h2 : 0 < c) : IsSimp a b c d 0 1 :=
  ⟨⟨by omega, by omega, by omega⟩, fun _ _ h => by have := h.q0; omega, fun p' _ => Nat.zero_le _⟩
theorem simp_whole_up {a b c d : Int} (hb : 0 < b) (hd : 0 < d) (h0 : 0 ≤ a) (h1 : (a / b + 1) * d < c) : IsSimp a b c d (a / b + 1) 1 := by
  refine ⟨⟨by omega, ?_, by omega⟩, fun _ _ h => by have := h.q0; omega, fun p' h => ?_⟩
  · have := Int.lt_ediv_add_one_mul_self a hb
    omega
  · have := h.floor_le hb (Int.ediv_mul_le a (by omega : b ≠ 0))
    have h3 : 0 ≤ a / b := Int.ediv_nonneg h0 (by omega)
    omega
theorem simp_whole_down {a b c d : Int} (hb : 0 < b) (hd : 0 < d) (h0 : a < 0) (h2 : c ≤ 0) (h1 : (a / b + 1) * d < c) : IsSimp a b c d (-(-c / d) - 1) 1 := by
  have e1 : -c / d * d ≤ -c := Int.ediv_mul_le (-c) (by omega : d ≠ 0)
  have e2 : -c < (-c / d + 1) * d := Int.lt_ediv_add_one_mul_self (-c) hd
  have e3 : 0 ≤ -c / d := Int.ediv_nonneg (by omega) (by omega)
  have e4 : a < (a / b + 1) * b := Int.lt_ediv_add_one_mul_self a hb
  have top : ∀ p', Btw a b c d p' 1 → p' ≤ -(-c / d) - 1 := fun p' h => by
    have := h.lt_ceil (k := -(-c / d)) hd (by grind)
    omega
  have ge : a / b + 1 ≤ -(-c / d) - 1 := top _ ⟨by omega, by omega, by omega⟩
  refine ⟨⟨by omega, ?_, ?_⟩, fun _ _ h => by have := h.q0; omega, fun p' h => ?_⟩
  · have := Int.mul_le_mul_of_nonneg_right ge (show 0 ≤ b by omega)
    omega
  · grind
  · have := top p' h
    omega
theorem simp_low_zero {a b c d : Int} (hb : 0 < b) (hd : 0 < d) (hlt : a * d < c * b) (hn : c ≤ (a / b + 1) * d) (hz : a - a / b * b = 0) :
    IsSimp a b c d (a / b * (d / (c - a / b * d) + 1) + 1) (d / (c - a / b * d) + 1) := by
  generalize hf : a / b = fl at *
  have ea : a = fl * b := by omega
  have hr : 0 < c - fl * d := by
    rw [ea] at hlt
    have : (fl * d) * b < c * b := by grind
    have := Int.lt_of_mul_lt_mul_right this (by omega)
    omega
  generalize hrc : c - fl * d = rc at *
  have hrd : rc ≤ d := by grind
  have s1 : d / rc * rc ≤ d := Int.ediv_mul_le d (by omega)
  have s2 : d < (d / rc + 1) * rc := Int.lt_ediv_add_one_mul_self d hr
  have s3 : 0 ≤ d / rc := Int.ediv_nonneg (by omega) (by omega)
  generalize hs : d / rc = s at *
  have s4 : 1 ≤ s := by
    rw [← hs]
    exact (Int.le_ediv_iff_mul_le hr).mpr (by omega)
  have ec : c = rc + fl * d := by omega
  -- what fits: p = fl q + r, r > 0, r d < rc q
  have fits : ∀ p q, Btw a b c d p q → 0 < p - fl * q ∧ (p - fl * q) * d < rc * q := fun p q h => by
    have h1 := h.floor_le (fl := fl) hb (by omega)
    have h2 := h.hi
    rw [ec] at h2
    exact ⟨by omega, by grind⟩
  have least : ∀ p q, Btw a b c d p q → s + 1 ≤ q := fun p q h => by
    obtain ⟨h1, h2⟩ := fits p q h
    have h3 := Int.mul_le_mul_of_nonneg_right (show 1 ≤ p - fl * q by omega) (show 0 ≤ d by omega)
    have h4 : s * rc < q * rc := by grind
    have := Int.lt_of_mul_lt_mul_right h4 (by omega)
    omega
  have bt : Btw a b c d (fl * (s + 1) + 1) (s + 1) := by
    refine ⟨by omega, ?_, ?_⟩
    · rw [ea]; grind
    · rw [ec]; grind
  refine ⟨bt, least, fun p' h => ?_⟩
  have := btw_unique hb hd (show 1 < s + 1 by omega) least bt h
  rw [this]
  exact Nat.le_refl _
theorem simp_turn {a b c d P Q : Int} (hb : 0 < b) (hd : 0 < d) (hn : c ≤ (a / b + 1) * d) (hz : a - a / b * b ≠ 0)
    (ih : IsSimp d (c - a / b * d) b (a - a / b * b) P Q) (hr : 0 < c - a / b * d) : IsSimp a b c d (a / b * P + Q) P := by
  generalize hf : a / b = fl at *
  have e1 : fl * b ≤ a := by rw [← hf]; exact Int.ediv_mul_le a (by omega)
  have e2 : a < (fl + 1) * b := by rw [← hf]; exact Int.lt_ediv_add_one_mul_self a hb
  have ra0 : 0 < a - fl * b := by omega
  generalize hra : a - fl * b = ra at *
  generalize hrc : c - fl * d = rc at *
  have P0 : 0 < P := by
    obtain ⟨h1, h2, h3⟩ := ih.btw
    have h4 : 0 < d * Q := Int.mul_pos hd h1
    have h5 : 0 < P * rc := by omega
    exact Int.pos_of_mul_pos_left h5 hr
  have back : ∀ p q, Btw a b c d p q → Btw d rc b ra q (p - fl * q) := fun p q h => by
    have s := (btw_shift (fl := fl)).mp h
    rw [hra, hrc] at s
    exact btw_turn ra0 hb s
  have bt : Btw a b c d (fl * P + Q) P := by
    obtain ⟨h1, h2, h3⟩ := ih.btw
    refine (btw_shift (fl := fl)).mpr ?_
    rw [hra, hrc, show fl * P + Q - fl * P = Q by omega]
    exact ⟨P0, by grind, by grind⟩
  have least : ∀ p q, Btw a b c d p q → P ≤ q := fun p q h => ih.num hr ra0 (by omega) (back p q h)
  refine ⟨bt, least, fun p' h => ?_⟩
  have P1 : 1 < P := by
    -- no whole number lies between
    by_cases e : P = 1
    · rw [e] at bt
      have h1 := bt.floor_le hb e1
      have h2 := bt.lt_ceil hd hn
      omega
    · omega
  rw [btw_unique hb hd P1 least bt h]
  exact Nat.le_refl _
/-- the calls that are left -/
def OkS : Nat → Int → Int → Int → Int → Prop
  | 0, _, _, _, _ => False
  | m + 1, a, b, c, d => ¬ (a / b + 1) * d < c → a - a / b * b ≠ 0 → OkS m d (c - a / b * d) b (a - a / b * b)
theorem turn_facts {a b c d : Int} (hb : 0 < b) (hd : 0 < d) (hlt : a * d < c * b) (hz : a - a / b * b ≠ 0) (hn : ¬ (a / b + 1) * d < c) :
    0 < a - a / b * b ∧ a - a / b * b < b ∧ 0 < c - a / b * d ∧ c - a / b * d ≤ d ∧ d * (a - a / b * b) < b * (c - a / b * d) := by
  have e1 : a / b * b ≤ a := Int.ediv_mul_le a (by omega)
  have e2 : a < (a / b + 1) * b := Int.lt_ediv_add_one_mul_self a hb
  generalize a / b = fl at *
  refine ⟨by omega, by grind, ?_, by grind, by grind⟩
  have h1 := Int.mul_le_mul_of_nonneg_right e1 (show 0 ≤ d by omega)
  have h2 : 0 < (c - fl * d) * b := by grind
  exact Int.pos_of_mul_pos_left h2 hb
theorem oks_of : ∀ (n : Nat) (a b c d : Int), 0 < b → 0 < d → a * d < c * b → d < 2 ^ n → OkS (2 * n) a b c d
  | 0, a, b, c, d, _, hd, _, h => by
    have : d < 1 := h
    omega
  | n + 1, a, b, c, d, hb, hd, hlt, h => by
    rw [show 2 * (n + 1) = (2 * n + 1) + 1 by omega]
    intro hn hz
    obtain ⟨f1, f2, f3, f4, f5⟩ := turn_facts hb hd hlt hz hn
    generalize a - a / b * b = ra at *
    generalize c - a / b * d = rc at *
    intro hn' hz'
    obtain ⟨g1, g2, g3, g4, g5⟩ := turn_facts f3 f1 f5 hz' hn'
    refine oks_of n _ _ _ _ g3 g1 g5 ?_
    have k1 : 1 ≤ d / rc := (Int.le_ediv_iff_mul_le f3).mpr (by omega)
    have k2 := Int.mul_le_mul_of_nonneg_right k1 (show 0 ≤ rc by omega)
    have k3 : (2 : Int) ^ (n + 1) = 2 * 2 ^ n := by rw [Int.pow_succ]; omega
    omega
theorem btw_mediant {a b c d : Int} (hb : 0 < b) (hd : 0 < d) (hlt : a * d < c * b) : Btw a b c d (a + c) (b + d) := ⟨by omega, by grind, by grind⟩
theorem IsSimp.le_sum {a b c d p q : Int} (hb : 0 < b) (hd : 0 < d) (hlt : a * d < c * b) (h : IsSimp a b c d p q) : q ≤ b + d := h.least _ _ (btw_mediant hb hd hlt)
theorem IsSimp.num_le {a b c d p q : Int} (hb : 0 < b) (hd : 0 < d) (ha : 0 ≤ a) (hlt : a * d < c * b) (h : IsSimp a b c d p q) : p ≤ a + c := h.num hb hd ha (btw_mediant hb hd hlt)
def low2 (a b : Int) : Int × Int := (a / (Int.gcd a b : Int), b / (Int.gcd a b : Int))
theorem low2_of_gcd {a b : Int} (h : Int.gcd a b = 1) : low2 a b = (a, b) := by
  unfold low2
  rw [h]
  simp

/-! ### is_int, common, lowest, less -/
abbrev encF (p : Int × Int) : D := .tup [.int p.1, .int p.2]
def sp_is_int : DSp := spF (fun x : Int × Int × Int => [.int x.1, .int x.2.1, .int x.2.2]) (fun _ => True) fun x => .bl (decide (x.2.1 ≤ x.1 ∧ x.1 ≤ x.2.2))
abbrev n_is_int : List Str := ["value", "low", "high"]
def F_is_int : DS := (dRet (dAndV (d1 (fIsi "int") (dVar 0)) (dAndV (dNotV (d1 (fIsi "bool") (dVar 0))) (d3c fLe fLe (dVar 1) (dVar 0) (dVar 2)))))
theorem d_is_int : ∀ ds μ P E, Closed μ → sp_is_int ds μ P E → F_is_int (startD n_is_int ds) μ (endsD P) := by
  rintro ds μ P E cl ⟨⟨v, lo, hi⟩, rfl, -, q⟩
  show F_is_int [some (.int v), some (.int lo), some (.int hi)] μ (endsD P)
  unfold F_is_int
  dsimp only at q
  walk_at "ev"
  by_cases h1 : lo ≤ v
  · rw [decide_eq_true h1]
    refine ⟨μ, .refl cl, ?_⟩
    rw [show decide (v ≤ hi) = decide (lo ≤ v ∧ v ≤ hi) by simp [h1]]
    exact q
  · rw [decide_eq_false h1]
    refine ⟨μ, .refl cl, ?_⟩
    rw [show decide (lo ≤ v ∧ v ≤ hi) = false by simp [h1]] at q
    exact q
/-- the loop of Euclid -/
theorem gcd_loop {E : DEnds} {μ : Mu} {t : DT} {F : DS} {rest : Rho} (ht : ∀ a b Q, Q (!decide (b = 0)) μ → t (some (.int a) :: some (.int b) :: rest) μ Q)
    (hF : ∀ a b E, 0 < b → E.nx (some (.int b) :: some (.int (a % b)) :: rest) μ → F (some (.int a) :: some (.int b) :: rest) μ E) :
    ∀ (n : Nat) (a b : Int), 0 ≤ a → 0 ≤ b → b.toNat = n → E.nx (some (.int (Int.gcd a b : Int)) :: some (.int 0) :: rest) μ → ∃ k, whileN t F E k (some (.int a) :: some (.int b) :: rest) μ := by
  intro n
  induction n using Nat.strongRecOn with
  | ind n ih =>
    intro a b ha hb hn q
    by_cases h : b = 0
    · subst h
      refine ⟨1, ht _ _ _ ?_⟩
      rw [Int.gcd_zero_right] at q
      rw [show ((a.natAbs : Nat) : Int) = a by omega] at q
      exact q
    · have h1 : 0 ≤ a % b := Int.emod_nonneg a h
      have h2 : a % b < b := Int.emod_lt_of_pos a (by omega)
      have eg : Int.gcd b (a % b) = Int.gcd a b := by
        obtain ⟨m, rfl⟩ := Int.eq_ofNat_of_zero_le ha
        obtain ⟨n', rfl⟩ := Int.eq_ofNat_of_zero_le hb
        rw [← Int.natCast_emod, Int.gcd_natCast_natCast, Int.gcd_natCast_natCast, Nat.gcd_comm, Nat.gcd_comm m n']
        exact (Nat.gcd_rec n' m).symm
      obtain ⟨k, hk⟩ := ih (a % b).toNat (by omega) b (a % b) hb h1 rfl (by rw [eg]; exact q)
      refine ⟨k + 1, ht _ _ _ ?_⟩
      rw [decide_eq_false h]
      exact hF _ _ _ (by omega) hk
def sp_common : DSp := spF (fun x : Int × Int => [.int x.1, .int x.2]) (fun _ => True) fun x => .int (Int.gcd x.1 x.2)
abbrev n_common : List Str := ["one", "other"]
def F_common : DS := (dSeq (dPar 0 1 (dCons (dAs (f1 (fU fun i => .int (if i < 0 then -i else i))) (dCons (dVar 0) dNil)) (dCons (dAs (f1 (fU fun i => .int (if i < 0 then -i else i))) (dCons (dVar 1) dNil)) dNil))) (dSeq (dWhile (dTest (d2 (fEq true) (dVar 1) (dC (.int 0)))) (dPar 0 1 (dCons (dVar 1) (dCons (d2 fMod (dVar 0) (dVar 1)) dNil)))) (dRet (dVar 0))))
theorem d_common : ∀ ds μ P E, Closed μ → sp_common ds μ P E → F_common (startD n_common ds) μ (endsD P) := by
  rintro ds μ P E cl ⟨⟨a, b⟩, rfl, -, q⟩
  show F_common [some (.int a), some (.int b)] μ (endsD P)
  unfold F_common
  dsimp only at q
  walk_at "ev"
  refine gcd_loop (rest := []) (fun a b Q h => ?_) (fun a b E h q => ?_) _ _ _ (by split <;> omega) (by split <;> omega) rfl ?_
  · walk_at "ev"
    simpa using h
  · walk_at "ev"
    exact ⟨h, q⟩
  · walk_at "ev"
    refine ⟨μ, .refl cl, ?_⟩
    rw [show Int.gcd (if a < 0 then -a else a) (if b < 0 then -b else b) = Int.gcd a b by split <;> split <;> simp]
    exact q
def sp_lowest : DSp := spF (fun x : Int × Int => [.int x.1, .int x.2]) (fun x => 0 < x.2 ∧ x.2 < 1073741824) fun x => encF (low2 x.1 x.2)
theorem gcd_bound {a b : Int} (hb : 0 < b) (h : b < 1073741824) : CDiv a (Int.gcd a b : Int) ∧ 0 < (Int.gcd a b : Int) ∧ (Int.gcd a b : Int) < 1073741824 := by
  have h1 := Int.gcd_pos_of_ne_zero_right a (show b ≠ 0 by omega)
  have h2 : (Int.gcd a b : Int) ≤ b := Int.le_of_dvd hb (Int.gcd_dvd_right a b)
  exact ⟨⟨by omega, by omega⟩, by omega, by omega⟩
abbrev n_lowest : List Str := ["top", "below", "divisor"]
def F_lowest : DS := (dSeq (dAsg (.name 2) (dCall sp_common (dCons (dVar 0) (dCons (dVar 1) dNil)))) (dRet (dAs fTup (dCons (d2 fDiv (dVar 0) (dVar 2)) (dCons (d2 fDiv (dVar 1) (dVar 2)) dNil)))))
theorem d_lowest : ∀ ds μ P E, Closed μ → sp_lowest ds μ P E → F_lowest (startD n_lowest ds) μ (endsD P) := by
  rintro ds μ P E cl ⟨⟨a, b⟩, rfl, ⟨h1, h2⟩, q⟩
  show F_lowest [some (.int a), some (.int b), none] μ (endsD P)
  unfold F_lowest
  dsimp only at q h1 h2
  walk_at "ev"
  refine ⟨(a, b), rfl, trivial, ?_⟩
  walk_at "ev"
  have g := gcd_bound (a := a) h1 h2
  exact ⟨⟨g.2.1, g.2.2⟩, ⟨g.2.1, g.2.2⟩, μ, .refl cl, q⟩
def B64 (x : Int) : Prop := -18446744073709551616 < x ∧ x < 18446744073709551616
theorem B64.l {x y : Int} (h : B64 x) : CMul x y := .inl ⟨h.1, h.2⟩
theorem B64.r {x y : Int} (h : B64 y) : CMul x y := .inr ⟨h.1, h.2⟩
def sp_less : DSp := spF (fun x : (Int × Int) × (Int × Int) => [encF x.1, encF x.2]) (fun x => B64 x.1.2 ∧ B64 x.2.2) fun x => .bl (decide (x.1.1 * x.2.2 < x.2.1 * x.1.2))
abbrev n_less : List Str := ["one", "other"]
def F_less : DS := (dRet (d2 fLt (d2 fMul (d2 fIx (dVar 0) (dC (.int 0))) (d2 fIx (dVar 1) (dC (.int 1)))) (d2 fMul (d2 fIx (dVar 1) (dC (.int 0))) (d2 fIx (dVar 0) (dC (.int 1))))))
theorem d_less : ∀ ds μ P E, Closed μ → sp_less ds μ P E → F_less (startD n_less ds) μ (endsD P) := by
  rintro ds μ P E cl ⟨⟨⟨a, b⟩, c, d⟩, rfl, ⟨h1, h2⟩, q⟩
  show F_less [some (encF (a, b)), some (encF (c, d))] μ (endsD P)
  unfold F_less
  dsimp only at q h1 h2
  walk_at "ev"
  exact ⟨h2.r, h1.r, μ, .refl cl, q⟩

/-! ### is_fraction, check_fraction -/
def isFr (x : Int × Int) : Prop := (-1000000000 ≤ x.1 ∧ x.1 ≤ 1000000000) ∧ (1 ≤ x.2 ∧ x.2 ≤ 1000000000) ∧ Int.gcd x.1 x.2 = 1
instance (x : Int × Int) : Decidable (isFr x) := by unfold isFr; infer_instance
def sp_is_fraction : DSp := spF (fun x : Int × Int => [encF x]) (fun _ => True) fun x => .bl (decide (isFr x))
abbrev n_is_fraction : List Str := ["value"]
def F_is_fraction : DS := (dSeq (dIf (dOr (dNot (dTest (d1 (fIsi "tuple") (dVar 0)))) (dOr (dTest (d2 (fEq true) (dAs (f1 fLen) (dCons (dVar 0) dNil)) (dC (.int 2)))) (dNot (dTest (dCall sp_is_int (dCons (d2 fIx (dVar 0) (dC (.int 0))) (dCons (d1 (fU fun i => .int (-i)) (dC (.int 1000000000))) (dCons (dC (.int 1000000000)) dNil)))))))) (dRet (dC (.bl false))) dNext) (dRet (dAndV (dCall sp_is_int (dCons (d2 fIx (dVar 0) (dC (.int 1))) (dCons (dC (.int 1)) (dCons (dC (.int 1000000000)) dNil)))) (d2 (fEq false) (dCall sp_common (dCons (d2 fIx (dVar 0) (dC (.int 0))) (dCons (d2 fIx (dVar 0) (dC (.int 1))) dNil))) (dC (.int 1))))))
theorem d_is_fraction : ∀ ds μ P E, Closed μ → sp_is_fraction ds μ P E → F_is_fraction (startD n_is_fraction ds) μ (endsD P) := by
  rintro ds μ P E cl ⟨⟨a, b⟩, rfl, -, q⟩
  show F_is_fraction [some (encF (a, b))] μ (endsD P)
  unfold F_is_fraction
  dsimp only at q
  unfold isFr at q
  walk_at "ev"
  refine ⟨(a, _, _), rfl, trivial, ?_⟩
  walk_at "ev"
  dsimp only at q
  by_cases h1 : -1000000000 ≤ a ∧ a ≤ 1000000000
  · rw [if_neg (by simpa using h1)]
    refine ⟨(b, _, _), rfl, trivial, ?_⟩
    walk_at "ev"
    by_cases h2 : 1 ≤ b ∧ b ≤ 1000000000
    · rw [decide_eq_true h2]
      walk_at "ev"
      refine ⟨(a, b), rfl, trivial, ?_⟩
      walk_at "ev"
      refine ⟨μ, .refl cl, ?_⟩
      simp only [h1, h2, true_and, and_self] at q
      rw [show decide (((Int.gcd a b : Nat) : Int) = 1) = decide (Int.gcd a b = 1) by
        apply decide_eq_decide.mpr
        omega]
      exact q
    · rw [decide_eq_false h2]
      walk_at "ev"
      refine ⟨μ, .refl cl, ?_⟩
      simp only [h2, false_and, and_false, decide_false] at q
      exact q
  · rw [if_pos h1]
    refine ⟨μ, .refl cl, ?_⟩
    simp only [h1, false_and, decide_false] at q
    exact q
def sp_check_fraction : DSp := spF (fun x : Int × Int => [encF x]) isFr fun _ => .non
abbrev n_check_fraction : List Str := ["value"]
def F_check_fraction : DS := (dIf (dNot (dTest (dCall sp_is_fraction (dCons (dVar 0) dNil)))) dNever dNext)
theorem d_check_fraction : ∀ ds μ P E, Closed μ → sp_check_fraction ds μ P E → F_check_fraction (startD n_check_fraction ds) μ (endsD P) := by
  rintro ds μ P E cl ⟨⟨a, b⟩, rfl, h, q⟩
  show F_check_fraction [some (encF (a, b))] μ (endsD P)
  unfold F_check_fraction
  walk_at "ev"
  refine ⟨(a, b), rfl, trivial, ?_⟩
  dsimp only
  rw [decide_eq_true h]
  walk_at "ev"
  exact ⟨μ, .refl cl, q⟩
/-! ### simplest_in, simplest -/
structure PreS (a b c d : Int) : Prop where
  b0 : 0 < b
  d0 : 0 < d
  lt : a * d < c * b
  b1 : b < 268435456
  d1 : d < 268435456
  a1 : -1000000000000000000 < a ∧ a < 1000000000000000000
def sp_simplest_in (m : Nat) : DSp := spR (fun x : (Int × Int) × (Int × Int) => [encF x.1, encF x.2]) (fun x _ => PreS x.1.1 x.1.2 x.2.1 x.2.2 ∧ OkS m x.1.1 x.1.2 x.2.1 x.2.2) fun x d => ∃ p q, d = encF (p, q) ∧ IsSimp x.1.1 x.1.2 x.2.1 x.2.2 p q
abbrev n_simplest_in : List Str := ["low", "high", "whole", "last", "floor", "rest_low", "rest_high", "step", "turned"]
def F_simplest_in (sr : DSp) : DS := (dSeq (dAsg (.name 2) (d2 fAdd (d2 fDiv (d2 fIx (dVar 0) (dC (.int 0))) (d2 fIx (dVar 0) (dC (.int 1)))) (dC (.int 1)))) (dSeq (dIf (dTest (d2 fLt (d2 fMul (dVar 2) (d2 fIx (dVar 1) (dC (.int 1)))) (d2 fIx (dVar 1) (dC (.int 0))))) (dSeq (dIf (dTest (d3c fLt fLt (d2 fIx (dVar 0) (dC (.int 0))) (dC (.int 0)) (d2 fIx (dVar 1) (dC (.int 0))))) (dRet (dAs fTup (dCons (dC (.int 0)) (dCons (dC (.int 1)) dNil)))) dNext) (dSeq (dAsg (.name 3) (d2 fSub (d1 (fU fun i => .int (-i)) (d2 fDiv (d1 (fU fun i => .int (-i)) (d2 fIx (dVar 1) (dC (.int 0)))) (d2 fIx (dVar 1) (dC (.int 1))))) (dC (.int 1)))) (dRet (dIfE (dTest (d2 fGe (d2 fIx (dVar 0) (dC (.int 0))) (dC (.int 0)))) (dAs fTup (dCons (dVar 2) (dCons (dC (.int 1)) dNil))) (dAs fTup (dCons (dVar 3) (dCons (dC (.int 1)) dNil))))))) dNext) (dSeq (dAsg (.name 4) (d2 fSub (dVar 2) (dC (.int 1)))) (dSeq (dAsg (.name 5) (dAs fTup (dCons (d2 fSub (d2 fIx (dVar 0) (dC (.int 0))) (d2 fMul (dVar 4) (d2 fIx (dVar 0) (dC (.int 1))))) (dCons (d2 fIx (dVar 0) (dC (.int 1))) dNil)))) (dSeq (dAsg (.name 6) (dAs fTup (dCons (d2 fSub (d2 fIx (dVar 1) (dC (.int 0))) (d2 fMul (dVar 4) (d2 fIx (dVar 1) (dC (.int 1))))) (dCons (d2 fIx (dVar 1) (dC (.int 1))) dNil)))) (dSeq (dIf (dTest (d2 (fEq false) (d2 fIx (dVar 5) (dC (.int 0))) (dC (.int 0)))) (dSeq (dAsg (.name 7) (d2 fAdd (d2 fDiv (d2 fIx (dVar 6) (dC (.int 1))) (d2 fIx (dVar 6) (dC (.int 0)))) (dC (.int 1)))) (dRet (dCall sp_lowest (dCons (d2 fAdd (d2 fMul (dVar 4) (dVar 7)) (dC (.int 1))) (dCons (dVar 7) dNil))))) dNext) (dSeq (dAsg (.name 8) (dCall sr (dCons (dAs fTup (dCons (d2 fIx (dVar 6) (dC (.int 1))) (dCons (d2 fIx (dVar 6) (dC (.int 0))) dNil))) (dCons (dAs fTup (dCons (d2 fIx (dVar 5) (dC (.int 1))) (dCons (d2 fIx (dVar 5) (dC (.int 0))) dNil))) dNil)))) (dRet (dCall sp_lowest (dCons (d2 fAdd (d2 fMul (dVar 4) (d2 fIx (dVar 8) (dC (.int 0)))) (d2 fIx (dVar 8) (dC (.int 1)))) (dCons (d2 fIx (dVar 8) (dC (.int 0))) dNil)))))))))))
theorem fl_bound {a b : Int} (hb : 0 < b) (ha : -1000000000000000000 < a ∧ a < 1000000000000000000) : -1000000000000000001 < a / b ∧ a / b < 1000000000000000000 := by
  have e1 : a / b * b ≤ a := Int.ediv_mul_le a (by omega)
  have e2 : a < (a / b + 1) * b := Int.lt_ediv_add_one_mul_self a hb
  generalize a / b = fl at *
  constructor
  · by_cases h : 0 ≤ fl
    · omega
    · have := Int.mul_le_mul_of_nonneg_left (show 1 ≤ b by omega) (show 0 ≤ -(fl + 1) by omega)
      grind
  · by_cases h : fl < 0
    · omega
    · have := Int.mul_le_mul_of_nonneg_left (show 1 ≤ b by omega) (show 0 ≤ fl by omega)
      grind
theorem d_simplest_in (m : Nat) : ∀ ds μ P E, Closed μ → sp_simplest_in (m + 1) ds μ P E → F_simplest_in (sp_simplest_in m) (startD n_simplest_in ds) μ (endsD P) := by
  rintro ds μ P E cl ⟨⟨⟨a, b⟩, c, d⟩, rfl, ⟨⟨b0, d0, lt, b1, d1, a1⟩, ok⟩, q⟩
  show F_simplest_in _ [some (encF (a, b)), some (encF (c, d)), none, none, none, none, none, none, none] μ (endsD P)
  unfold F_simplest_in
  dsimp only at *
  have Q : ∀ p q', IsSimp a b c d p q' → P (encF (p, q')) μ := fun p q' h => q _ ⟨p, q', rfl, h⟩
  have fb := fl_bound b0 a1
  walk_at "ev"
  refine ⟨⟨b0, by omega⟩, B64.r ⟨by omega, by omega⟩, ?_⟩
  split
  · rename_i hw
    by_cases ha : a < 0
    · rw [decide_eq_true ha]
      walk_at "ev"
      by_cases hc : 0 < c
      · rw [if_pos hc]
        exact ⟨μ, .refl cl, Q _ _ (simp_whole_zero b0 d0 ha hc)⟩
      · rw [if_neg hc, if_neg (by omega)]
        exact ⟨⟨d0, by omega⟩, μ, .refl cl, Q _ _ (simp_whole_down b0 d0 ha (by omega) hw)⟩
    · rw [decide_eq_false ha]
      walk_at "ev"
      rw [if_pos (by omega)]
      exact ⟨⟨d0, by omega⟩, μ, .refl cl, Q _ _ (simp_whole_up b0 d0 (by omega) hw)⟩
  · rename_i hw
    rw [show a / b + 1 - 1 = a / b by omega]
    refine ⟨B64.r ⟨by omega, by omega⟩, B64.r ⟨by omega, by omega⟩, ?_⟩
    split
    · rename_i hz
      have hr : 0 < c - a / b * d := by
        have e : a = a / b * b := by omega
        rw [e] at lt
        generalize a / b = fl at *
        have : (fl * d) * b < c * b := by grind
        have := Int.lt_of_mul_lt_mul_right this (by omega)
        omega
      have hrd : c - a / b * d ≤ d := by grind
      have is := simp_low_zero b0 d0 lt (by omega) hz
      have le := is.le_sum b0 d0 lt
      refine ⟨⟨hr, by omega⟩, B64.l ⟨by omega, by omega⟩, ⟨_, _⟩, rfl, ⟨is.btw.q0, by dsimp only; omega⟩, ?_⟩
      dsimp only
      rw [low2_of_gcd is.gcd]
      exact ⟨μ, .refl cl, Q _ _ is⟩
    · rename_i hz
      obtain ⟨f1, f2, f3, f4, f5⟩ := turn_facts b0 d0 lt hz hw
      refine ⟨⟨⟨_, _⟩, _, _⟩, rfl, ⟨⟨f3, f1, f5, by dsimp only; omega, by dsimp only; omega, by dsimp only; omega⟩, ok hw hz⟩, ?_⟩
      rintro _ ⟨p, q', rfl, ih⟩
      dsimp only at ih
      have le := ih.num_le f3 f1 (by omega) f5
      have is := simp_turn b0 d0 (by omega) hz ih f3
      walk_at "ev"
      refine ⟨B64.l ⟨by omega, by omega⟩, ⟨_, _⟩, rfl, ⟨is.btw.q0, by dsimp only; omega⟩, ?_⟩
      dsimp only
      rw [low2_of_gcd is.gcd]
      exact ⟨μ, .refl cl, Q _ _ is⟩
/-- with calls enough -/
def sp_simplest_all : DSp := spR (fun x : (Int × Int) × (Int × Int) => [encF x.1, encF x.2]) (fun x _ => PreS x.1.1 x.1.2 x.2.1 x.2.2) fun x d => ∃ p q, d = encF (p, q) ∧ IsSimp x.1.1 x.1.2 x.2.1 x.2.2 p q
theorem simplest_all_of {ds : List D} {μ : Mu} {P : D → Mu → Prop} {E : Str → Mu → Prop} (h : sp_simplest_all ds μ P E) : sp_simplest_in 56 ds μ P E := by
  obtain ⟨x, rfl, h, q⟩ := h
  exact ⟨x, rfl, ⟨h, oks_of 28 _ _ _ _ h.b0 h.d0 h.lt (by have := h.d1; omega)⟩, q⟩
def sp_simplest : DSp := spR (fun x : (Int × Int) × (Int × Int) => [encF x.1, encF x.2]) (fun x _ => isFr x.1 ∧ isFr x.2 ∧ PreS x.1.1 x.1.2 x.2.1 x.2.2) fun x d => ∃ p q, d = encF (p, q) ∧ IsSimp x.1.1 x.1.2 x.2.1 x.2.2 p q
abbrev n_simplest : List Str := ["low", "high"]
def F_simplest : DS := (dSeq (dDrop (dCall sp_check_fraction (dCons (dVar 0) dNil))) (dSeq (dDrop (dCall sp_check_fraction (dCons (dVar 1) dNil))) (dSeq (dIf (dNot (dTest (dCall sp_less (dCons (dVar 0) (dCons (dVar 1) dNil))))) dNever dNext) (dRet (dCall sp_simplest_all (dCons (dVar 0) (dCons (dVar 1) dNil)))))))
theorem d_simplest : ∀ ds μ P E, Closed μ → sp_simplest ds μ P E → F_simplest (startD n_simplest ds) μ (endsD P) := by
  rintro ds μ P E cl ⟨⟨⟨a, b⟩, c, d⟩, rfl, ⟨h1, h2, h3⟩, q⟩
  show F_simplest [some (encF (a, b)), some (encF (c, d))] μ (endsD P)
  unfold F_simplest
  dsimp only at *
  walk_at "ev"
  refine ⟨(a, b), rfl, h1, (c, d), rfl, h2, ((a, b), (c, d)), rfl, ⟨⟨by have := h3.b0; dsimp only; omega, by have := h3.b1; dsimp only; omega⟩, ⟨by have := h3.d0; dsimp only; omega, by have := h3.d1; dsimp only; omega⟩⟩, ?_⟩
  dsimp only
  rw [decide_eq_true h3.lt]
  walk_at "ev"
  refine ⟨((a, b), (c, d)), rfl, h3, fun x hx => ⟨μ, .refl cl, q x hx⟩⟩

/-! ### the laws' own helpers: pick, common, low -/
def DrOk (μ : Mu) (dr : Addr) : Prop := ∃ n, μ dr = some (.drw n)
theorem draw_ok {μ : Mu} {dr : Addr} {m : Int} {P : D → Mu → Prop} {E : Str → Mu → Prop} (h : DrOk μ dr) (h0 : 0 < m ∧ m < 1073741824) (k : ∀ r : Int, 0 ≤ r → r < m → P (.int r) μ) : sp__law_draw [.hdl dr, .int m] μ P E :=
  let ⟨n, h⟩ := h; ⟨dr, n, m, rfl, h, h0, k⟩
def sp__law_pick : DSp := spR (fun x : Addr × List D => [.hdl x.1, .lst x.2]) (fun x μ => DrOk μ x.1 ∧ 0 < x.2.length ∧ x.2.length < 1073741824) fun x d => d ∈ x.2
abbrev n__law_pick : List Str := ["draws", "choices"]
def F__law_pick : DS := (dRet (d2 fIx (dVar 1) (dCall sp__law_draw (dCons (dVar 0) (dCons (dAs (f1 fLen) (dCons (dVar 1) dNil)) dNil)))))
theorem d__law_pick : ∀ ds μ P E, Closed μ → sp__law_pick ds μ P E → F__law_pick (startD n__law_pick ds) μ (endsD P) := by
  rintro ds μ P E cl ⟨⟨dr, l⟩, rfl, ⟨h1, h2, h3⟩, q⟩
  show F__law_pick [some (.hdl dr), some (.lst l)] μ (endsD P)
  unfold F__law_pick
  dsimp only at *
  walk_at "ev"
  refine draw_ok h1 ⟨by omega, by omega⟩ fun r r0 r1 => ?_
  obtain ⟨j, rfl⟩ := Int.eq_ofNat_of_zero_le r0
  have hj : j < l.length := by omega
  have e : atI l (j : Int) = some l[j] := atI_nat (List.getElem?_eq_getElem hj)
  walk_at "ev"
  simp only [e]
  exact ⟨μ, .refl cl, q _ (List.getElem_mem hj)⟩
theorem pick_ok {μ : Mu} {dr : Addr} {l : List D} {P : D → Mu → Prop} {E : Str → Mu → Prop} (h : DrOk μ dr) (h0 : 0 < l.length ∧ l.length < 1073741824) (k : ∀ d ∈ l, P d μ) : sp__law_pick [.hdl dr, .lst l] μ P E :=
  ⟨(dr, l), rfl, ⟨h, h0⟩, k⟩
def sp__law_common : DSp := spF (fun x : Int × Int => [.int x.1, .int x.2]) (fun x => 0 ≤ x.1 ∧ 0 ≤ x.2) fun x => .int (Int.gcd x.1 x.2)
abbrev n__law_common : List Str := ["one", "other"]
def F__law_common : DS := (dSeq (dWhile (dTest (d2 (fEq true) (dVar 1) (dC (.int 0)))) (dPar 0 1 (dCons (dVar 1) (dCons (d2 fMod (dVar 0) (dVar 1)) dNil)))) (dRet (dVar 0)))
theorem d__law_common : ∀ ds μ P E, Closed μ → sp__law_common ds μ P E → F__law_common (startD n__law_common ds) μ (endsD P) := by
  rintro ds μ P E cl ⟨⟨a, b⟩, rfl, ⟨h1, h2⟩, q⟩
  show F__law_common [some (.int a), some (.int b)] μ (endsD P)
  unfold F__law_common
  dsimp only at *
  walk_at "ev"
  refine gcd_loop (rest := []) (fun a b Q h => ?_) (fun a b E h q => ?_) _ _ _ h1 h2 rfl ?_
  · walk_at "ev"
    simpa using h
  · walk_at "ev"
    exact ⟨h, q⟩
  · walk_at "ev"
    exact ⟨μ, .refl cl, q⟩
def sp__law_low : DSp := spF (fun x : Int × Int => [.int x.1, .int x.2]) (fun x => 0 < x.2 ∧ x.2 < 1073741824) fun x => encF (low2 x.1 x.2)
abbrev n__law_low : List Str := ["top", "under", "shared"]
def F__law_low : DS := (dSeq (dAsg (.name 2) (dCall sp__law_common (dCons (dAs (f1 (fU fun i => .int (if i < 0 then -i else i))) (dCons (dVar 0) dNil)) (dCons (dVar 1) dNil)))) (dRet (dAs fTup (dCons (d2 fDiv (dVar 0) (dVar 2)) (dCons (d2 fDiv (dVar 1) (dVar 2)) dNil)))))
theorem d__law_low : ∀ ds μ P E, Closed μ → sp__law_low ds μ P E → F__law_low (startD n__law_low ds) μ (endsD P) := by
  rintro ds μ P E cl ⟨⟨a, b⟩, rfl, ⟨h1, h2⟩, q⟩
  show F__law_low [some (.int a), some (.int b), none] μ (endsD P)
  unfold F__law_low
  dsimp only at *
  walk_at "ev"
  refine ⟨(if a < 0 then -a else a, b), rfl, ⟨by dsimp only; split <;> omega, by dsimp only; omega⟩, ?_⟩
  dsimp only
  rw [show Int.gcd (if a < 0 then -a else a) b = Int.gcd a b by split <;> simp]
  walk_at "ev"
  have g := gcd_bound (a := a) h1 h2
  exact ⟨⟨g.2.1, g.2.2⟩, ⟨g.2.1, g.2.2⟩, μ, .refl cl, q⟩

/-! ### law k04: mathematics -/
/-- equal fractions in lowest terms are one -/
theorem frac_eq {a b c d : Int} (hb : 0 < b) (hd : 0 < d) (g1 : Int.gcd a b = 1) (g2 : Int.gcd c d = 1) (h : a * d = c * b) : a = c ∧ b = d := by
  have key : ∀ {a b d : Int}, Int.gcd a b = 1 → b ∣ a * d → b ∣ d := fun {a b d} g hd => by
    rw [← Int.natAbs_dvd_natAbs] at hd ⊢
    rw [Int.natAbs_mul] at hd
    have cop : Nat.Coprime b.natAbs a.natAbs := by
      show Nat.gcd _ _ = 1
      rw [Nat.gcd_comm]
      exact g
    exact cop.dvd_of_dvd_mul_left hd
  have h1 : b ∣ d := key g1 (by rw [h]; exact Int.dvd_mul_left c b)
  have h2 : d ∣ b := key g2 (by rw [← h]; exact Int.dvd_mul_left a d)
  have e : b = d := Int.le_antisymm (Int.le_of_dvd hd h1) (Int.le_of_dvd hb h2)
  subst e
  exact ⟨Int.eq_of_mul_eq_mul_right (by omega) h, rfl⟩
theorem low2_facts {a b : Int} (hb : 0 < b) : 0 < (low2 a b).2 ∧ (low2 a b).2 ≤ b ∧ Int.gcd (low2 a b).1 (low2 a b).2 = 1 ∧ (low2 a b).1.natAbs ≤ a.natAbs ∧ (low2 a b).1 * b = a * (low2 a b).2 := by
  have g0 : 0 < (Int.gcd a b : Int) := by
    have := Int.gcd_pos_of_ne_zero_right a (show b ≠ 0 by omega)
    omega
  obtain ⟨a1, ha⟩ := Int.gcd_dvd_left a b
  obtain ⟨b1, hb1⟩ := Int.gcd_dvd_right a b
  have hg : Int.gcd (a / (Int.gcd a b : Int)) (b / (Int.gcd a b : Int)) = 1 := Int.gcd_ediv_gcd_ediv_gcd (by omega)
  unfold low2
  generalize hh : (Int.gcd a b : Int) = g at *
  have e1 : a / g = a1 := by rw [ha]; exact Int.mul_ediv_cancel_left a1 (by omega)
  have e2 : b / g = b1 := by rw [hb1]; exact Int.mul_ediv_cancel_left b1 (by omega)
  rw [e1, e2] at hg ⊢
  have p1 : 0 < b1 := Int.pos_of_mul_pos_right (by rw [← hb1]; exact hb) g0
  refine ⟨p1, ?_, hg, ?_, by rw [ha, hb1]; grind⟩
  · rw [hb1]
    have := Int.mul_le_mul_of_nonneg_right (show 1 ≤ g by omega) (show 0 ≤ b1 by omega)
    omega
  · rw [ha, Int.natAbs_mul]
    exact Nat.le_mul_of_pos_left _ (by omega)
theorem IsSimp.neg {a b c d p q : Int} (h : IsSimp a b c d p q) : IsSimp (-c) d (-a) b (-p) q := by
  have fw : ∀ {a b c d p q : Int}, Btw a b c d p q → Btw (-c) d (-a) b (-p) q := fun h => ⟨h.q0, by have := h.hi; grind, by have := h.lo; grind⟩
  refine ⟨fw h.btw, fun p' q' h' => ?_, fun p' h' => ?_⟩
  · have := fw h'
    rw [Int.neg_neg, Int.neg_neg] at this
    exact h.least _ _ this
  · have := fw h'
    rw [Int.neg_neg, Int.neg_neg] at this
    have := h.near _ this
    omega
structure Fr (x : Int × Int) : Prop where
  pos : 0 < x.2
  gcd : Int.gcd x.1 x.2 = 1
  num : -30000 ≤ x.1 ∧ x.1 ≤ 30000
  den : x.2 ≤ 4000
theorem Fr.isFr {x : Int × Int} (h : Fr x) : isFr x := ⟨⟨by have := h.num; omega, by have := h.num; omega⟩, ⟨h.pos, by have := h.den; omega⟩, h.gcd⟩
theorem Fr.of_low2 {a b : Int} (hb : 0 < b) (h1 : b ≤ 4000) (h2 : -30000 ≤ a) (h3 : a ≤ 30000) : Fr (low2 a b) := by
  obtain ⟨f1, f2, f3, f4, _⟩ := low2_facts (a := a) hb
  exact ⟨f1, f3, ⟨by omega, by omega⟩, by omega⟩
theorem simp_isFr {x y : Int × Int} {p q : Int} (hx : Fr x) (hy : Fr y) (hlt : x.1 * y.2 < y.1 * x.2) (h : IsSimp x.1 x.2 y.1 y.2 p q) : isFr (p, q) := by
  have q0 := h.btw.q0
  have le := h.le_sum hx.pos hy.pos hlt
  have d1 := hx.den
  have d2 := hy.den
  refine ⟨?_, ⟨by show 1 ≤ q; omega, by show q ≤ _; omega⟩, h.gcd⟩
  obtain ⟨_, lo, hi⟩ := h.btw
  have n1 := hx.num
  have n2 := hy.num
  have a1 : -30000 * q ≤ x.1 * q := Int.mul_le_mul_of_nonneg_right n1.1 (by omega)
  have a2 : y.1 * q ≤ 30000 * q := Int.mul_le_mul_of_nonneg_right n2.2 (by omega)
  constructor
  · show -1000000000 ≤ p
    by_cases hp : 0 ≤ p
    · omega
    · have := Int.mul_le_mul_of_nonneg_left (show 1 ≤ x.2 from hx.pos) (show 0 ≤ -p by omega)
      have : p * x.2 ≤ p := by grind
      omega
  · show p ≤ 1000000000
    by_cases hp : p ≤ 0
    · omega
    · have := Int.mul_le_mul_of_nonneg_left (show 1 ≤ y.2 from hy.pos) (show 0 ≤ p by omega)
      omega
/-! the law's own look at one denominator -/
theorem look_iff {a b c d u : Int} (hb : 0 < b) (hd : 0 < d) (hu : 0 < u) : (a * u / b + 1) * d < c * u ↔ ∃ p, Btw a b c d p u := by
  have e1 : a * u / b * b ≤ a * u := Int.ediv_mul_le _ (by omega)
  have e2 : a * u < (a * u / b + 1) * b := Int.lt_ediv_add_one_mul_self _ hb
  constructor
  · exact fun h => ⟨_, hu, e2, h⟩
  · rintro ⟨p, _, lo, hi⟩
    have h1 : a * u / b < p := by
      have : (a * u / b) * b < p * b := by omega
      exact Int.lt_of_mul_lt_mul_right this (by omega)
    have := Int.mul_le_mul_of_nonneg_right (show a * u / b + 1 ≤ p by omega) (show 0 ≤ d by omega)
    omega
theorem look_all {a b c d u : Int} (hb : 0 < b) (hd : 0 < d) (hu : 0 < u) {p : Int} (h : Btw a b c d p u) : a * u / b + 1 ≤ p ∧ p ≤ 0 - (0 - c * u) / d - 1 := by
  obtain ⟨_, lo, hi⟩ := h
  have e1 : a * u / b * b ≤ a * u := Int.ediv_mul_le _ (by omega)
  have e3 : (0 - c * u) / d * d ≤ 0 - c * u := Int.ediv_mul_le _ (by omega)
  constructor
  · have : (a * u / b) * b < p * b := by omega
    have := Int.lt_of_mul_lt_mul_right this (by omega)
    omega
  · have : p * d < (0 - (0 - c * u) / d) * d := by grind
    have := Int.lt_of_mul_lt_mul_right this (by omega)
    omega
theorem look_in {a b c d u : Int} (hb : 0 < b) (hd : 0 < d) (hu : 0 < u) {p : Int} (h1 : a * u / b + 1 ≤ p) (h2 : p ≤ 0 - (0 - c * u) / d - 1) : Btw a b c d p u := by
  have e2 : a * u < (a * u / b + 1) * b := Int.lt_ediv_add_one_mul_self _ hb
  have e4 : 0 - c * u < ((0 - c * u) / d + 1) * d := Int.lt_ediv_add_one_mul_self _ hd
  have f1 := Int.mul_le_mul_of_nonneg_right h1 (show 0 ≤ b by omega)
  have f2 := Int.mul_le_mul_of_nonneg_right h2 (show 0 ≤ d by omega)
  exact ⟨hu, by omega, by grind⟩
def absI (x : Int) : Int := if x < 0 then -x else x
theorem absI_nat (x : Int) : absI x = (x.natAbs : Int) := by unfold absI; split <;> omega
/-- the least of the three is the nearest one's -/
theorem look_min {a b c d u p f l m : Int} (hb : 0 < b) (hd : 0 < d) (hu : 0 < u) (h : IsSimp a b c d p u) (hf : f = a * u / b + 1) (hl : l = 0 - (0 - c * u) / d - 1)
    (hm : m ∈ [absI f, absI l, absI (if l < (if f > 0 then f else 0) then l else if f > 0 then f else 0)]) (hle : ∀ x ∈ [absI f, absI l, absI (if l < (if f > 0 then f else 0) then l else if f > 0 then f else 0)], m ≤ x) : absI p = m := by
  obtain ⟨p1, p2⟩ := look_all hb hd hu h.btw
  have fl : f ≤ l := by omega
  have near : ∀ x, f ≤ x → x ≤ l → absI p ≤ absI x := fun x h1 h2 => by
    have := h.near x (look_in hb hd hu (by omega) (by omega))
    rw [absI_nat, absI_nat]
    omega
  simp only [List.mem_cons, List.not_mem_nil, or_false, forall_eq_or_imp, forall_eq] at hm hle
  have n1 := near f (by omega) fl
  have n2 := near l fl (by omega)
  have n3 := near (if l < (if f > 0 then f else 0) then l else if f > 0 then f else 0) (by split <;> split <;> omega) (by split <;> split <;> omega)
  have k : absI (if l < (if f > 0 then f else 0) then l else if f > 0 then f else 0) ≤ absI p := by
    simp only [absI]
    repeat' split
    all_goals omega
  have ge : absI p ≤ m := by
    rcases hm with rfl | rfl | rfl
    · exact n1
    · exact n2
    · exact n3
  omega
abbrev n_law : List Str := ["script", "draws", "wide", "rows", "k", "under", "low", "high", "found", "first", "inside", "last", "top"]
def F_law_loop0 : DS := (dSeq (dAsg (.name 5) (d2 fAdd (dC (.int 1)) (dCall sp__law_draw (dCons (dVar 1) (dCons (dVar 2) dNil))))) (dApp 3 (dCons (dCall sp__law_low (dCons (d2 fSub (dCall sp__law_draw (dCons (dVar 1) (dCons (d2 fAdd (d2 fMul (dC (.int 6)) (dVar 5)) (dC (.int 1))) dNil))) (d2 fMul (dC (.int 3)) (dVar 5))) (dCons (dVar 5) dNil))) dNil)))
def F_law_loop1 : DS := (dSeq (dAsg (.name 9) (d2 fAdd (d2 fDiv (d2 fMul (d2 fIx (dVar 6) (dC (.int 0))) (dVar 5)) (d2 fIx (dVar 6) (dC (.int 1)))) (dC (.int 1)))) (dSeq (dAsg (.name 10) (dAs fLst dNil)) (dSeq (dIf (dTest (d2 fLt (d2 fMul (dVar 9) (d2 fIx (dVar 7) (dC (.int 1)))) (d2 fMul (d2 fIx (dVar 7) (dC (.int 0))) (dVar 5)))) (dSeq (dAsg (.name 11) (d2 fSub (d2 fSub (dC (.int 0)) (d2 fDiv (d2 fSub (dC (.int 0)) (d2 fMul (d2 fIx (dVar 7) (dC (.int 0))) (dVar 5))) (d2 fIx (dVar 7) (dC (.int 1))))) (dC (.int 1)))) (dAsg (.name 10) (dAs fLst (dCons (dVar 9) (dCons (dVar 11) (dCons (dAs (f2 (fI fun i j => .int (if j < i then j else i))) (dCons (dAs (f2 (fI fun i j => .int (if j > i then j else i))) (dCons (dC (.int 0)) (dCons (dVar 9) dNil))) (dCons (dVar 11) dNil))) dNil)))))) dNext) (dSeq (dIf (dTest (d2 (fEq true) (d2 (fEq true) (dVar 10) (dAs fLst dNil)) (d2 (fEq false) (dVar 5) (d2 fIx (dVar 8) (dC (.int 1)))))) (dRet (dC (.bl false))) dNext) (dIf (dAnd (dTest (d2 (fEq true) (dVar 10) (dAs fLst dNil))) (dTest (d2 (fEq true) (dAs (f1 (fU fun i => .int (if i < 0 then -i else i))) (dCons (d2 fIx (dVar 8) (dC (.int 0))) dNil)) (dAs (f1 fMinL) (dCons (dComp (iLst (dVar 10)) (.name 12) [12] dYes (dAs (f1 (fU fun i => .int (if i < 0 then -i else i))) (dCons (dVar 12) dNil))) dNil))))) (dRet (dC (.bl false))) dNext)))))
def F_law_c : DS := (dSeq (dAsg (.name 8) (dCall sp_simplest (dCons (dVar 6) (dCons (dVar 7) dNil)))) (dSeq (dIf (dOr (dTest (d2 (fIsB true) (dCall sp_is_fraction (dCons (dVar 8) dNil)) (dC (.bl true)))) (dTest (d2 (fIsB true) (dCall sp_is_fraction (dCons (dVar 6) dNil)) (dC (.bl true))))) (dRet (dC (.bl false))) dNext) (dSeq (dIf (dOr (dNot (dTest (d2 fLt (d2 fMul (d2 fIx (dVar 6) (dC (.int 0))) (d2 fIx (dVar 8) (dC (.int 1)))) (d2 fMul (d2 fIx (dVar 8) (dC (.int 0))) (d2 fIx (dVar 6) (dC (.int 1))))))) (dNot (dTest (d2 fLt (d2 fMul (d2 fIx (dVar 8) (dC (.int 0))) (d2 fIx (dVar 7) (dC (.int 1)))) (d2 fMul (d2 fIx (dVar 7) (dC (.int 0))) (d2 fIx (dVar 8) (dC (.int 1)))))))) (dRet (dC (.bl false))) dNext) (dSeq (dFor (iRg2 (dCons (dC (.int 1)) (dCons (d2 fAdd (dAs (f2 (fI fun i j => .int (if j < i then j else i))) (dCons (d2 fIx (dVar 8) (dC (.int 1))) (dCons (dC (.int 400)) dNil))) (dC (.int 1))) dNil))) (.name 5) F_law_loop1) (dRet (d2 (fEq false) (dCall sp_simplest (dCons (dAs fTup (dCons (d2 fSub (dC (.int 0)) (d2 fIx (dVar 7) (dC (.int 0)))) (dCons (d2 fIx (dVar 7) (dC (.int 1))) dNil))) (dCons (dAs fTup (dCons (d2 fSub (dC (.int 0)) (d2 fIx (dVar 6) (dC (.int 0)))) (dCons (d2 fIx (dVar 6) (dC (.int 1))) dNil))) dNil))) (dAs fTup (dCons (d2 fSub (dC (.int 0)) (d2 fIx (dVar 8) (dC (.int 0)))) (dCons (d2 fIx (dVar 8) (dC (.int 1))) dNil)))))))))
def F_law_b : DS := (dSeq (dIf (dTest (d2 (fEq false) (dVar 6) (dVar 7))) (dAsg (.name 7) (dAs fTup (dCons (d2 fAdd (d2 fIx (dVar 6) (dC (.int 0))) (d2 fIx (dVar 6) (dC (.int 1)))) (dCons (d2 fIx (dVar 6) (dC (.int 1))) dNil)))) dNext) F_law_c)
def F_law_a : DS := (dSeq (dIf (dTest (d2 fGt (d2 fMul (d2 fIx (dVar 6) (dC (.int 0))) (d2 fIx (dVar 7) (dC (.int 1)))) (d2 fMul (d2 fIx (dVar 7) (dC (.int 0))) (d2 fIx (dVar 6) (dC (.int 1)))))) (dPar 6 7 (dCons (dVar 7) (dCons (dVar 6) dNil))) dNext) F_law_b)
def F_law : DS := (dSeq (dAsg (.name 2) (dCall sp__law_pick (dCons (dVar 1) (dCons (dAs fLst (dCons (dC (.int 3)) (dCons (dC (.int 12)) (dCons (dC (.int 60)) dNil)))) dNil)))) (dSeq (dOwnL 3 dNil) (dSeq (dFor (iRg1 (dCons (dC (.int 2)) dNil)) (.name 4) F_law_loop0) (dSeq (dPar 6 7 (dCons (d2 fIxH (dVar 3) (dC (.int 0))) (dCons (d2 fIxH (dVar 3) (dC (.int 1))) dNil))) (dSeq (dIf (dTest (d2 (fEq false) (dCall sp__law_draw (dCons (dVar 1) (dCons (dC (.int 3)) dNil))) (dC (.int 0)))) (dAsg (.name 7) (dCall sp__law_low (dCons (d2 fAdd (d2 fMul (d2 fIx (dVar 6) (dC (.int 0))) (d2 fAdd (dVar 2) (dC (.int 1)))) (dC (.int 1))) (dCons (d2 fMul (d2 fIx (dVar 6) (dC (.int 1))) (d2 fAdd (dVar 2) (dC (.int 1)))) dNil)))) dNext) F_law_a)))))
theorem PreS.of {x y : Int × Int} (hx : Fr x) (hy : Fr y) (hlt : x.1 * y.2 < y.1 * x.2) : PreS x.1 x.2 y.1 y.2 :=
  ⟨hx.pos, hy.pos, hlt, by have := hx.den; omega, by have := hy.den; omega, by have := hx.num; omega⟩
theorem Fr.neg {x : Int × Int} (h : Fr x) : Fr (0 - x.1, x.2) :=
  ⟨h.pos, by show Int.gcd (0 - x.1) x.2 = 1; rw [Int.zero_sub, Int.neg_gcd]; exact h.gcd, ⟨by have := h.num; show -30000 ≤ 0 - x.1; omega, by have := h.num; show 0 - x.1 ≤ 30000; omega⟩, h.den⟩
theorem k04_c {μ : Mu} {x y : Int × Int} (hx : Fr x) (hy : Fr y) (hlt : x.1 * y.2 < y.1 * x.2) (s0 s1 s2 s3 s4 s5 s8 s9 s10 s11 s12 : Option D) :
    F_law_c [s0, s1, s2, s3, s4, s5, some (encF x), some (encF y), s8, s9, s10, s11, s12] μ { nx := fun _ _ => False, rt := fun d _ => d = .bl true } := by
  obtain ⟨a, b⟩ := x
  obtain ⟨c, d⟩ := y
  have pr := PreS.of hx hy hlt
  unfold F_law_c
  walk_at "ev"
  refine ⟨((a, b), (c, d)), rfl, ⟨hx.isFr, hy.isFr, pr⟩, ?_⟩
  rintro _ ⟨p, q, rfl, is⟩
  have fr := simp_isFr hx hy hlt is
  dsimp only at is fr hlt
  have hb : 0 < b := hx.pos
  have hd : 0 < d := hy.pos
  have q0 := is.btw.q0
  have nx := hx.num
  have ny := hy.num
  have dx : b ≤ 4000 := hx.den
  have dy : d ≤ 4000 := hy.den
  dsimp only at nx ny
  walk_at "ev"
  refine ⟨(p, q), rfl, trivial, ?_⟩
  dsimp only
  rw [decide_eq_true fr]
  walk_at "ev"
  refine ⟨(a, b), rfl, trivial, ?_⟩
  dsimp only
  rw [decide_eq_true hx.isFr]
  walk_at "ev"
  have qb : q ≤ 8000 := by have := is.le_sum hb hd hlt; omega
  have pb := fr.1
  dsimp only at pb
  refine ⟨B64.l ⟨by omega, by omega⟩, B64.r ⟨by omega, by omega⟩, ?_⟩
  rw [if_neg (fun h => h is.btw.lo)]
  refine ⟨B64.r ⟨by omega, by omega⟩, B64.l ⟨by omega, by omega⟩, ?_⟩
  rw [if_neg (fun h => h is.btw.hi)]
  refine ⟨⟨⟨by decide, by decide⟩, by split <;> omega, by split <;> omega⟩, ?_⟩
  refine forL_range (fun u ρ μ' => μ' = μ ∧ ∃ t5 t9 t10 t11 t12 : Option D, ρ = [s0, s1, s2, s3, s4, t5, some (encF (a, b)), some (encF (c, d)), some (encF (p, q)), t9, t10, t11, t12]) ⟨rfl, s5, s9, s10, s11, s12, rfl⟩ ?_ ?_
  · rintro u ρ μ' hu1 hu2 ⟨rfl, t5, t9, t10, t11, t12, rfl⟩
    refine ⟨_, rfl, fun nx hnx => ?_⟩
    have hu : 0 < u := by omega
    have uq : u ≤ q := by
      split at hu2 <;> omega
    unfold F_law_loop1
    walk_at "ev"
    refine ⟨B64.l ⟨by omega, by omega⟩, ⟨hb, by omega⟩, B64.r ⟨by omega, by omega⟩, B64.l ⟨by omega, by omega⟩, ?_⟩
    by_cases hl : (a * u / b + 1) * d < c * u
    · have eu : u = q := by
        obtain ⟨p', bt⟩ := (look_iff hb hd hu).mp hl
        have := is.least _ _ bt
        omega
      subst eu
      rw [if_pos hl]
      refine ⟨B64.l ⟨by omega, by omega⟩, ⟨hd, by omega⟩, ?_⟩
      generalize hf : a * u / b + 1 = f
      generalize hla : 0 - (0 - c * u) / d - 1 = l
      rw [if_neg (by simp)]
      refine compL_map (α := Int) (fun i => .int i) (fun i => .int (absI i)) [f, l, if l < (if f > 0 then f else 0) then l else if f > 0 then f else 0] (fun z _ => ⟨_, rfl, fun Q q => ?_⟩) ?_
      · walk_at "ev"
        exact q
      · refine ⟨[absI f, absI l, absI (if l < (if f > 0 then f else 0) then l else if f > 0 then f else 0)], rfl, by simp, fun m hm hle => ?_⟩
        have e := look_min hb hd hu is hf.symm hla.symm hm hle
        unfold absI at e
        walk_at "ev"
        rw [if_neg (fun h => h e)]
        exact hnx _ _ ⟨rfl, _, _, _, _, _, rfl⟩
    · have eu : u ≠ q := by
        rintro rfl
        exact hl ((look_iff hb hd hu).mpr ⟨p, is.btw⟩)
      rw [if_neg hl]
      rw [decide_eq_false eu]
      walk_at "ev"
      exact hnx _ _ ⟨rfl, _, _, _, _, _, rfl⟩
  · rintro ρ μ' ⟨rfl, t5, t9, t10, t11, t12, rfl⟩
    walk_at "ev"
    have hlt' : (0 - c, d).1 * (0 - a, b).2 < (0 - a, b).1 * (0 - c, d).2 := by
      dsimp only
      grind
    refine ⟨((0 - c, d), (0 - a, b)), rfl, ⟨hy.neg.isFr, hx.neg.isFr, PreS.of hy.neg hx.neg hlt'⟩, ?_⟩
    rintro _ ⟨p', q', rfl, is'⟩
    dsimp only at is'
    rw [Int.zero_sub, Int.zero_sub] at is'
    obtain ⟨e1, e2⟩ := is'.unique hd hb is.neg
    subst e1 e2
    walk_at "ev"
    simp
theorem k04_b {μ : Mu} {x y : Int × Int} (hx : Fr x) (hy : Fr y) (hle : x.1 * y.2 ≤ y.1 * x.2) (s0 s1 s2 s3 s4 s5 s8 s9 s10 s11 s12 : Option D) (hs : x = y → x.2 ≤ 60 ∧ -180 ≤ x.1 ∧ x.1 ≤ 180) :
    F_law_b [s0, s1, s2, s3, s4, s5, some (encF x), some (encF y), s8, s9, s10, s11, s12] μ { nx := fun _ _ => False, rt := fun d _ => d = .bl true } := by
  obtain ⟨a, b⟩ := x
  obtain ⟨c, d⟩ := y
  unfold F_law_b
  walk_at "ev"
  have hb : 0 < b := hx.pos
  have hd : 0 < d := hy.pos
  by_cases e : a = c ∧ b = d
  · obtain ⟨rfl, rfl⟩ := e
    obtain ⟨k1, k2, k3⟩ := hs rfl
    rw [if_pos (by simp)]
    dsimp only at k1 k2 k3
    have fr : Fr (a + b, b) := ⟨hb, by
      show Int.gcd (a + b) b = 1
      rw [Int.gcd_comm, ← Int.gcd_comm, Int.gcd_add_self_left]
      exact hx.gcd, ⟨by show -30000 ≤ a + b; omega, by show a + b ≤ 30000; omega⟩, hx.den⟩
    exact k04_c (x := (a, b)) (y := (a + b, b)) hx fr (by have := Int.mul_pos hb hb; dsimp only; grind) _ _ _ _ _ _ _ _ _ _ _
  · rw [if_neg (by simpa using e)]
    refine k04_c (x := (a, b)) (y := (c, d)) hx hy ?_ _ _ _ _ _ _ _ _ _ _ _
    dsimp only at hle ⊢
    have : a * d ≠ c * b := fun h => e (frac_eq hb hd hx.gcd hy.gcd h)
    omega
theorem k04_a {μ : Mu} {x y : Int × Int} (hx : Fr x) (hy : Fr y) (s0 s1 s2 s3 s4 s5 s8 s9 s10 s11 s12 : Option D) (hs : x.2 ≤ 60 ∧ -180 ≤ x.1 ∧ x.1 ≤ 180) :
    F_law_a [s0, s1, s2, s3, s4, s5, some (encF x), some (encF y), s8, s9, s10, s11, s12] μ { nx := fun _ _ => False, rt := fun d _ => d = .bl true } := by
  obtain ⟨a, b⟩ := x
  obtain ⟨c, d⟩ := y
  have n1 := hx.num
  have n2 := hy.num
  dsimp only at n1 n2
  unfold F_law_a
  walk_at "ev"
  refine ⟨B64.l ⟨by omega, by omega⟩, B64.l ⟨by omega, by omega⟩, ?_⟩
  by_cases h : c * b < a * d
  · rw [if_pos h]
    exact k04_b (x := (c, d)) (y := (a, b)) hy hx (by dsimp only; omega) _ _ _ _ _ _ _ _ _ _ _ fun e => by rw [e]; exact hs
  · rw [if_neg h]
    exact k04_b (x := (a, b)) (y := (c, d)) hx hy (by dsimp only; omega) _ _ _ _ _ _ _ _ _ _ _ fun _ => hs
theorem d_law (dr n : Addr) (μ : Mu) (hm : μ dr = some (.drw n)) (cl : Closed μ) : F_law (none :: some (.hdl dr) :: List.replicate (n_law.length - 2) none) μ { nx := fun _ _ => False, rt := fun d _ => d = .bl true } := by
  show F_law [none, some (.hdl dr), none, none, none, none, none, none, none, none, none, none, none] μ _
  have dok : DrOk μ dr := ⟨n, hm⟩
  unfold F_law
  walk_at "ev"
  refine pick_ok dok ⟨by simp, by simp⟩ fun w hw => ?_
  obtain ⟨wide, rfl, w1, w2⟩ : ∃ k : Int, w = .int k ∧ 3 ≤ k ∧ k ≤ 60 := by
    simp only [List.mem_cons, List.not_mem_nil, or_false] at hw
    rcases hw with rfl | rfl | rfl
    · exact ⟨3, rfl, by omega, by omega⟩
    · exact ⟨12, rfl, by omega, by omega⟩
    · exact ⟨60, rfl, by omega, by omega⟩
  walk_at "ev"
  refine fun p hp => ⟨⟨by decide, by decide⟩, ?_⟩
  have hpd : dr ≠ p := fun z => by rw [z, hp] at hm; cases hm
  have turn : ∀ (l : List D) (k : Int) (s4 s5 s6 s7 s8 s9 s10 s11 s12 : Option D) (E : DEnds), l.length ≤ 10 →
      (∀ (x : Int × Int) s5', Fr x → x.2 ≤ 60 ∧ -180 ≤ x.1 ∧ x.1 ≤ 180 → E.nx [none, some (.hdl dr), some (.int wide), some (.hdl p), s4, s5', s6, s7, s8, s9, s10, s11, s12] (put μ p (.lst (l ++ [encF x])))) →
      F_law_loop0 [none, some (.hdl dr), some (.int wide), some (.hdl p), s4, s5, s6, s7, s8, s9, s10, s11, s12] (put μ p (.lst l)) E := by
    intro l k s4 s5 s6 s7 s8 s9 s10 s11 s12 E hl hE
    have dok' : ∀ m, DrOk (put μ p m) dr := fun m => ⟨n, by rw [put_ne hpd]; exact hm⟩
    unfold F_law_loop0
    walk_at "ev"
    refine draw_ok (dok' _) ⟨by omega, by omega⟩ fun u u0 u1 => ?_
    walk_at "ev"
    refine ⟨⟨_, rfl⟩, B64.l ⟨by omega, by omega⟩, draw_ok (dok' _) ⟨by omega, by omega⟩ fun v v0 v1 => ?_⟩
    walk_at "ev"
    refine ⟨B64.l ⟨by omega, by omega⟩, (v - 3 * (1 + u), 1 + u), rfl, ⟨by dsimp only; omega, by dsimp only; omega⟩, ?_⟩
    walk_at "ev"
    refine ⟨by omega, ?_⟩
    rw [put_put]
    have hb : (0 : Int) < 1 + u := by omega
    have lf := low2_facts (a := v - 3 * (1 + u)) hb
    exact hE _ _ (Fr.of_low2 hb (by omega) (by omega) (by omega)) ⟨by omega, by omega, by omega⟩
  show forL (.name 4) F_law_loop0 _ [.int 0, .int 1] _ _
  refine forL_cons (by rfl) ?_
  refine turn [] 0 _ _ _ _ _ _ _ _ _ _ (by simp) fun x s5 hx hx' => ?_
  dsimp only
  refine forL_cons (by rfl) ?_
  refine turn [encF x] 1 _ _ _ _ _ _ _ _ _ _ (by simp) fun y s5' hy hy' => ?_
  dsimp only
  refine forL_nil ?_
  have hat : ∀ m, DrOk (put μ p m) dr := fun m => ⟨n, by rw [put_ne hpd]; exact hm⟩
  obtain ⟨a, b⟩ := x
  obtain ⟨c, d⟩ := y
  walk_at "ev"
  refine draw_ok (hat _) ⟨by omega, by omega⟩ fun v v0 v1 => ?_
  walk_at "ev"
  have hb : 0 < b := hx.pos
  dsimp only at hx'
  by_cases h : v = 0
  · rw [if_pos h]
    refine ⟨B64.l ⟨by omega, by omega⟩, B64.l ⟨by omega, by omega⟩, (_, _), rfl, ⟨?_, ?_⟩, ?_⟩
    · exact Int.mul_pos hb (by omega)
    · have := Int.mul_le_mul (show b ≤ 60 by omega) (show wide + 1 ≤ 61 by omega) (by omega) (by omega)
      dsimp only; omega
    · have e1 := Int.mul_le_mul (show b ≤ 60 by omega) (show wide + 1 ≤ 61 by omega) (by omega) (by omega)
      have e2 := Int.mul_le_mul_of_nonneg_right (show a ≤ 180 by omega) (show 0 ≤ wide + 1 by omega)
      have e3 := Int.mul_le_mul_of_nonneg_right (show -180 ≤ a by omega) (show 0 ≤ wide + 1 by omega)
      exact k04_a (x := (a, b)) hx (Fr.of_low2 (Int.mul_pos hb (by omega)) (by omega) (by omega) (by omega)) _ _ _ _ _ _ _ _ _ _ _ hx'
  · rw [if_neg h]
    exact k04_a (x := (a, b)) (y := (c, d)) hx hy _ _ _ _ _ _ _ _ _ _ _ hx'

/-! ### the text -/
def topS (i : Nat) : Stmt := PySem.Challenge.pw_pixellines_k04_whole_fractions.main.body.getD i (.Pass ⟨0, 0, 0, 0⟩)
abbrev s_is_int : Stmt := topS 4
theorem sc_is_int : FnScope n_is_int ["value", "low", "high"] (defScope s_is_int) := ⟨rfl, rfl, rfl, by decide +kernel, rfl, by decide +kernel, by decide +kernel⟩
abbrev s_common : Stmt := topS 6
theorem sc_common : FnScope n_common ["one", "other"] (defScope s_common) := ⟨rfl, rfl, rfl, by decide +kernel, rfl, by decide +kernel, by decide +kernel⟩
abbrev s_lowest : Stmt := topS 7
theorem sc_lowest : FnScope n_lowest ["top", "below"] (defScope s_lowest) := ⟨rfl, rfl, rfl, by decide +kernel, rfl, by decide +kernel, by decide +kernel⟩
abbrev s_is_fraction : Stmt := topS 8
theorem sc_is_fraction : FnScope n_is_fraction ["value"] (defScope s_is_fraction) := ⟨rfl, rfl, rfl, by decide +kernel, rfl, by decide +kernel, by decide +kernel⟩
abbrev s_check_fraction : Stmt := topS 9
theorem sc_check_fraction : FnScope n_check_fraction ["value"] (defScope s_check_fraction) := ⟨rfl, rfl, rfl, by decide +kernel, rfl, by decide +kernel, by decide +kernel⟩
abbrev s_less : Stmt := topS 10
theorem sc_less : FnScope n_less ["one", "other"] (defScope s_less) := ⟨rfl, rfl, rfl, by decide +kernel, rfl, by decide +kernel, by decide +kernel⟩
abbrev s_simplest_in : Stmt := topS 11
theorem sc_simplest_in : FnScope n_simplest_in ["low", "high"] (defScope s_simplest_in) := ⟨rfl, rfl, rfl, by decide +kernel, rfl, by decide +kernel, by decide +kernel⟩
abbrev s_simplest : Stmt := topS 12
theorem sc_simplest : FnScope n_simplest ["low", "high"] (defScope s_simplest) := ⟨rfl, rfl, rfl, by decide +kernel, rfl, by decide +kernel, by decide +kernel⟩
abbrev s__law_start : Stmt := topS 14
abbrev n__law_start : List Str := ["script"]
theorem sc__law_start : FnScope n__law_start ["script"] (defScope s__law_start) := ⟨rfl, rfl, rfl, by decide +kernel, rfl, by decide +kernel, by decide +kernel⟩
abbrev s__law_draw : Stmt := topS 15
abbrev n__law_draw : List Str := ["draws", "limit", "numbers", "at", "cell", "mixed"]
theorem sc__law_draw : FnScope n__law_draw ["draws", "limit"] (defScope s__law_draw) := ⟨rfl, rfl, rfl, by decide +kernel, rfl, by decide +kernel, by decide +kernel⟩
abbrev s__law_pick : Stmt := topS 16
theorem sc__law_pick : FnScope n__law_pick ["draws", "choices"] (defScope s__law_pick) := ⟨rfl, rfl, rfl, by decide +kernel, rfl, by decide +kernel, by decide +kernel⟩
abbrev s__law_common : Stmt := topS 17
theorem sc__law_common : FnScope n__law_common ["one", "other"] (defScope s__law_common) := ⟨rfl, rfl, rfl, by decide +kernel, rfl, by decide +kernel, by decide +kernel⟩
abbrev s__law_low : Stmt := topS 18
theorem sc__law_low : FnScope n__law_low ["top", "under"] (defScope s__law_low) := ⟨rfl, rfl, rfl, by decide +kernel, rfl, by decide +kernel, by decide +kernel⟩
abbrev s_law : Stmt := topS 19
theorem sc_law : FnScope n_law ["script"] (defScope s_law) := ⟨rfl, rfl, rfl, by decide +kernel, rfl, by decide +kernel, by decide +kernel⟩
structure Tx (mg : Str → Option Value) : Prop where
  b_abs : mg "abs" = none
  b_bool : mg "bool" = none
  b_int : mg "int" = none
  b_isinstance : mg "isinstance" = none
  b_len : mg "len" = none
  b_list : mg "list" = none
  b_max : mg "max" = none
  b_min : mg "min" = none
  b_range : mg "range" = none
  b_tuple : mg "tuple" = none
  c_MOST_LINE : ∃ t, mg "MOST_LINE" = some (.int 1000000000 t)
section
variable {P : Program} {w : World} {K : PySem.W.Frag} {mg : Str → Option Value} {base : Heap}
theorem ok_is_int {f : Addr} {fd : FuncData} {k : Nat} (Fu : Fun K "is_int" "is_int" s_is_int f fd) (hb : Binds K fd ["value", "low", "high"] []) (hg : mg "is_int" = some (.ref f)) (T : Tx mg) : Fn P w K mg base CX0 (k + 1) "is_int" ["value", "low", "high"] sp_is_int :=
  have S := sc_is_int
  fn_mk (by first | exact spF_mono | exact spR_mono | exact spX_mono | exact spG_mono) Fu hb hg S (fun ds μ P E h => by obtain ⟨x, rfl, _⟩ := h; rfl) (fun Γ cdv A outer s H E hr => have hu65 := hu65_of hr
    (psd_one (psd_ret (pd_andV (pd_isi (by rfl) T.b_isinstance (by rfl) T.b_int bt_int (pd_var 0 (pv 0))) (pd_andV (pd_notV (pd_isi (by rfl) T.b_isinstance (by rfl) T.b_bool bt_bool (pd_var 0 (pv 0)))) (pd_one (pd_chain op_le op_le fI_mono fI_mono sLe sLe (pd_var 1 (pv 1)) (pd_var 0 (pv 0)) (pd_var 2 (pv 2))))))))) d_is_int
theorem ok_common {f : Addr} {fd : FuncData} {k : Nat} (Fu : Fun K "common" "common" s_common f fd) (hb : Binds K fd ["one", "other"] []) (hg : mg "common" = some (.ref f)) (T : Tx mg) : Fn P w K mg base CX0 (k + 1) "common" ["one", "other"] sp_common :=
  have S := sc_common
  fn_mk (by first | exact spF_mono | exact spR_mono | exact spX_mono | exact spG_mono) Fu hb hg S (fun ds μ P E h => by obtain ⟨x, rfl, _⟩ := h; rfl) (fun Γ cdv A outer s H E hr => have hu65 := hu65_of hr
    (psd_cons (psd_par (i := 0) (j := 1) rfl S.nd rfl rfl (by decide) rfl rfl (pda_cons (pd_B bi_abs (by rfl) T.b_abs bt_abs (pda_cons (pd_var 0 (pv 0)) pda_nil)) (pda_cons (pd_B bi_abs (by rfl) T.b_abs bt_abs (pda_cons (pd_var 1 (pv 1)) pda_nil)) pda_nil)) (by rfl)) (psd_cons (psd_while PassesOwn.never (pdt_cp (cp_ne hr.units) (pd_var 1 (pv 1)) pd_int) (psd_one (psd_par (i := 0) (j := 1) rfl S.nd rfl rfl (by decide) rfl rfl (pda_cons (pd_var 1 (pv 1)) (pda_cons (pd_mod (pd_var 0 (pv 0)) (pd_var 1 (pv 1))) pda_nil)) (by rfl)))) (psd_one (psd_ret (pd_var 0 (pv 0))))))) d_common
theorem ok_lowest {f : Addr} {fd : FuncData} {k : Nat} (Fu : Fun K "lowest" "lowest" s_lowest f fd) (hb : Binds K fd ["top", "below"] []) (hg : mg "lowest" = some (.ref f)) (T : Tx mg) (h_common : Fn P w K mg base CX0 k "common" ["one", "other"] sp_common) : Fn P w K mg base CX0 (k + 1) "lowest" ["top", "below"] sp_lowest :=
  have S := sc_lowest
  fn_mk (by first | exact spF_mono | exact spR_mono | exact spX_mono | exact spG_mono) Fu hb hg S (fun ds μ P E h => by obtain ⟨x, rfl, _⟩ := h; rfl) (fun Γ cdv A outer s H E hr => have hu65 := hu65_of hr
    (psd_cons (psd_set (i := 2) S.nd rfl (by first | exact Or.inl rfl | exact Or.inr rfl) (pd_call h_common hr (by rfl) (pda_cons (pd_var 0 (pv 0)) (pda_cons (pd_var 1 (pv 1)) pda_nil)))) (psd_one (psd_ret (pd_tup (pda_cons (pd_div (pd_var 0 (pv 0)) (pd_var 2 (pv 2))) (pda_cons (pd_div (pd_var 1 (pv 1)) (pd_var 2 (pv 2))) pda_nil))))))) d_lowest
theorem ok_is_fraction {f : Addr} {fd : FuncData} {k : Nat} (Fu : Fun K "is_fraction" "is_fraction" s_is_fraction f fd) (hb : Binds K fd ["value"] []) (hg : mg "is_fraction" = some (.ref f)) (T : Tx mg) (h_is_int : Fn P w K mg base CX0 k "is_int" ["value", "low", "high"] sp_is_int) (h_common : Fn P w K mg base CX0 k "common" ["one", "other"] sp_common) : Fn P w K mg base CX0 (k + 1) "is_fraction" ["value"] sp_is_fraction :=
  have S := sc_is_fraction
  fn_mk (by first | exact spF_mono | exact spR_mono | exact spX_mono | exact spG_mono) Fu hb hg S (fun ds μ P E h => by obtain ⟨x, rfl, _⟩ := h; rfl) (fun Γ cdv A outer s H E hr => have hu65 := hu65_of hr
    (psd_cons (psd_if (PDW.pdt (pdw_or (pdt_not (pdt_val (pd_isi (by rfl) T.b_isinstance (by rfl) T.b_tuple bt_tuple (pd_var 0 (pv 0))))) (pdw_or (pdt_cp (cp_ne hr.units) (pd_B bi_len (by rfl) T.b_len PySem.boot_len (pda_cons (pd_var 0 (pv 0)) pda_nil)) pd_int) (pdw_or1 (pdt_not (pdt_val (pd_call h_is_int hr (by rfl) (pda_cons (pd_ix (pd_var 0 (pv 0)) pd_int) (pda_cons (pd_neg (pd_globI (by rfl) T.c_MOST_LINE)) (pda_cons (pd_globI (by rfl) T.c_MOST_LINE) pda_nil)))))))))) (psd_one (psd_ret pd_bl)) psd_nil) (psd_one (psd_ret (pd_andV (pd_call h_is_int hr (by rfl) (pda_cons (pd_ix (pd_var 0 (pv 0)) pd_int) (pda_cons pd_int (pda_cons (pd_globI (by rfl) T.c_MOST_LINE) pda_nil)))) (pd_one (pd_cp (cp_eq hr.units) (pd_call h_common hr (by rfl) (pda_cons (pd_ix (pd_var 0 (pv 0)) pd_int) (pda_cons (pd_ix (pd_var 0 (pv 0)) pd_int) pda_nil))) pd_int))))))) d_is_fraction
theorem ok_check_fraction {f : Addr} {fd : FuncData} {k : Nat} (Fu : Fun K "check_fraction" "check_fraction" s_check_fraction f fd) (hb : Binds K fd ["value"] []) (hg : mg "check_fraction" = some (.ref f)) (T : Tx mg) (h_is_fraction : Fn P w K mg base CX0 k "is_fraction" ["value"] sp_is_fraction) : Fn P w K mg base CX0 (k + 1) "check_fraction" ["value"] sp_check_fraction :=
  have S := sc_check_fraction
  fn_mk (by first | exact spF_mono | exact spR_mono | exact spX_mono | exact spG_mono) Fu hb hg S (fun ds μ P E h => by obtain ⟨x, rfl, _⟩ := h; rfl) (fun Γ cdv A outer s H E hr => have hu65 := hu65_of hr
    (psd_one (psd_if (pdt_not (pdt_val (pd_call h_is_fraction hr (by rfl) (pda_cons (pd_var 0 (pv 0)) pda_nil)))) (psd_one psd_never) psd_nil))) d_check_fraction
theorem ok_less {f : Addr} {fd : FuncData} {k : Nat} (Fu : Fun K "less" "less" s_less f fd) (hb : Binds K fd ["one", "other"] []) (hg : mg "less" = some (.ref f)) (T : Tx mg) : Fn P w K mg base CX0 (k + 1) "less" ["one", "other"] sp_less :=
  have S := sc_less
  fn_mk (by first | exact spF_mono | exact spR_mono | exact spX_mono | exact spG_mono) Fu hb hg S (fun ds μ P E h => by obtain ⟨x, rfl, _⟩ := h; rfl) (fun Γ cdv A outer s H E hr => have hu65 := hu65_of hr
    (psd_one (psd_ret (pd_cp cp_lt (pd_mul (pd_ix (pd_var 0 (pv 0)) pd_int) (pd_ix (pd_var 1 (pv 1)) pd_int)) (pd_mul (pd_ix (pd_var 1 (pv 1)) pd_int) (pd_ix (pd_var 0 (pv 0)) pd_int)))))) d_less
theorem ok_simplest_in_m {f : Addr} {fd : FuncData} {k : Nat} (Fu : Fun K "simplest_in" "simplest_in" s_simplest_in f fd) (hb : Binds K fd ["low", "high"] []) (hg : mg "simplest_in" = some (.ref f)) (T : Tx mg) (h_lowest : Fn P w K mg base CX0 k "lowest" ["top", "below"] sp_lowest) : ∀ m, Fn P w K mg base CX0 (k + m) "simplest_in" ["low", "high"] (sp_simplest_in m)
  | 0 => (fn_void Fu hb hg (by first | exact spF_mono | exact spR_mono | exact spX_mono | exact spG_mono) (by rintro ds μ P E ⟨x, rfl, ⟨_, h⟩, _⟩; exact h)).up (Nat.zero_le _)
  | m + 1 =>
    have h_lowest0 := h_lowest
    have h_lowest := h_lowest.up (Nat.le_add_right k m)
    have h_simplest_in := ok_simplest_in_m Fu hb hg T h_lowest0 m
    have S := sc_simplest_in
    fn_mk (k := k + m) (by first | exact spF_mono | exact spR_mono | exact spX_mono | exact spG_mono) Fu hb hg S (fun ds μ P E h => by obtain ⟨x, rfl, _⟩ := h; rfl) (fun Γ cdv A outer s H E hr => have hu65 := hu65_of hr
      (psd_cons (psd_set (i := 2) S.nd rfl (by first | exact Or.inl rfl | exact Or.inr rfl) (pd_add (pd_div (pd_ix (pd_var 0 (pv 0)) pd_int) (pd_ix (pd_var 0 (pv 0)) pd_int)) pd_int)) (psd_cons (psd_if (pdt_cp cp_lt (pd_mul (pd_var 2 (pv 2)) (pd_ix (pd_var 1 (pv 1)) pd_int)) (pd_ix (pd_var 1 (pv 1)) pd_int)) (psd_cons (psd_if (pdt_chain op_lt op_lt fI_mono fI_mono sLt sLt (pd_ix (pd_var 0 (pv 0)) pd_int) pd_int (pd_ix (pd_var 1 (pv 1)) pd_int)) (psd_one (psd_ret (pd_tup (pda_cons pd_int (pda_cons pd_int pda_nil))))) psd_nil) (psd_cons (psd_set (i := 3) S.nd rfl (by first | exact Or.inl rfl | exact Or.inr rfl) (pd_sub (pd_neg (pd_div (pd_neg (pd_ix (pd_var 1 (pv 1)) pd_int)) (pd_ix (pd_var 1 (pv 1)) pd_int))) pd_int)) (psd_one (psd_ret (pd_ifE (pdt_cp cp_ge (pd_ix (pd_var 0 (pv 0)) pd_int) pd_int) (pd_tup (pda_cons (pd_var 2 (pv 2)) (pda_cons pd_int pda_nil))) (pd_tup (pda_cons (pd_var 3 (pv 3)) (pda_cons pd_int pda_nil)))))))) psd_nil) (psd_cons (psd_set (i := 4) S.nd rfl (by first | exact Or.inl rfl | exact Or.inr rfl) (pd_sub (pd_var 2 (pv 2)) pd_int)) (psd_cons (psd_set (i := 5) S.nd rfl (by first | exact Or.inl rfl | exact Or.inr rfl) (pd_tup (pda_cons (pd_sub (pd_ix (pd_var 0 (pv 0)) pd_int) (pd_mul (pd_var 4 (pv 4)) (pd_ix (pd_var 0 (pv 0)) pd_int))) (pda_cons (pd_ix (pd_var 0 (pv 0)) pd_int) pda_nil)))) (psd_cons (psd_set (i := 6) S.nd rfl (by first | exact Or.inl rfl | exact Or.inr rfl) (pd_tup (pda_cons (pd_sub (pd_ix (pd_var 1 (pv 1)) pd_int) (pd_mul (pd_var 4 (pv 4)) (pd_ix (pd_var 1 (pv 1)) pd_int))) (pda_cons (pd_ix (pd_var 1 (pv 1)) pd_int) pda_nil)))) (psd_cons (psd_if (pdt_cp (cp_eq hr.units) (pd_ix (pd_var 5 (pv 5)) pd_int) pd_int) (psd_cons (psd_set (i := 7) S.nd rfl (by first | exact Or.inl rfl | exact Or.inr rfl) (pd_add (pd_div (pd_ix (pd_var 6 (pv 6)) pd_int) (pd_ix (pd_var 6 (pv 6)) pd_int)) pd_int)) (psd_one (psd_ret (pd_call h_lowest hr (by rfl) (pda_cons (pd_add (pd_mul (pd_var 4 (pv 4)) (pd_var 7 (pv 7))) pd_int) (pda_cons (pd_var 7 (pv 7)) pda_nil)))))) psd_nil) (psd_cons (psd_set (i := 8) S.nd rfl (by first | exact Or.inl rfl | exact Or.inr rfl) (pd_call h_simplest_in hr (by rfl) (pda_cons (pd_tup (pda_cons (pd_ix (pd_var 6 (pv 6)) pd_int) (pda_cons (pd_ix (pd_var 6 (pv 6)) pd_int) pda_nil))) (pda_cons (pd_tup (pda_cons (pd_ix (pd_var 5 (pv 5)) pd_int) (pda_cons (pd_ix (pd_var 5 (pv 5)) pd_int) pda_nil))) pda_nil)))) (psd_one (psd_ret (pd_call h_lowest hr (by rfl) (pda_cons (pd_add (pd_mul (pd_var 4 (pv 4)) (pd_ix (pd_var 8 (pv 8)) pd_int)) (pd_ix (pd_var 8 (pv 8)) pd_int)) (pda_cons (pd_ix (pd_var 8 (pv 8)) pd_int) pda_nil))))))))))))) (d_simplest_in m)
theorem ok_simplest_in {f : Addr} {fd : FuncData} {k : Nat} (Fu : Fun K "simplest_in" "simplest_in" s_simplest_in f fd) (hb : Binds K fd ["low", "high"] []) (hg : mg "simplest_in" = some (.ref f)) (T : Tx mg) (h_lowest : Fn P w K mg base CX0 k "lowest" ["top", "below"] sp_lowest) : Fn P w K mg base CX0 (k + 56) "simplest_in" ["low", "high"] sp_simplest_all :=
  (ok_simplest_in_m Fu hb hg T h_lowest 56).imp (by first | exact spF_mono | exact spR_mono | exact spX_mono | exact spG_mono) fun h => simplest_all_of h
theorem ok_simplest {f : Addr} {fd : FuncData} {k : Nat} (Fu : Fun K "simplest" "simplest" s_simplest f fd) (hb : Binds K fd ["low", "high"] []) (hg : mg "simplest" = some (.ref f)) (T : Tx mg) (h_check_fraction : Fn P w K mg base CX0 k "check_fraction" ["value"] sp_check_fraction) (h_less : Fn P w K mg base CX0 k "less" ["one", "other"] sp_less) (h_simplest_in : Fn P w K mg base CX0 k "simplest_in" ["low", "high"] sp_simplest_all) : Fn P w K mg base CX0 (k + 1) "simplest" ["low", "high"] sp_simplest :=
  have S := sc_simplest
  fn_mk (by first | exact spF_mono | exact spR_mono | exact spX_mono | exact spG_mono) Fu hb hg S (fun ds μ P E h => by obtain ⟨x, rfl, _⟩ := h; rfl) (fun Γ cdv A outer s H E hr => have hu65 := hu65_of hr
    (psd_cons (psd_expr (pd_call h_check_fraction hr (by rfl) (pda_cons (pd_var 0 (pv 0)) pda_nil))) (psd_cons (psd_expr (pd_call h_check_fraction hr (by rfl) (pda_cons (pd_var 1 (pv 1)) pda_nil))) (psd_cons (psd_if (pdt_not (pdt_val (pd_call h_less hr (by rfl) (pda_cons (pd_var 0 (pv 0)) (pda_cons (pd_var 1 (pv 1)) pda_nil))))) (psd_one psd_never) psd_nil) (psd_one (psd_ret (pd_call h_simplest_in hr (by rfl) (pda_cons (pd_var 0 (pv 0)) (pda_cons (pd_var 1 (pv 1)) pda_nil))))))))) d_simplest
theorem ok__law_start {f : Addr} {fd : FuncData} {k : Nat} (Fu : Fun K "_law_start" "_law_start" s__law_start f fd) (T : Tx mg) : FnOk P w K mg base CX0 (k + 1) f fd ["script"] (spStart K) :=
  have S := sc__law_start
  ok_start Fu S (fun cdv A outer s H E hr => pss_one (ps_ret (pe_lst (pa_cons (pe_ifExp (pt_cmpR (op_neD hr.units) (pv 0) (pe_lst pa_nil) (nomark _)) (pe_callTy call_list_of (by rfl) T.b_list bt_list (pa_cons (pv 0) pa_nil)) (pe_lst (pa_cons pe_int pa_nil))) (pa_cons pe_int pa_nil)))))
theorem ok__law_draw {f : Addr} {fd : FuncData} {k : Nat} (Fu : Fun K "_law_draw" "_law_draw" s__law_draw f fd) (hb : Binds K fd ["draws", "limit"] []) (hg : mg "_law_draw" = some (.ref f)) (T : Tx mg) : Fn P w K mg base CX0 (k + 1) "_law_draw" ["draws", "limit"] sp__law_draw :=
  have S := sc__law_draw
  ok_draw Fu hb hg S T.b_len (fun cdv A outer s H E => pss_cons (ps_set (i := 2) S.nd rfl (.inl rfl) (pe_ix ix_list (pv 0) pe_int (fun _ _ => rfl)))
    (pss_cons (ps_asg (pe_op op_add (pe_ix ix_list (pv 0) pe_int (fun _ _ => rfl)) pe_int) (pg_sub (pv 0) pe_int set_list))
    (pss_cons (ps_set (i := 3) S.nd rfl (.inl rfl) (pe_op op_mod (pe_ix ix_list (pv 0) pe_int (fun _ _ => rfl)) (pe_callB call_len_seq (by rfl) T.b_len PySem.boot_len (pa_cons (pv 2) pa_nil))))
    (pss_cons (ps_set (i := 4) S.nd rfl (.inl rfl) (pe_ix ix_list (pv 2) (pv 3) (fun _ _ => rfl)))
    (pss_cons (ps_if (pt_cmpR op_ge (pv 4) pe_int (nomark _)) (pss_cons (ps_asg (pe_op op_fdiv (pv 4) (pv 1)) (pg_sub (pv 2) (pv 3) set_list)) (pss_one (ps_ret (pe_op op_mod (pv 4) (pv 1))))) pss_nil)
    (pss_cons (ps_set (i := 5) S.nd rfl (.inl rfl) (pe_op op_mod (pe_op op_add (pv 4) (pe_op op_mul pe_int (pe_ix ix_list (pv 0) pe_int (fun _ _ => rfl)))) pe_int))
    (pss_cons (ps_set (i := 5) S.nd rfl (.inl rfl) (pe_op op_mod (pe_op op_pow (pv 5) pe_int) pe_int))
    (pss_one (ps_ret (pe_op op_mod (pe_op op_fdiv (pe_op op_mod (pe_op op_add (pe_op op_mul (pe_op op_fdiv (pv 5) pe_int) pe_int) (pv 5)) pe_int) pe_int) (pv 1)))))))))))
theorem ok__law_pick {f : Addr} {fd : FuncData} {k : Nat} (Fu : Fun K "_law_pick" "_law_pick" s__law_pick f fd) (hb : Binds K fd ["draws", "choices"] []) (hg : mg "_law_pick" = some (.ref f)) (T : Tx mg) (h__law_draw : Fn P w K mg base CX0 k "_law_draw" ["draws", "limit"] sp__law_draw) : Fn P w K mg base CX0 (k + 1) "_law_pick" ["draws", "choices"] sp__law_pick :=
  have S := sc__law_pick
  fn_mk (by first | exact spF_mono | exact spR_mono | exact spX_mono | exact spG_mono) Fu hb hg S (fun ds μ P E h => by obtain ⟨x, rfl, _⟩ := h; rfl) (fun Γ cdv A outer s H E hr => have hu65 := hu65_of hr
    (psd_one (psd_ret (pd_ix (pd_var 1 (pv 1)) (pd_call h__law_draw hr (by rfl) (pda_cons (pd_var 0 (pv 0)) (pda_cons (pd_B bi_len (by rfl) T.b_len PySem.boot_len (pda_cons (pd_var 1 (pv 1)) pda_nil)) pda_nil))))))) d__law_pick
theorem ok__law_common {f : Addr} {fd : FuncData} {k : Nat} (Fu : Fun K "_law_common" "_law_common" s__law_common f fd) (hb : Binds K fd ["one", "other"] []) (hg : mg "_law_common" = some (.ref f)) (T : Tx mg) : Fn P w K mg base CX0 (k + 1) "_law_common" ["one", "other"] sp__law_common :=
  have S := sc__law_common
  fn_mk (by first | exact spF_mono | exact spR_mono | exact spX_mono | exact spG_mono) Fu hb hg S (fun ds μ P E h => by obtain ⟨x, rfl, _⟩ := h; rfl) (fun Γ cdv A outer s H E hr => have hu65 := hu65_of hr
    (psd_cons (psd_while PassesOwn.never (pdt_cp (cp_ne hr.units) (pd_var 1 (pv 1)) pd_int) (psd_one (psd_par (i := 0) (j := 1) rfl S.nd rfl rfl (by decide) rfl rfl (pda_cons (pd_var 1 (pv 1)) (pda_cons (pd_mod (pd_var 0 (pv 0)) (pd_var 1 (pv 1))) pda_nil)) (by rfl)))) (psd_one (psd_ret (pd_var 0 (pv 0)))))) d__law_common
theorem ok__law_low {f : Addr} {fd : FuncData} {k : Nat} (Fu : Fun K "_law_low" "_law_low" s__law_low f fd) (hb : Binds K fd ["top", "under"] []) (hg : mg "_law_low" = some (.ref f)) (T : Tx mg) (h__law_common : Fn P w K mg base CX0 k "_law_common" ["one", "other"] sp__law_common) : Fn P w K mg base CX0 (k + 1) "_law_low" ["top", "under"] sp__law_low :=
  have S := sc__law_low
  fn_mk (by first | exact spF_mono | exact spR_mono | exact spX_mono | exact spG_mono) Fu hb hg S (fun ds μ P E h => by obtain ⟨x, rfl, _⟩ := h; rfl) (fun Γ cdv A outer s H E hr => have hu65 := hu65_of hr
    (psd_cons (psd_set (i := 2) S.nd rfl (by first | exact Or.inl rfl | exact Or.inr rfl) (pd_call h__law_common hr (by rfl) (pda_cons (pd_B bi_abs (by rfl) T.b_abs bt_abs (pda_cons (pd_var 0 (pv 0)) pda_nil)) (pda_cons (pd_var 1 (pv 1)) pda_nil)))) (psd_one (psd_ret (pd_tup (pda_cons (pd_div (pd_var 0 (pv 0)) (pd_var 2 (pv 2))) (pda_cons (pd_div (pd_var 1 (pv 1)) (pd_var 2 (pv 2))) pda_nil))))))) d__law_low
theorem ok_law {f fS : Addr} {fd fdS : FuncData} {k : Nat} (Fu : Fun K "law" "law" s_law f fd) (T : Tx mg) (gS : mg "_law_start" = some (.ref fS)) (kS : PySem.W.keepIn K (.ref fS) = true) (bS : Binds K fdS ["script"] []) (GS : FnOk P w K mg base CX0 k fS fdS ["script"] (spStart K)) (h_is_fraction : Fn P w K mg base CX0 k "is_fraction" ["value"] sp_is_fraction) (h_simplest : Fn P w K mg base CX0 k "simplest" ["low", "high"] sp_simplest) (h__law_draw : Fn P w K mg base CX0 k "_law_draw" ["draws", "limit"] sp__law_draw) (h__law_pick : Fn P w K mg base CX0 k "_law_pick" ["draws", "choices"] sp__law_pick) (h__law_low : Fn P w K mg base CX0 k "_law_low" ["top", "under"] sp__law_low) : FnOk P w K mg base CX0 (k + 1) f fd ["script"] (spLawK K) :=
  have S := sc_law
  ok_lawBody (N := n_law) Fu S (by decide) rfl (fun cdv A outer s H E hr => ps_set (i := 1) S.nd rfl (by first | exact Or.inl rfl | exact Or.inr rfl) (pe_call GS hr (by rfl) gS kS bS .nil pass0 (pa_cons (pv 0) pa_nil))) (fun Γ cdv A outer s H E hr => have hu65 := hu65_of hr
    (psd_cons (psd_set (i := 2) S.nd rfl (by first | exact Or.inl rfl | exact Or.inr rfl) (pd_call h__law_pick hr (by rfl) (pda_cons (pd_var 1 (pv 1)) (pda_cons (pd_lst (pda_cons pd_int (pda_cons pd_int (pda_cons pd_int pda_nil)))) pda_nil)))) (psd_cons (psd_ownL (i := 3) S.nd rfl (by first | exact Or.inl rfl | exact Or.inr rfl) pda_nil) (psd_cons (psd_for (t := (.name 4)) PassesOwn.never rfl (pdi_range1 (by rfl) T.b_range (pda_cons pd_int pda_nil)) (pg_name (i := 4) S.nd rfl (by first | exact Or.inl rfl | exact Or.inr rfl)) (psd_cons (psd_set (i := 5) S.nd rfl (by first | exact Or.inl rfl | exact Or.inr rfl) (pd_add pd_int (pd_call h__law_draw hr (by rfl) (pda_cons (pd_var 1 (pv 1)) (pda_cons (pd_var 2 (pv 2)) pda_nil))))) (psd_one (let ha := (pda_cons (pd_call h__law_low hr (by rfl) (pda_cons (pd_sub (pd_call h__law_draw hr (by rfl) (pda_cons (pd_var 1 (pv 1)) (pda_cons (pd_add (pd_mul pd_int (pd_var 5 (pv 5))) pd_int) pda_nil))) (pd_mul pd_int (pd_var 5 (pv 5)))) (pda_cons (pd_var 5 (pv 5)) pda_nil))) pda_nil); psd_app (i := 3) (pv 3) ha (pe_bm PySem.F.plainAttrs_list PySem.F.slot_list_append PySem.F.type_list_append mt_append (pv 3) ha.pa))))) (psd_cons (psd_par (i := 6) (j := 7) rfl S.nd rfl rfl (by decide) rfl rfl (pda_cons (pd_ixH (pd_var 3 (pv 3)) pd_int) (pda_cons (pd_ixH (pd_var 3 (pv 3)) pd_int) pda_nil)) (by rfl)) (psd_cons (psd_if (pdt_cp (cp_eq hr.units) (pd_call h__law_draw hr (by rfl) (pda_cons (pd_var 1 (pv 1)) (pda_cons pd_int pda_nil))) pd_int) (psd_one (psd_set (i := 7) S.nd rfl (by first | exact Or.inl rfl | exact Or.inr rfl) (pd_call h__law_low hr (by rfl) (pda_cons (pd_add (pd_mul (pd_ix (pd_var 6 (pv 6)) pd_int) (pd_add (pd_var 2 (pv 2)) pd_int)) pd_int) (pda_cons (pd_mul (pd_ix (pd_var 6 (pv 6)) pd_int) (pd_add (pd_var 2 (pv 2)) pd_int)) pda_nil))))) psd_nil) (psd_cons (psd_if (pdt_cp cp_gt (pd_mul (pd_ix (pd_var 6 (pv 6)) pd_int) (pd_ix (pd_var 7 (pv 7)) pd_int)) (pd_mul (pd_ix (pd_var 7 (pv 7)) pd_int) (pd_ix (pd_var 6 (pv 6)) pd_int))) (psd_one (psd_par (i := 6) (j := 7) rfl S.nd rfl rfl (by decide) rfl rfl (pda_cons (pd_var 7 (pv 7)) (pda_cons (pd_var 6 (pv 6)) pda_nil)) (by rfl))) psd_nil) (psd_cons (psd_if (pdt_cp (cp_eq hr.units) (pd_var 6 (pv 6)) (pd_var 7 (pv 7))) (psd_one (psd_set (i := 7) S.nd rfl (by first | exact Or.inl rfl | exact Or.inr rfl) (pd_tup (pda_cons (pd_add (pd_ix (pd_var 6 (pv 6)) pd_int) (pd_ix (pd_var 6 (pv 6)) pd_int)) (pda_cons (pd_ix (pd_var 6 (pv 6)) pd_int) pda_nil))))) psd_nil) (psd_cons (psd_set (i := 8) S.nd rfl (by first | exact Or.inl rfl | exact Or.inr rfl) (pd_call h_simplest hr (by rfl) (pda_cons (pd_var 6 (pv 6)) (pda_cons (pd_var 7 (pv 7)) pda_nil)))) (psd_cons (psd_if (PDW.pdt (pdw_or (pdt_cp cp_notB (pd_call h_is_fraction hr (by rfl) (pda_cons (pd_var 8 (pv 8)) pda_nil)) pd_bl) (pdw_or1 (pdt_cp cp_notB (pd_call h_is_fraction hr (by rfl) (pda_cons (pd_var 6 (pv 6)) pda_nil)) pd_bl)))) (psd_one (psd_ret pd_bl)) psd_nil) (psd_cons (psd_if (PDW.pdt (pdw_or (pdt_not (pdt_cp cp_lt (pd_mul (pd_ix (pd_var 6 (pv 6)) pd_int) (pd_ix (pd_var 8 (pv 8)) pd_int)) (pd_mul (pd_ix (pd_var 8 (pv 8)) pd_int) (pd_ix (pd_var 6 (pv 6)) pd_int)))) (pdw_or1 (pdt_not (pdt_cp cp_lt (pd_mul (pd_ix (pd_var 8 (pv 8)) pd_int) (pd_ix (pd_var 7 (pv 7)) pd_int)) (pd_mul (pd_ix (pd_var 7 (pv 7)) pd_int) (pd_ix (pd_var 8 (pv 8)) pd_int))))))) (psd_one (psd_ret pd_bl)) psd_nil) (psd_cons (psd_for (t := (.name 5)) PassesOwn.never rfl (pdi_range2 (by rfl) T.b_range (pda_cons pd_int (pda_cons (pd_add (pd_B (bi_min2 rfl) (by rfl) T.b_min bt_min (pda_cons (pd_ix (pd_var 8 (pv 8)) pd_int) (pda_cons pd_int pda_nil))) pd_int) pda_nil))) (pg_name (i := 5) S.nd rfl (by first | exact Or.inl rfl | exact Or.inr rfl)) (psd_cons (psd_set (i := 9) S.nd rfl (by first | exact Or.inl rfl | exact Or.inr rfl) (pd_add (pd_div (pd_mul (pd_ix (pd_var 6 (pv 6)) pd_int) (pd_var 5 (pv 5))) (pd_ix (pd_var 6 (pv 6)) pd_int)) pd_int)) (psd_cons (psd_set (i := 10) S.nd rfl (by first | exact Or.inl rfl | exact Or.inr rfl) (pd_lst pda_nil)) (psd_cons (psd_if (pdt_cp cp_lt (pd_mul (pd_var 9 (pv 9)) (pd_ix (pd_var 7 (pv 7)) pd_int)) (pd_mul (pd_ix (pd_var 7 (pv 7)) pd_int) (pd_var 5 (pv 5)))) (psd_cons (psd_set (i := 11) S.nd rfl (by first | exact Or.inl rfl | exact Or.inr rfl) (pd_sub (pd_sub pd_int (pd_div (pd_sub pd_int (pd_mul (pd_ix (pd_var 7 (pv 7)) pd_int) (pd_var 5 (pv 5)))) (pd_ix (pd_var 7 (pv 7)) pd_int))) pd_int)) (psd_one (psd_set (i := 10) S.nd rfl (by first | exact Or.inl rfl | exact Or.inr rfl) (pd_lst (pda_cons (pd_var 9 (pv 9)) (pda_cons (pd_var 11 (pv 11)) (pda_cons (pd_B (bi_min2 rfl) (by rfl) T.b_min bt_min (pda_cons (pd_B (bi_max2 rfl) (by rfl) T.b_max bt_max (pda_cons pd_int (pda_cons (pd_var 9 (pv 9)) pda_nil))) (pda_cons (pd_var 11 (pv 11)) pda_nil))) pda_nil))))))) psd_nil) (psd_cons (psd_if (pdt_cp (cp_ne hr.units) (pd_cp (cp_ne hr.units) (pd_var 10 (pv 10)) (pd_lst pda_nil)) (pd_cp (cp_eq hr.units) (pd_var 5 (pv 5)) (pd_ix (pd_var 8 (pv 8)) pd_int))) (psd_one (psd_ret pd_bl)) psd_nil) (psd_one (psd_if (PDW.pdt (pdw_and (pdt_cp (cp_ne hr.units) (pd_var 10 (pv 10)) (pd_lst pda_nil)) (pdw_and1 (pdt_cp (cp_ne hr.units) (pd_B bi_abs (by rfl) T.b_abs bt_abs (pda_cons (pd_ix (pd_var 8 (pv 8)) pd_int) pda_nil)) (pd_B (bi_minL rfl) (by rfl) T.b_min bt_min (pda_cons (pd_lc rfl S.nd (t := (.name 12)) (own := [("top", 12)]) (pdi_list (pd_var 10 (pv 10))) (blkOk_by (own := [("top", 12)]) (N := n_law) (sc := defScope s_law) (by decide +kernel)) (by decide) (fun _ _ _ _ _ => (pg_name (i := 12) S.nd rfl (by first | exact Or.inl rfl | exact Or.inr rfl))) (fun _ _ _ _ _ => pdts_nil) (fun _ _ _ _ _ => (pd_B bi_abs (by rfl) T.b_abs bt_abs (pda_cons (pd_var 12 (pv 12)) pda_nil))) s H) pda_nil)))))) (psd_one (psd_ret pd_bl)) psd_nil))))))) (psd_one (psd_ret (pd_cp (cp_eq hr.units) (pd_call h_simplest hr (by rfl) (pda_cons (pd_tup (pda_cons (pd_sub pd_int (pd_ix (pd_var 7 (pv 7)) pd_int)) (pda_cons (pd_ix (pd_var 7 (pv 7)) pd_int) pda_nil))) (pda_cons (pd_tup (pda_cons (pd_sub pd_int (pd_ix (pd_var 6 (pv 6)) pd_int)) (pda_cons (pd_ix (pd_var 6 (pv 6)) pd_int) pda_nil))) pda_nil))) (pd_tup (pda_cons (pd_sub pd_int (pd_ix (pd_var 8 (pv 8)) pd_int)) (pda_cons (pd_ix (pd_var 8 (pv 8)) pd_int) pda_nil)))))))))))))))))) d_law
end
theorem all_mk {l : PySem.W.OpenLaw} {w : World} {K : PySem.W.Frag} {h : Heap} {mg : Str → Option Value} {fa f0 f1 f2 f3 f4 f5 f6 f7 f8 f9 f10 f11 f12 f13 : Addr} (X : K.In h) (G : h.Ns mainGlobals mg) (hfa : mg "law" = some (.ref fa))
    {od0 an0 od1 an1 od2 an2 od3 an3 od4 an4 od5 an5 od6 an6 od7 an7 od8 an8 od9 an9 od10 an10 od11 an11 od12 an12 od13 an13 : Option Addr} {sl0 sl1 sl2 sl3 sl4 sl5 sl6 sl7 sl8 sl9 sl10 sl11 sl12 sl13 : Array (Option Value)} {oc0 kV0 dc0 pm0 cd0 ct0 oc1 kV1 dc1 pm1 cd1 ct1 oc2 kV2 dc2 pm2 cd2 ct2 oc3 kV3 dc3 pm3 cd3 ct3 oc4 kV4 dc4 pm4 cd4 ct4 oc5 kV5 dc5 pm5 cd5 ct5 oc6 kV6 dc6 pm6 cd6 ct6 oc7 kV7 dc7 pm7 cd7 ct7 oc8 kV8 dc8 pm8 cd8 ct8 oc9 kV9 dc9 pm9 cd9 ct9 oc10 kV10 dc10 pm10 cd10 ct10 oc11 kV11 dc11 pm11 cd11 ct11 oc12 kV12 dc12 pm12 cd12 ct12 oc13 kV13 dc13 pm13 cd13 ct13 : Value}
    {tk0 : Tok}
    (a0 : PySem.W.nsIn K mainGlobals "is_int" = some (some (.ref f0))) (l0 : K.lookup f0 = some ⟨oc0, od0, .func (PySem.W.fnOf "is_int" "is_int" (defArgs s_is_int) (defBody s_is_int) (defScope s_is_int) .none kV0 dc0 pm0 an0 cd0 ct0), sl0⟩) (c0 : PySem.W.codeIn K cd0 "is_int" = true) (k0 : PySem.W.keepIn K (.ref f0) = true)
    (a1 : PySem.W.nsIn K mainGlobals "common" = some (some (.ref f1))) (l1 : K.lookup f1 = some ⟨oc1, od1, .func (PySem.W.fnOf "common" "common" (defArgs s_common) (defBody s_common) (defScope s_common) .none kV1 dc1 pm1 an1 cd1 ct1), sl1⟩) (c1 : PySem.W.codeIn K cd1 "common" = true) (k1 : PySem.W.keepIn K (.ref f1) = true)
    (a2 : PySem.W.nsIn K mainGlobals "lowest" = some (some (.ref f2))) (l2 : K.lookup f2 = some ⟨oc2, od2, .func (PySem.W.fnOf "lowest" "lowest" (defArgs s_lowest) (defBody s_lowest) (defScope s_lowest) .none kV2 dc2 pm2 an2 cd2 ct2), sl2⟩) (c2 : PySem.W.codeIn K cd2 "lowest" = true) (k2 : PySem.W.keepIn K (.ref f2) = true)
    (a3 : PySem.W.nsIn K mainGlobals "is_fraction" = some (some (.ref f3))) (l3 : K.lookup f3 = some ⟨oc3, od3, .func (PySem.W.fnOf "is_fraction" "is_fraction" (defArgs s_is_fraction) (defBody s_is_fraction) (defScope s_is_fraction) .none kV3 dc3 pm3 an3 cd3 ct3), sl3⟩) (c3 : PySem.W.codeIn K cd3 "is_fraction" = true) (k3 : PySem.W.keepIn K (.ref f3) = true)
    (a4 : PySem.W.nsIn K mainGlobals "check_fraction" = some (some (.ref f4))) (l4 : K.lookup f4 = some ⟨oc4, od4, .func (PySem.W.fnOf "check_fraction" "check_fraction" (defArgs s_check_fraction) (defBody s_check_fraction) (defScope s_check_fraction) .none kV4 dc4 pm4 an4 cd4 ct4), sl4⟩) (c4 : PySem.W.codeIn K cd4 "check_fraction" = true) (k4 : PySem.W.keepIn K (.ref f4) = true)
    (a5 : PySem.W.nsIn K mainGlobals "less" = some (some (.ref f5))) (l5 : K.lookup f5 = some ⟨oc5, od5, .func (PySem.W.fnOf "less" "less" (defArgs s_less) (defBody s_less) (defScope s_less) .none kV5 dc5 pm5 an5 cd5 ct5), sl5⟩) (c5 : PySem.W.codeIn K cd5 "less" = true) (k5 : PySem.W.keepIn K (.ref f5) = true)
    (a6 : PySem.W.nsIn K mainGlobals "simplest_in" = some (some (.ref f6))) (l6 : K.lookup f6 = some ⟨oc6, od6, .func (PySem.W.fnOf "simplest_in" "simplest_in" (defArgs s_simplest_in) (defBody s_simplest_in) (defScope s_simplest_in) .none kV6 dc6 pm6 an6 cd6 ct6), sl6⟩) (c6 : PySem.W.codeIn K cd6 "simplest_in" = true) (k6 : PySem.W.keepIn K (.ref f6) = true)
    (a7 : PySem.W.nsIn K mainGlobals "simplest" = some (some (.ref f7))) (l7 : K.lookup f7 = some ⟨oc7, od7, .func (PySem.W.fnOf "simplest" "simplest" (defArgs s_simplest) (defBody s_simplest) (defScope s_simplest) .none kV7 dc7 pm7 an7 cd7 ct7), sl7⟩) (c7 : PySem.W.codeIn K cd7 "simplest" = true) (k7 : PySem.W.keepIn K (.ref f7) = true)
    (a8 : PySem.W.nsIn K mainGlobals "_law_start" = some (some (.ref f8))) (l8 : K.lookup f8 = some ⟨oc8, od8, .func (PySem.W.fnOf "_law_start" "_law_start" (defArgs s__law_start) (defBody s__law_start) (defScope s__law_start) .none kV8 dc8 pm8 an8 cd8 ct8), sl8⟩) (c8 : PySem.W.codeIn K cd8 "_law_start" = true) (k8 : PySem.W.keepIn K (.ref f8) = true)
    (a9 : PySem.W.nsIn K mainGlobals "_law_draw" = some (some (.ref f9))) (l9 : K.lookup f9 = some ⟨oc9, od9, .func (PySem.W.fnOf "_law_draw" "_law_draw" (defArgs s__law_draw) (defBody s__law_draw) (defScope s__law_draw) .none kV9 dc9 pm9 an9 cd9 ct9), sl9⟩) (c9 : PySem.W.codeIn K cd9 "_law_draw" = true) (k9 : PySem.W.keepIn K (.ref f9) = true)
    (a10 : PySem.W.nsIn K mainGlobals "_law_pick" = some (some (.ref f10))) (l10 : K.lookup f10 = some ⟨oc10, od10, .func (PySem.W.fnOf "_law_pick" "_law_pick" (defArgs s__law_pick) (defBody s__law_pick) (defScope s__law_pick) .none kV10 dc10 pm10 an10 cd10 ct10), sl10⟩) (c10 : PySem.W.codeIn K cd10 "_law_pick" = true) (k10 : PySem.W.keepIn K (.ref f10) = true)
    (a11 : PySem.W.nsIn K mainGlobals "_law_common" = some (some (.ref f11))) (l11 : K.lookup f11 = some ⟨oc11, od11, .func (PySem.W.fnOf "_law_common" "_law_common" (defArgs s__law_common) (defBody s__law_common) (defScope s__law_common) .none kV11 dc11 pm11 an11 cd11 ct11), sl11⟩) (c11 : PySem.W.codeIn K cd11 "_law_common" = true) (k11 : PySem.W.keepIn K (.ref f11) = true)
    (a12 : PySem.W.nsIn K mainGlobals "_law_low" = some (some (.ref f12))) (l12 : K.lookup f12 = some ⟨oc12, od12, .func (PySem.W.fnOf "_law_low" "_law_low" (defArgs s__law_low) (defBody s__law_low) (defScope s__law_low) .none kV12 dc12 pm12 an12 cd12 ct12), sl12⟩) (c12 : PySem.W.codeIn K cd12 "_law_low" = true) (k12 : PySem.W.keepIn K (.ref f12) = true)
    (a13 : PySem.W.nsIn K mainGlobals "law" = some (some (.ref f13))) (l13 : K.lookup f13 = some ⟨oc13, od13, .func (PySem.W.fnOf "law" "law" (defArgs s_law) (defBody s_law) (defScope s_law) .none kV13 dc13 pm13 an13 cd13 ct13), sl13⟩) (c13 : PySem.W.codeIn K cd13 "law" = true) (k13 : PySem.W.keepIn K (.ref f13) = true)
    (z0 : PySem.W.nsIn K mainGlobals "abs" = some none)
    (z1 : PySem.W.nsIn K mainGlobals "bool" = some none)
    (z2 : PySem.W.nsIn K mainGlobals "int" = some none)
    (z3 : PySem.W.nsIn K mainGlobals "isinstance" = some none)
    (z4 : PySem.W.nsIn K mainGlobals "len" = some none)
    (z5 : PySem.W.nsIn K mainGlobals "list" = some none)
    (z6 : PySem.W.nsIn K mainGlobals "max" = some none)
    (z7 : PySem.W.nsIn K mainGlobals "min" = some none)
    (z8 : PySem.W.nsIn K mainGlobals "range" = some none)
    (z9 : PySem.W.nsIn K mainGlobals "tuple" = some none)
    (y0 : PySem.W.nsIn K mainGlobals "MOST_LINE" = some (some (.int 1000000000 tk0)))
    : ∃ fd : FuncData, (∀ (s : Shared) (v : Value), BindsTo s fd ⟨[v], []⟩ [("script", v)]) ∧ ∀ base : Heap, K.In base → base.Ns mainGlobals mg → FnOk l.prog w K mg base CX0 60 fa fd ["script"] (spLawK K) := by
  have e := hfa.symm.trans (PySem.W.mg_of X G a13)
  cases e
  have T : Tx mg := ⟨PySem.W.mg_none_of X G z0, PySem.W.mg_none_of X G z1, PySem.W.mg_none_of X G z2, PySem.W.mg_none_of X G z3, PySem.W.mg_none_of X G z4, PySem.W.mg_none_of X G z5, PySem.W.mg_none_of X G z6, PySem.W.mg_none_of X G z7, PySem.W.mg_none_of X G z8, PySem.W.mg_none_of X G z9, ⟨_, PySem.W.mg_of X G y0⟩⟩
  have F0 := fun_mk (st := s_is_int) l0 c0 k0
  have b0 := F0.binds (ps := ["value", "low", "high"]) fun _ _ _ _ _ _ us hl => match us, hl with | [_, _, _], _ => rfl
  have g0 := PySem.W.mg_of X G a0
  have F1 := fun_mk (st := s_common) l1 c1 k1
  have b1 := F1.binds (ps := ["one", "other"]) fun _ _ _ _ _ _ us hl => match us, hl with | [_, _], _ => rfl
  have g1 := PySem.W.mg_of X G a1
  have F2 := fun_mk (st := s_lowest) l2 c2 k2
  have b2 := F2.binds (ps := ["top", "below"]) fun _ _ _ _ _ _ us hl => match us, hl with | [_, _], _ => rfl
  have g2 := PySem.W.mg_of X G a2
  have F3 := fun_mk (st := s_is_fraction) l3 c3 k3
  have b3 := F3.binds (ps := ["value"]) fun _ _ _ _ _ _ us hl => match us, hl with | [_], _ => rfl
  have g3 := PySem.W.mg_of X G a3
  have F4 := fun_mk (st := s_check_fraction) l4 c4 k4
  have b4 := F4.binds (ps := ["value"]) fun _ _ _ _ _ _ us hl => match us, hl with | [_], _ => rfl
  have g4 := PySem.W.mg_of X G a4
  have F5 := fun_mk (st := s_less) l5 c5 k5
  have b5 := F5.binds (ps := ["one", "other"]) fun _ _ _ _ _ _ us hl => match us, hl with | [_, _], _ => rfl
  have g5 := PySem.W.mg_of X G a5
  have F6 := fun_mk (st := s_simplest_in) l6 c6 k6
  have b6 := F6.binds (ps := ["low", "high"]) fun _ _ _ _ _ _ us hl => match us, hl with | [_, _], _ => rfl
  have g6 := PySem.W.mg_of X G a6
  have F7 := fun_mk (st := s_simplest) l7 c7 k7
  have b7 := F7.binds (ps := ["low", "high"]) fun _ _ _ _ _ _ us hl => match us, hl with | [_, _], _ => rfl
  have g7 := PySem.W.mg_of X G a7
  have F8 := fun_mk (st := s__law_start) l8 c8 k8
  have b8 := F8.binds (ps := ["script"]) fun _ _ _ _ _ _ us hl => match us, hl with | [_], _ => rfl
  have g8 := PySem.W.mg_of X G a8
  have F9 := fun_mk (st := s__law_draw) l9 c9 k9
  have b9 := F9.binds (ps := ["draws", "limit"]) fun _ _ _ _ _ _ us hl => match us, hl with | [_, _], _ => rfl
  have g9 := PySem.W.mg_of X G a9
  have F10 := fun_mk (st := s__law_pick) l10 c10 k10
  have b10 := F10.binds (ps := ["draws", "choices"]) fun _ _ _ _ _ _ us hl => match us, hl with | [_, _], _ => rfl
  have g10 := PySem.W.mg_of X G a10
  have F11 := fun_mk (st := s__law_common) l11 c11 k11
  have b11 := F11.binds (ps := ["one", "other"]) fun _ _ _ _ _ _ us hl => match us, hl with | [_, _], _ => rfl
  have g11 := PySem.W.mg_of X G a11
  have F12 := fun_mk (st := s__law_low) l12 c12 k12
  have b12 := F12.binds (ps := ["top", "under"]) fun _ _ _ _ _ _ us hl => match us, hl with | [_, _], _ => rfl
  have g12 := PySem.W.mg_of X G a12
  have F13 := fun_mk (st := s_law) l13 c13 k13
  refine ⟨PySem.W.fnOf "law" "law" (defArgs s_law) (defBody s_law) (defScope s_law) .none kV13 dc13 pm13 an13 cd13 ct13, fun s v => .of_eq rfl, fun base _ _ => ?_⟩
  have h_is_int := ok_is_int (P := l.prog) (w := w) (base := base) (k := 0) F0 b0 g0 T 
  have h_common := ok_common (P := l.prog) (w := w) (base := base) (k := 0) F1 b1 g1 T 
  have h_lowest := ok_lowest (P := l.prog) (w := w) (base := base) (k := 1) F2 b2 g2 T (h_common.up (by decide))
  have h_is_fraction := ok_is_fraction (P := l.prog) (w := w) (base := base) (k := 1) F3 b3 g3 T (h_is_int.up (by decide)) (h_common.up (by decide))
  have h_check_fraction := ok_check_fraction (P := l.prog) (w := w) (base := base) (k := 2) F4 b4 g4 T (h_is_fraction.up (by decide))
  have h_less := ok_less (P := l.prog) (w := w) (base := base) (k := 0) F5 b5 g5 T 
  have h_simplest_in := ok_simplest_in (P := l.prog) (w := w) (base := base) (k := 2) F6 b6 g6 T (h_lowest.up (by decide))
  have h_simplest := ok_simplest (P := l.prog) (w := w) (base := base) (k := 58) F7 b7 g7 T (h_check_fraction.up (by decide)) (h_less.up (by decide)) (h_simplest_in.up (by decide))
  have h__law_start := ok__law_start (P := l.prog) (w := w) (mg := mg) (base := base) (k := 0) F8 T
  have h__law_draw := ok__law_draw (P := l.prog) (w := w) (base := base) (k := 0) F9 b9 g9 T 
  have h__law_pick := ok__law_pick (P := l.prog) (w := w) (base := base) (k := 1) F10 b10 g10 T (h__law_draw.up (by decide))
  have h__law_common := ok__law_common (P := l.prog) (w := w) (base := base) (k := 0) F11 b11 g11 T 
  have h__law_low := ok__law_low (P := l.prog) (w := w) (base := base) (k := 1) F12 b12 g12 T (h__law_common.up (by decide))
  have h_law := ok_law (P := l.prog) (w := w) (base := base) (k := 59) F13 T g8 F8.kp b8 (h__law_start.mono (by decide)) (h_is_fraction.up (by decide)) (h_simplest.up (by decide)) (h__law_draw.up (by decide)) (h__law_pick.up (by decide)) (h__law_low.up (by decide))
  exact h_law
end Dz
open PySem PySem.W PyProof.Rows
set_option maxHeartbeats 0 in
theorem PySem.Challenge.cw_pixellines_k04_whole_fractions_holds : PySem.Challenge.rw_pixellines_k04_whole_fractions.Holds := by
  w_on; o_law; k_head; (case hw => w_witness2)
  k_fill
  refine L2.walk_of (l := PySem.Challenge.rw_pixellines_k04_whole_fractions) (n := 63) (k := 60) (x := "script") (CX := fun _ => L2.CX0) (sp := fun w => Dz.spLawK _) rfl (by decide) rfl ⟨rfl, by decide, by decide⟩ (fun w h Y => PySem.W.kIn_of Y) ?F (fun _ _ a ns hl _ hS => ⟨a, ns, rfl, hS, fun _ => rfl⟩) (fun _ _ _ _ _ h => h)
  case F =>
    intro w mg fa h KX G hmg
    refine' Dz.all_mk KX G hmg ?a0 ?l0 ?c0 ?k0 ?a1 ?l1 ?c1 ?k1 ?a2 ?l2 ?c2 ?k2 ?a3 ?l3 ?c3 ?k3 ?a4 ?l4 ?c4 ?k4 ?a5 ?l5 ?c5 ?k5 ?a6 ?l6 ?c6 ?k6 ?a7 ?l7 ?c7 ?k7 ?a8 ?l8 ?c8 ?k8 ?a9 ?l9 ?c9 ?k9 ?a10 ?l10 ?c10 ?k10 ?a11 ?l11 ?c11 ?k11 ?a12 ?l12 ?c12 ?k12 ?a13 ?l13 ?c13 ?k13 ?z0 ?z1 ?z2 ?z3 ?z4 ?z5 ?z6 ?z7 ?z8 ?z9 ?y0
    (case a0 => k_is); (case l0 => k_is); (case c0 => k_is); (case k0 => k_is); (case a1 => k_is); (case l1 => k_is); (case c1 => k_is); (case k1 => k_is); (case a2 => k_is); (case l2 => k_is); (case c2 => k_is); (case k2 => k_is); (case a3 => k_is); (case l3 => k_is); (case c3 => k_is); (case k3 => k_is); (case a4 => k_is); (case l4 => k_is); (case c4 => k_is); (case k4 => k_is); (case a5 => k_is); (case l5 => k_is); (case c5 => k_is); (case k5 => k_is); (case a6 => k_is); (case l6 => k_is); (case c6 => k_is); (case k6 => k_is); (case a7 => k_is); (case l7 => k_is); (case c7 => k_is); (case k7 => k_is); (case a8 => k_is); (case l8 => k_is); (case c8 => k_is); (case k8 => k_is); (case a9 => k_is); (case l9 => k_is); (case c9 => k_is); (case k9 => k_is); (case a10 => k_is); (case l10 => k_is); (case c10 => k_is); (case k10 => k_is); (case a11 => k_is); (case l11 => k_is); (case c11 => k_is); (case k11 => k_is); (case a12 => k_is); (case l12 => k_is); (case c12 => k_is); (case k12 => k_is); (case a13 => k_is); (case l13 => k_is); (case c13 => k_is); (case k13 => k_is); (case z0 => k_is); (case z1 => k_is); (case z2 => k_is); (case z3 => k_is); (case z4 => k_is); (case z5 => k_is); (case z6 => k_is); (case z7 => k_is); (case z8 => k_is); (case z9 => k_is); (case y0 => k_is)
