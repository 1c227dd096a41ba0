import PyProof.Rows.All
import Wide.All
import OpenK.AllK
import Wide.FinOn
import HandS.Base
import HandS.Call
import HandS.List
import HandS.Comp
import HandS.Ends
import HandS.Iter
import HandS.Text
import HandS.More
import HandS.Exc
import HandS.ExcOwn
import HandS.ExcCtx
import HandS.Words
import HandS.Defaults
import HandS.HeadHook1
import HandS.IsInst
import HandS.SortInts
import HandS.Style
import HandS.MakeKwOnly
import HandS.Deep
import PySem.Challenge.RW_climbrow_k42_whole_guide_for_few
import KE.KExcSuper
import HandS.ExcInit
import KE.SortData
import HandS.Sort
import HandS.TupSets
import PyProof.StrOps2
import HandS.Conv
import HandS.HeadHook2
import KE.KStateDown
import Lean
import HandS.Head0
import HandS.Head1
import HandS.Head2
import PyProof.Rows.RegReprOcc
import HandS.Wide
import KE.KExcIs
import HandS.ExcField
import HandS.HotCalls
import PyProof.ReprRoads
import PyProof.Rows.RegStrFacts
import HandS.HeadEnd
set_option Elab.async false
set_option linter.all false
set_option maxRecDepth 100000
set_option maxHeartbeats 0
namespace DL
open PySem PySem.Spec PyProof.Rows L2
/-- the guide's state as plain data -/
structure GS where
  side : Str
  many : Str
  won : Int
  mine : List Int
  theirs : List Int
  ml : List Nat
  tl : List Nat
/-- deep data -/
inductive D where
  | non | bl (b : Bool) | int (i : Int) | str (x : Str) | lst (xs : List D) | tup (xs : List D) | scr (ns : List Int) | oh (g : GS) | gd (g : GS)
abbrev lI (ns : List Int) : D := .lst (ns.map .int)
abbrev lN (ns : List Nat) : D := .lst (ns.map fun (n : Nat) => .int n)
/-- all that H tells H' tells -/
def Ex (H H' : Hp) : Prop := ∀ a o, H a = some o → H' a = some o
theorem Ex.refl (H : Hp) : Ex H H := fun _ _ h => h
theorem Ex.trans {H H1 H2 : Hp} (a : Ex H H1) (b : Ex H1 H2) : Ex H H2 := fun x o h => b x o (a x o h)
theorem Ex.free {H H' : Hp} (e : Ex H H') {p : Addr} (h : H' p = none) : H p = none := by
  cases h1 : H p with
  | none => rfl
  | some o => rw [e p o h1] at h; cases h
theorem Ex.rd {H H' : Hp} (e : Ex H H') {a : Addr} {u : HO} (h : Rd H a u) : Rd H' a u := by
  rcases h with h | ⟨o, h⟩
  · exact Or.inl (e a _ h)
  · exact Or.inr ⟨o, e a _ h⟩
theorem Ex.sqT {K : PySem.W.Frag} {H H' : Hp} (e : Ex H H') {a : Addr} {xs : List V} (h : SqT K H a xs) : SqT K H' a xs := by
  rcases h with h | h
  · exact Or.inl (e.rd h)
  · exact Or.inr h
theorem Ex.sqL {K : PySem.W.Frag} {H H' : Hp} (e : Ex H H') {a : Addr} {xs : List V} (h : SqL K H a xs) : SqL K H' a xs := by
  rcases h with h | h
  · exact Or.inl (e.rd h)
  · exact Or.inr h
abbrev CO (K : PySem.W.Frag) : Addr := He.ga K "OpenHands"
abbrev CG (K : PySem.W.Frag) : Addr := He.ga K "Guide"
def ohF (a1 a2 a3 a4 : Addr) : List (Str × V) := [("mine", .ref a1), ("theirs", .ref a2), ("my_left", .ref a3), ("their_left", .ref a4)]
def gdF (g : GS) (h : Addr) : List (Str × V) := [("side", .str g.side), ("many", .str g.many), ("won", .int g.won), ("hands", .ref h)]
/-- an OpenHands at h -/
structure OhAt (K : PySem.W.Frag) (H : Hp) (g : GS) (h : Addr) : Prop where
  at_ : ∃ dx a1 a2 a3 a4, H h = some (.ins (CO K) dx (ohF a1 a2 a3 a4)) ∧ H a1 = some (.lst (g.mine.map .int)) ∧ H a2 = some (.lst (g.theirs.map .int)) ∧ H a3 = some (.lst (g.ml.map fun (n : Nat) => .int n)) ∧ H a4 = some (.lst (g.tl.map fun (n : Nat) => .int n))
structure GdAt (K : PySem.W.Frag) (H : Hp) (g : GS) (a : Addr) : Prop where
  at_ : ∃ dx h, H a = some (.ins (CG K) dx (gdF g h)) ∧ OhAt K H g h
theorem OhAt.mono {K : PySem.W.Frag} {H H' : Hp} (e : Ex H H') {g : GS} {h : Addr} (x : OhAt K H g h) : OhAt K H' g h := by
  obtain ⟨dx, a1, a2, a3, a4, h0, h1, h2, h3, h4⟩ := x.at_
  exact ⟨dx, a1, a2, a3, a4, e _ _ h0, e _ _ h1, e _ _ h2, e _ _ h3, e _ _ h4⟩
theorem GdAt.mono {K : PySem.W.Frag} {H H' : Hp} (e : Ex H H') {g : GS} {h : Addr} (x : GdAt K H g h) : GdAt K H' g h := by
  obtain ⟨dx, b, h0, h1⟩ := x.at_
  exact ⟨dx, b, e _ _ h0, h1.mono e⟩
mutual
/-- the value v is the data d, in the heap H -/
def Rep (K : PySem.W.Frag) (H : Hp) : D → V → Prop
  | .non, v => v = .non
  | .bl b, v => v = .bl b
  | .int i, v => v = .int i
  | .str x, v => v = .str x
  | .lst ds, v => ∃ a vs, v = .ref a ∧ H a = some (.lst vs) ∧ Reps K H ds vs
  | .tup ds, v => ∃ a vs, v = .ref a ∧ SqT K H a vs ∧ Reps K H ds vs
  | .scr ns, v => ∃ a, v = .ref a ∧ SqL K H a (ns.map .int)
  | .oh g, v => ∃ a, v = .ref a ∧ OhAt K H g a
  | .gd g, v => ∃ a, v = .ref a ∧ GdAt K H g a
def Reps (K : PySem.W.Frag) (H : Hp) : List D → List V → Prop
  | [], vs => vs = []
  | d :: ds, vs => ∃ v r, vs = v :: r ∧ Rep K H d v ∧ Reps K H ds r
end
mutual
theorem Rep.mono {K : PySem.W.Frag} {H H' : Hp} (e : Ex H H') : ∀ (d : D) {v : V}, Rep K H d v → Rep K H' d v
  | .non, _, h => by simpa only [Rep] using h
  | .bl b, _, h => by simpa only [Rep] using h
  | .int i, _, h => by simpa only [Rep] using h
  | .str x, _, h => by simpa only [Rep] using h
  | .lst ds, v, h => by
    unfold Rep at h ⊢
    obtain ⟨a, vs, h1, h2, h3⟩ := h
    exact ⟨a, vs, h1, e _ _ h2, Reps.mono e ds h3⟩
  | .tup ds, v, h => by
    unfold Rep at h ⊢
    obtain ⟨a, vs, h1, h2, h3⟩ := h
    exact ⟨a, vs, h1, e.sqT h2, Reps.mono e ds h3⟩
  | .scr ns, v, h => by
    unfold Rep at h ⊢
    obtain ⟨a, h1, h2⟩ := h
    exact ⟨a, h1, e.sqL h2⟩
  | .oh g, v, h => by
    unfold Rep at h ⊢
    obtain ⟨a, h1, h2⟩ := h
    exact ⟨a, h1, h2.mono e⟩
  | .gd g, v, h => by
    unfold Rep at h ⊢
    obtain ⟨a, h1, h2⟩ := h
    exact ⟨a, h1, h2.mono e⟩
theorem Reps.mono {K : PySem.W.Frag} {H H' : Hp} (e : Ex H H') : ∀ (ds : List D) {vs : List V}, Reps K H ds vs → Reps K H' ds vs
  | [], _, h => by simpa only [Reps] using h
  | d :: ds, vs, h => by
    unfold Reps at h ⊢
    obtain ⟨v, r, h1, h2, h3⟩ := h
    exact ⟨v, r, h1, Rep.mono e d h2, Reps.mono e ds h3⟩
end
end DL
namespace DL
open PySem PySem.Spec PyProof.Rows L2
/-! ### the weakest readings, over a family of contexts -/
section
variable {ι : Type} (X : ι → Cx)
def WE (e : Expr) : TE := fun σ H Q => ∃ t, (∀ i, PE (X i) e t) ∧ t σ H Q
def WT (e : Expr) : TT := fun σ H Q => ∃ t, (∀ i, PT (X i) e t) ∧ t σ H Q
def WA (es : List Expr) : TA := fun σ H Q => ∃ t, (∀ i, PA (X i) es t) ∧ t σ H Q
def WS (st : Stmt) : TS := fun D σ H => ∃ t, (∀ i, PS (X i) st t) ∧ t D σ H
def WB (sts : List Stmt) : TS := fun D σ H => ∃ t, (∀ i, PSs (X i) sts t) ∧ t D σ H
def WO (f : Value → Value → Sem Value) : R2 := fun x y H Q => ∃ r, (∀ i, OpR (X i) f r) ∧ r x y H Q
variable {X}
theorem we_ok {e : Expr} (i : ι) : PE (X i) e (WE X e) := ⟨fun pins s σ H Q I ⟨t, h, q⟩ => (h i).run pins s σ H Q I q⟩
theorem wt_ok {e : Expr} (i : ι) : PT (X i) e (WT X e) := ⟨fun pins s σ H Q I ⟨t, h, q⟩ => (h i).run pins s σ H Q I q⟩
theorem wa_ok {e : List Expr} (i : ι) : PA (X i) e (WA X e) := ⟨fun pos pins s σ H Q I ⟨t, h, q⟩ => (h i).run pos pins s σ H Q I q⟩
theorem ws_ok {e : Stmt} (i : ι) : PS (X i) e (WS X e) := ⟨fun pins s σ H D I ⟨t, h, q⟩ => (h i).run pins s σ H D I q⟩
theorem wb_ok {e : List Stmt} (i : ι) : PSs (X i) e (WB X e) := ⟨fun pins s σ H D I ⟨t, h, q⟩ => (h i).run pins s σ H D I q⟩
theorem wo_ok {f : Value → Value → Sem Value} (i : ι) : OpR (X i) f (WO X f) := fun pins s σ H x y v u Q I rx ry ⟨r, h, q⟩ => h i pins s σ H x y v u Q I rx ry q
end
/-! ### the data heap G within the heap H -/
structure Stp (G H G' H' : Hp) : Prop where
  g : Ex G G'
  h : Ex H H'
  i : Ex G' H'
  n : ∀ a, G' a ≠ none → G a ≠ none ∨ H a = none
theorem Stp.refl {G H : Hp} (i : Ex G H) : Stp G H G H := ⟨Ex.refl _, Ex.refl _, i, fun _ h => .inl h⟩
theorem Stp.trans {G H G1 H1 G2 H2 : Hp} (a : Stp G H G1 H1) (b : Stp G1 H1 G2 H2) : Stp G H G2 H2 :=
  ⟨a.g.trans b.g, a.h.trans b.h, b.i, fun x h => (b.n x h).elim (a.n x) fun q => .inr (a.h.free q)⟩
/-- own lists may have been changed in between -/
theorem Stp.more {G B G1 H1 G2 H2 : Hp} (a : Stp G B G1 H1) (b : Stp G1 H1 G2 H2) : Stp G B G2 H2 := a.trans b
theorem Ex.upd {H : Hp} {p : Addr} {o : HO} (h : H p = none) : Ex H (upd H p o) := fun a u e => by
  rw [upd_ne (ne_of_none e h)]
  exact e
/-- a new object that is data -/
theorem Stp.new {G H : Hp} (i : Ex G H) {p : Addr} {o : HO} (h : H p = none) : Stp G H (upd G p o) (upd H p o) := by
  refine ⟨Ex.upd (i.free h), Ex.upd h, fun a u e => ?_, fun a e => ?_⟩
  · by_cases q : a = p
    · rw [q, upd_same] at e ⊢
      exact e
    · rw [upd_ne q] at e ⊢
      exact i a u e
  · by_cases q : a = p
    · rw [q]; exact .inr h
    · rw [upd_ne q] at e
      exact .inl e
/-- a new object that is not data -/
theorem Stp.own {G H : Hp} (i : Ex G H) {p : Addr} {o : HO} (h : H p = none) : Stp G H G (upd H p o) :=
  ⟨Ex.refl _, Ex.upd h, fun a u e => (Ex.upd h) a u (i a u e), fun _ e => .inl e⟩
/-- a slot: nothing known, a value, a list of one's own -/
inductive Sl where
  | no | va (d : D) | ow (ds : List D) | gu (g : GS)
abbrev Rho := List Sl
/-- a guide of one's own: its two objects are not data, its lists are -/
structure GuAt (K : PySem.W.Frag) (B G H : Hp) (g : GS) (a h : Addr) : Prop where
  at_ : ∃ dx dy a1 a2 a3 a4, H a = some (.ins (CG K) dx (gdF g h)) ∧ H h = some (.ins (CO K) dy (ohF a1 a2 a3 a4)) ∧ G a1 = some (.lst (g.mine.map .int)) ∧ G a2 = some (.lst (g.theirs.map .int)) ∧ G a3 = some (.lst (g.ml.map fun (n : Nat) => .int n)) ∧ G a4 = some (.lst (g.tl.map fun (n : Nat) => .int n))
  ga : G a = none
  gh : G h = none
  ba : B a = none
  bh : B h = none
theorem GuAt.to {K : PySem.W.Frag} {B G H G' H' : Hp} {g : GS} {a h : Addr} (x : GuAt K B G H g a h) (e : Ex G G') (e1 : ∀ C dx fs, H a = some (.ins C dx fs) → H' a = some (.ins C dx fs)) (e2 : ∀ C dx fs, H h = some (.ins C dx fs) → H' h = some (.ins C dx fs)) (n1 : G' a = none) (n2 : G' h = none) : GuAt K B G' H' g a h := by
  obtain ⟨dx, dy, a1, a2, a3, a4, z0, z1, z2, z3, z4, z5⟩ := x.at_
  exact ⟨⟨dx, dy, a1, a2, a3, a4, e1 _ _ _ z0, e2 _ _ _ z1, e _ _ z2, e _ _ z3, e _ _ z4, e _ _ z5⟩, n1, n2, x.ba, x.bh⟩
theorem Stp.out {G H G' H' : Hp} (s : Stp G H G' H') {a : Addr} (h1 : G a = none) (h2 : H a ≠ none) : G' a = none := by
  cases q : G' a with
  | none => rfl
  | some o =>
    rcases s.n a (by rw [q]; exact nofun) with z | z
    · exact absurd h1 z
    · exact absurd z h2
theorem GuAt.mono {K : PySem.W.Frag} {B G H G' H' : Hp} {g : GS} {a h : Addr} (x : GuAt K B G H g a h) (s : Stp G H G' H') : GuAt K B G' H' g a h := by
  obtain ⟨dx, dy, a1, a2, a3, a4, z0, z1, _⟩ := x.at_
  exact x.to s.g (fun _ _ _ e => s.h _ _ e) (fun _ _ _ e => s.h _ _ e) (s.out x.ga (by rw [z0]; exact nofun)) (s.out x.gh (by rw [z1]; exact nofun))
theorem GuAt.notlst {K : PySem.W.Frag} {B G H : Hp} {g : GS} {a h l : Addr} {vs : List V} (x : GuAt K B G H g a h) (e : H l = some (.lst vs)) : a ≠ l ∧ h ≠ l := by
  obtain ⟨dx, dy, a1, a2, a3, a4, z0, z1, _⟩ := x.at_
  exact ⟨fun q => (by rw [q, e] at z0; cases z0), fun q => (by rw [q, e] at z1; cases z1)⟩
structure EnvR (K : PySem.W.Frag) (B G H : Hp) (σ : L2.St) (ρ : Rho) : Prop where
  len : σ.length = ρ.length
  va : ∀ (i : Nat) d, ρ[i]? = some (.va d) → ∃ v, σ[i]? = some (some v) ∧ Rep K G d v
  ow : ∀ (i : Nat) ds, ρ[i]? = some (.ow ds) → ∃ l vs, σ[i]? = some (some (.ref l)) ∧ G l = none ∧ B l = none ∧ H l = some (.lst vs) ∧ Reps K G ds vs
  ne : ∀ (i j : Nat) ds es, i ≠ j → ρ[i]? = some (.ow ds) → ρ[j]? = some (.ow es) → σ[i]? ≠ σ[j]?
  gus : ∃ ga : Nat → Addr × Addr, (∀ (i : Nat) g, ρ[i]? = some (.gu g) → σ[i]? = some (some (.ref (ga i).1)) ∧ GuAt K B G H g (ga i).1 (ga i).2) ∧ ∀ (i j : Nat) g g', i ≠ j → ρ[i]? = some (.gu g) → ρ[j]? = some (.gu g') → (ga i).1 ≠ (ga j).1 ∧ (ga i).2 ≠ (ga j).2
theorem set_key {ρ : Rho} {i j : Nat} {s t : Sl} (hs : t ≠ s) (hj : (ρ.set i t)[j]? = some s) : i ≠ j ∧ ρ[j]? = some s := by
  by_cases q : i = j
  · subst q
    by_cases hl : i < ρ.length
    · rw [List.getElem?_set_self hl] at hj
      exact absurd (Option.some.inj hj) hs
    · rw [List.getElem?_eq_none (by simpa using hl)] at hj; cases hj
  · rw [List.getElem?_set_ne q] at hj
    exact ⟨q, hj⟩
/-- a slot is set to something else -/
theorem EnvR.gus_set {K : PySem.W.Frag} {B G H G' H' : Hp} {σ : L2.St} {ρ : Rho} (x : EnvR K B G H σ ρ) (i : Nat) (t : Sl) (o : Option V) (ht : ∀ g, t ≠ .gu g) (k : ∀ g a h, GuAt K B G H g a h → GuAt K B G' H' g a h) :
    ∃ ga : Nat → Addr × Addr, (∀ (j : Nat) g, (ρ.set i t)[j]? = some (.gu g) → (σ.set i o)[j]? = some (some (.ref (ga j).1)) ∧ GuAt K B G' H' g (ga j).1 (ga j).2) ∧ ∀ (j m : Nat) g g', j ≠ m → (ρ.set i t)[j]? = some (.gu g) → (ρ.set i t)[m]? = some (.gu g') → (ga j).1 ≠ (ga m).1 ∧ (ga j).2 ≠ (ga m).2 := by
  obtain ⟨ga, h1, h2⟩ := x.gus
  refine ⟨ga, fun j g hj => ?_, fun j m g g' hne hj hm => h2 j m g g' hne (set_key (ht _) hj).2 (set_key (ht _) hm).2⟩
  obtain ⟨q, hj⟩ := set_key (ht _) hj
  rw [List.getElem?_set_ne q]
  exact ⟨(h1 j g hj).1, k _ _ _ (h1 j g hj).2⟩
theorem EnvR.gus_set' {K : PySem.W.Frag} {B G H G' H' : Hp} {σ : L2.St} {ρ : Rho} (x : EnvR K B G H σ ρ) (i : Nat) (t : Sl) (ht : ∀ g, t ≠ .gu g) (k : ∀ g a h, GuAt K B G H g a h → GuAt K B G' H' g a h) :
    ∃ ga : Nat → Addr × Addr, (∀ (j : Nat) g, (ρ.set i t)[j]? = some (.gu g) → σ[j]? = some (some (.ref (ga j).1)) ∧ GuAt K B G' H' g (ga j).1 (ga j).2) ∧ ∀ (j m : Nat) g g', j ≠ m → (ρ.set i t)[j]? = some (.gu g) → (ρ.set i t)[m]? = some (.gu g') → (ga j).1 ≠ (ga m).1 ∧ (ga j).2 ≠ (ga m).2 := by
  obtain ⟨ga, h1, h2⟩ := x.gus
  refine ⟨ga, fun j g hj => ?_, fun j m g g' hne hj hm => h2 j m g g' hne (set_key (ht _) hj).2 (set_key (ht _) hm).2⟩
  obtain ⟨q, hj⟩ := set_key (ht _) hj
  exact ⟨(h1 j g hj).1, k _ _ _ (h1 j g hj).2⟩
theorem EnvR.mono {K : PySem.W.Frag} {B G H G' H' : Hp} {σ : L2.St} {ρ : Rho} (s : Stp G H G' H') (x : EnvR K B G H σ ρ) : EnvR K B G' H' σ ρ := by
  refine ⟨x.len, fun i d h => ?_, fun i ds h => ?_, x.ne, let ⟨ga, h1, h2⟩ := x.gus; ⟨ga, fun i g h => ⟨(h1 i g h).1, (h1 i g h).2.mono s⟩, h2⟩⟩
  · obtain ⟨v, h1, h2⟩ := x.va i d h
    exact ⟨v, h1, h2.mono s.g⟩
  · obtain ⟨l, vs, h1, h2, h3, h4, h5⟩ := x.ow i ds h
    refine ⟨l, vs, h1, ?_, h3, s.h _ _ h4, h5.mono s.g⟩
    cases q : G' l with
    | none => rfl
    | some o =>
      rcases s.n l (by rw [q]; exact nofun) with z | z
      · exact absurd h2 z
      · rw [h4] at z; cases z
theorem EnvR.set {K : PySem.W.Frag} {B G H : Hp} {σ : L2.St} {ρ : Rho} (x : EnvR K B G H σ ρ) (i : Nat) {d : D} {v : V} (h : Rep K G d v) : EnvR K B G H (σ.set i (some v)) (ρ.set i (.va d)) := by
  refine ⟨by simp [x.len], fun j e hj => ?_, fun j ds hj => ?_, fun j k ds es hne hj hk => ?_, x.gus_set i _ _ (fun _ => nofun) fun _ _ _ z => z⟩
  · by_cases q : i = j
    · subst q
      by_cases hl : i < ρ.length
      · rw [List.getElem?_set_self hl] at hj
        cases hj
        exact ⟨v, List.getElem?_set_self (by rw [x.len]; exact hl), h⟩
      · rw [List.getElem?_eq_none (by simpa using hl)] at hj; cases hj
    · rw [List.getElem?_set_ne q] at hj ⊢
      exact x.va j e hj
  · by_cases q : i = j
    · subst q
      by_cases hl : i < ρ.length
      · rw [List.getElem?_set_self hl] at hj; cases hj
      · rw [List.getElem?_eq_none (by simpa using hl)] at hj; cases hj
    · rw [List.getElem?_set_ne q] at hj ⊢
      exact x.ow j ds hj
  · have nj : i ≠ j := fun q => by
      subst q
      by_cases hl : i < ρ.length
      · rw [List.getElem?_set_self hl] at hj; cases hj
      · rw [List.getElem?_eq_none (by simpa using hl)] at hj; cases hj
    have nk : i ≠ k := fun q => by
      subst q
      by_cases hl : i < ρ.length
      · rw [List.getElem?_set_self hl] at hk; cases hk
      · rw [List.getElem?_eq_none (by simpa using hl)] at hk; cases hk
    rw [List.getElem?_set_ne nj] at hj ⊢
    rw [List.getElem?_set_ne nk] at hk ⊢
    exact x.ne j k ds es hne hj hk
/-- a fresh list of one's own comes to slot i -/
theorem EnvR.setOwn {K : PySem.W.Frag} {B G H : Hp} {σ : L2.St} {ρ : Rho} (x : EnvR K B G H σ ρ) (i : Nat) {ds : List D} {vs : List V} {p : Addr} (hB : B p = none) (hG : G p = none) (hH : H p = some (.lst vs)) (hr : Reps K G ds vs)
    (hn : ∀ (j : Nat) es, i ≠ j → ρ[j]? = some (.ow es) → σ[j]? ≠ some (some (.ref p))) : EnvR K B G H (σ.set i (some (.ref p))) (ρ.set i (.ow ds)) := by
  refine ⟨by simp [x.len], fun j e hj => ?_, fun j es hj => ?_, fun j k es fs hne hj hk => ?_, x.gus_set i _ _ (fun _ => nofun) fun _ _ _ z => z⟩
  · by_cases q : i = j
    · subst q
      by_cases hl : i < ρ.length
      · rw [List.getElem?_set_self hl] at hj; cases hj
      · rw [List.getElem?_eq_none (by simpa using hl)] at hj; cases hj
    · rw [List.getElem?_set_ne q] at hj ⊢
      exact x.va j e hj
  · by_cases q : i = j
    · subst q
      by_cases hl : i < ρ.length
      · rw [List.getElem?_set_self hl] at hj
        cases hj
        exact ⟨p, vs, List.getElem?_set_self (by rw [x.len]; exact hl), hG, hB, hH, hr⟩
      · rw [List.getElem?_eq_none (by simpa using hl)] at hj; cases hj
    · rw [List.getElem?_set_ne q] at hj ⊢
      exact x.ow j es hj
  · by_cases qj : i = j
    · subst qj
      have hl : i < σ.length := by
        by_cases hl : i < ρ.length
        · rw [x.len]; exact hl
        · rw [List.getElem?_eq_none (by simpa using hl)] at hj; cases hj
      rw [List.getElem?_set_ne hne] at hk ⊢
      rw [List.getElem?_set_self hl]
      exact fun z => hn k fs hne hk z.symm
    · by_cases qk : i = k
      · subst qk
        have hl : i < σ.length := by
          by_cases hl : i < ρ.length
          · rw [x.len]; exact hl
          · rw [List.getElem?_eq_none (by simpa using hl)] at hk; cases hk
        rw [List.getElem?_set_ne (Ne.symm hne)] at hj ⊢
        rw [List.getElem?_set_self hl]
        exact fun z => hn j es qj hj z
      · rw [List.getElem?_set_ne qj] at hj ⊢
        rw [List.getElem?_set_ne qk] at hk ⊢
        exact x.ne j k es fs hne hj hk
/-- a list of one's own is written -/
theorem EnvR.wrote {K : PySem.W.Frag} {B G H : Hp} {σ : L2.St} {ρ : Rho} (x : EnvR K B G H σ ρ) {i : Nat} {ds es : List D} {l : Addr} {vs : List V} (hi : ρ[i]? = some (.ow ds)) (hs : σ[i]? = some (some (.ref l))) (hr : Reps K G es vs) :
    EnvR K B G (upd H l (.lst vs)) σ (ρ.set i (.ow es)) := by
  obtain ⟨l', us, h1, h2, h3, h4, h5⟩ := x.ow i ds hi
  rw [hs] at h1
  cases h1
  have hl : i < ρ.length := (List.getElem?_eq_some_iff.mp hi).1
  refine ⟨by simp [x.len], fun j e hj => ?_, fun j fs hj => ?_, fun j k fs gs hne hj hk => ?_, x.gus_set' i _ (fun _ => nofun) fun g a h z => z.to (Ex.refl _) (fun _ _ _ e => by rw [upd_ne (z.notlst h4).1]; exact e) (fun _ _ _ e => by rw [upd_ne (z.notlst h4).2]; exact e) z.ga z.gh⟩
  · by_cases q : i = j
    · subst q
      rw [List.getElem?_set_self hl] at hj; cases hj
    · rw [List.getElem?_set_ne q] at hj
      exact x.va j e hj
  · by_cases q : i = j
    · subst q
      rw [List.getElem?_set_self hl] at hj
      cases hj
      exact ⟨l, vs, hs, h2, h3, upd_same, hr⟩
    · rw [List.getElem?_set_ne q] at hj
      obtain ⟨m, ws, k1, k2, k3, k4, k5⟩ := x.ow j fs hj
      refine ⟨m, ws, k1, k2, k3, ?_, k5⟩
      have ne : m ≠ l := fun z => x.ne i j ds fs q hi hj (by rw [hs, k1, z])
      rw [upd_ne ne]
      exact k4
  · have hj' : ∃ fs', ρ[j]? = some (.ow fs') := by
      by_cases q : i = j
      · exact ⟨ds, q ▸ hi⟩
      · rw [List.getElem?_set_ne q] at hj; exact ⟨_, hj⟩
    have hk' : ∃ fs', ρ[k]? = some (.ow fs') := by
      by_cases q : i = k
      · exact ⟨ds, q ▸ hi⟩
      · rw [List.getElem?_set_ne q] at hk; exact ⟨_, hk⟩
    obtain ⟨_, hj'⟩ := hj'
    obtain ⟨_, hk'⟩ := hk'
    exact x.ne j k _ _ hne hj' hk'
/-- a list of one's own is data from now on -/
theorem EnvR.unown {K : PySem.W.Frag} {B G H : Hp} {σ : L2.St} {ρ : Rho} (i : Ex G H) (x : EnvR K B G H σ ρ) {k : Nat} {ds : List D} (hk : ρ[k]? = some (.ow ds)) :
    ∃ G', Ex G G' ∧ Ex G' H ∧ (∀ a, G' a ≠ none → G a ≠ none ∨ B a = none) ∧ EnvR K B G' H σ (ρ.set k (.va (.lst ds))) := by
  obtain ⟨l, vs, h1, h2, h3, h4, h5⟩ := x.ow k ds hk
  have hl : k < ρ.length := (List.getElem?_eq_some_iff.mp hk).1
  have eg : Ex G (upd G l (.lst vs)) := Ex.upd h2
  refine ⟨upd G l (.lst vs), eg, fun a u e => ?_, fun a e => ?_, ?_⟩
  · by_cases q : a = l
    · rw [q, upd_same] at e; cases e; rw [q]; exact h4
    · rw [upd_ne q] at e; exact i a u e
  · by_cases q : a = l
    · rw [q]; exact .inr h3
    · rw [upd_ne q] at e; exact .inl e
  refine ⟨by simp [x.len], fun j e hj => ?_, fun j fs hj => ?_, fun j m fs gs hne hj hm => ?_, x.gus_set' k _ (fun _ => nofun) fun g a h z => z.to eg (fun _ _ _ e => e) (fun _ _ _ e => e) (by rw [upd_ne (z.notlst h4).1]; exact z.ga) (by rw [upd_ne (z.notlst h4).2]; exact z.gh)⟩
  · by_cases q : k = j
    · subst q
      rw [List.getElem?_set_self hl] at hj
      cases hj
      refine ⟨.ref l, h1, ?_⟩
      unfold Rep
      exact ⟨l, vs, rfl, upd_same, h5.mono eg⟩
    · rw [List.getElem?_set_ne q] at hj
      obtain ⟨v, z1, z2⟩ := x.va j e hj
      exact ⟨v, z1, z2.mono eg⟩
  · by_cases q : k = j
    · subst q
      rw [List.getElem?_set_self hl] at hj; cases hj
    · rw [List.getElem?_set_ne q] at hj
      obtain ⟨m, ws, k1, k2, k3, k4, k5⟩ := x.ow j fs hj
      have ne : m ≠ l := fun z => x.ne k j ds fs q hk hj (by rw [h1, k1, z])
      exact ⟨m, ws, k1, by rw [upd_ne ne]; exact k2, k3, k4, k5.mono eg⟩
  · have nj : k ≠ j := fun q => by
      subst q
      rw [List.getElem?_set_self hl] at hj; cases hj
    have nm : k ≠ m := fun q => by
      subst q
      rw [List.getElem?_set_self hl] at hm; cases hm
    rw [List.getElem?_set_ne nj] at hj
    rw [List.getElem?_set_ne nm] at hm
    exact x.ne j m fs gs hne hj hm
/-! ### errors -/
structure Er where
  cls : Str
  fs : List (Str × V)
def ErrAt (K : PySem.W.Frag) (H : Hp) (er : Er) (cls : Value) (dd : Option Addr) : Prop :=
  cls = .ref (He.ga K er.cls) ∧ ((er.fs = [] ∧ dd = none) ∨ ∃ d, dd = some d ∧ H d = some (.xd er.fs))
def Wish (K : PySem.W.Frag) (B : Hp) (E : XK) (R : Er → Prop) : Prop := ∀ er cls dd H', R er → Ex B H' → ErrAt K H' er cls dd → E cls dd H'
theorem Wish.mono {K : PySem.W.Frag} {B B' : Hp} {E : XK} {R : Er → Prop} (w : Wish K B E R) (e : Ex B B') : Wish K B' E R := fun er cls dd H' r x a => w er cls dd H' r (e.trans x) a
theorem Wish.none {K : PySem.W.Frag} {B : Hp} {E : XK} : Wish K B E (fun _ => False) := fun _ _ _ _ r => r.elim
/-! ### heap-free judgements -/
section
variable {ι : Type} (X : ι → Cx) (K : PySem.W.Frag) (E : XK)
structure ev (e : Expr) (ρ : Rho) (Q : D → Prop) (R : Er → Prop) : Prop where
  run : ∀ (B G H : Hp) (σ : L2.St), Ex B H → Ex G H → EnvR K B G H σ ρ → Wish K B E R → ∀ Qv : VK, (∀ d v G' H', Q d → Stp G H G' H' → Rep K G' d v → Qv v H') → WE X e σ H Qv
/-- a new list comes -/
structure evn (e : Expr) (ρ : Rho) (Q : List D → Prop) (R : Er → Prop) : Prop where
  run : ∀ (B G H : Hp) (σ : L2.St), Ex B H → Ex G H → EnvR K B G H σ ρ → Wish K B E R → ∀ Qv : VK,
    (∀ ds p vs G' H', Q ds → Stp G H G' H' → H p = none → G' p = none → H' p = some (.lst vs) → Reps K G' ds vs → Qv (.ref p) H') → WE X e σ H Qv
structure evt (e : Expr) (ρ : Rho) (Q : Bool → Prop) (R : Er → Prop) : Prop where
  run : ∀ (B G H : Hp) (σ : L2.St), Ex B H → Ex G H → EnvR K B G H σ ρ → Wish K B E R → ∀ Qv : Bool → Hp → Prop, (∀ b G' H', Q b → Stp G H G' H' → Qv b H') → WT X e σ H Qv
structure evs (es : List Expr) (ρ : Rho) (Q : List D → Prop) (R : Er → Prop) : Prop where
  run : ∀ (B G H : Hp) (σ : L2.St), Ex B H → Ex G H → EnvR K B G H σ ρ → Wish K B E R → ∀ Qv : List V → Hp → Prop, (∀ ds vs G' H', Q ds → Stp G H G' H' → Reps K G' ds vs → Qv vs H') → WA X es σ H Qv
/-- an operation on values -/
structure opd (f : Value → Value → Sem Value) (x y : D) (Q : D → Prop) : Prop where
  run : ∀ (G H : Hp) (vx vy : V), Ex G H → Rep K G x vx → Rep K G y vy → ∀ Qv : VK, (∀ d v G' H', Q d → Stp G H G' H' → Rep K G' d v → Qv v H') → WO X f vx vy H Qv
/-- .. that gives a new list -/
structure opn (f : Value → Value → Sem Value) (x y : D) (Q : List D → Prop) : Prop where
  run : ∀ (G H : Hp) (vx vy : V), Ex G H → Rep K G x vx → Rep K G y vy → ∀ Qv : VK,
    (∀ ds p vs G' H', Q ds → Stp G H G' H' → H p = none → G' p = none → H' p = some (.lst vs) → Reps K G' ds vs → Qv (.ref p) H') → WO X f vx vy H Qv
structure DE where
  nx : Rho → Prop
  rt : D → Prop
  bk : Rho → Prop := fun _ => False
  ct : Rho → Prop := fun _ => False
/-- D is met by Dv, from the base (G0, B) on -/
structure Met (G0 B : Hp) (D : DE) (Dv : Ends) : Prop where
  nx : ∀ ρ σ G H, D.nx ρ → Stp G0 B G H → EnvR K B G H σ ρ → Dv.nx σ H
  bk : ∀ ρ σ G H, D.bk ρ → Stp G0 B G H → EnvR K B G H σ ρ → Dv.bk σ H
  ct : ∀ ρ σ G H, D.ct ρ → Stp G0 B G H → EnvR K B G H σ ρ → Dv.ct σ H
  rt : ∀ d v G H, D.rt d → Stp G0 B G H → Rep K G d v → Dv.rt v H
structure st1 (s : Stmt) (ρ : Rho) (D : DE) (R : Er → Prop) : Prop where
  run : ∀ (G0 B G H : Hp) (σ : L2.St) (Dv : Ends), Stp G0 B G H → EnvR K B G H σ ρ → Wish K B E R → Met K G0 B D Dv → WS X s Dv σ H
structure stm (ss : List Stmt) (ρ : Rho) (D : DE) (R : Er → Prop) : Prop where
  run : ∀ (G0 B G H : Hp) (σ : L2.St) (Dv : Ends), Stp G0 B G H → EnvR K B G H σ ρ → Wish K B E R → Met K G0 B D Dv → WB X ss Dv σ H
end
end DL
namespace DL
open PySem PySem.Spec PyProof.Rows L2
/-! ### lists of data -/
section
variable {K : PySem.W.Frag} {G : Hp}
theorem Reps.nil_iff {vs : List V} : Reps K G [] vs ↔ vs = [] := by unfold Reps; exact Iff.rfl
theorem Reps.cons {d : D} {ds : List D} {v : V} {vs : List V} (h : Rep K G d v) (t : Reps K G ds vs) : Reps K G (d :: ds) (v :: vs) := by
  unfold Reps
  exact ⟨v, vs, rfl, h, t⟩
theorem Reps.nil : Reps K G [] [] := Reps.nil_iff.mpr rfl
theorem Reps.inv {d : D} {ds : List D} {vs : List V} (h : Reps K G (d :: ds) vs) : ∃ v r, vs = v :: r ∧ Rep K G d v ∧ Reps K G ds r := by
  unfold Reps at h
  exact h
theorem Reps.len : ∀ {ds : List D} {vs : List V}, Reps K G ds vs → vs.length = ds.length
  | [], _, h => by rw [Reps.nil_iff.mp h]; rfl
  | d :: ds, _, h => by
    obtain ⟨v, r, rfl, _, t⟩ := h.inv
    simp [Reps.len t]
theorem Reps.get : ∀ {ds : List D} {vs : List V} {i : Nat} {d : D}, Reps K G ds vs → ds[i]? = some d → ∃ v, vs[i]? = some v ∧ Rep K G d v
  | [], _, _, _, _, e => by simp at e
  | d :: ds, _, 0, _, h, e => by
    obtain ⟨v, r, rfl, h1, _⟩ := h.inv
    simp at e
    subst e
    exact ⟨v, rfl, h1⟩
  | d :: ds, _, i + 1, x, h, e => by
    obtain ⟨v, r, rfl, _, t⟩ := h.inv
    obtain ⟨u, h1, h2⟩ := Reps.get (i := i) (d := x) t (by simpa using e)
    exact ⟨u, by simpa using h1, h2⟩
theorem Reps.app : ∀ {ds es : List D} {vs us : List V}, Reps K G ds vs → Reps K G es us → Reps K G (ds ++ es) (vs ++ us)
  | [], _, _, _, h, t => by rw [Reps.nil_iff.mp h]; exact t
  | d :: ds, _, _, _, h, t => by
    obtain ⟨v, r, rfl, h1, q⟩ := h.inv
    exact Reps.cons h1 (Reps.app q t)
theorem Reps.set : ∀ {ds : List D} {vs : List V} (i : Nat) {d : D} {v : V}, Reps K G ds vs → Rep K G d v → Reps K G (ds.set i d) (vs.set i v)
  | [], _, _, _, _, h, _ => by rw [Reps.nil_iff.mp h]; exact Reps.nil
  | d :: ds, _, 0, _, _, h, x => by
    obtain ⟨v, r, rfl, _, q⟩ := h.inv
    exact Reps.cons x q
  | d :: ds, _, i + 1, _, _, h, x => by
    obtain ⟨v, r, rfl, h1, q⟩ := h.inv
    exact Reps.cons h1 (Reps.set i q x)
theorem Reps.drop : ∀ {ds : List D} {vs : List V} (n : Nat), Reps K G ds vs → Reps K G (ds.drop n) (vs.drop n)
  | _, _, 0, h => h
  | [], _, _ + 1, h => by rw [Reps.nil_iff.mp h]; exact Reps.nil
  | d :: ds, _, n + 1, h => by
    obtain ⟨v, r, rfl, _, q⟩ := h.inv
    exact Reps.drop n q
theorem Reps.take : ∀ {ds : List D} {vs : List V} (n : Nat), Reps K G ds vs → Reps K G (ds.take n) (vs.take n)
  | _, _, 0, _ => Reps.nil
  | [], _, _ + 1, h => by rw [Reps.nil_iff.mp h]; exact Reps.nil
  | d :: ds, _, n + 1, h => by
    obtain ⟨v, r, rfl, h1, q⟩ := h.inv
    exact Reps.cons h1 (Reps.take n q)
theorem Reps.rev : ∀ {ds : List D} {vs : List V}, Reps K G ds vs → Reps K G ds.reverse vs.reverse
  | [], _, h => by rw [Reps.nil_iff.mp h]; exact Reps.nil
  | d :: ds, _, h => by
    obtain ⟨v, r, rfl, h1, q⟩ := h.inv
    rw [List.reverse_cons, List.reverse_cons]
    exact Reps.app (Reps.rev q) (Reps.cons h1 Reps.nil)
theorem Rep.int_iff {i : Int} {v : V} : Rep K G (.int i) v ↔ v = .int i := by simp only [Rep]
theorem Rep.str_iff {i : Str} {v : V} : Rep K G (.str i) v ↔ v = .str i := by simp only [Rep]
theorem Rep.bl_iff {i : Bool} {v : V} : Rep K G (.bl i) v ↔ v = .bl i := by simp only [Rep]
theorem Rep.non_iff {v : V} : Rep K G .non v ↔ v = .non := by simp only [Rep]
theorem Rep.lst_iff {ds : List D} {v : V} : Rep K G (.lst ds) v ↔ ∃ a vs, v = .ref a ∧ G a = some (.lst vs) ∧ Reps K G ds vs := by simp only [Rep]
theorem Rep.tup_iff {ds : List D} {v : V} : Rep K G (.tup ds) v ↔ ∃ a vs, v = .ref a ∧ SqT K G a vs ∧ Reps K G ds vs := by simp only [Rep]
theorem Rep.scr_iff {ns : List Int} {v : V} : Rep K G (.scr ns) v ↔ ∃ a, v = .ref a ∧ SqL K G a (ns.map .int) := by simp only [Rep]
theorem Rep.oh_iff {g : GS} {v : V} : Rep K G (.oh g) v ↔ ∃ a, v = .ref a ∧ OhAt K G g a := by simp only [Rep]
theorem Rep.gd_iff {g : GS} {v : V} : Rep K G (.gd g) v ↔ ∃ a, v = .ref a ∧ GdAt K G g a := by simp only [Rep]
/-- scalars -/
inductive Sca : D → V → Prop
  | non : Sca .non .non
  | bl (b : Bool) : Sca (.bl b) (.bl b)
  | int (i : Int) : Sca (.int i) (.int i)
  | str (x : Str) : Sca (.str x) (.str x)
theorem Sca.rep {d : D} {v : V} (h : Sca d v) : Rep K G d v := by
  cases h
  · exact Rep.non_iff.mpr rfl
  · exact Rep.bl_iff.mpr rfl
  · exact Rep.int_iff.mpr rfl
  · exact Rep.str_iff.mpr rfl
theorem Sca.of {d : D} {u v : V} (h : Sca d u) (r : Rep K G d v) : v = u := by
  cases h
  · exact Rep.non_iff.mp r
  · exact Rep.bl_iff.mp r
  · exact Rep.int_iff.mp r
  · exact Rep.str_iff.mp r
theorem Reps.scas : ∀ {ds : List D} {us vs : List V}, Paired Sca ds us → Reps K G ds vs → vs = us
  | _, _, _, .nil, h => Reps.nil_iff.mp h
  | _, _, _, .cons s t, h => by
    obtain ⟨v, r, rfl, h1, h2⟩ := h.inv
    rw [s.of h1, Reps.scas t h2]
theorem Reps.of_scas : ∀ {ds : List D} {us : List V}, Paired Sca ds us → Reps K G ds us
  | _, _, .nil => Reps.nil
  | _, _, .cons s t => Reps.cons s.rep (Reps.of_scas t)
theorem sca_map {α : Type} (f : α → D) (g : α → V) (h : ∀ a, Sca (f a) (g a)) : ∀ l : List α, Paired Sca (l.map f) (l.map g)
  | [] => .nil
  | a :: l => .cons (h a) (sca_map f g h l)
theorem Reps.ints_of {ns : List Int} {vs : List V} (h : Reps K G (ns.map .int) vs) : vs = ns.map .int := Reps.scas (sca_map _ _ (fun i => Sca.int i) ns) h
theorem Reps.of_ints (ns : List Int) : Reps K G (ns.map .int) (ns.map .int) := Reps.of_scas (sca_map _ _ (fun i => Sca.int i) ns)
end
section
variable {ι : Type} {X : ι → Cx} {K : PySem.W.Frag} {E : XK} {ρ : Rho} {R : Er → Prop} {pos : Pos}
/-! ### names, constants -/
theorem ev_name {x : Str} {j : Nat} {d : D} {Q : D → Prop} (h : ρ[j]? = some (.va d)) (q : Q d) (hN : ∀ i, (X i).N[j]? = some x := by intro _; rfl)
    (hv : ∀ i, Vis (X i).env.scope x := by intro _; first | exact Or.inl rfl | exact Or.inr (Or.inl rfl) | exact Or.inr (Or.inr rfl)) (hd : (x == ("__debug__" : Str)) = false := by decide) (hcd : (x == ("__classdict__" : Str)) = false := by decide) :
    ev X K E (.Name x pos) ρ Q R := ⟨fun B G H σ eB eG e w Qv k => by
  obtain ⟨v, h1, h2⟩ := e.va j d h
  exact ⟨_, fun i => pe_var (hN i) (hv i) hd hcd, v, h1, k d v G H q (Stp.refl eG) h2⟩⟩
theorem ev_sca {e : Expr} {d : D} {v : V} {Q : D → Prop} (s : Sca d v) (h : ∀ i, PE (X i) e (tC v)) (q : Q d) : ev X K E e ρ Q R := ⟨fun B G H σ eB eG x w Qv k =>
  ⟨_, h, k d v G H q (Stp.refl eG) s.rep⟩⟩
theorem ev_int {i : Int} {j} {Q : D → Prop} (q : Q (.int i)) : ev X K E (.Constant (.int i) j pos) ρ Q R := ev_sca (.int i) (fun _ => pe_int) q
theorem ev_bl {i : Bool} {j} {Q : D → Prop} (q : Q (.bl i)) : ev X K E (.Constant (.bool i) j pos) ρ Q R := ev_sca (.bl i) (fun _ => pe_bl) q
theorem ev_non {j} {Q : D → Prop} (q : Q .non) : ev X K E (.Constant .none j pos) ρ Q R := ev_sca .non (fun _ => pe_non) q
theorem ev_str {x : Str} {j} {Q : D → Prop} (q : Q (.str x)) : ev X K E (.Constant (.str x) j pos) ρ Q R := ev_sca (.str x) (fun _ => pe_str) q
/-! ### operations -/
theorem ev_bin {a b : Expr} {op : Operator} {Q : D → Prop} (h : ev X K E a ρ (fun x => ev X K E b ρ (fun y => opd X K (binaryOp op) x y Q) R) R) : ev X K E (.BinOp a op b pos) ρ Q R := ⟨fun B G H σ eB eG e w Qv k =>
  ⟨_, fun i => pe_op (wo_ok i) (we_ok i) (we_ok i), h.run B G H σ eB eG e w _ fun x vx G1 H1 hb s1 r1 => hb.run B G1 H1 σ (eB.trans s1.h) s1.i (e.mono s1) w _ fun y vy G2 H2 hc s2 r2 =>
    hc.run G2 H2 vx vy s2.i (r1.mono s2.g) r2 Qv fun d v G3 H3 q s3 r3 => k d v G3 H3 q ((s1.trans s2).trans s3) r3⟩⟩
theorem ev_cmp {a b : Expr} {op : CmpOp} {Q : D → Prop} (h : ev X K E a ρ (fun x => ev X K E b ρ (fun y => opd X K (compareOp op) x y Q) R) R) (hm : behindInMarks op b = false := by first | exact nomark _ | rfl) :
    ev X K E (.Compare a [op] [b] pos) ρ Q R := ⟨fun B G H σ eB eG e w Qv k =>
  ⟨_, fun i => pe_cmpR (wo_ok i) (we_ok i) (we_ok i) hm, h.run B G H σ eB eG e w _ fun x vx G1 H1 hb s1 r1 => hb.run B G1 H1 σ (eB.trans s1.h) s1.i (e.mono s1) w _ fun y vy G2 H2 hc s2 r2 =>
    hc.run G2 H2 vx vy s2.i (r1.mono s2.g) r2 Qv fun d v G3 H3 q s3 r3 => k d v G3 H3 q ((s1.trans s2).trans s3) r3⟩⟩
theorem evt_cmp {a b : Expr} {op : CmpOp} {Q : Bool → Prop} (h : ev X K E a ρ (fun x => ev X K E b ρ (fun y => opd X K (compareOp op) x y (fun d => ∃ c, d = .bl c ∧ Q c)) R) R) (hm : behindInMarks op b = false := by first | exact nomark _ | rfl) :
    evt X K E (.Compare a [op] [b] pos) ρ Q R := ⟨fun B G H σ eB eG e w Qv k =>
  ⟨_, fun i => pt_cmpR (wo_ok i) (we_ok i) (we_ok i) hm, h.run B G H σ eB eG e w _ fun x vx G1 H1 hb s1 r1 => hb.run B G1 H1 σ (eB.trans s1.h) s1.i (e.mono s1) w _ fun y vy G2 H2 hc s2 r2 =>
    hc.run G2 H2 vx vy s2.i (r1.mono s2.g) r2 _ fun d v G3 H3 ⟨c, hd, q⟩ s3 r3 => ⟨c, by subst hd; exact Rep.bl_iff.mp r3, k c G3 H3 q ((s1.trans s2).trans s3)⟩⟩⟩
theorem ev_binN {a b : Expr} {op : Operator} {Q : List D → Prop} (h : ev X K E a ρ (fun x => ev X K E b ρ (fun y => opn X K (binaryOp op) x y Q) R) R) : evn X K E (.BinOp a op b pos) ρ Q R := ⟨fun B G H σ eB eG e w Qv k =>
  ⟨_, fun i => pe_op (wo_ok i) (we_ok i) (we_ok i), h.run B G H σ eB eG e w _ fun x vx G1 H1 hb s1 r1 => hb.run B G1 H1 σ (eB.trans s1.h) s1.i (e.mono s1) w _ fun y vy G2 H2 hc s2 r2 =>
    hc.run G2 H2 vx vy s2.i (r1.mono s2.g) r2 Qv fun ds p vs G3 H3 q s3 hp1 hp2 hp3 r3 => k ds p vs G3 H3 q ((s1.trans s2).trans s3) ((s1.trans s2).h.free hp1) hp2 hp3 r3⟩⟩
/-- a new list as data -/
theorem own_data {G G' H H' : Hp} {p : Addr} {vs : List V} {ds : List D} (s : Stp G H G' H') (h1 : H p = none) (h2 : G' p = none) (h3 : H' p = some (.lst vs)) (r : Reps K G' ds vs) :
    Stp G H (upd G' p (.lst vs)) H' ∧ Rep K (upd G' p (.lst vs)) (.lst ds) (.ref p) := by
  have e : Ex G' (upd G' p (.lst vs)) := Ex.upd h2
  refine ⟨⟨s.g.trans e, s.h, fun a u q => ?_, fun a q => ?_⟩, Rep.lst_iff.mpr ⟨p, vs, rfl, upd_same, r.mono e⟩⟩
  · by_cases z : a = p
    · rw [z, upd_same] at q; cases q; rw [z]; exact h3
    · rw [upd_ne z] at q; exact s.i a u q
  · by_cases z : a = p
    · rw [z]; exact .inr h1
    · rw [upd_ne z] at q; exact s.n a q
theorem ev_of_evn {e : Expr} {Q : D → Prop} (h : evn X K E e ρ (fun ds => Q (.lst ds)) R) : ev X K E e ρ Q R := ⟨fun B G H σ eB eG x w Qv k => h.run B G H σ eB eG x w Qv fun ds p vs G' H' q s h1 h2 h3 r => by
  obtain ⟨s', r'⟩ := own_data s h1 h2 h3 r
  exact k _ _ _ _ q s' r'⟩
theorem opd_of_opn {f : Value → Value → Sem Value} {x y : D} {Q : D → Prop} (h : opn X K f x y (fun ds => Q (.lst ds))) : opd X K f x y Q := ⟨fun G H vx vy eG rx ry Qv k => h.run G H vx vy eG rx ry Qv fun ds p vs G' H' q s h1 h2 h3 r => by
  obtain ⟨s', r'⟩ := own_data s h1 h2 h3 r
  exact k _ _ _ _ q s' r'⟩
/-- an operation whose operands and value are scalars -/
theorem opd_sca {f : Value → Value → Sem Value} {x y z : D} {u v w : V} {Q : D → Prop} {r : R2} (hx : Sca x u) (hy : Sca y v) (hz : Sca z w) (h : ∀ i, OpR (X i) f r) (hr : ∀ (H : Hp) (Qv : VK), Qv w H → r u v H Qv) (q : Q z) : opd X K f x y Q := ⟨fun G H vx vy eG rx ry Qv k => by
  rw [hx.of rx, hy.of ry]
  exact ⟨r, h, hr H Qv (k z w G H q (Stp.refl eG) hz.rep)⟩⟩
section
variable {i j : Int} {Q : D → Prop}
theorem o_add (q : Q (.int (i + j))) : opd X K (binaryOp .Add) (.int i) (.int j) Q := opd_sca (.int _) (.int _) (.int _) (fun _ => op_add) (fun H Qv z => ⟨i, j, rfl, rfl, z⟩) q
theorem o_sub (q : Q (.int (i - j))) : opd X K (binaryOp .Sub) (.int i) (.int j) Q := opd_sca (.int _) (.int _) (.int _) (fun _ => op_sub) (fun H Qv z => ⟨i, j, rfl, rfl, z⟩) q
theorem o_mul (hc : CMul i j) (q : Q (.int (i * j))) : opd X K (binaryOp .Mult) (.int i) (.int j) Q := opd_sca (.int _) (.int _) (.int _) (fun _ => op_mul) (fun H Qv z => ⟨i, j, rfl, rfl, hc, z⟩) q
theorem o_mod (hc : 0 < j) (q : Q (.int (i % j))) : opd X K (binaryOp .Mod) (.int i) (.int j) Q := opd_sca (.int _) (.int _) (.int _) (fun _ => op_mod) (fun H Qv z => ⟨i, j, rfl, rfl, hc, z⟩) q
theorem o_div (hc : CDiv i j) (q : Q (.int (i / j))) : opd X K (binaryOp .FloorDiv) (.int i) (.int j) Q := opd_sca (.int _) (.int _) (.int _) (fun _ => op_fdiv) (fun H Qv z => ⟨i, j, rfl, rfl, hc, z⟩) q
theorem o_pow (hc : CPow i j) (q : Q (.int (i ^ j.toNat))) : opd X K (binaryOp .Pow) (.int i) (.int j) Q := opd_sca (.int _) (.int _) (.int _) (fun _ => op_pow) (fun H Qv z => ⟨i, j, rfl, rfl, hc, z⟩) q
theorem o_lt (q : Q (.bl (decide (i < j)))) : opd X K (compareOp .Lt) (.int i) (.int j) Q := opd_sca (.int _) (.int _) (.bl _) (fun _ => op_lt) (fun H Qv z => ⟨i, j, rfl, rfl, z⟩) q
theorem o_le (q : Q (.bl (decide (i ≤ j)))) : opd X K (compareOp .LtE) (.int i) (.int j) Q := opd_sca (.int _) (.int _) (.bl _) (fun _ => op_le) (fun H Qv z => ⟨i, j, rfl, rfl, z⟩) q
theorem o_gt (q : Q (.bl (decide (j < i)))) : opd X K (compareOp .Gt) (.int i) (.int j) Q := opd_sca (.int _) (.int _) (.bl _) (fun _ => op_gt) (fun H Qv z => ⟨i, j, rfl, rfl, z⟩) q
theorem o_ge (q : Q (.bl (decide (j ≤ i)))) : opd X K (compareOp .GtE) (.int i) (.int j) Q := opd_sca (.int _) (.int _) (.bl _) (fun _ => op_ge) (fun H Qv z => ⟨i, j, rfl, rfl, z⟩) q
theorem o_eqI (q : Q (.bl (decide (i = j)))) : opd X K (compareOp .Eq) (.int i) (.int j) Q := opd_sca (.int _) (.int _) (.bl _) (fun _ => op_eq) (fun H Qv z => ⟨rfl, by rw [dec_int]; rw [Bool.beq_eq_decide_eq]; exact z⟩) q
theorem o_neI (q : Q (.bl (!decide (i = j)))) : opd X K (compareOp .NotEq) (.int i) (.int j) Q := opd_sca (.int _) (.int _) (.bl _) (fun _ => op_ne) (fun H Qv z => ⟨rfl, by rw [dec_int]; rw [Bool.beq_eq_decide_eq]; exact z⟩) q
theorem o_eqS {a b : Str} (q : Q (.bl (decide (a = b)))) : opd X K (compareOp .Eq) (.str a) (.str b) Q := opd_sca (.str _) (.str _) (.bl _) (fun _ => op_eq) (fun H Qv z => ⟨rfl, by rw [dec_str]; rw [Bool.beq_eq_decide_eq]; exact z⟩) q
theorem o_neS {a b : Str} (q : Q (.bl (!decide (a = b)))) : opd X K (compareOp .NotEq) (.str a) (.str b) Q := opd_sca (.str _) (.str _) (.bl _) (fun _ => op_ne) (fun H Qv z => ⟨rfl, by rw [dec_str]; rw [Bool.beq_eq_decide_eq]; exact z⟩) q
theorem o_addS {a b : Str} (hl : a.length + b.length ≤ sizeLine) (q : Q (.str (a ++ b))) : opd X K (binaryOp .Add) (.str a) (.str b) Q := opd_sca (.str _) (.str _) (.str _) (fun _ => op_add_str) (fun H Qv z => ⟨a, b, rfl, rfl, hl, z⟩) q
end
/-- is None: any data -/
def D.isN : D → Bool
  | .non => true
  | _ => false
theorem Rep.isN {G : Hp} {d : D} {v : V} (r : Rep K G d v) : decide (v = .non) = d.isN := by
  cases d with
  | non => rw [Rep.non_iff.mp r]; rfl
  | bl b => rw [Rep.bl_iff.mp r]; rfl
  | int b => rw [Rep.int_iff.mp r]; rfl
  | str b => rw [Rep.str_iff.mp r]; rfl
  | lst b => obtain ⟨a, _, h, _⟩ := Rep.lst_iff.mp r; rw [h]; rfl
  | tup b => obtain ⟨a, _, h, _⟩ := Rep.tup_iff.mp r; rw [h]; rfl
  | scr b => obtain ⟨a, h, _⟩ := Rep.scr_iff.mp r; rw [h]; rfl
  | oh b => obtain ⟨a, h, _⟩ := Rep.oh_iff.mp r; rw [h]; rfl
  | gd b => obtain ⟨a, h, _⟩ := Rep.gd_iff.mp r; rw [h]; rfl
theorem o_isN {d : D} {Q : D → Prop} (q : Q (.bl d.isN)) : opd X K (compareOp .Is) d .non Q := ⟨fun G H vx vy eG rx ry Qv k =>
  ⟨_, fun _ => op_isN, Rep.non_iff.mp ry, by rw [rx.isN]; exact k _ _ G H q (Stp.refl eG) (Sca.bl _).rep⟩⟩
theorem o_notN {d : D} {Q : D → Prop} (q : Q (.bl (!d.isN))) : opd X K (compareOp .IsNot) d .non Q := ⟨fun G H vx vy eG rx ry Qv k =>
  ⟨_, fun _ => op_notN, Rep.non_iff.mp ry, by rw [rx.isN]; exact k _ _ G H q (Stp.refl eG) (Sca.bl _).rep⟩⟩
/-- lists: + and * -/
theorem o_cat {xs ys : List D} {Q : List D → Prop} (hl : xs.length + ys.length ≤ sizeLine) (q : Q (xs ++ ys)) : opn X K (binaryOp .Add) (.lst xs) (.lst ys) Q := ⟨fun G H vx vy eG rx ry Qv k => by
  obtain ⟨a, vs, rfl, ha, ra⟩ := Rep.lst_iff.mp rx
  obtain ⟨b, us, rfl, hb, rb⟩ := Rep.lst_iff.mp ry
  exact ⟨_, fun _ => op_cat, a, b, vs, us, rfl, rfl, eG _ _ ha, eG _ _ hb, by rw [ra.len, rb.len]; exact hl, fun p hp => k _ p _ G _ q (Stp.own eG hp) hp (eG.free hp) upd_same (ra.app rb)⟩⟩
theorem o_rep1 {x : D} {u : V} {n : Int} {Q : List D → Prop} (hx : Sca x u) (h0 : -(2 ^ 63) ≤ n ∧ n < 2 ^ 63) (hl : n.toNat ≤ sizeLine) (q : Q (List.replicate n.toNat x)) : opn X K (binaryOp .Mult) (.lst [x]) (.int n) Q := ⟨fun G H vx vy eG rx ry Qv k => by
  obtain ⟨a, vs, rfl, ha, ra⟩ := Rep.lst_iff.mp rx
  rw [Rep.int_iff.mp ry]
  have e : vs = [u] := Reps.scas (.cons hx .nil) ra
  subst e
  refine ⟨_, fun _ => op_rep, a, n, [u], rfl, rfl, eG _ _ ha, h0.1, h0.2, by simpa using hl, fun p hp => ?_⟩
  have e2 : (List.replicate n.toNat [u]).flatten = List.replicate n.toNat u := by
    induction n.toNat with
    | zero => rfl
    | succ m ih => rw [List.replicate_succ, List.flatten_cons, ih, List.replicate_succ]; rfl
  rw [e2]
  refine k _ p _ G _ q (Stp.own eG hp) hp (eG.free hp) upd_same (Reps.of_scas ?_)
  clear q hl h0 e2
  induction n.toNat with
  | zero => exact .nil
  | succ m ih => rw [List.replicate_succ, List.replicate_succ]; exact .cons hx ih⟩
end
end DL
namespace DL
open PySem PySem.Spec PyProof.Rows L2
/-- what all contexts of a family share -/
structure Ok {ι : Type} (X : ι → Cx) (P : Program) (w : World) (K : PySem.W.Frag) (mg : Str → Option Value) (base : Heap) (k : Nat) (E : XK) : Prop where
  p : ∀ i, (X i).prog = P
  w : ∀ i, (X i).w = w
  K : ∀ i, (X i).K = K
  mg : ∀ i, (X i).mg = mg
  base : ∀ i, (X i).base = base
  calm : ∀ i, (X i).calm = true
  nd : ∀ i, (X i).N.Nodup
  room : ∀ i, Room k (X i).A
  pass : ∀ i, Passes (L2N.CX (X i).prog (X i).w) (X i) E
theorem passN {X : Cx} : Passes (L2N.CX X.prog X.w) X E0 := fun _ _ _ _ _ _ _ h => by
  obtain ⟨_, _, _, _, _, _, _, _, _, _, _, _, z⟩ := h
  exact z.elim
section
variable {ι : Type} (X : ι → Cx) (K : PySem.W.Frag)
def WX : R2 := fun x y H Q => ∃ r, (∀ i, IxR (X i) r) ∧ r x y H Q
def WC (f : Value) : List V → Hp → VK → Prop := fun xs H Q => ∃ r, (∀ i, CallR (X i) f r) ∧ r xs H Q
theorem wx_ok {X : ι → Cx} (i : ι) : IxR (X i) (WX X) := fun a b pins s σ H x y v u Q I rx ry ⟨r, h, q⟩ hs => h i a b pins s σ H x y v u Q I rx ry q hs
theorem wc_ok {X : ι → Cx} {f : Value} (i : ι) : CallR (X i) f (WC X f) := fun pins s σ H xs us Q I rs ⟨r, h, q⟩ => h i pins s σ H xs us Q I rs q
/-- x[y] by values -/
structure ixd (x y : D) (Q : D → Prop) : Prop where
  run : ∀ (G H : Hp) (vx vy : V), Ex G H → Rep K G x vx → Rep K G y vy → ∀ Qv : VK, (∀ d v G' H', Q d → Stp G H G' H' → Rep K G' d v → Qv v H') → WX X vx vy H Qv
/-- f(..) by values, f a built-in -/
structure cad (f : Value) (ds : List D) (Q : D → Prop) : Prop where
  run : ∀ (G H : Hp) (vs : List V), Ex G H → Reps K G ds vs → ∀ Qv : VK, (∀ d v G' H', Q d → Stp G H G' H' → Rep K G' d v → Qv v H') → WC X f vs H Qv
structure can (f : Value) (ds : List D) (Q : List D → Prop) : Prop where
  run : ∀ (G H : Hp) (vs : List V), Ex G H → Reps K G ds vs → ∀ Qv : VK,
    (∀ ds p vs G' H', Q ds → Stp G H G' H' → H p = none → G' p = none → H' p = some (.lst vs) → Reps K G' ds vs → Qv (.ref p) H') → WC X f vs H Qv
end
section
variable {ι : Type} {X : ι → Cx} {P : Program} {w : World} {K : PySem.W.Frag} {mg : Str → Option Value} {base : Heap} {k : Nat} {E : XK} {ρ : Rho} {R : Er → Prop} {pos : Pos}
/-! ### arguments, displays -/
theorem evs_nil {Q : List D → Prop} (q : Q []) : evs X K E [] ρ Q R := ⟨fun B G H σ eB eG x w Qv k => ⟨_, fun i => pa_nil, k [] [] G H q (Stp.refl eG) Reps.nil⟩⟩
theorem evs_cons {e : Expr} {es : List Expr} {Q : List D → Prop} (h : ev X K E e ρ (fun d => evs X K E es ρ (fun ds => Q (d :: ds)) R) R)
    (hs : ∀ i, starEach (e :: es) (X i).env = (false, eval e (X i).env) :: starEach es (X i).env := by intro _; rfl) : evs X K E (e :: es) ρ Q R := ⟨fun B G H σ eB eG x w Qv k =>
  ⟨_, fun i => pa_cons (we_ok i) (wa_ok i) (hs i), h.run B G H σ eB eG x w _ fun d v G1 H1 h2 s1 r1 => h2.run B G1 H1 σ (eB.trans s1.h) s1.i (x.mono s1) w _ fun ds vs G2 H2 q s2 r2 =>
    k (d :: ds) (v :: vs) G2 H2 q (s1.trans s2) (Reps.cons (r1.mono s2.g) r2)⟩⟩
theorem ev_tup {es : List Expr} {x1} {Q : D → Prop} (h : evs X K E es ρ (fun ds => ds.length ≤ 1000 ∧ Q (.tup ds)) R) : ev X K E (.Tuple es x1 pos) ρ Q R := ⟨fun B G H σ eB eG x w Qv k =>
  ⟨_, fun i => pe_tup (wa_ok i), h.run B G H σ eB eG x w _ fun ds vs G1 H1 ⟨hl, q⟩ s1 r1 => ⟨by rw [r1.len]; exact Nat.le_trans hl (by decide), fun p hp => by
    have s2 := Stp.new (o := .tup vs) s1.i hp
    exact k _ _ _ _ q (s1.trans s2) (Rep.tup_iff.mpr ⟨p, vs, rfl, SqT.of upd_same, r1.mono s2.g⟩)⟩⟩⟩
theorem evn_lst {es : List Expr} {Q : List D → Prop} (h : evs X K E es ρ (fun ds => ds.length ≤ 1000 ∧ Q ds) R) : evn X K E (.List es pos) ρ Q R := ⟨fun B G H σ eB eG x w Qv k =>
  ⟨_, fun i => pe_lst (wa_ok i), h.run B G H σ eB eG x w _ fun ds vs G1 H1 ⟨hl, q⟩ s1 r1 => ⟨by rw [r1.len]; exact Nat.le_trans hl (by decide), fun p hp =>
    k ds p vs G1 _ q (s1.trans (Stp.own s1.i hp)) (s1.h.free hp) (s1.i.free hp) upd_same r1⟩⟩⟩
theorem ev_lst {es : List Expr} {Q : D → Prop} (h : evs X K E es ρ (fun ds => ds.length ≤ 1000 ∧ Q (.lst ds)) R) : ev X K E (.List es pos) ρ Q R := ev_of_evn (evn_lst h)
/-! ### subscripts -/
theorem ev_sub {a b : Expr} {Q : D → Prop} (h : ev X K E a ρ (fun x => ev X K E b ρ (fun y => ixd X K x y Q) R) R) (hs : PlainIx b := by exact fun _ _ => rfl) : ev X K E (.Subscript a b pos) ρ Q R := ⟨fun B G H σ eB eG e w Qv k =>
  ⟨_, fun i => pe_ix (wx_ok i) (we_ok i) (we_ok i) hs, h.run B G H σ eB eG e w _ fun x vx G1 H1 hb s1 r1 => hb.run B G1 H1 σ (eB.trans s1.h) s1.i (e.mono s1) w _ fun y vy G2 H2 hc s2 r2 =>
    hc.run G2 H2 vx vy s2.i (r1.mono s2.g) r2 Qv fun d v G3 H3 q s3 r3 => k d v G3 H3 q ((s1.trans s2).trans s3) r3⟩⟩
theorem Reps.atI {G : Hp} {ds : List D} {vs : List V} {j : Int} {d : D} (r : Reps K G ds vs) (h : L2.atI ds j = some d) : ∃ v, L2.atI vs j = some v ∧ Rep K G d v := by
  unfold L2.atI at h ⊢
  rw [r.len]
  cases e : ixN ds.length j with
  | none => rw [e] at h; cases h
  | some m =>
    rw [e] at h
    exact r.get h
theorem i_list (O : Ok X P w K mg base k E) {ds : List D} {j : Int} {d : D} {Q : D → Prop} (h : L2.atI ds j = some d) (q : Q d) : ixd X K (.lst ds) (.int j) Q := ⟨fun G H vx vy eG rx ry Qv kk => by
  obtain ⟨a, vs, rfl, ha, ra⟩ := Rep.lst_iff.mp rx
  rw [Rep.int_iff.mp ry]
  obtain ⟨v, hv, rv⟩ := ra.atI h
  exact ⟨rIxL K, fun i => by have := ix_list (X := X i); rw [O.K i] at this; exact this, a, vs, j, v, rfl, rfl, SqL.of (eG _ _ ha), hv, kk d v G H q (Stp.refl eG) rv⟩⟩
theorem i_listN (O : Ok X P w K mg base k E) {ds : List D} {j : Nat} {d : D} {Q : D → Prop} (h : ds[j]? = some d) (q : Q d) : ixd X K (.lst ds) (.int j) Q := i_list O (atI_nat h) q
theorem i_tup (O : Ok X P w K mg base k E) {ds : List D} {j : Int} {d : D} {Q : D → Prop} (h : L2.atI ds j = some d) (q : Q d) : ixd X K (.tup ds) (.int j) Q := ⟨fun G H vx vy eG rx ry Qv kk => by
  obtain ⟨a, vs, rfl, ha, ra⟩ := Rep.tup_iff.mp rx
  rw [Rep.int_iff.mp ry]
  obtain ⟨v, hv, rv⟩ := ra.atI h
  exact ⟨rIxT K, fun i => by have := ix_tup (X := X i); rw [O.K i] at this; exact this, a, vs, j, v, rfl, rfl, eG.sqT ha, hv, kk d v G H q (Stp.refl eG) rv⟩⟩
theorem i_tupN (O : Ok X P w K mg base k E) {ds : List D} {j : Nat} {d : D} {Q : D → Prop} (h : ds[j]? = some d) (q : Q d) : ixd X K (.tup ds) (.int j) Q := i_tup O (atI_nat h) q
theorem i_scr (O : Ok X P w K mg base k E) {ns : List Int} {j : Nat} {n : Int} {Q : D → Prop} (h : ns[j]? = some n) (q : Q (.int n)) : ixd X K (.scr ns) (.int j) Q := ⟨fun G H vx vy eG rx ry Qv kk => by
  obtain ⟨a, rfl, ha⟩ := Rep.scr_iff.mp rx
  rw [Rep.int_iff.mp ry]
  exact ⟨rIxL K, fun i => by have := ix_list (X := X i); rw [O.K i] at this; exact this, a, _, j, _, rfl, rfl, eG.sqL ha, atI_nat (by rw [List.getElem?_map, h]; rfl), kk _ _ G H q (Stp.refl eG) (Sca.int n).rep⟩⟩
theorem i_str {z : Str} {j : Int} {c : Nat} {Q : D → Prop} (hl : z.length ≤ sizeLine) (h : L2.atI z.cps.toList j = some c) (q : Q (.str ⟨#[c]⟩)) : ixd X K (.str z) (.int j) Q := ⟨fun G H vx vy eG rx ry Qv kk => by
  rw [Rep.str_iff.mp rx, Rep.int_iff.mp ry]
  exact ⟨rIxS, fun i => ix_str, z, j, c, rfl, rfl, hl, h, kk _ _ G H q (Stp.refl eG) (Sca.str _).rep⟩⟩
/-! ### slices -/
structure evo {ι : Type} (X : ι → Cx) (K : PySem.W.Frag) (E : XK) (e : Option Expr) (ρ : Rho) (Q : Option Int → Prop) (R : Er → Prop) : Prop where
  run : ∀ (B G H : Hp) (σ : L2.St), Ex B H → Ex G H → EnvR K B G H σ ρ → Wish K B E R → ∃ t : TO, (∀ i, PO (X i) e t) ∧ ∀ Qv : Option Int → Hp → Prop, (∀ o G' H', Q o → Stp G H G' H' → Qv o H') → t σ H Qv
def WP (X : ι → Cx) (e : Option Expr) : TO := fun σ H Q => ∃ t : TO, (∀ i, PO (X i) e t) ∧ t σ H Q
theorem wp_ok {e : Option Expr} (i : ι) : PO (X i) e (WP X e) := ⟨fun pins s σ H Q I ⟨t, h, q⟩ => (h i).run pins s σ H Q I q⟩
theorem evo_none {Q : Option Int → Prop} (q : Q none) : evo X K E none ρ Q R := ⟨fun B G H σ eB eG x w => ⟨tNoPart, fun i => po_none, fun Qv k => k none G H q (Stp.refl eG)⟩⟩
theorem evo_some {e : Expr} {Q : Option Int → Prop} (h : ev X K E e ρ (fun d => ∃ i, d = .int i ∧ Q (some i)) R) : evo X K E (some e) ρ Q R := ⟨fun B G H σ eB eG x w =>
  ⟨tPart (WE X e), fun i => po_some (we_ok i), fun Qv k => h.run B G H σ eB eG x w _ fun d v G' H' ⟨i, hd, q⟩ s r => ⟨i, by subst hd; exact Rep.int_iff.mp r, k (some i) G' H' q s⟩⟩⟩
def cutD (xs : List D) (lo hi : Option Int) : List D := (xs.drop (HT.sIx xs.length 0 lo)).take (HT.sIx xs.length xs.length hi - HT.sIx xs.length 0 lo)
theorem evn_slL (O : Ok X P w K mg base k E) {e : Expr} {lo hi : Option Expr} {p2 : Pos} {Q : List D → Prop}
    (h : ev X K E e ρ (fun d => ∃ ds, d = .lst ds ∧ evo X K E lo ρ (fun l => evo X K E hi ρ (fun u => Q (cutD ds l u)) R) R) R) : evn X K E (.Subscript e (.Slice lo hi none p2) pos) ρ Q R := ⟨fun B G H σ eB eG x w Qv kk =>
  ⟨_, fun i => pe_slice (r := rSlL K) (by have := sl_list (X := X i); rw [O.K i] at this; exact this) (we_ok i) (wp_ok i) (wp_ok i), h.run B G H σ eB eG x w _ fun d v G1 H1 ⟨ds, hd, hlo⟩ s1 r1 => by
    subst hd
    obtain ⟨a, vs, rfl, ha, ra⟩ := Rep.lst_iff.mp r1
    obtain ⟨t1, k1, q1⟩ := hlo.run B G1 H1 σ (eB.trans s1.h) s1.i (x.mono s1) w
    refine ⟨t1, k1, q1 _ fun l G2 H2 hhi s2 => ?_⟩
    obtain ⟨t2, k2, q2⟩ := hhi.run B G2 H2 σ (eB.trans (s1.h.trans s2.h)) s2.i (x.mono (s1.trans s2)) w
    refine ⟨t2, k2, q2 _ fun u G3 H3 q s3 => ⟨a, vs, rfl, SqL.of (s3.i _ _ ((s2.trans s3).g _ _ ha)), fun p hp => ?_⟩⟩
    have s4 := (s1.trans s2).trans s3
    refine kk _ p _ G3 _ q (s4.trans (Stp.own s3.i hp)) (s4.h.free hp) (s3.i.free hp) upd_same ?_
    have r' := ra.mono (s2.trans s3).g
    unfold cutV cutD
    rw [r'.len]
    exact (r'.drop _).take _⟩⟩
theorem ev_slL (O : Ok X P w K mg base k E) {e : Expr} {lo hi : Option Expr} {p2 : Pos} {Q : D → Prop}
    (h : ev X K E e ρ (fun d => ∃ ds, d = .lst ds ∧ evo X K E lo ρ (fun l => evo X K E hi ρ (fun u => Q (.lst (cutD ds l u))) R) R) R) : ev X K E (.Subscript e (.Slice lo hi none p2) pos) ρ Q R := ev_of_evn (evn_slL O h)
theorem ev_slS {e : Expr} {lo hi : Option Expr} {p2 : Pos} {Q : D → Prop}
    (h : ev X K E e ρ (fun d => ∃ z : Str, d = .str z ∧ z.length ≤ sizeLine ∧ evo X K E lo ρ (fun l => evo X K E hi ρ (fun u => Q (.str (cutS z l u))) R) R) R) : ev X K E (.Subscript e (.Slice lo hi none p2) pos) ρ Q R := ⟨fun B G H σ eB eG x w Qv kk =>
  ⟨_, fun i => pe_slice (r := rSlS) sl_str (we_ok i) (wp_ok i) (wp_ok i), h.run B G H σ eB eG x w _ fun d v G1 H1 ⟨z, hd, hz, hlo⟩ s1 r1 => by
    subst hd
    rw [Rep.str_iff.mp r1]
    obtain ⟨t1, k1, q1⟩ := hlo.run B G1 H1 σ (eB.trans s1.h) s1.i (x.mono s1) w
    refine ⟨t1, k1, q1 _ fun l G2 H2 hhi s2 => ?_⟩
    obtain ⟨t2, k2, q2⟩ := hhi.run B G2 H2 σ (eB.trans (s1.h.trans s2.h)) s2.i (x.mono (s1.trans s2)) w
    exact ⟨t2, k2, q2 _ fun u G3 H3 q s3 => ⟨z, rfl, hz, kk _ _ G3 H3 q ((s1.trans s2).trans s3) (Sca.str _).rep⟩⟩⟩⟩
/-- xs[::-1] -/
theorem evn_rev (O : Ok X P w K mg base k E) {e : Expr} {kk : Nat} {p1 p2 p3 : Pos} {Q : List D → Prop} (h : ev X K E e ρ (fun d => ∃ ds, d = .lst ds ∧ Q ds.reverse) R) :
    evn X K E (.Subscript e (.Slice none none (some (.UnaryOp .USub (.Constant (.int 1) kk p1) p2)) p3) pos) ρ Q R := ⟨fun B G H σ eB eG x w Qv k2 =>
  ⟨tRevL K (WE X e), fun i => by have := pe_revL (X := X i) (k := kk) (p1 := p1) (p2 := p2) (p3 := p3) (pos := pos) (we_ok (e := e) i); rw [O.K i] at this; exact this, h.run B G H σ eB eG x w _ fun d v G1 H1 ⟨ds, hd, q⟩ s1 r1 => by
    subst hd
    obtain ⟨a, vs, rfl, ha, ra⟩ := Rep.lst_iff.mp r1
    exact ⟨a, vs, rfl, SqL.of (s1.i _ _ ha), fun p hp => k2 _ p _ G1 _ q (s1.trans (Stp.own s1.i hp)) (s1.h.free hp) (s1.i.free hp) upd_same ra.rev⟩⟩⟩
/-- -e -/
theorem ev_neg {e : Expr} {Q : D → Prop} (h : ev X K E e ρ (fun d => ∃ i, d = .int i ∧ Q (.int (-i))) R) : ev X K E (.UnaryOp .USub e pos) ρ Q R := ⟨fun B G H σ eB eG x w Qv k =>
  ⟨_, fun i => pe_un un_neg (we_ok i), h.run B G H σ eB eG x w _ fun d v G1 H1 ⟨i, hd, q⟩ s1 r1 => by
    subst hd
    exact ⟨i, Rep.int_iff.mp r1, k _ _ G1 H1 q s1 (Sca.int _).rep⟩⟩⟩
/-! ### built-ins -/
theorem ev_callB {id : String} {x : Str} {e : Expr} {es : List Expr} {p : Pos} {Q : D → Prop} (O : Ok X P w K mg base k E) (hm : mg x = none) (h : evs X K E (e :: es) ρ (fun ds => cad X K (.builtin id) ds Q) R)
    (hv : bootBuiltins x = some (.builtin id) := by decide +kernel) (hg : ∀ i, Gl (X i) x := by intro _; rfl) (hn : x ≠ "__name__" := by decide) (hdb : (x == ("__debug__" : Str)) = false := by decide)
    (he : ∀ i, starEach (e :: es) (X i).env = (false, eval e (X i).env) :: starEach es (X i).env := by intro _; rfl) (hpl : ∀ i, (backTo pos (starEach es (X i).env)).any (·.1) = false := by intro _; rfl) : ev X K E (.Call (.Name x p) (e :: es) [] pos) ρ Q R := ⟨fun B G H σ eB eG c w Qv kk =>
  ⟨_, fun i => pe_callB (wc_ok i) (hg i) (by rw [O.mg i]; exact hm) hv (wa_ok i) hn hdb (he i) (hpl i), h.run B G H σ eB eG c w _ fun ds vs G1 H1 hc s1 r1 => hc.run G1 H1 vs s1.i r1 Qv fun d v G2 H2 q s2 r2 => kk d v G2 H2 q (s1.trans s2) r2⟩⟩
theorem evn_callB {id : String} {x : Str} {e : Expr} {es : List Expr} {p : Pos} {Q : List D → Prop} (O : Ok X P w K mg base k E) (hm : mg x = none) (h : evs X K E (e :: es) ρ (fun ds => can X K (.builtin id) ds Q) R)
    (hv : bootBuiltins x = some (.builtin id) := by decide +kernel) (hg : ∀ i, Gl (X i) x := by intro _; rfl) (hn : x ≠ "__name__" := by decide) (hdb : (x == ("__debug__" : Str)) = false := by decide)
    (he : ∀ i, starEach (e :: es) (X i).env = (false, eval e (X i).env) :: starEach es (X i).env := by intro _; rfl) (hpl : ∀ i, (backTo pos (starEach es (X i).env)).any (·.1) = false := by intro _; rfl) : evn X K E (.Call (.Name x p) (e :: es) [] pos) ρ Q R := ⟨fun B G H σ eB eG c w Qv kk =>
  ⟨_, fun i => pe_callB (wc_ok i) (hg i) (by rw [O.mg i]; exact hm) hv (wa_ok i) hn hdb (he i) (hpl i), h.run B G H σ eB eG c w _ fun ds vs G1 H1 hc s1 r1 => hc.run G1 H1 vs s1.i r1 Qv fun d q us G2 H2 z s2 h1 h2 h3 r2 => kk d q us G2 H2 z (s1.trans s2) (s1.h.free h1) h2 h3 r2⟩⟩
theorem ev_callT {id : String} {x : Str} {e : Expr} {es : List Expr} {p : Pos} {Q : D → Prop} (O : Ok X P w K mg base k E) (hm : mg x = none) (h : evs X K E (e :: es) ρ (fun ds => cad X K (.type id) ds Q) R)
    (hv : bootBuiltins x = some (.type id) := by decide +kernel) (hg : ∀ i, Gl (X i) x := by intro _; rfl) (hn : x ≠ "__name__" := by decide) (hdb : (x == ("__debug__" : Str)) = false := by decide)
    (he : ∀ i, starEach (e :: es) (X i).env = (false, eval e (X i).env) :: starEach es (X i).env := by intro _; rfl) (hpl : ∀ i, (backTo pos (starEach es (X i).env)).any (·.1) = false := by intro _; rfl) : ev X K E (.Call (.Name x p) (e :: es) [] pos) ρ Q R := ⟨fun B G H σ eB eG c w Qv kk =>
  ⟨_, fun i => pe_callTy (wc_ok i) (hg i) (by rw [O.mg i]; exact hm) hv (wa_ok i) hn hdb (he i) (hpl i), h.run B G H σ eB eG c w _ fun ds vs G1 H1 hc s1 r1 => hc.run G1 H1 vs s1.i r1 Qv fun d v G2 H2 q s2 r2 => kk d v G2 H2 q (s1.trans s2) r2⟩⟩
theorem evn_callT {id : String} {x : Str} {e : Expr} {es : List Expr} {p : Pos} {Q : List D → Prop} (O : Ok X P w K mg base k E) (hm : mg x = none) (h : evs X K E (e :: es) ρ (fun ds => can X K (.type id) ds Q) R)
    (hv : bootBuiltins x = some (.type id) := by decide +kernel) (hg : ∀ i, Gl (X i) x := by intro _; rfl) (hn : x ≠ "__name__" := by decide) (hdb : (x == ("__debug__" : Str)) = false := by decide)
    (he : ∀ i, starEach (e :: es) (X i).env = (false, eval e (X i).env) :: starEach es (X i).env := by intro _; rfl) (hpl : ∀ i, (backTo pos (starEach es (X i).env)).any (·.1) = false := by intro _; rfl) : evn X K E (.Call (.Name x p) (e :: es) [] pos) ρ Q R := ⟨fun B G H σ eB eG c w Qv kk =>
  ⟨_, fun i => pe_callTy (wc_ok i) (hg i) (by rw [O.mg i]; exact hm) hv (wa_ok i) hn hdb (he i) (hpl i), h.run B G H σ eB eG c w _ fun ds vs G1 H1 hc s1 r1 => hc.run G1 H1 vs s1.i r1 Qv fun d q us G2 H2 z s2 h1 h2 h3 r2 => kk d q us G2 H2 z (s1.trans s2) (s1.h.free h1) h2 h3 r2⟩⟩
/-- a call of scalars by which a scalar comes -/
theorem cad_sca {f : Value} {ds : List D} {us : List V} {z : D} {u : V} {Q : D → Prop} {r : List V → Hp → VK → Prop} (hx : Paired Sca ds us) (hz : Sca z u) (h : ∀ i, CallR (X i) f r) (hr : ∀ (H : Hp) (Qv : VK), Qv u H → r us H Qv) (q : Q z) : cad X K f ds Q := ⟨fun G H vs eG rs Qv kk => by
  rw [rs.scas hx]
  exact ⟨r, h, hr H Qv (kk z u G H q (Stp.refl eG) hz.rep)⟩⟩
theorem c_abs {i : Int} {Q : D → Prop} (q : Q (.int (if i < 0 then -i else i))) : cad X K (.builtin "abs") [.int i] Q := cad_sca (.cons (.int i) .nil) (.int _) (fun _ => call_abs) (fun H Qv z => ⟨i, rfl, z⟩) q
theorem c_int {i : Int} {Q : D → Prop} (q : Q (.int i)) : cad X K (.type "int") [.int i] Q := cad_sca (.cons (.int i) .nil) (.int _) (fun _ => call_int1) (fun H Qv z => .inl ⟨i, rfl, z⟩) q
theorem c_intB {b : Bool} {Q : D → Prop} (q : Q (.int (if b then 1 else 0))) : cad X K (.type "int") [.bl b] Q := cad_sca (.cons (.bl b) .nil) (.int _) (fun _ => call_int1) (fun H Qv z => .inr ⟨b, rfl, z⟩) q
theorem c_len (O : Ok X P w K mg base k E) {ds : List D} {Q : D → Prop} (q : Q (.int ds.length)) : cad X K (.builtin "len") [.lst ds] Q := ⟨fun G H vs eG rs Qv kk => by
  obtain ⟨v, r, rfl, h1, h2⟩ := rs.inv
  rw [Reps.nil_iff.mp h2]
  obtain ⟨a, us, rfl, ha, ra⟩ := Rep.lst_iff.mp h1
  refine ⟨fun xs H Q => ∃ x n, xs = [x] ∧ LenV K x H n ∧ Q (.int n) H, fun i => by have := call_len (X := X i); rw [O.K i] at this; exact this, .ref a, us.length, rfl, .inl ⟨us, SqL.of (eG _ _ ha), rfl⟩, ?_⟩
  rw [ra.len]
  exact kk _ _ G H q (Stp.refl eG) (Sca.int _).rep⟩
theorem c_lenS (O : Ok X P w K mg base k E) {ns : List Int} {Q : D → Prop} (q : Q (.int ns.length)) : cad X K (.builtin "len") [.scr ns] Q := ⟨fun G H vs eG rs Qv kk => by
  obtain ⟨v, r, rfl, h1, h2⟩ := rs.inv
  rw [Reps.nil_iff.mp h2]
  obtain ⟨a, rfl, ha⟩ := Rep.scr_iff.mp h1
  refine ⟨fun xs H Q => ∃ x n, xs = [x] ∧ LenV K x H n ∧ Q (.int n) H, fun i => by have := call_len (X := X i); rw [O.K i] at this; exact this, .ref a, ns.length, rfl, .inl ⟨_, eG.sqL ha, by simp⟩, ?_⟩
  exact kk _ _ G H q (Stp.refl eG) (Sca.int _).rep⟩
theorem c_lenT (O : Ok X P w K mg base k E) {z : Str} {Q : D → Prop} (hz : z.length ≤ sizeLine) (q : Q (.int z.length)) : cad X K (.builtin "len") [.str z] Q :=
  cad_sca (r := fun xs H Q => ∃ x n, xs = [x] ∧ LenV K x H n ∧ Q (.int n) H) (.cons (.str z) .nil) (.int _) (fun i => by have := call_len (X := X i); rw [O.K i] at this; exact this) (fun H Qv y => ⟨_, _, rfl, ⟨hz, rfl⟩, y⟩) q
theorem Rep.intL {G : Hp} {ns : List Int} {v : V} (r : Rep K G (lI ns) v) : ∃ a, v = .ref a ∧ G a = some (.lst (ns.map .int)) := by
  obtain ⟨a, us, rfl, ha, ra⟩ := Rep.lst_iff.mp r
  rw [ra.ints_of] at ha
  exact ⟨a, rfl, ha⟩
theorem Reps.one {G : Hp} {d : D} {vs : List V} (r : Reps K G [d] vs) : ∃ v, vs = [v] ∧ Rep K G d v := by
  obtain ⟨v, t, rfl, h1, h2⟩ := r.inv
  rw [Reps.nil_iff.mp h2]
  exact ⟨v, rfl, h1⟩
theorem c_max (O : Ok X P w K mg base k E) {ns : List Int} {Q : D → Prop} (h0 : 0 < ns.length) (q : ∀ m, m ∈ ns → (∀ y ∈ ns, y ≤ m) → Q (.int m)) : cad X K (.builtin "max") [lI ns] Q := ⟨fun G H vs eG rs Qv kk => by
  obtain ⟨v, rfl, h1⟩ := rs.one
  obtain ⟨a, rfl, ha⟩ := h1.intL
  exact ⟨rMax K, fun i => by have := cr_max (O.calm i); rw [O.K i] at this; exact this, a, ns, rfl, SqL.of (eG _ _ ha), h0, fun m hm hy => kk _ _ G H (q m hm hy) (Stp.refl eG) (Sca.int _).rep⟩⟩
theorem c_min (O : Ok X P w K mg base k E) {ns : List Int} {Q : D → Prop} (h0 : 0 < ns.length) (q : ∀ m, m ∈ ns → (∀ y ∈ ns, m ≤ y) → Q (.int m)) : cad X K (.builtin "min") [lI ns] Q := ⟨fun G H vs eG rs Qv kk => by
  obtain ⟨v, rfl, h1⟩ := rs.one
  obtain ⟨a, rfl, ha⟩ := h1.intL
  exact ⟨rMin K, fun i => by have := cr_min (O.calm i); rw [O.K i] at this; exact this, a, ns, rfl, SqL.of (eG _ _ ha), h0, fun m hm hy => kk _ _ G H (q m hm hy) (Stp.refl eG) (Sca.int _).rep⟩⟩
theorem c_sorted (O : Ok X P w K mg base k E) {ns : List Int} {Q : List D → Prop} (q : ∀ ms : List Int, ms.Perm ns → ms.Pairwise (· ≤ ·) → Q (ms.map .int)) : can X K (.builtin "sorted") [lI ns] Q := ⟨fun G H vs eG rs Qv kk => by
  obtain ⟨v, rfl, h1⟩ := rs.one
  obtain ⟨a, rfl, ha⟩ := h1.intL
  exact ⟨rSortedI K, fun i => by have := cr_sortedI (X := X i); rw [O.K i] at this; exact this, a, ns, rfl, SqL.of (eG _ _ ha), fun ms p h1 h2 hp => kk _ p _ G _ (q ms h1 h2) (Stp.own eG hp) hp (eG.free hp) upd_same (Reps.of_ints ms)⟩⟩
theorem c_list (O : Ok X P w K mg base k E) {ds : List D} {Q : List D → Prop} (q : Q ds) : can X K (.type "list") [.lst ds] Q := ⟨fun G H vs eG rs Qv kk => by
  obtain ⟨v, rfl, h1⟩ := rs.one
  obtain ⟨a, us, rfl, ha, ra⟩ := Rep.lst_iff.mp h1
  exact ⟨fun xs H Q => ∃ p ys, xs = [.ref p] ∧ (SqL K H p ys ∨ SqT K H p ys) ∧ ∀ l, H l = none → Q (.ref l) (upd H l (.lst ys)), fun i => by have := call_list_of (X := X i); rw [O.K i] at this; exact this, a, us, rfl, .inl (SqL.of (eG _ _ ha)), fun p hp => kk _ p _ G _ q (Stp.own eG hp) hp (eG.free hp) upd_same ra⟩⟩
theorem sca_bls (bs : List Bool) : Paired Sca (bs.map .bl) (bs.map .bl) := sca_map _ _ (fun b => Sca.bl b) bs
theorem c_all (O : Ok X P w K mg base k E) {bs : List Bool} {Q : D → Prop} (q : Q (.bl (bs.all id))) : cad X K (.builtin "all") [.lst (bs.map .bl)] Q := ⟨fun G H vs eG rs Qv kk => by
  obtain ⟨v, rfl, h1⟩ := rs.one
  obtain ⟨a, us, rfl, ha, ra⟩ := Rep.lst_iff.mp h1
  rw [ra.scas (sca_bls bs)] at ha
  exact ⟨rAll K, fun i => by have := cr_all (O.calm i); rw [O.K i] at this; exact this, a, bs, rfl, SqL.of (eG _ _ ha), kk _ _ G H q (Stp.refl eG) (Sca.bl _).rep⟩⟩
end
end DL
namespace DL
open PySem PySem.Spec PyProof.Rows L2
section
variable {ι : Type} (X : ι → Cx) (K : PySem.W.Frag) (E : XK)
def WW (e : Expr) : TT := fun σ H Q => ∃ t, (∀ i, PW (X i) e t) ∧ t σ H Q
theorem ww_ok {X : ι → Cx} {e : Expr} (i : ι) : PW (X i) e (WW X e) := ⟨fun wh pins s σ H Q I ⟨t, h, q⟩ => (h i).run wh pins s σ H Q I q⟩
/-- and, or as a test -/
structure evw (e : Expr) (ρ : Rho) (Q : Bool → Prop) (R : Er → Prop) : Prop where
  run : ∀ (B G H : Hp) (σ : L2.St), Ex B H → Ex G H → EnvR K B G H σ ρ → Wish K B E R → ∀ Qv : Bool → Hp → Prop, (∀ b G' H', Q b → Stp G H G' H' → Qv b H') → WW X e σ H Qv
def WTs (ifs : List Expr) : TT := fun σ H Q => ∃ t, (∀ i, PTs (X i) ifs t) ∧ t σ H Q
theorem wts_ok {X : ι → Cx} {e : List Expr} (i : ι) : PTs (X i) e (WTs X e) := ⟨fun pins s σ H Q I ⟨t, h, q⟩ => (h i).run pins s σ H Q I q⟩
structure evi (ifs : List Expr) (ρ : Rho) (Q : Bool → Prop) : Prop where
  run : ∀ (B G H : Hp) (σ : L2.St), Ex B H → Ex G H → EnvR K B G H σ ρ → ∀ Qv : Bool → Hp → Prop, (∀ b G' H', Q b → Stp G H G' H' → Qv b H') → WTs X ifs σ H Qv
def WG (tgt : Expr) : TG := fun v σ H Q => ∃ t, (∀ i, PG (X i) tgt t) ∧ t v σ H Q
theorem wg_ok {X : ι → Cx} {e : Expr} (i : ι) : PG (X i) e (WG X e) := ⟨fun pins s σ H v u Q I r ⟨t, h, q⟩ => (h i).run pins s σ H v u Q I r q⟩
/-- the slots js are stored, nothing else -/
def OnlyAt (js : List Nat) (σ σ' : L2.St) : Prop := ∀ vs, (∀ j ∈ js, j ∈ vs) → wipe σ' vs = wipe σ vs
/-- a target takes d -/
structure tgd (tgt : Expr) (js : List Nat) (d : D) (ρ : Rho) (Pn : Rho → Prop) : Prop where
  run : ∀ (B G H : Hp) (σ : L2.St) (v : V), Ex B H → Ex G H → EnvR K B G H σ ρ → Rep K G d v → ∀ Qv : L2.St → Hp → Prop, (∀ ρ' σ', Pn ρ' → EnvR K B G H σ' ρ' → OnlyAt js σ σ' → Qv σ' H) → WG X tgt v σ H Qv
end
section
variable {ι : Type} {X : ι → Cx} {P : Program} {w : World} {K : PySem.W.Frag} {mg : Str → Option Value} {base : Heap} {k : Nat} {E : XK} {ρ : Rho} {R : Er → Prop} {pos : Pos}
/-! ### tests -/
theorem evt_val {e : Expr} {Q : Bool → Prop} (h : ev X K E e ρ (fun d => ∃ b, d = .bl b ∧ Q b) R)
    (he : ∀ i whole, isTrue e (X i).env whole = (do let v ← whole; standAt e.pos; holding [v] (truthy v)) := by intro _ _; rfl) : evt X K E e ρ Q R := ⟨fun B G H σ eB eG x w Qv k =>
  ⟨_, fun i => pt_val (we_ok i) (he i), h.run B G H σ eB eG x w _ fun d v G' H' ⟨b, hd, q⟩ s r => ⟨b, by subst hd; exact Rep.bl_iff.mp r, k b G' H' q s⟩⟩⟩
/-- the truth of a list -/
theorem evt_truL (O : Ok X P w K mg base k E) {e : Expr} {Q : Bool → Prop} (h : ev X K E e ρ (fun d => ∃ ds, d = .lst ds ∧ Q (!ds.isEmpty)) R)
    (he : ∀ i whole, isTrue e (X i).env whole = (do let v ← whole; standAt e.pos; holding [v] (truthy v)) := by intro _ _; rfl) : evt X K E e ρ Q R := ⟨fun B G H σ eB eG x w Qv kk =>
  ⟨fun σ H Q => WE X e σ H fun x H' => ∃ k, TruV K x H' k ∧ Q k H', fun i => by have := pt_truth (X := X i) (we_ok (e := e) i) (he i); rw [O.K i] at this; exact this, h.run B G H σ eB eG x w _ fun d v G' H' ⟨ds, hd, q⟩ s r => by
    subst hd
    obtain ⟨a, us, rfl, ha, ra⟩ := Rep.lst_iff.mp r
    refine ⟨!ds.isEmpty, .inl ⟨us, SqL.of (s.i _ _ ha), ?_⟩, kk _ G' H' q s⟩
    have e := ra.len
    cases us <;> cases ds <;> first | rfl | simp at e⟩⟩
theorem evt_not {a : Expr} {Q : Bool → Prop} (h : evt X K E a ρ (fun b => Q (!b)) R) : evt X K E (.UnaryOp .Not a pos) ρ Q R := ⟨fun B G H σ eB eG x w Qv k =>
  ⟨_, fun i => pt_not (wt_ok i), h.run B G H σ eB eG x w _ fun b G' H' q s => k _ G' H' q s⟩⟩
theorem evw_and1 {a : Expr} {Q : Bool → Prop} (h : evt X K E a ρ Q R) : evw X K E (.BoolOp .And [a] pos) ρ Q R := ⟨fun B G H σ eB eG x w Qv k => ⟨_, fun i => pw_and1 (wt_ok i), h.run B G H σ eB eG x w Qv k⟩⟩
theorem evw_or1 {a : Expr} {Q : Bool → Prop} (h : evt X K E a ρ Q R) : evw X K E (.BoolOp .Or [a] pos) ρ Q R := ⟨fun B G H σ eB eG x w Qv k => ⟨_, fun i => pw_or1 (wt_ok i), h.run B G H σ eB eG x w Qv k⟩⟩
theorem evw_and {a b : Expr} {rest : List Expr} {Q : Bool → Prop} (h : evt X K E a ρ (fun c => (c = true → evw X K E (.BoolOp .And (b :: rest) pos) ρ Q R) ∧ (c = false → Q false)) R) : evw X K E (.BoolOp .And (a :: b :: rest) pos) ρ Q R := ⟨fun B G H σ eB eG x w Qv k =>
  ⟨_, fun i => pw_and (wt_ok i) (ww_ok i), h.run B G H σ eB eG x w _ fun c G1 H1 ⟨q1, q2⟩ s1 => by
    cases c with
    | true => exact (q1 rfl).run B G1 H1 σ (eB.trans s1.h) s1.i (x.mono s1) w Qv fun b G2 H2 q s2 => k b G2 H2 q (s1.trans s2)
    | false => exact k _ G1 H1 (q2 rfl) s1⟩⟩
theorem evw_or {a b : Expr} {rest : List Expr} {Q : Bool → Prop} (h : evt X K E a ρ (fun c => (c = true → Q true) ∧ (c = false → evw X K E (.BoolOp .Or (b :: rest) pos) ρ Q R)) R) : evw X K E (.BoolOp .Or (a :: b :: rest) pos) ρ Q R := ⟨fun B G H σ eB eG x w Qv k =>
  ⟨_, fun i => pw_or (wt_ok i) (ww_ok i), h.run B G H σ eB eG x w _ fun c G1 H1 ⟨q1, q2⟩ s1 => by
    cases c with
    | true => exact k _ G1 H1 (q1 rfl) s1
    | false => exact (q2 rfl).run B G1 H1 σ (eB.trans s1.h) s1.i (x.mono s1) w Qv fun b G2 H2 q s2 => k b G2 H2 q (s1.trans s2)⟩⟩
theorem evt_w {e : Expr} {Q : Bool → Prop} (h : evw X K E e ρ Q R) : evt X K E e ρ Q R := ⟨fun B G H σ eB eG x w Qv k => ⟨_, fun i => (ww_ok i).pt, h.run B G H σ eB eG x w Qv k⟩⟩
/-- and, or, not as values of bools -/
theorem ev_one {op} {a : Expr} {Q : D → Prop} (h : ev X K E a ρ Q R) : ev X K E (.BoolOp op [a] pos) ρ Q R := ⟨fun B G H σ eB eG x w Qv k => ⟨_, fun i => pe_one (we_ok i), h.run B G H σ eB eG x w Qv k⟩⟩
theorem ev_and {a b : Expr} {rest : List Expr} {Q : D → Prop} (h : ev X K E a ρ (fun x => ∃ c, x = .bl c ∧ (c = true → ev X K E (.BoolOp .And (b :: rest) pos) ρ Q R) ∧ (c = false → Q (.bl false))) R) : ev X K E (.BoolOp .And (a :: b :: rest) pos) ρ Q R := ⟨fun B G H σ eB eG x w Qv k =>
  ⟨_, fun i => pe_and (we_ok i) (we_ok i), h.run B G H σ eB eG x w _ fun d v G1 H1 ⟨c, hd, q1, q2⟩ s1 r1 => by
    subst hd
    refine ⟨c, Rep.bl_iff.mp r1, ?_⟩
    cases c with
    | true => exact (q1 rfl).run B G1 H1 σ (eB.trans s1.h) s1.i (x.mono s1) w Qv fun b u G2 H2 q s2 r2 => k b u G2 H2 q (s1.trans s2) r2
    | false => exact k _ _ G1 H1 (q2 rfl) s1 (Sca.bl _).rep⟩⟩
theorem ev_or {a b : Expr} {rest : List Expr} {Q : D → Prop} (h : ev X K E a ρ (fun x => ∃ c, x = .bl c ∧ (c = true → Q (.bl true)) ∧ (c = false → ev X K E (.BoolOp .Or (b :: rest) pos) ρ Q R)) R) : ev X K E (.BoolOp .Or (a :: b :: rest) pos) ρ Q R := ⟨fun B G H σ eB eG x w Qv k =>
  ⟨_, fun i => pe_or (we_ok i) (we_ok i), h.run B G H σ eB eG x w _ fun d v G1 H1 ⟨c, hd, q1, q2⟩ s1 r1 => by
    subst hd
    refine ⟨c, Rep.bl_iff.mp r1, ?_⟩
    cases c with
    | true => exact k _ _ G1 H1 (q1 rfl) s1 (Sca.bl _).rep
    | false => exact (q2 rfl).run B G1 H1 σ (eB.trans s1.h) s1.i (x.mono s1) w Qv fun b u G2 H2 q s2 r2 => k b u G2 H2 q (s1.trans s2) r2⟩⟩
theorem ev_not {a : Expr} {Q : D → Prop} (h : ev X K E a ρ (fun x => ∃ c, x = .bl c ∧ Q (.bl (!c))) R) : ev X K E (.UnaryOp .Not a pos) ρ Q R := ⟨fun B G H σ eB eG x w Qv k =>
  ⟨_, fun i => pe_not (we_ok i), h.run B G H σ eB eG x w _ fun d v G1 H1 ⟨c, hd, q⟩ s1 r1 => by
    subst hd
    exact ⟨c, Rep.bl_iff.mp r1, k _ _ G1 H1 q s1 (Sca.bl _).rep⟩⟩⟩
theorem evi_nil {Q : Bool → Prop} (q : Q true) : evi X K [] ρ Q := ⟨fun B G H σ eB eG x Qv k => ⟨tYes, fun i => pts_nil, k true G H q (Stp.refl eG)⟩⟩
theorem evi_one {c : Expr} {Q : Bool → Prop} (h : evt X K E0 c ρ Q (fun _ => False)) : evi X K [c] ρ Q := ⟨fun B G H σ eB eG x Qv k => ⟨_, fun i => pts_one (wt_ok i), h.run B G H σ eB eG x Wish.none Qv k⟩⟩
/-! ### targets -/
theorem wipe_set (σ : L2.St) (j : Nat) (x : Option V) : ∀ vs : List Nat, wipe (σ.set j x) vs = if j ∈ vs then wipe σ vs else (wipe σ vs).set j x
  | [] => by simp [wipe]
  | u :: vs => by
    have ih := wipe_set σ j x vs
    show (wipe (σ.set j x) vs).set u none = if j ∈ u :: vs then (wipe σ vs).set u none else ((wipe σ vs).set u none).set j x
    rw [ih]
    by_cases h1 : j ∈ vs
    · rw [if_pos h1, if_pos (List.mem_cons_of_mem _ h1)]
    · rw [if_neg h1]
      by_cases h2 : j = u
      · subst h2
        rw [if_pos List.mem_cons_self, List.set_set]
      · rw [if_neg (by simp [h1, h2]), List.set_comm _ _ h2]
theorem OnlyAt.set (σ : L2.St) (j : Nat) (x : Option V) : OnlyAt [j] σ (σ.set j x) := fun vs h => by
  rw [wipe_set, if_pos (h j (by simp))]
theorem OnlyAt.app {js ks : List Nat} {a b c : L2.St} (h : OnlyAt js a b) (g : OnlyAt ks b c) : OnlyAt (js ++ ks) a c := fun vs hv =>
  (g vs fun j hj => hv j (List.mem_append_right _ hj)).trans (h vs fun j hj => hv j (List.mem_append_left _ hj))
theorem tg_name {x : Str} {j : Nat} {d : D} {Pn : Rho → Prop} (O : Ok X P w K mg base k E) (q : Pn (ρ.set j (.va d))) (hN : ∀ i, (X i).N[j]? = some x := by intro _; rfl)
    (hx : ∀ i, Loc (X i).env.scope x := by intro _; first | exact Or.inl rfl | exact Or.inr rfl) (hf : ∀ i, (X i).fn x = true ∨ (X i).env.scope.names.lookup x = some .local := by intro _; first | exact .inl rfl | exact .inr rfl) :
    tgd X K (.Name x pos) [j] d ρ Pn := ⟨fun B G H σ v eB eG e r Qv kk => ⟨_, fun i => pg_name (O.nd i) (hN i) (hx i) (hf i), kk _ _ q (e.set j r) (OnlyAt.set σ j _)⟩⟩
theorem tg_tup2 {t1 t2 : Expr} {x1} {js ks : List Nat} {a b : D} {Pn : Rho → Prop} (O : Ok X P w K mg base k E) (h : tgd X K t1 js a ρ (fun ρ1 => tgd X K t2 ks b ρ1 Pn))
    (h1 : ∀ i, (assignEach [t1, t2] (X i).env).map (·.2) = assign t1 (X i).env :: (assignEach [t2] (X i).env).map (·.2) := by intro _; rfl) (h2 : ∀ i, (assignEach [t2] (X i).env).map (·.2) = assign t2 (X i).env :: (assignEach [] (X i).env).map (·.2) := by intro _; rfl)
    (hn : ∀ i, (assignEach [t1, t2] (X i).env).length = 2 := by intro _; rfl) (hst : ∀ i, (assignEach [t1, t2] (X i).env).findIdx? (·.1) = none := by intro _; rfl) :
    tgd X K (.Tuple [t1, t2] x1 pos) (js ++ ks) (.tup [a, b]) ρ Pn := ⟨fun B G H σ v eB eG e r Qv kk => by
  obtain ⟨p, vs, rfl, hp, rp⟩ := Rep.tup_iff.mp r
  obtain ⟨u1, t, rfl, r1, rt⟩ := rp.inv
  obtain ⟨u2, rfl, r2⟩ := rt.one
  refine ⟨gTup K 2 (gCons (WG X t1) (gCons (WG X t2) gNil)), fun i => by have := pg_tup (X := X i) (k := x1) (pos := pos) (O.calm i) (pgs_cons (wg_ok (e := t1) i) (pgs_cons (wg_ok (e := t2) i) pgs_nil (h2 i)) (h1 i)) (hn i) (hst i); rw [O.K i] at this; exact this,
    p, [u1, u2], rfl, eG.sqT hp, rfl, u1, [u2], rfl, ?_⟩
  refine h.run B G H σ u1 eB eG e r1 _ fun ρ1 σ1 q1 e1 o1 => ⟨u2, [], rfl, ?_⟩
  exact q1.run B G H σ1 u2 eB eG e1 r2 _ fun ρ2 σ2 q2 e2 o2 => ⟨rfl, kk _ _ q2 e2 (o1.app o2)⟩⟩
/-! ### blocks -/
theorem st_nil {D : DE} (q : D.nx ρ) : stm X K E [] ρ D R := ⟨fun G0 B G H σ Dv s e w m => ⟨_, fun i => pss_nil, m.nx ρ σ G H q s e⟩⟩
theorem st_cons {a : Stmt} {as : List Stmt} {D : DE} (h : st1 X K E a ρ { D with nx := fun ρ' => stm X K E as ρ' D R } R) : stm X K E (a :: as) ρ D R := ⟨fun G0 B G H σ Dv s e w m =>
  ⟨_, fun i => pss_cons (ws_ok i) (wb_ok i), h.run G0 B G H σ _ s e w ⟨fun ρ' σ' G' H' q s' e' => q.run G0 B G' H' σ' Dv s' e' w m, m.bk, m.ct, m.rt⟩⟩⟩
theorem st_one {a : Stmt} {D : DE} (h : st1 X K E a ρ D R) : stm X K E [a] ρ D R := ⟨fun G0 B G H σ Dv s e w m => ⟨_, fun i => pss_one (ws_ok i), h.run G0 B G H σ _ s e w m⟩⟩
theorem s_pass {D : DE} (q : D.nx ρ) : st1 X K E (.Pass pos) ρ D R := ⟨fun G0 B G H σ Dv s e w m => ⟨_, fun i => ps_pass, m.nx ρ σ G H q s e⟩⟩
theorem s_ret {e : Expr} {D : DE} (h : ev X K E e ρ D.rt R) : st1 X K E (.Return (some e) pos) ρ D R := ⟨fun G0 B G H σ Dv s x w m =>
  ⟨_, fun i => ps_ret (we_ok i), h.run B G H σ s.h s.i x w _ fun d v G' H' q s' r => m.rt d v G' H' q (s.trans s') r⟩⟩
theorem s_retN {D : DE} (h : D.rt .non) : st1 X K E (.Return none pos) ρ D R := ⟨fun G0 B G H σ Dv s x w m =>
  ⟨_, fun i => ps_retN, m.rt _ _ G H h s Sca.non.rep⟩⟩
theorem s_if {c : Expr} {a b : List Stmt} {D : DE} (h : evt X K E c ρ (fun t => (t = true → stm X K E a ρ D R) ∧ (t = false → stm X K E b ρ D R)) R) : st1 X K E (.If c a b pos) ρ D R := ⟨fun G0 B G H σ Dv s x w m =>
  ⟨_, fun i => ps_if (wt_ok i) (wb_ok i) (wb_ok i), h.run B G H σ s.h s.i x w _ fun t G1 H1 ⟨q1, q2⟩ s1 => by
    cases t with
    | true => exact (q1 rfl).run G0 B G1 H1 σ Dv (s.trans s1) (x.mono s1) w m
    | false => exact (q2 rfl).run G0 B G1 H1 σ Dv (s.trans s1) (x.mono s1) w m⟩⟩
theorem s_expr {e : Expr} {D : DE} (h : ev X K E e ρ (fun _ => D.nx ρ) R) (hs : ∀ i, swapsWith e none pos.line (X i).env = pure false := by intro _; rfl) : st1 X K E (.Expr e pos) ρ D R := ⟨fun G0 B G H σ Dv s x w m =>
  ⟨_, fun i => ps_expr (we_ok i) (hs i), h.run B G H σ s.h s.i x w _ fun d v G' H' q s' r => m.nx ρ σ G' H' q (s.trans s') (x.mono s')⟩⟩
/-- x = e -/
theorem s_set {j : Nat} {x : Str} {e : Expr} {D : DE} {pos' : Pos} (O : Ok X P w K mg base k E) (h : ev X K E e ρ (fun d => D.nx (ρ.set j (.va d))) R) (hN : ∀ i, (X i).N[j]? = some x := by intro _; rfl)
    (hx : ∀ i, Loc (X i).env.scope x := by intro _; first | exact Or.inl rfl | exact Or.inr rfl) (hs : ∀ i, swapsWith e (some (.Name x pos')) pos.line (X i).env = pure false := by intro _; rfl)
    (hf : ∀ i, (X i).fn x = true ∨ (X i).env.scope.names.lookup x = some .local := by intro _; first | exact .inl rfl | exact .inr rfl) : st1 X K E (.Assign [.Name x pos'] e pos) ρ D R := ⟨fun G0 B G H σ Dv s c w m =>
  ⟨_, fun i => ps_set (O.nd i) (hN i) (hx i) (we_ok i) (hs i) (hf i), h.run B G H σ s.h s.i c w _ fun d v G' H' q s' r => m.nx _ _ G' H' q (s.trans s') ((c.mono s').set j r)⟩⟩
/-- x = e, e gives a new list: a list of one's own -/
theorem s_setO {j : Nat} {x : Str} {e : Expr} {D : DE} {pos' : Pos} (O : Ok X P w K mg base k E) (h : evn X K E e ρ (fun ds => D.nx (ρ.set j (.ow ds))) R) (hN : ∀ i, (X i).N[j]? = some x := by intro _; rfl)
    (hx : ∀ i, Loc (X i).env.scope x := by intro _; first | exact Or.inl rfl | exact Or.inr rfl) (hs : ∀ i, swapsWith e (some (.Name x pos')) pos.line (X i).env = pure false := by intro _; rfl)
    (hf : ∀ i, (X i).fn x = true ∨ (X i).env.scope.names.lookup x = some .local := by intro _; first | exact .inl rfl | exact .inr rfl) : st1 X K E (.Assign [.Name x pos'] e pos) ρ D R := ⟨fun G0 B G H σ Dv s c w m =>
  ⟨_, fun i => ps_set (O.nd i) (hN i) (hx i) (we_ok i) (hs i) (hf i), h.run B G H σ s.h s.i c w _ fun ds p vs G' H' q s' h1 h2 h3 r => m.nx _ _ G' H' q (s.trans s') ((c.mono s').setOwn j (s.h.free h1) h2 h3 r fun i es _ hi hp => by
    obtain ⟨l, us, k1, _, _, k4, _⟩ := c.ow i es hi
    rw [k1] at hp
    cases hp
    rw [h1] at k4; cases k4)⟩⟩
/-- target = e -/
theorem s_asg {tg e : Expr} {js : List Nat} {D : DE} (h : ev X K E e ρ (fun d => tgd X K tg js d ρ D.nx) R) (hs : ∀ i, swapsWithSole [tg] e pos.line (X i).env = pure false := by intro _; rfl) (hw : ∀ i, swappedStores [tg] e (X i).env = pure none := by intro _; rfl)
    (h1 : ∀ i, (assignEach [tg] (X i).env).map (·.2) = [assign tg (X i).env] := by intro _; rfl) : st1 X K E (.Assign [tg] e pos) ρ D R := ⟨fun G0 B G H σ Dv s c w m =>
  ⟨_, fun i => ps_asg (we_ok i) (wg_ok i) (hs i) (hw i) (h1 i), h.run B G H σ s.h s.i c w _ fun d v G' H' q s' r =>
    q.run B G' H' σ v (s.h.trans s'.h) s'.i (c.mono s') r _ fun ρ' σ' q' e' _ => m.nx ρ' σ' G' H' q' (s.trans s') e'⟩⟩
/-- x += e, ints -/
theorem s_augI {j : Nat} {x : Str} {e : Expr} {D : DE} {pos' : Pos} {a : Int} (O : Ok X P w K mg base k E) (hj : ρ[j]? = some (.va (.int a))) (h : ev X K E e ρ (fun d => ∃ b, d = .int b ∧ D.nx (ρ.set j (.va (.int (a + b))))) R) (hN : ∀ i, (X i).N[j]? = some x := by intro _; rfl)
    (hx : ∀ i, Loc (X i).env.scope x := by intro _; first | exact Or.inl rfl | exact Or.inr rfl)
    (hf : ∀ i, (X i).fn x = true ∨ (X i).env.scope.names.lookup x = some .local := by intro _; first | exact .inl rfl | exact .inr rfl) : st1 X K E (.AugAssign (.Name x pos') .Add e pos) ρ D R := ⟨fun G0 B G H σ Dv s c w m => by
  obtain ⟨v, h1, h2⟩ := c.va j _ hj
  rw [Rep.int_iff.mp h2] at h1
  exact ⟨_, fun i => ps_aug (O.nd i) (hN i) (hx i) (we_ok i) ip_add (hf i), .int a, h1, h.run B G H σ s.h s.i c w _ fun d v G' H' ⟨b, hd, q⟩ s' r => by
    subst hd
    exact ⟨a, b, rfl, Rep.int_iff.mp r, m.nx _ _ G' H' q (s.trans s') ((c.mono s').set j (Sca.int _).rep)⟩⟩⟩
theorem s_subI {j : Nat} {x : Str} {e : Expr} {D : DE} {pos' : Pos} {a : Int} (O : Ok X P w K mg base k E) (hj : ρ[j]? = some (.va (.int a))) (h : ev X K E e ρ (fun d => ∃ b, d = .int b ∧ D.nx (ρ.set j (.va (.int (a - b))))) R) (hN : ∀ i, (X i).N[j]? = some x := by intro _; rfl)
    (hx : ∀ i, Loc (X i).env.scope x := by intro _; first | exact Or.inl rfl | exact Or.inr rfl)
    (hf : ∀ i, (X i).fn x = true ∨ (X i).env.scope.names.lookup x = some .local := by intro _; first | exact .inl rfl | exact .inr rfl) : st1 X K E (.AugAssign (.Name x pos') .Sub e pos) ρ D R := ⟨fun G0 B G H σ Dv s c w m => by
  obtain ⟨v, h1, h2⟩ := c.va j _ hj
  rw [Rep.int_iff.mp h2] at h1
  exact ⟨_, fun i => ps_aug (O.nd i) (hN i) (hx i) (we_ok i) ip_sub (hf i), .int a, h1, h.run B G H σ s.h s.i c w _ fun d v G' H' ⟨b, hd, q⟩ s' r => by
    subst hd
    exact ⟨a, b, rfl, Rep.int_iff.mp r, m.nx _ _ G' H' q (s.trans s') ((c.mono s').set j (Sca.int _).rep)⟩⟩⟩
/-- a list of one's own is data from now on -/
theorem st_unown {ss : List Stmt} {D : DE} (j : Nat) {ds : List DL.D} (hj : ρ[j]? = some (.ow ds)) (h : stm X K E ss (ρ.set j (.va (.lst ds))) D R) : stm X K E ss ρ D R := ⟨fun G0 B G H σ Dv s c w m => by
  obtain ⟨G', g1, g2, g3, c'⟩ := c.unown s.i hj
  exact h.run G0 B G' H σ Dv ⟨s.g.trans g1, s.h, g2, fun a q => (g3 a q).elim (s.n a) .inr⟩ c' w m⟩
/-- x.append(e), x a list of one's own -/
theorem s_app {j : Nat} {x : Str} {e : Expr} {D : DE} {ds : List DL.D} {p1 p2 p3 : Pos} (O : Ok X P w K mg base k E) (hj : ρ[j]? = some (.ow ds)) (hl : ds.length < sizeLine) (h : ev X K E e ρ (fun d => D.nx (ρ.set j (.ow (ds ++ [d])))) R) (hN : ∀ i, (X i).N[j]? = some x := by intro _; rfl)
    (hv : ∀ i, Vis (X i).env.scope x := by intro _; first | exact Or.inl rfl | exact Or.inr (Or.inl rfl) | exact Or.inr (Or.inr rfl)) (hd : (x == ("__debug__" : Str)) = false := by decide) (hcd : (x == ("__classdict__" : Str)) = false := by decide)
    (hbase : ∀ i, attributeBase (.Name x p1) "append" (X i).env (eval (.Name x p1) (X i).env) = eval (.Name x p1) (X i).env := by intro _; rfl)
    (hfew : ∀ i, ((backTo p3 (starEach [e] (X i).env)).all (fun x => !x.1) && (backToKw p3 (keywordEach [] (X i).env)).all (fun x => x.1.isSome) && decide ([e].length + ([] : List Keyword).length + (if ([] : List Keyword).isEmpty then 0 else 1) < 30)) = true := by intro _; rfl)
    (hline : (p2.endLine == p3.line) = true := by rfl) (hs1 : ∀ i, starEach [e] (X i).env = (false, eval e (X i).env) :: starEach [] (X i).env := by intro _; rfl) (hs : ∀ i, swapsWith (.Call (.Attribute (.Name x p1) "append" p2) [e] [] p3) none pos.line (X i).env = pure false := by intro _; rfl) :
    st1 X K E (.Expr (.Call (.Attribute (.Name x p1) "append" p2) [e] [] p3) pos) ρ D R := ⟨fun G0 B G H σ Dv s c w m => by
  obtain ⟨l, vs, h1, h2, h3, h4, h5⟩ := c.ow j ds hj
  refine ⟨tDrop (tBM K "list" rAppend (tVar j) (tCons (WE X e) tNil)), fun i => by
    have z := pe_bm (X := X i) PySem.F.plainAttrs_list PySem.F.slot_list_append PySem.F.type_list_append mt_append (pe_var (pos := p1) (hN i) (hv i) hd hcd) (pa_cons (we_ok (e := e) i) pa_nil (hs1 i)) (hbase i) (hfew i) hline (hs1 i) (by rfl)
    rw [O.K i] at z
    exact ps_expr z (hs i), .ref l, h1, .inl ⟨rfl, vs, SqL.of h4⟩, ?_⟩
  refine h.run B G H σ s.h s.i c w _ fun d v G' H' q s' r => ⟨l, vs, v, rfl, rfl, s'.h _ _ h4, by rw [h5.len]; exact hl, ?_⟩
  have s2 := s.trans s'
  have g' : G' l = none := by
    obtain ⟨l', us, k1, k2, _⟩ := (c.mono s').ow j ds hj
    rw [h1] at k1; cases k1; exact k2
  refine m.nx _ _ G' _ q ⟨s2.g, fun a o z => ?_, fun a o z => ?_, s2.n⟩ ((c.mono s').wrote hj h1 ((h5.mono s'.g).app (Reps.cons r Reps.nil)))
  · rw [upd_ne (ne_of_none z h3)]; exact s2.h a o z
  · rw [upd_ne (ne_of_none z g')]; exact s2.i a o z⟩
/-- x[i] = e, x a list of one's own -/
theorem s_put {j : Nat} {x : Str} {e ei : Expr} {D : DE} {ds : List DL.D} {p1 p2 : Pos} (O : Ok X P w K mg base k E) (hj : ρ[j]? = some (.ow ds))
    (h : ev X K E e ρ (fun d => ev X K E ei ρ (fun y => ∃ n : Nat, y = .int n ∧ n < ds.length ∧ D.nx (ρ.set j (.ow (ds.set n d)))) R) R) (hN : ∀ i, (X i).N[j]? = some x := by intro _; rfl)
    (hv : ∀ i, Vis (X i).env.scope x := by intro _; first | exact Or.inl rfl | exact Or.inr (Or.inl rfl) | exact Or.inr (Or.inr rfl)) (hd : (x == ("__debug__" : Str)) = false := by decide) (hcd : (x == ("__classdict__" : Str)) = false := by decide)
    (ha : ∀ i v, assign (.Subscript (.Name x p1) ei p2) (X i).env v = (do
      let ov ← holding [v] (eval (.Name x p1) (X i).env)
      let iv ← holding [v, ov] (eval ei (X i).env)
      standAt p2
      holding [v, ov, iv] (setItem ov iv v)
      release [v, ov, iv] []) := by intro _ _; rfl)
    (hs : ∀ i, swapsWithSole [.Subscript (.Name x p1) ei p2] e pos.line (X i).env = pure false := by intro _; rfl) (hw : ∀ i, swappedStores [.Subscript (.Name x p1) ei p2] e (X i).env = pure none := by intro _; rfl)
    (h1 : ∀ i, (assignEach [.Subscript (.Name x p1) ei p2] (X i).env).map (·.2) = [assign (.Subscript (.Name x p1) ei p2) (X i).env] := by intro _; rfl) :
    st1 X K E (.Assign [.Subscript (.Name x p1) ei p2] e pos) ρ D R := ⟨fun G0 B G H σ Dv s c w m => by
  obtain ⟨l, vs, l1, l2, l3, l4, l5⟩ := c.ow j ds hj
  refine ⟨_, fun i => ps_asg (we_ok i) (pg_sub (pe_var (hN i) (hv i) hd hcd) (we_ok i) set_list (ha i)) (hs i) (hw i) (h1 i), ?_⟩
  refine h.run B G H σ s.h s.i c w _ fun d v G1 H1 q1 s1 r1 => ⟨.ref l, l1, ?_⟩
  refine q1.run B G1 H1 σ (s.h.trans s1.h) s1.i (c.mono s1) w _ fun y u G2 H2 ⟨n, hy, hn, q⟩ s2 r2 => ?_
  subst hy
  have s3 := s1.trans s2
  have s4 := s.trans s3
  have g' : G2 l = none := by
    obtain ⟨l', us, k1, k2, _⟩ := (c.mono s3).ow j ds hj
    rw [l1] at k1; cases k1; exact k2
  have lv := l5.len
  refine ⟨l, vs, (n : Int), n, rfl, Rep.int_iff.mp r2, s3.h _ _ l4, ?_, ?_⟩
  · unfold ixN
    rw [if_pos (Int.natCast_nonneg n), if_pos (by rw [lv]; exact Int.ofNat_lt.mpr hn), Int.toNat_natCast]
  · refine m.nx _ _ G2 _ q ⟨s4.g, fun a o z => ?_, fun a o z => ?_, s4.n⟩ ((c.mono s3).wrote hj l1 ((l5.mono s3.g).set n (r1.mono s2.g)))
    · rw [upd_ne (ne_of_none z l3)]; exact s4.h a o z
    · rw [upd_ne (ne_of_none z g')]; exact s4.i a o z⟩
end
end DL
namespace DL
open PySem PySem.Spec PyProof.Rows L2
section
variable {ι : Type} {X : ι → Cx} {P : Program} {w : World} {K : PySem.W.Frag} {mg : Str → Option Value} {base : Heap} {k : Nat} {E : XK} {ρ : Rho} {R : Er → Prop} {pos : Pos}
/-! ### loops -/
/-- for target in e, e a list -/
theorem s_for {tg e : Expr} {body : List Stmt} {js : List Nat} {D : DE} (O : Ok X P w K mg base k E) (hp : ∀ i, PassesOwn (model (X i).prog (X i).w) (X i).A (X i).env (X i).xe)
    (h : ev X K E e ρ (fun d => ∃ ds, d = .lst ds ∧ ∃ I : Nat → Rho → Prop, I 0 ρ ∧
      (∀ (n : Nat) x ρ', ds[n]? = some x → I n ρ' → tgd X K tg js x ρ' (fun ρ2 => stm X K E body ρ2 { D with nx := I (n + 1), ct := I (n + 1), bk := D.nx } R)) ∧ ∀ ρ', I ds.length ρ' → D.nx ρ') R)
    (hs : ∀ i x, foldedSetIterable e (X i).env x = pure x := by intro _ _; rfl) : st1 X K E (.For tg e body [] pos) ρ D R := ⟨fun G0 B G H σ Dv s c w m =>
  ⟨tFor (iList K (WE X e)) (WG X tg) (WB X body), fun i => by have := ps_for (pos := pos) (hp i) (O.calm i) (pi_list (X := X i) (tg := tg) (we_ok (e := e) i)) (wg_ok (e := tg) i) (wb_ok (e := body) i) (hs i); rw [O.K i] at this; exact this,
    h.run B G H σ s.h s.i c w _ fun d v G1 H1 ⟨ds, hd, I, i0, hstep, hend⟩ s1 r1 => by
      subst hd
      obtain ⟨a, vs, rfl, ha, ra⟩ := Rep.lst_iff.mp r1
      have s2 := s.trans s1
      refine ⟨a, rfl, ⟨vs, SqL.of (s1.i _ _ ha)⟩, for_list (K := K) (a := a) (xs := vs) (fun n σ' H' => ∃ ρ' G', I n ρ' ∧ Stp G1 B G' H' ∧ EnvR K B G' H' σ' ρ') ⟨ρ, G1, i0, ⟨Ex.refl _, s2.h, s1.i, fun a q => .inl q⟩, c.mono s1⟩
        (fun n σ' H' _ ⟨ρ', G', _, t, _⟩ => SqL.of (t.i _ _ (t.g _ _ ha))) ?_ ?_⟩
      · rintro n x σ' H' hx ⟨ρ', G', hI, t, c'⟩
        have hn : n < ds.length := by rw [← ra.len]; exact (List.getElem?_eq_some_iff.mp hx).1
        obtain ⟨v, hv, rv⟩ := ra.get (List.getElem?_eq_getElem hn)
        rw [hx] at hv
        cases hv
        refine (hstep n _ ρ' (List.getElem?_eq_getElem hn) hI).run B G' H' σ' x t.h t.i c' (rv.mono t.g) _ fun ρ2 σ2 q2 c2 _ => ?_
        exact q2.run G1 B G' H' σ2 _ t c2 w ⟨fun ρ3 σ3 G3 H3 q3 t3 c3 => ⟨ρ3, G3, q3, t3, c3⟩, fun ρ3 σ3 G3 H3 q3 t3 c3 => m.nx ρ3 σ3 G3 H3 q3 ⟨s2.g.trans t3.g, t3.h, t3.i, fun a q => (t3.n a q).elim (s2.n a) .inr⟩ c3, fun ρ3 σ3 G3 H3 q3 t3 c3 => ⟨ρ3, G3, q3, t3, c3⟩,
          fun d v G3 H3 q3 t3 r3 => m.rt d v G3 H3 q3 ⟨s2.g.trans t3.g, t3.h, t3.i, fun a q => (t3.n a q).elim (s2.n a) .inr⟩ r3⟩
      · rintro σ' H' ⟨ρ', G', hI, t, c'⟩
        rw [ra.len] at hI
        exact m.nx ρ' σ' G' H' (hend ρ' hI) ⟨s2.g.trans t.g, t.h, t.i, fun a q => (t.n a q).elim (s2.n a) .inr⟩ c'⟩⟩
/-- for target in range(e) -/
theorem s_forR {tg e : Expr} {body : List Stmt} {js : List Nat} {D : DE} {p p2 : Pos} (O : Ok X P w K mg base k E) (hp : ∀ i, PassesOwn (model (X i).prog (X i).w) (X i).A (X i).env (X i).xe) (hm : mg "range" = none)
    (h : ev X K E e ρ (fun d => ∃ N : Nat, d = .int N ∧ N < 2 ^ 62 ∧ ∃ I : Nat → Rho → Prop, I 0 ρ ∧
      (∀ (n : Nat) ρ', n < N → I n ρ' → tgd X K tg js (.int n) ρ' (fun ρ2 => stm X K E body ρ2 { D with nx := I (n + 1), ct := I (n + 1), bk := D.nx } R)) ∧ ∀ ρ', I N ρ' → D.nx ρ') R)
    (hg : ∀ i, Gl (X i) "range" := by intro _; rfl) (hst : ∀ i, starEach [e] (X i).env = [(false, eval e (X i).env)] := by intro _; rfl) (hst2 : ∀ i, starEach [e] (X i).env = (false, eval e (X i).env) :: starEach [] (X i).env := by intro _; rfl)
    (hs : ∀ i x, foldedSetIterable (.Call (.Name "range" p) [e] [] p2) (X i).env x = pure x := by intro _ _; rfl) : st1 X K E (.For tg (.Call (.Name "range" p) [e] [] p2) body [] pos) ρ D R := ⟨fun G0 B G H σ Dv s c w m =>
  ⟨tFor (iRng1 (tCons (WE X e) tNil)) (WG X tg) (WB X body), fun i => ps_for (hp i) (O.calm i) (pi_range1 (hg i) (by rw [O.mg i]; exact hm) (pa_cons (we_ok (e := e) i) pa_nil (hst2 i)) (hst i)) (wg_ok (e := tg) i) (wb_ok (e := body) i) (hs i),
    h.run B G H σ s.h s.i c w _ fun d v G1 H1 ⟨N, hd, hN, I, i0, hstep, hend⟩ s1 r1 => by
      subst hd
      have s2 := s.trans s1
      have up : ∀ {G3 H3 : Hp}, Stp G1 B G3 H3 → Stp G0 B G3 H3 := fun t3 => ⟨s2.g.trans t3.g, t3.h, t3.i, fun a q => (t3.n a q).elim (s2.n a) .inr⟩
      refine ⟨(N : Int), by rw [Rep.int_iff.mp r1], by omega, by omega, ?_⟩
      rw [Int.toNat_natCast]
      refine for_range (lo := 0) (n := N) (fun n σ' H' => ∃ ρ' G', I n ρ' ∧ Stp G1 B G' H' ∧ EnvR K B G' H' σ' ρ') ⟨ρ, G1, i0, ⟨Ex.refl _, s2.h, s1.i, fun a q => .inl q⟩, c.mono s1⟩ ?_ ?_
      · rintro n σ' H' hn ⟨ρ', G', hI, t, c'⟩
        have e0 : (0 : Int) + (n : Int) = (n : Int) := Int.zero_add _
        show WG X tg (.int ((0 : Int) + (n : Int))) σ' H' _
        rw [e0]
        refine (hstep n ρ' hn hI).run B G' H' σ' _ t.h t.i c' (Sca.int _).rep _ fun ρ2 σ2 q2 c2 _ => ?_
        exact q2.run G1 B G' H' σ2 _ t c2 w ⟨fun ρ3 σ3 G3 H3 q3 t3 c3 => ⟨ρ3, G3, q3, t3, c3⟩, fun ρ3 σ3 G3 H3 q3 t3 c3 => m.nx ρ3 σ3 G3 H3 q3 (up t3) c3, fun ρ3 σ3 G3 H3 q3 t3 c3 => ⟨ρ3, G3, q3, t3, c3⟩,
          fun d v G3 H3 q3 t3 r3 => m.rt d v G3 H3 q3 (up t3) r3⟩
      · rintro σ' H' ⟨ρ', G', hI, t, c'⟩
        exact m.nx ρ' σ' G' H' (hend ρ' hI) (up t) c'⟩⟩
/-! ### comprehensions -/
def Blk {ι : Type} (X : ι → Cx) (scope : Scope) : ι × (Shared × Hp × Addr × List (Str × Addr) × List Addr) → Cx := fun p => (X p.1).blk p.2.1 p.2.2.1 scope (compEnvC scope p.2.2.2.2.1 p.2.2.2.1 (X p.1).env) p.2.2.2.2.2
theorem Ok.blk (O : Ok X P w K mg base k E) (scope : Scope) : Ok (Blk X scope) P w K mg base k E0 := ⟨fun i => O.p i.1, fun i => O.w i.1, fun i => O.K i.1, fun i => O.mg i.1, fun i => O.base i.1, fun i => O.calm i.1, fun i => O.nd i.1, fun i => O.room i.1, fun _ => passN⟩
def wipeR (ρ : Rho) : List Nat → Rho
  | [] => ρ
  | v :: vs => (wipeR ρ vs).set v .no
theorem EnvR.setNo {K : PySem.W.Frag} {B G H : Hp} {σ : L2.St} {ρ : Rho} (x : EnvR K B G H σ ρ) (i : Nat) (o : Option V) : EnvR K B G H (σ.set i o) (ρ.set i .no) := by
  have key : ∀ (j : Nat) s, s ≠ Sl.no → (ρ.set i .no)[j]? = some s → i ≠ j ∧ ρ[j]? = some s := fun j s hs hj => by
    by_cases q : i = j
    · subst q
      by_cases hl : i < ρ.length
      · rw [List.getElem?_set_self hl] at hj
        exact absurd (Option.some.inj hj).symm hs
      · rw [List.getElem?_eq_none (by simpa using hl)] at hj; cases hj
    · rw [List.getElem?_set_ne q] at hj
      exact ⟨q, hj⟩
  refine ⟨by simp [x.len], fun j e hj => ?_, fun j es hj => ?_, fun j m fs gs hne hj hm => ?_, x.gus_set i _ _ (fun _ => nofun) fun _ _ _ z => z⟩
  · obtain ⟨q, hj⟩ := key j (.va e) (nofun) hj
    rw [List.getElem?_set_ne q]
    exact x.va j e hj
  · obtain ⟨q, hj⟩ := key j (.ow es) (nofun) hj
    rw [List.getElem?_set_ne q]
    exact x.ow j es hj
  · obtain ⟨q, hj⟩ := key j (.ow fs) (nofun) hj
    obtain ⟨q', hm⟩ := key m (.ow gs) (nofun) hm
    rw [List.getElem?_set_ne q, List.getElem?_set_ne q']
    exact x.ne j m fs gs hne hj hm
theorem EnvR.wipe {K : PySem.W.Frag} {B G H : Hp} {σ : L2.St} {ρ : Rho} (x : EnvR K B G H σ ρ) : ∀ vs : List Nat, EnvR K B G H (L2.wipe σ vs) (wipeR ρ vs)
  | [] => x
  | v :: vs => (EnvR.wipe x vs).setNo v none
theorem wipe_idem (σ : L2.St) (vs : List Nat) : L2.wipe (L2.wipe σ vs) vs = L2.wipe σ vs := by
  have key : ∀ us : List Nat, (∀ u ∈ us, u ∈ vs) → L2.wipe (L2.wipe σ vs) us = L2.wipe σ vs := by
    intro us
    induction us with
    | nil => intro _; rfl
    | cons u us ih =>
      intro h
      show (L2.wipe (L2.wipe σ vs) us).set u none = _
      rw [ih fun z hz => h z (List.mem_cons_of_mem _ hz)]
      have hu := h u List.mem_cons_self
      clear ih h
      induction vs with
      | nil => cases hu
      | cons z zs ih2 =>
        show ((L2.wipe σ zs).set z none).set u none = (L2.wipe σ zs).set z none
        by_cases e : z = u
        · subst e; rw [List.set_set]
        · rw [List.set_comm _ _ e, ih2 ((List.mem_cons.mp hu).resolve_left (Ne.symm e))]
  exact key vs fun _ h => h
/-- what a turn of the block must give -/
def Turns {ι : Type} (X : ι → Cx) (K : PySem.W.Frag) (scope : Scope) (tg elt : Expr) (ifs : List Expr) (js vs : List Nat) (ρ : Rho) (f : DL.D → Bool) (g : DL.D → DL.D) (x : DL.D) : Prop :=
  tgd (Blk X scope) K tg js x (wipeR ρ vs) (fun ρ2 => evi (Blk X scope) K ifs ρ2 (fun b => b = f x ∧ (b = true → ev (Blk X scope) K E0 elt ρ2 (fun y => y = g x) (fun _ => False))))
/-- one turn at the level of readings -/
theorem lc_turn {scope : Scope} {tg elt : Expr} {ifs : List Expr} {js vs : List Nat} {f : DL.D → Bool} {g : DL.D → DL.D} {x : DL.D} {u : V} {B G1 H1 Gc Hc : Hp} {σ : L2.St} {Dl : Addr} {acc : List V} {es : List DL.D}
    (hjs : ∀ j ∈ js, j ∈ vs) (t : Turns X K scope tg elt ifs js vs ρ f g x) (eB : Ex B H1) (c : EnvR K B G1 H1 σ ρ) (s : Stp G1 H1 Gc Hc) (hD1 : H1 Dl = none) (hD : Hc Dl = some (.lst acc)) (gD : Gc Dl = none) (ra : Reps K Gc es acc) (rx : Rep K Gc x u) (hl : es.length < sizeLine)
    {Pv : Hp → Prop} (hP : ∀ G' H' acc', Stp G1 H1 G' H' → H' Dl = some (.lst acc') → G' Dl = none → Reps K G' (es ++ if f x = true then [g x] else []) acc' → Pv H') :
    WG (Blk X scope) tg u (L2.wipe σ vs) Hc fun σ2 H2 => L2.wipe σ2 vs = L2.wipe σ vs ∧ WTs (Blk X scope) ifs σ2 H2 fun b H3 =>
      if b = true then WE (Blk X scope) elt σ2 H3 fun y H4 => ∃ acc, H4 Dl = some (.lst acc) ∧ acc.length < sizeLine ∧ Pv (upd H4 Dl (.lst (acc ++ [y]))) else Pv H3 := by
  have c1 : EnvR K B Gc Hc (L2.wipe σ vs) (wipeR ρ vs) := (c.mono s).wipe vs
  refine t.run B Gc Hc _ u (eB.trans s.h) s.i c1 rx _ fun ρ2 σ2 q2 c2 o2 => ⟨(o2 vs hjs).trans (wipe_idem σ vs), ?_⟩
  refine q2.run B Gc Hc σ2 (eB.trans s.h) s.i c2 _ fun b G3 H3 ⟨hb, q3⟩ s3 => ?_
  have hD3 := s3.h _ _ hD
  have fresh : ∀ {G4 H4 : Hp}, Stp Gc Hc G4 H4 → G4 Dl = none := fun {G4 H4} s4 => by
    cases q : G4 Dl with
    | none => rfl
    | some o =>
      rcases s4.n Dl (by rw [q]; exact nofun) with z | z
      · exact absurd gD z
      · rw [hD] at z; cases z
  cases b with
  | false =>
    rw [if_neg Bool.false_ne_true]
    exact hP G3 H3 acc (s.trans s3) hD3 (fresh s3) (by rw [← hb, if_neg Bool.false_ne_true, List.append_nil]; exact ra.mono s3.g)
  | true =>
    rw [if_pos rfl]
    refine (q3 rfl).run B G3 H3 σ2 ((eB.trans s.h).trans s3.h) s3.i (c2.mono s3) Wish.none _ fun y v G4 H4 hy s4 r4 => ?_
    subst hy
    have s5 := s3.trans s4
    refine ⟨acc, s5.h _ _ hD, by rw [ra.len]; exact hl, ?_⟩
    have s6 := s.trans s5
    refine hP G4 _ (acc ++ [v]) ⟨s6.g, fun a o z => ?_, fun a o z => ?_, s6.n⟩ upd_same (fresh s5) (by rw [← hb, if_pos rfl]; exact (ra.mono s5.g).app (Reps.cons r4 Reps.nil))
    · rw [upd_ne (ne_of_none z hD1)]; exact s6.h a o z
    · rw [upd_ne (ne_of_none z (fresh s5))]; exact s6.i a o z
theorem filter_snoc {α β : Type} (f : α → Bool) (g : α → β) (l : List α) (n : Nat) (x : α) (h : l[n]? = some x) : ((l.take (n + 1)).filter f).map g = ((l.take n).filter f).map g ++ if f x = true then [g x] else [] := by
  have e : l.take (n + 1) = l.take n ++ [x] := by
    rw [List.take_add_one, h]; rfl
  rw [e, List.filter_append, List.map_append]
  by_cases q : f x = true
  · rw [if_pos q, List.filter_cons, if_pos q]; rfl
  · rw [if_neg q, List.filter_cons, if_neg q]; rfl
/-- the reading of a comprehension over a list -/
theorem lc_read {scope : Scope} {tg elt e : Expr} {ifs : List Expr} {js vs : List Nat} {B G H : Hp} {σ : L2.St} {Q : List DL.D → Prop} (hjs : ∀ j ∈ js, j ∈ vs)
    (h : ev X K E e ρ (fun d => ∃ ds, d = .lst ds ∧ ds.length < 100000 ∧ ∃ (f : DL.D → Bool) (g : DL.D → DL.D), (∀ x ∈ ds, Turns X K scope tg elt ifs js vs ρ f g x) ∧ Q ((ds.filter f).map g)) R)
    (eB : Ex B H) (eG : Ex G H) (c : EnvR K B G H σ ρ) (w : Wish K B E R) (Qv : VK)
    (kk : ∀ ds p vs G' H', Q ds → Stp G H G' H' → H p = none → G' p = none → H' p = some (.lst vs) → Reps K G' ds vs → Qv (.ref p) H') :
    tLc (iList K (WE X e)) (WG (Blk X scope) tg) (WTs (Blk X scope) ifs) (WE (Blk X scope) elt) vs σ H Qv := by
  refine h.run B G H σ eB eG c w _ fun d v G1 H1 ⟨ds, hd, hlen, f, g, ht, q⟩ s1 r1 => ?_
  subst hd
  obtain ⟨a, us, rfl, ha, ra⟩ := Rep.lst_iff.mp r1
  refine ⟨a, rfl, ⟨us, SqL.of (s1.i _ _ ha)⟩, fun Dl hD => ?_⟩
  refine lc_list (K := K) (a := a) (xs := us) (fun n Hc => ∃ Gc acc, Stp G1 H1 Gc Hc ∧ Hc Dl = some (.lst acc) ∧ Gc Dl = none ∧ Reps K Gc (((ds.take n).filter f).map g) acc) ⟨G1, [], Stp.own s1.i hD, upd_same, s1.i.free hD, Reps.nil⟩
    (fun n Hc _ ⟨Gc, acc, s, _⟩ => SqL.of (s.i _ _ (s.g _ _ ha))) ?_ ?_
  · rintro n x Hc hx ⟨Gc, acc, s, h1, h2, h3⟩
    have hn : n < ds.length := by rw [← ra.len]; exact (List.getElem?_eq_some_iff.mp hx).1
    obtain ⟨v, hv, rv⟩ := ra.get (List.getElem?_eq_getElem hn)
    rw [hx] at hv
    cases hv
    refine lc_turn hjs (ht _ (List.getElem_mem hn)) (eB.trans s1.h) (c.mono s1) s hD h1 h2 h3 (rv.mono s.g) ?_ fun G' H' acc' s' k1 k2 k3 => ⟨G', acc', s', k1, k2, by rw [filter_snoc f g ds n _ (List.getElem?_eq_getElem hn)]; exact k3⟩
    rw [List.length_map]
    have := List.length_filter_le f (ds.take n)
    rw [List.length_take] at this
    have h9 : (100000 : Nat) ≤ sizeLine := by decide
    omega
  · rintro Hc ⟨Gc, acc, s, h1, h2, h3⟩
    rw [ra.len, List.take_length] at h3
    exact kk _ Dl acc Gc Hc q (s1.trans s) (s1.h.free hD) h2 h1 h3
theorem evn_lc {scope : Scope} {own : List (Str × Nat)} {tg elt e : Expr} {ifs : List Expr} {js : List Nat} {Q : List DL.D → Prop} (O : Ok X P w K mg base k E) (ok : ∀ i, BlkOk (X i).N (X i).env.scope scope own) (hjs : ∀ j ∈ js, j ∈ own.map (·.2))
    (h : ev X K E e ρ (fun d => ∃ ds, d = .lst ds ∧ ds.length < 100000 ∧ ∃ (f : DL.D → Bool) (g : DL.D → DL.D), (∀ x ∈ ds, Turns X K scope tg elt ifs js (own.map (·.2)) ρ f g x) ∧ Q ((ds.filter f).map g)) R)
    (hs : ∀ i x, foldedSetIterable e (X i).env x = pure x := by intro _ _; rfl) : evn X K E (.ListComp elt [⟨tg, e, ifs, 0⟩] scope pos) ρ Q R := ⟨fun B G H σ eB eG c w Qv kk =>
  ⟨_, fun i => by
    have := pe_lc (X := X i) (pos := pos) (O.calm i) (O.nd i) (pi_list (tg := tg) (we_ok (e := e) i)) (ok i) (fun s H C cl fp => wg_ok (X := Blk X scope) (e := tg) (i, s, H, C, cl, fp)) (fun s H C cl fp => wts_ok (X := Blk X scope) (e := ifs) (i, s, H, C, cl, fp)) (fun s H C cl fp => we_ok (X := Blk X scope) (e := elt) (i, s, H, C, cl, fp)) (hs i)
    rw [O.K i] at this
    exact this, lc_read hjs h eB eG c w Qv kk⟩⟩
/-- x = [..] -/
theorem s_setLc {j : Nat} {x : Str} {pos' lp : Pos} {scope : Scope} {own : List (Str × Nat)} {tg elt e : Expr} {ifs : List Expr} {js : List Nat} {D : DE} (O : Ok X P w K mg base k E) (ok : ∀ i, BlkOk (X i).N (X i).env.scope scope own) (hjs : ∀ j ∈ js, j ∈ own.map (·.2))
    (h : ev X K E e ρ (fun d => ∃ ds, d = .lst ds ∧ ds.length < 100000 ∧ ∃ (f : DL.D → Bool) (g : DL.D → DL.D), (∀ x ∈ ds, Turns X K scope tg elt ifs js (own.map (·.2)) ρ f g x) ∧ D.nx (ρ.set j (.va (.lst ((ds.filter f).map g))))) R)
    (hN : ∀ i, (X i).N[j]? = some x := by intro _; rfl) (hyl : ∀ i, (X i).env.scope.names.lookup x = some .local := by intro _; rfl) (hsw : ∀ i, swapsWith (.ListComp elt [⟨tg, e, ifs, 0⟩] scope lp) (some (.Name x pos')) pos.line (X i).env = pure true := by intro _; exact sw_true rfl rfl rfl (by decide +kernel))
    (hs : ∀ i x, foldedSetIterable e (X i).env x = pure x := by intro _ _; rfl) : st1 X K E (.Assign [.Name x pos'] (.ListComp elt [⟨tg, e, ifs, 0⟩] scope lp) pos) ρ D R := ⟨fun G0 B G H σ Dv s c w m =>
  ⟨_, fun i => by
    have := ps_setLc (X := X i) (py := pos') (pos := lp) (spos := pos) (O.calm i) (O.nd i) (hN i) (hyl i) (hsw i) (pi_list (tg := tg) (we_ok (e := e) i)) (ok i) (fun s H C cl fp => wg_ok (X := Blk X scope) (e := tg) (i, s, H, C, cl, fp)) (fun s H C cl fp => wts_ok (X := Blk X scope) (e := ifs) (i, s, H, C, cl, fp)) (fun s H C cl fp => we_ok (X := Blk X scope) (e := elt) (i, s, H, C, cl, fp)) (hs i)
    rw [O.K i] at this
    exact this, lc_read (Q := fun ds => D.nx (ρ.set j (.va (.lst ds)))) hjs h s.h s.i c w (fun v H1 => Dv.nx (σ.set j (some v)) H1) fun ds p vs G' H' q s' h1 h2 h3 r => by
      obtain ⟨t1, t2⟩ := own_data s' h1 h2 h3 r
      exact m.nx _ _ _ _ q (s.trans t1) ((c.mono t1).set j t2)⟩⟩
/-- the reading over range(e) -/
theorem lc_readR {scope : Scope} {tg elt e : Expr} {ifs : List Expr} {js vs : List Nat} {B G H : Hp} {σ : L2.St} {Q : List DL.D → Prop} (hjs : ∀ j ∈ js, j ∈ vs)
    (h : ev X K E e ρ (fun d => ∃ N : Nat, d = .int N ∧ N < 100000 ∧ ∃ (f : DL.D → Bool) (g : DL.D → DL.D), (∀ n : Nat, n < N → Turns X K scope tg elt ifs js vs ρ f g (.int n)) ∧ Q ((((List.range N).map fun (n : Nat) => DL.D.int n).filter f).map g)) R)
    (eB : Ex B H) (eG : Ex G H) (c : EnvR K B G H σ ρ) (w : Wish K B E R) (Qv : VK)
    (kk : ∀ ds p vs G' H', Q ds → Stp G H G' H' → H p = none → G' p = none → H' p = some (.lst vs) → Reps K G' ds vs → Qv (.ref p) H') :
    tLc (iRng1 (tCons (WE X e) tNil)) (WG (Blk X scope) tg) (WTs (Blk X scope) ifs) (WE (Blk X scope) elt) vs σ H Qv := by
  refine h.run B G H σ eB eG c w _ fun d v G1 H1 ⟨N, hd, hlen, f, g, ht, q⟩ s1 r1 => ?_
  subst hd
  refine ⟨(N : Int), by rw [Rep.int_iff.mp r1], by omega, by omega, ?_⟩
  rw [Int.toNat_natCast]
  intro Dl hD
  refine lc_range (lo := 0) (n := N) (fun n Hc => ∃ Gc acc, Stp G1 H1 Gc Hc ∧ Hc Dl = some (.lst acc) ∧ Gc Dl = none ∧ Reps K Gc (((((List.range N).map fun (n : Nat) => DL.D.int n).take n).filter f).map g) acc) ⟨G1, [], Stp.own s1.i hD, upd_same, s1.i.free hD, Reps.nil⟩ ?_ ?_
  · rintro n Hc hn ⟨Gc, acc, s, h1, h2, h3⟩
    have e0 : (0 : Int) + (n : Int) = (n : Int) := Int.zero_add _
    rw [e0]
    have hx : ((List.range N).map fun (n : Nat) => DL.D.int n)[n]? = some (.int n) := by rw [List.getElem?_map, List.getElem?_range hn]; rfl
    refine lc_turn hjs (ht n hn) (eB.trans s1.h) (c.mono s1) s hD h1 h2 h3 (Sca.int _).rep ?_ fun G' H' acc' s' k1 k2 k3 => ⟨G', acc', s', k1, k2, by rw [filter_snoc f g _ n _ hx]; exact k3⟩
    rw [List.length_map]
    have := List.length_filter_le f (((List.range N).map fun (n : Nat) => DL.D.int n).take n)
    rw [List.length_take] at this
    have h9 : (100000 : Nat) ≤ sizeLine := by decide
    omega
  · rintro Hc ⟨Gc, acc, s, h1, h2, h3⟩
    rw [List.take_of_length_le (by simp)] at h3
    exact kk _ Dl acc Gc Hc q (s1.trans s) (s1.h.free hD) h2 h1 h3
theorem evn_lcR {scope : Scope} {own : List (Str × Nat)} {tg elt e : Expr} {ifs : List Expr} {js : List Nat} {Q : List DL.D → Prop} {p p2 : Pos} (O : Ok X P w K mg base k E) (hm : mg "range" = none) (ok : ∀ i, BlkOk (X i).N (X i).env.scope scope own) (hjs : ∀ j ∈ js, j ∈ own.map (·.2))
    (h : ev X K E e ρ (fun d => ∃ N : Nat, d = .int N ∧ N < 100000 ∧ ∃ (f : DL.D → Bool) (g : DL.D → DL.D), (∀ n : Nat, n < N → Turns X K scope tg elt ifs js (own.map (·.2)) ρ f g (.int n)) ∧ Q ((((List.range N).map fun (n : Nat) => DL.D.int n).filter f).map g)) R)
    (hg : ∀ i, Gl (X i) "range" := by intro _; rfl) (hst : ∀ i, starEach [e] (X i).env = [(false, eval e (X i).env)] := by intro _; rfl) (hst2 : ∀ i, starEach [e] (X i).env = (false, eval e (X i).env) :: starEach [] (X i).env := by intro _; rfl)
    (hs : ∀ i x, foldedSetIterable (.Call (.Name "range" p) [e] [] p2) (X i).env x = pure x := by intro _ _; rfl) : evn X K E (.ListComp elt [⟨tg, .Call (.Name "range" p) [e] [] p2, ifs, 0⟩] scope pos) ρ Q R := ⟨fun B G H σ eB eG c w Qv kk =>
  ⟨_, fun i => pe_lc (X := X i) (pos := pos) (O.calm i) (O.nd i) (pi_range1 (hg i) (by rw [O.mg i]; exact hm) (pa_cons (we_ok (e := e) i) pa_nil (hst2 i)) (hst i)) (ok i) (fun s H C cl fp => wg_ok (X := Blk X scope) (e := tg) (i, s, H, C, cl, fp)) (fun s H C cl fp => wts_ok (X := Blk X scope) (e := ifs) (i, s, H, C, cl, fp)) (fun s H C cl fp => we_ok (X := Blk X scope) (e := elt) (i, s, H, C, cl, fp)) (hs i), lc_readR hjs h eB eG c w Qv kk⟩⟩
theorem s_setLcR {j : Nat} {x : Str} {pos' lp p p2 : Pos} {scope : Scope} {own : List (Str × Nat)} {tg elt e : Expr} {ifs : List Expr} {js : List Nat} {D : DE} (O : Ok X P w K mg base k E) (hm : mg "range" = none) (ok : ∀ i, BlkOk (X i).N (X i).env.scope scope own) (hjs : ∀ j ∈ js, j ∈ own.map (·.2))
    (h : ev X K E e ρ (fun d => ∃ N : Nat, d = .int N ∧ N < 100000 ∧ ∃ (f : DL.D → Bool) (g : DL.D → DL.D), (∀ n : Nat, n < N → Turns X K scope tg elt ifs js (own.map (·.2)) ρ f g (.int n)) ∧ D.nx (ρ.set j (.va (.lst ((((List.range N).map fun (n : Nat) => DL.D.int n).filter f).map g))))) R)
    (hN : ∀ i, (X i).N[j]? = some x := by intro _; rfl) (hyl : ∀ i, (X i).env.scope.names.lookup x = some .local := by intro _; rfl) (hsw : ∀ i, swapsWith (.ListComp elt [⟨tg, .Call (.Name "range" p) [e] [] p2, ifs, 0⟩] scope lp) (some (.Name x pos')) pos.line (X i).env = pure true := by intro _; exact sw_true rfl rfl rfl (by decide +kernel))
    (hg : ∀ i, Gl (X i) "range" := by intro _; rfl) (hst : ∀ i, starEach [e] (X i).env = [(false, eval e (X i).env)] := by intro _; rfl) (hst2 : ∀ i, starEach [e] (X i).env = (false, eval e (X i).env) :: starEach [] (X i).env := by intro _; rfl)
    (hs : ∀ i x, foldedSetIterable (.Call (.Name "range" p) [e] [] p2) (X i).env x = pure x := by intro _ _; rfl) : st1 X K E (.Assign [.Name x pos'] (.ListComp elt [⟨tg, .Call (.Name "range" p) [e] [] p2, ifs, 0⟩] scope lp) pos) ρ D R := ⟨fun G0 B G H σ Dv s c w m =>
  ⟨_, fun i => ps_setLc (X := X i) (py := pos') (pos := lp) (spos := pos) (O.calm i) (O.nd i) (hN i) (hyl i) (hsw i) (pi_range1 (hg i) (by rw [O.mg i]; exact hm) (pa_cons (we_ok (e := e) i) pa_nil (hst2 i)) (hst i)) (ok i) (fun s H C cl fp => wg_ok (X := Blk X scope) (e := tg) (i, s, H, C, cl, fp)) (fun s H C cl fp => wts_ok (X := Blk X scope) (e := ifs) (i, s, H, C, cl, fp)) (fun s H C cl fp => we_ok (X := Blk X scope) (e := elt) (i, s, H, C, cl, fp)) (hs i),
    lc_readR (Q := fun ds => D.nx (ρ.set j (.va (.lst ds)))) hjs h s.h s.i c w (fun v H1 => Dv.nx (σ.set j (some v)) H1) fun ds p vs G' H' q s' h1 h2 h3 r => by
      obtain ⟨t1, t2⟩ := own_data s' h1 h2 h3 r
      exact m.nx _ _ _ _ q (s.trans t1) ((c.mono t1).set j t2)⟩⟩
/-! ### defs of one's own -/
/-- a promise over data: ds the arguments, Q what is wanted of the value, R of an error -/
abbrev WPr := List DL.D → (DL.D → Prop) → (Er → Prop) → Prop
def spD (K : PySem.W.Frag) (wp : WPr) : Sp := fun vs H Qv E => ∃ G ds Q R, Ex G H ∧ Reps K G ds vs ∧ wp ds Q R ∧ Wish K H E R ∧ ∀ d v G' H', Q d → Stp G H G' H' → Rep K G' d v → Qv v H'
/-- the def that stands under the module's name x keeps it -/
structure Kn (P : Program) (w : World) (K : PySem.W.Frag) (mg : Str → Option Value) (base : Heap) (x : Str) (k : Nat) (wp : WPr) : Prop where
  ex : ∃ f fd ps, FnOk P w K mg base (L2N.CX P w) k f fd ps (spD K wp) ∧ mg x = some (.ref f) ∧ PySem.W.keepIn K (.ref f) = true ∧ Binds K fd ps []
theorem ev_call {x : Str} {kx : Nat} {wp : WPr} {e : Expr} {es : List Expr} {p : Pos} {Q : DL.D → Prop} (O : Ok X P w K mg base k E) (F : Kn P w K mg base x kx wp) (hk : kx ≤ k) (h : evs X K E (e :: es) ρ (fun ds => wp ds Q R) R)
    (hg : ∀ i, Gl (X i) x := by intro _; rfl) (hdb : (x == ("__debug__" : Str)) = false := by decide)
    (he : ∀ i, starEach (e :: es) (X i).env = (false, eval e (X i).env) :: starEach es (X i).env := by intro _; rfl) (hpl : ∀ i, (backTo pos (starEach es (X i).env)).any (·.1) = false := by intro _; rfl) : ev X K E (.Call (.Name x p) (e :: es) [] pos) ρ Q R := ⟨fun B G H σ eB eG c w Qv kk => by
  obtain ⟨f, fd, ps, F, hm, hkp, hb⟩ := F.ex
  refine ⟨tCall (spD K wp) [] E (WA X (e :: es)), fun i => ?_, ?_⟩
  · have F' : FnOk (X i).prog (X i).w (X i).K (X i).mg (X i).base (L2N.CX (X i).prog (X i).w) kx f fd ps (spD K wp) := by rw [O.p i, O.w i, O.K i, O.mg i, O.base i]; exact F
    exact pe_call F' ((O.room i).mono hk) (hg i) (by rw [O.mg i]; exact hm) (by rw [O.K i]; exact hkp) (by rw [O.K i]; exact hb) .nil (O.pass i) (wa_ok i) hdb (he i) (hpl i)
  · refine h.run B G H σ eB eG c w _ fun ds vs G1 H1 hw s1 r1 => ?_
    rw [List.append_nil]
    exact ⟨G1, ds, Q, R, s1.i, r1, hw, w.mono (eB.trans s1.h), fun d v G2 H2 q s2 r2 => kk d v G2 H2 q (s1.trans s2) r2⟩⟩
end
/-- the contexts of a def's body -/
def body1 (P : Program) (w : World) (K : PySem.W.Frag) (mg : Str → Option Value) (base : Heap) (N : List Str) (qual : Str) (scope : Scope) (f : Addr) (cd : Value) (A : Around) (outer : List Env) (s : Shared) (H : Hp) (E : XK) : Unit → Cx := fun _ => cxOf (L2N.CX P w) P w K mg base N qual scope f cd A outer s H E
def rhoOf (N : List Str) (ds : List DL.D) : Rho := ds.map .va ++ List.replicate (N.length - ds.length) .no
theorem env_start {K : PySem.W.Frag} {B G H : Hp} {N : List Str} {ds : List DL.D} {vs : List V} (r : Reps K G ds vs) : EnvR K B G H (L2.start N vs) (rhoOf N ds) := by
  have hl := r.len
  have nogu : ∀ (i : Nat) g, (rhoOf N ds)[i]? ≠ some (.gu g) := fun i g h => by
    unfold rhoOf at h
    by_cases hi : i < ds.length
    · rw [List.getElem?_append_left (by simpa using hi), List.getElem?_map, List.getElem?_eq_getElem hi] at h
      cases h
    · rw [List.getElem?_append_right (by simpa using hi), List.getElem?_replicate] at h
      split at h <;> cases h
  refine ⟨by unfold L2.start rhoOf; simp [hl], fun i d h => ?_, fun i es h => ?_, fun i j es fs _ h _ => ?_, ⟨fun _ => (default, default), fun i g h => absurd h (nogu i g), fun i _ g _ _ h _ => absurd h (nogu i g)⟩⟩
  · unfold rhoOf at h
    by_cases hi : i < ds.length
    · rw [List.getElem?_append_left (by simpa using hi), List.getElem?_map, List.getElem?_eq_getElem hi] at h
      have e : Sl.va ds[i] = Sl.va d := Option.some.inj h
      cases e
      obtain ⟨v, hv, rv⟩ := r.get (List.getElem?_eq_getElem hi)
      refine ⟨v, ?_, rv⟩
      unfold L2.start
      rw [List.getElem?_append_left (by simpa [hl] using hi), List.getElem?_map, hv]
      rfl
    · rw [List.getElem?_append_right (by simpa using hi), List.getElem?_replicate] at h
      split at h <;> cases h
  · exfalso
    unfold rhoOf at h
    by_cases hi : i < ds.length
    · rw [List.getElem?_append_left (by simpa using hi), List.getElem?_map, List.getElem?_eq_getElem hi] at h
      cases h
    · rw [List.getElem?_append_right (by simpa using hi), List.getElem?_replicate] at h
      split at h <;> cases h
  · exfalso
    unfold rhoOf at h
    by_cases hi : i < ds.length
    · rw [List.getElem?_append_left (by simpa using hi), List.getElem?_map, List.getElem?_eq_getElem hi] at h
      cases h
    · rw [List.getElem?_append_right (by simpa using hi), List.getElem?_replicate] at h
      split at h <;> cases h
/-- THE RULE for a def -/
theorem fn_ok {P : Program} {w : World} {K : PySem.W.Frag} {mg : Str → Option Value} {base : Heap} {x qual : Str} {params : Arguments} {body : List Stmt} {scope : Scope} {dvs : List V} {kws : List (Str × V)} {f : Addr} {fd : FuncData} {N ps : List Str} {k : Nat} {wp : WPr}
    (F : FunD K x qual params body scope dvs kws f fd) (S : FnScope N ps scope) (len : ∀ ds Q R, wp ds Q R → ds.length = ps.length)
    (hbody : ∀ (X : Unit → Cx) (E : XK), (∃ cdv A outer s H, X = body1 P w K mg base N qual scope f cdv A outer s H E) → Ok X P w K mg base k E → (∀ i, PassesOwn (model (X i).prog (X i).w) (X i).A (X i).env (X i).xe) → (∀ i, L2N.Takes (X i) fun cls d _ H => E cls d H) →
      ∀ ds Q R, wp ds Q R → stm X K E body (rhoOf N ds) { nx := fun _ => Q .non, rt := Q } R) : FnOk P w K mg base (L2N.CX P w) (k + 1) f fd ps (spD K wp) := by
  refine F.ok S (fun vs H Qv E h => ?_) fun cdv A outer s H vs Qv E hr h => ?_
  · obtain ⟨G, ds, Q, R, _, r, hw, _⟩ := h
    rw [r.len]
    exact len ds Q R hw
  · obtain ⟨G, ds, Q, R, eG, r, hw, wi, kk⟩ := h
    have tk : L2N.Takes (cxOf (L2N.CX P w) P w K mg base N qual scope f cdv A outer s H E) fun cls d _ H => E cls d H := L2N.takes_of rfl rfl rfl rfl
    have O : Ok (body1 P w K mg base N qual scope f cdv A outer s H E) P w K mg base k E := ⟨fun _ => rfl, fun _ => rfl, fun _ => rfl, fun _ => rfl, fun _ => rfl, fun _ => rfl, fun _ => S.nd, fun _ => hr, fun _ => L2N.passes_call tk fun _ _ _ _ h => h⟩
    have b := hbody _ E ⟨cdv, A, outer, s, H, rfl⟩ O (fun _ => passes_of rfl) (fun _ => tk) ds Q R hw
    refine ⟨_, wb_ok (X := body1 P w K mg base N qual scope f cdv A outer s H E) (), b.run G H G H _ _ (Stp.refl eG) (env_start r) wi ⟨fun ρ σ G' H' q s' _ => kk _ _ G' H' q s' Sca.non.rep, fun _ _ _ _ q => q.elim, fun _ _ _ _ q => q.elim, fun d v G' H' q s' r' => kk d v G' H' q s' r'⟩⟩
end DL
namespace CL
open PySem PySem.Spec PyProof.Rows L2 DL
/-! ### the text by places -/
def tp (i : Nat) : Stmt := PySem.Challenge.pw_climbrow_k42_whole_guide_for_few.main.body.getD i (.Pass ⟨0, 0, 0, 0⟩)
abbrev FnP (K : PySem.W.Frag) (x : Str) (st : Stmt) (f : Addr) (fd : FuncData) : Prop := FunD K x x (defArgs st) (defBody st) (defScope st) [] [] f fd
/-- the module's names that are free (built-ins) -/
structure Fre (mg : Str → Option Value) : Prop where
  len : mg "len" = none
  range : mg "range" = none
  sorted : mg "sorted" = none
  enumerate : mg "enumerate" = none
  int : mg "int" = none
  max : mg "max" = none
  min : mg "min" = none
  abs : mg "abs" = none
  all : mg "all" = none
  list : mg "list" = none
  isinstance : mg "isinstance" = none
  bool : mg "bool" = none
  str : mg "str" = none
  repr : mg "repr" = none
  super : mg "super" = none
  valueError : mg "ValueError" = none
/-- a def under its name -/
theorem kn_of {P : Program} {w : World} {K : PySem.W.Frag} {mg : Str → Option Value} {base : Heap} {x : Str} {st : Stmt} {f : Addr} {fd : FuncData} {k : Nat} {wp : WPr} {ps : List Str} (F : FnP K x st f fd) (hm : mg x = some (.ref f))
    (G : FnOk P w K mg base (L2N.CX P w) k f fd ps (spD K wp)) (b : Binds K fd ps []) : Kn P w K mg base x k wp := ⟨f, fd, ps, G, hm, F.kp, b⟩
end CL
namespace XC
open PySem PySem.W PySem.Calls PyProof.Rows PySem.HandSPX
/-! ### the statements of such an __init__ -/
abbrev supS (text : Str) (k : Nat → Pos) (tk : Nat) : Stmt := .Expr (.Call (.Attribute (.Call (.Name "super" (k 0)) [] [] (k 1)) "__init__" (k 2)) [.Constant (.str text) tk (k 3)] [] (k 4)) (k 5)
abbrev fldS (f : Str) (k : Nat → Pos) : Stmt := .Assign [.Attribute (.Name "self" (k 0)) f (k 1)] (.Name f (k 2)) (k 3)
/-- what the written part says of such a class at C, its __init__ at fI, the cell of its own name at cc, the code at cda -/
structure ExK (P : Program) (K : Frag) (mg : Str → Option Value) (C fI cc cda : Addr) (qual : Str) (ps : Arguments) (body : List Stmt) (sc : Scope) : Prop where
  cls : ∃ nm q N bs bm sn sub ab col dd k0 k1 k2 k3 k5, K.lookup C = some (excClassObj nm q C N bs bm true sn sub ab col dd k0 k1 k2 k3 k5 "ValueError.__new__") ∧ refsVE bm = true
  sa : findIn K (.ref C) "__setattr__" = some (some (.builtin "object.__setattr__"))
  iC : findIn K (.ref C) "__init__" = some (some (.ref fI))
  tI : typeIn K (.ref fI) = some (.type "function")
  kC : keepIn K (.ref C) = true
  exC : subIn K (.ref C) (.type "BaseException") = some true
  tyC : typeIn K (.ref C) = some (.type "type")
  veC : subIn K (.ref C) (.type "ValueError") = some true
  slf : mroIn K C (.ref C) = some true
  opq : nsIn K cStatics "thirdparty.any" = some none
  sup : ks_superIn K C C "__init__" = some (some (.builtin "ValueError.__init__"))
  fn : ∃ (oc : Value) (od : Option Addr) (dV kV doc pm ct : Value) (an : Option Addr) (osl : Array (Option Value)), dV = .none ∧ K.lookup fI = some ⟨oc, od, .func (ksFn "__init__" qual ps body sc dV kV doc pm an (.ref cda) ct cc), osl⟩
  code : codeIn K (.ref cda) qual = true
  cfile : ∃ cl cd vs cs file tf, K.lookup cda = some ⟨cl, cd, .fields vs, cs⟩ ∧ vs[2]? = some (.str file tf) ∧ ((P.main.file : Str) == file) = true
  cell : ∃ cl cd cs, K.lookup cc = some ⟨cl, cd, .cell (some (.ref C)), cs⟩
  mS : mg "super" = none
  top : (P.main.scope.names.lookup ("super" : Str)).isSome = false
section
variable {P : Program} {w : World} {A : Around} {E : Value → Shared → Prop} {K : Frag} {mg mb : Str → Option Value} {C fI cc cda L x : Addr} {qual : Str} {ps : Arguments} {body : List Stmt} {sc : Scope}
/-- ValueError.__init__ bound to x, called -/
theorem mw_call {s : Shared} {u t0 : Addr} {rest : List Value} {Q : Value → Shared → Prop} {nm q : Str} {N : Addr} {bs bm : List Value} {sn : List Str} {sub : List Value} {ab : Bool} {col : Option Bool} {dd : Option Addr} {k0 k1 k2 k3 k5 : Option Value}
    (hC : s.heap.get? C = some (excClassObj nm q C N bs bm true sn sub ab col dd k0 k1 k2 k3 k5 "ValueError.__new__"))
    (hu : s.heap.get? u = some (kxs_mw "ValueError.__init__" x)) (he : s.heap.get? x = some (excO C t0)) (hz : rest.length ≤ sizeLine)
    (hq : ∀ h' t1, (∀ b o, b ≠ x → s.heap.get? b = some o → h'.get? b = some o) → h'.get? x = some (excO C t1) → Q .none { s with heap := h' }) :
    wpAny (model P w) A (call (.ref u) rest) Q E s := by
  obtain ⟨hh, g, d, tk, os⟩ := s
  refine wpAny_call (codeAny_of_tree ?_)
  show wpAny _ A.in1 (callAny (.ref u) ⟨rest, []⟩) _ _ _
  unfold callAny
  refine wpAny_bind (wpAny_load hu ?_)
  have e1 : (Value.type "method-wrapper" == Value.type "method" || Value.type "method-wrapper" == Value.type "builtin_function_or_method" || Value.type "method-wrapper" == Value.type "method-wrapper") = true := by decide
  have e2 : (Value.type "method-wrapper" != Value.type "method") = true := by decide
  simp only [kxs_mw]
  rw [if_pos e1]
  show wpAny _ _ (if (Value.type "method-wrapper" != Value.type "method") = true then _ else _) _ _ _
  rw [if_pos e2]
  have FB := F.excBase_ValueError
  refine wpAny_bind (check_bound_init FB.toExcCallFacts hC he rfl (wpAny_pure ?_))
  refine ⟨plainId_quiet FB.init.plain _, codeAny_builtin FB.initEntry ?_⟩
  exact exc_init_tree (cls := .ref C) (t0 := t0) (dv := none) (c2 := .none) (c3 := .none) (b4 := .bool false) he hz fun h' k1 k2 _ => hq h' _ k1 k2
/-- super().__init__(text) -/
theorem sup_run (T : ExK P K mg C fI cc cda qual ps body sc) {s : Shared} {text : Str} {pp : Nat → Pos} {tk : Nat} {t0 : Addr} {m : Str → Option Value} {bd : List Stmt} {ar : Arg} {pl : Sem Bool} {Q : Flow → Shared → Prop}
    (he : eval (.Call (.Attribute (.Call (.Name "super" (pp 0)) [] [] (pp 1)) "__init__" (pp 2)) [.Constant (.str text) tk (pp 3)] [] (pp 4)) (ksEnv qual sc L fI (.ref cda) cc) = (do
      let ov ← attributeBase (.Call (.Name "super" (pp 0)) [] [] (pp 1)) "__init__" (ksEnv qual sc L fI (.ref cda) cc) (eval (.Call (.Name "super" (pp 0)) [] [] (pp 1)) (ksEnv qual sc L fI (.ref cda) cc))
      standAt (pp 2).atName
      let (f, first) ← holding [ov] (getMethod ov "__init__" pl)
      callWith (pp 4) f first (backTo (pp 4) (starEach [.Constant (.str text) tk (pp 3)] (ksEnv qual sc L fI (.ref cda) cc))) []))
    (hsw : swapsWith (.Call (.Attribute (.Call (.Name "super" (pp 0)) [] [] (pp 1)) "__init__" (pp 2)) [.Constant (.str text) tk (pp 3)] [] (pp 4)) none (pp 5).line (ksEnv qual sc L fI (.ref cda) cc) = pure false)
    (X : K.In s.heap) (hg : s.heap.Ns mainGlobals mg) (hb : s.heap.Ns builtinsNs mb) (hbs : mb "super" = some (.type "super")) (hn : s.heap.Ns L m) (hp : (ps.posonlyargs ++ ps.args).head? = some ar) (har : ar.arg = "self") (hself : m "self" = some (.ref x)) (hx : s.heap.get? x = some (excO C t0)) (hLx : L ≠ x)
    (hks : sc.names.lookup ("super" : Str) = some .globalImplicit) (hkc : sc.names.lookup ("__class__" : Str) = some .free) (hka : sc.names.lookup ("self" : Str) = some .local) (hk : sc.kind = .function)
    (hq : ∀ s' t1, (∀ b o, b ≠ x → s.heap.get? b = some o → s'.heap.get? b = some o) → s'.heap.get? x = some (excO C t1) → s'.gens = s.gens → s'.drawn = s.drawn → s'.os = s.os → Q .next s') :
    _root_.PySem.wpAt (model P w) A (.func bd (ksEnv qual sc L fI (.ref cda) cc)) (exec (supS text pp tk) (ksEnv qual sc L fI (.ref cda) cc)) Q E s := by
  obtain ⟨nm, q, N, bs, bm, sn, sub, ab, col, dd, k0, k1, k2, k3, k5, hC, hbm⟩ := T.cls
  have hcl : clsIn K C = some { name := nm, bases := bs, mro := .ref C :: bm, ns := N, qualname := q, hasDict := true, slotNames := sn, subclasses := sub, abstract := ab, collection := col, hasDel := false } := by unfold clsIn; rw [hC] <;> rfl
  obtain ⟨oc, od, dV, kV, doc, pm, ct, an, osl, rfl, hf⟩ := T.fn
  obtain ⟨cl, cd, vs, cs, file, tf, hcd, hvs, hfile⟩ := T.cfile
  obtain ⟨cl2, cd2, cs2, hcell⟩ := T.cell
  have nxC : x ≠ C := fun z => by
    have h1 := X _ _ hC
    rw [← z, hx] at h1
    have h2 := congrArg (fun o : Option Obj => o.map (·.cls)) h1
    have h3 : some (Value.ref C) = some (Value.type "type") := h2
    cases h3
  obtain ⟨hh, g, d, tok, os⟩ := s
  refine ks_wpAt_Expr_any (hi := by unfold interactive; simp [hk]) (hs := hsw) (ks_wpAt_MethodCall (he := he) ?_)
  refine ks_wpAt_super_base (ar := ar) (file := file) (tf := tf) hks hkc rfl rfl (X _ _ hf) rfl hp rfl (X _ _ hcd) rfl hvs hfile T.top ?_
  refine ks_loadName_global hk hks (loadGlobal_builtin hg T.mS hb hbs ⟨rfl, ?_⟩)
  refine wpAny_loadName_free hk hkc rfl ⟨_, X _ _ hcell, rfl⟩ ?_
  rw [har]
  refine wpAny_loadName_local hk hka hn hself ?_
  refine ks_wpAny_isType_cls (X _ _ hC) rfl ⟨rfl, ?_⟩
  refine ks_wpAny_call_super (X _ _ hC) rfl hx rfl (fun c e => nomatch e) (looks_mroIn X T.slf) fun h1 e1 kk1 => ?_
  have X1 : K.In h1 := X.keeps kk1
  have hx1 := kk1 _ _ hx
  have I1 : InstAt h1 x (excO C t0) C none := ⟨hx1, rfl, rfl, trivial⟩
  have hm : alongIn K "__init__" (((Value.ref C :: bm).dropWhile (· != .ref C)).drop 1) = some (some (.builtin "ValueError.__init__")) := by
    have z := T.sup
    unfold ks_superIn at z
    rw [hcl] at z
    exact z
  refine kxs_getMethod kxs_ValueError e1 (looks_opaque X1 T.opq) (l₀ := Value.ref C :: bm) (fun A Q E s k q => wpAny_bind ((looks_clsIn X1 hcl) A _ E s k (wpAny_pure q))) rfl X1 hm (I1.type.andThen (looks_subIn X1 T.veC)) nxC (by decide) ?_
  have kp : ∀ b o, h1.get? b = some o → (h1.push (kxs_mw "ValueError.__init__" x)).get? b = some o := fun b o z => Heap.get?_push_of_some _ z
  have hu : (h1.push (kxs_mw "ValueError.__init__" x)).get? h1.objs.size = some (kxs_mw "ValueError.__init__" x) := Heap.get?_push_at rfl rfl
  refine kxs_callWith (u := h1.objs.size) (i := "ValueError.__init__") (x := x) (by rfl) (evalArgs_plain ?_)
  refine Calls.spliced_cons (Calls.Constant_str (k := tk) (pos := pp 3) ?_)
  refine Calls.spliced_nil ⟨hu, ?_⟩
  refine mw_call (X1.keeps kp _ _ hC) hu (kp _ _ hx1) (by show 1 ≤ sizeLine; decide) fun h' t1 k1 k2 => ?_
  exact hq _ t1 (fun b o hb z => k1 b o hb (kp _ _ (kk1 _ _ z))) k2 rfl rfl rfl
/-- an exception that is being made, with its dict at dx -/
def excD (C dx t : Addr) : Obj := { cls := .ref C, dict := some dx, data := .fields #[.ref t, .none, .none, .none, .bool false, .none] }
theorem kinds {sc : Scope} (hk : sc.kind = .function) (q : Str) (L a cc : Addr) (cd : Value) : (ksEnv q sc L a cd cc).scope.kind = .function := hk
/-- self.f = f, the first one -/
theorem fld_new (T : ExK P K mg C fI cc cda qual ps body sc) {s : Shared} {f : Str} {pp : Nat → Pos} {t1 : Addr} {m : Str → Option Value} {bd : List Stmt} {v : Value} {Q : Flow → Shared → Prop}
    (hsw : swapsWith (.Name f (pp 2)) (some (.Attribute (.Name "self" (pp 0)) f (pp 1))) (pp 3).line (ksEnv qual sc L fI (.ref cda) cc) = pure false)
    (X : K.In s.heap) (hn : s.heap.Ns L m) (hself : m "self" = some (.ref x)) (hf : m f = some v) (hx : s.heap.get? x = some (excO C t1)) (hno : findIn K (.ref C) f = some none)
    (hka : sc.names.lookup ("self" : Str) = some .local) (hkf : sc.names.lookup f = some .local) (hk : sc.kind = .function) (hd : (f == ("__debug__" : Str)) = false)
    (hq : ∀ h' tk' dx, (∀ b o, b ≠ x → s.heap.get? b = some o → h'.get? b = some o) → s.heap.objs.size ≤ dx → dx ≠ x → h'.get? x = some (excD C dx t1) → h'.Ns1 dx (fun y => if y = f then some v else none) → Q .next { s with heap := h', toks := tk' }) :
    _root_.PySem.wpAt (model P w) A (.func bd (ksEnv qual sc L fI (.ref cda) cc)) (exec (fldS f pp) (ksEnv qual sc L fI (.ref cda) cc)) Q E s := by
  obtain ⟨nm, q, N, bs, bm, sn, sub, ab, col, dd, k0, k1, k2, k3, k5, hC, hbm⟩ := T.cls
  have hcl : clsIn K C = some { name := nm, bases := bs, mro := .ref C :: bm, ns := N, qualname := q, hasDict := true, slotNames := sn, subclasses := sub, abstract := ab, collection := col, hasDel := false } := by unfold clsIn; rw [hC] <;> rfl
  refine ks_wpAt_Assign_Attr (hs := hsw) (wpAt_of_wpAny ?_)
  refine wpAny_Name (wpAny_loadName_local hk hkf hn hf ?_) hd
  refine wpAny_Name (wpAny_loadName_local hk hka hn hself ?_) (by decide)
  refine set_plain X (ox := excO C t1) (od := none) ⟨hx, rfl, rfl, trivial⟩ T.sa ?_
  exact exc_osa X hx hcl (show refsVE (.ref C :: bm) = true from hbm) rfl hno fun h' tk' dx k dn dne hx' hn' => hq h' tk' dx k dn dne hx' hn'
theorem fld_old (T : ExK P K mg C fI cc cda qual ps body sc) {s : Shared} {f : Str} {pp : Nat → Pos} {t1 dx : Addr} {m m0 : Str → Option Value} {nl : List Str} {bd : List Stmt} {v : Value} {Q : Flow → Shared → Prop}
    (hsw : swapsWith (.Name f (pp 2)) (some (.Attribute (.Name "self" (pp 0)) f (pp 1))) (pp 3).line (ksEnv qual sc L fI (.ref cda) cc) = pure false)
    (X : K.In s.heap) (hn : s.heap.Ns L m) (hself : m "self" = some (.ref x)) (hf : m f = some v) (hx : s.heap.get? x = some (excD C dx t1)) (hns : s.heap.Ns1 dx m0) (hw : Within m0 nl) (hz : nl.length ≤ 1000) (hno : findIn K (.ref C) f = some none)
    (hka : sc.names.lookup ("self" : Str) = some .local) (hkf : sc.names.lookup f = some .local) (hk : sc.kind = .function) (hd : (f == ("__debug__" : Str)) = false)
    (hq : ∀ h' tk', (∀ b o, b ≠ dx → s.heap.get? b = some o → h'.get? b = some o) → h'.Ns1 dx (fun y => if y = f then some v else m0 y) → Q .next { s with heap := h', toks := tk' }) :
    _root_.PySem.wpAt (model P w) A (.func bd (ksEnv qual sc L fI (.ref cda) cc)) (exec (fldS f pp) (ksEnv qual sc L fI (.ref cda) cc)) Q E s := by
  obtain ⟨nm, q, N, bs, bm, sn, sub, ab, col, dd, k0, k1, k2, k3, k5, hC, hbm⟩ := T.cls
  have hcl : clsIn K C = some { name := nm, bases := bs, mro := .ref C :: bm, ns := N, qualname := q, hasDict := true, slotNames := sn, subclasses := sub, abstract := ab, collection := col, hasDel := false } := by unfold clsIn; rw [hC] <;> rfl
  obtain ⟨oD, esD, epD, hoD, _, _⟩ := hns.count hw
  refine ks_wpAt_Assign_Attr (hs := hsw) (wpAt_of_wpAny ?_)
  refine wpAny_Name (wpAny_loadName_local hk hkf hn hf ?_) hd
  refine wpAny_Name (wpAny_loadName_local hk hka hn hself ?_) (by decide)
  refine set_plain X (ox := excD C dx t1) (od := some oD) ⟨hx, rfl, rfl, hoD⟩ T.sa ?_
  exact PySem.OEX.osa_old X hx hns hw hz hcl (show refsVE (.ref C :: bm) = true from hbm) rfl hno fun h' tk' k hn' => hq h' tk' k hn'
/-- what is left of the one call of __init__ -/
structure Done (h h' : Heap) (x C : Addr) (mf : Str → Option Value) : Prop where
  keep : ∀ b o, b ≠ x → h.get? b = some o → h'.get? b = some o
  obj : ∃ dx t, h'.get? x = some (excD C dx t) ∧ h.objs.size ≤ dx ∧ dx ≠ x ∧ h'.Ns1 dx mf
abbrev arg3 (f1 f2 : Str) (k : Nat → Pos) : Arguments := { posonlyargs := [], args := [{ arg := "self", annotation := none, pos := k 0 }, { arg := f1, annotation := none, pos := k 1 }, { arg := f2, annotation := none, pos := k 2 }], vararg := none, kwonlyargs := [], kw_defaults := [], kwarg := none, defaults := [] }
abbrev arg2 (f1 : Str) (k : Nat → Pos) : Arguments := { posonlyargs := [], args := [{ arg := "self", annotation := none, pos := k 0 }, { arg := f1, annotation := none, pos := k 1 }], vararg := none, kwonlyargs := [], kw_defaults := [], kwarg := none, defaults := [] }
abbrev sc3 (f1 f2 : Str) (more : List (Str × Const)) : Scope := { kind := .function, names := ([((PySem.Str.ofString "self"), NameKind.local), (f1, NameKind.local), (f2, NameKind.local), ((PySem.Str.ofString "__class__"), NameKind.free), ((PySem.Str.ofString "super"), NameKind.globalImplicit)] : List (Str × NameKind)), isGenerator := false, isCoroutine := false, more := more }
abbrev sc2 (f1 : Str) (more : List (Str × Const)) : Scope := { kind := .function, names := ([((PySem.Str.ofString "self"), NameKind.local), (f1, NameKind.local), ((PySem.Str.ofString "__class__"), NameKind.free), ((PySem.Str.ofString "super"), NameKind.globalImplicit)] : List (Str × NameKind)), isGenerator := false, isCoroutine := false, more := more }
theorem kept_x {K : Frag} {h h' : Heap} {x : Addr} (X : K.In h) (hx : K.lookup x = none) (k : ∀ b o, b ≠ x → h.get? b = some o → h'.get? b = some o) : K.In h' := fun a o e =>
  k a o (fun z => by rw [z, hx] at e; cases e) (X a o e)
theorem ns_x {h h' : Heap} {L x : Addr} {m : Str → Option Value} (n : h.Ns L m) (ne : L ≠ x) (k : ∀ b o, b ≠ x → h.get? b = some o → h'.get? b = some o) : h'.Ns L m := by
  obtain ⟨o, es, ep, ho, r⟩ := n
  exact ⟨o, es, ep, k _ _ ne ho, r⟩
/-- __init__(self, f1, f2) -/
theorem init2 {f1 f2 text : Str} {a3 pa pb pc : Nat → Pos} {tk : Nat} {more} {v1 v2 : Value} {t0 : Addr} {R : Result → Shared → Prop} {s : Shared} {pl : Sem Bool} (T : ExK P K mg C fI cc cda qual (arg3 f1 f2 a3) [supS text pa tk, fldS f1 pb, fldS f2 pc] (sc3 f1 f2 more))
    (he : ∀ L, eval (.Call (.Attribute (.Call (.Name "super" (pa 0)) [] [] (pa 1)) "__init__" (pa 2)) [.Constant (.str text) tk (pa 3)] [] (pa 4)) (ksEnv qual (sc3 f1 f2 more) L fI (.ref cda) cc) = (do
      let ov ← attributeBase (.Call (.Name "super" (pa 0)) [] [] (pa 1)) "__init__" (ksEnv qual (sc3 f1 f2 more) L fI (.ref cda) cc) (eval (.Call (.Name "super" (pa 0)) [] [] (pa 1)) (ksEnv qual (sc3 f1 f2 more) L fI (.ref cda) cc))
      standAt (pa 2).atName
      let (f, first) ← holding [ov] (getMethod ov "__init__" pl)
      callWith (pa 4) f first (backTo (pa 4) (starEach [.Constant (.str text) tk (pa 3)] (ksEnv qual (sc3 f1 f2 more) L fI (.ref cda) cc))) []))
    (hs1 : ∀ L, swapsWith (.Call (.Attribute (.Call (.Name "super" (pa 0)) [] [] (pa 1)) "__init__" (pa 2)) [.Constant (.str text) tk (pa 3)] [] (pa 4)) none (pa 5).line (ksEnv qual (sc3 f1 f2 more) L fI (.ref cda) cc) = pure false)
    (hs2 : ∀ L, swapsWith (.Name f1 (pb 2)) (some (.Attribute (.Name "self" (pb 0)) f1 (pb 1))) (pb 3).line (ksEnv qual (sc3 f1 f2 more) L fI (.ref cda) cc) = pure false)
    (hs3 : ∀ L, swapsWith (.Name f2 (pc 2)) (some (.Attribute (.Name "self" (pc 0)) f2 (pc 1))) (pc 3).line (ksEnv qual (sc3 f1 f2 more) L fI (.ref cda) cc) = pure false)
    (hb2 : ∀ (kV doc pm ct : Value) (an : Option Addr) (u1 u2 u3 : Value), bindArgs (ksFn "__init__" qual (arg3 f1 f2 a3) [supS text pa tk, fldS f1 pb, fldS f2 pc] (sc3 f1 f2 more) .none kV doc pm an (.ref cda) ct cc) ⟨[u1, u2, u3], []⟩ = pure [(("self" : Str), u1), (f1, u2), (f2, u3)])
    (hr1 : ([(("self" : Str), Value.ref x), (f1, v1), (f2, v2)] : List (Str × Value)).reverse.lookup ("self" : Str) = some (.ref x)) (hr2 : ([(("self" : Str), Value.ref x), (f1, v1), (f2, v2)] : List (Str × Value)).reverse.lookup f1 = some v1) (hr3 : ([(("self" : Str), Value.ref x), (f1, v1), (f2, v2)] : List (Str × Value)).reverse.lookup f2 = some v2)
    (k1 : (sc3 f1 f2 more).names.lookup f1 = some .local) (k2 : (sc3 f1 f2 more).names.lookup f2 = some .local) (k3 : (sc3 f1 f2 more).names.lookup ("super" : Str) = some .globalImplicit) (k4 : (sc3 f1 f2 more).names.lookup ("__class__" : Str) = some .free)
    (d1 : (f1 == ("__debug__" : Str)) = false) (d2 : (f2 == ("__debug__" : Str)) = false) (no1 : findIn K (.ref C) f1 = some none) (no2 : findIn K (.ref C) f2 = some none)
    (X : K.In s.heap) (hlim : s.heap.NoLimit) (hg : s.heap.Ns mainGlobals mg) (hb : s.heap.Ns builtinsNs mb) (hbs : mb "super" = some (.type "super")) (hroom : A.depth < recursionLimit) (hx : s.heap.get? x = some (excO C t0)) (nx : K.lookup x = none) (gx : mainGlobals ≠ x) (bx : builtinsNs ≠ x)
    (hq : ∀ h' tk', Done s.heap h' x C (fun y => if y = f2 then some v2 else if y = f1 then some v1 else none) → R (.ok (.ret .none)) { s with heap := h', toks := tk' }) :
    codeAny (model P w) A (.call (.ref fI) ⟨[.ref x, v1, v2], []⟩) R s := by
  obtain ⟨oc, od, dV, kV, doc, pm, ct, an, osl, rfl, hf⟩ := T.fn
  have xL : x < s.heap.objs.size := Heap.lt_size hx
  have xne : s.heap.objs.size ≠ x := Nat.ne_of_gt xL
  refine ks_codeAny_call_defAt (binds := [(("self" : Str), .ref x), (f1, v1), (f2, v2)]) hroom (X _ _ hf) rfl hlim (codeRec_of X T.code) rfl (.of_eq (hb2 _ _ _ _ _ _ _ _)) (by intro y hy; simp at hy; rcases hy with rfl | rfl | rfl | rfl | rfl <;> simp) ?_ fun h1 hn1 kk1 => ?_
  · intro y hy
    simp at hy
    rcases hy with rfl | rfl | rfl
    · rfl
    · exact k1
    · exact k2
  have X1 : K.In h1 := X.keeps kk1
  have hx1 := kk1 _ _ hx
  refine ks_wpAt_execs_cons (sup_run (x := x) T (he _) (hs1 _) X1 (hg.keeps kk1) (hb.keeps kk1) hbs hn1 rfl rfl hr1 hx1 xne k3 k4 rfl rfl fun s2 t1 kk2 hx2 e1 e2 e3 => ?_)
  obtain ⟨h2, g2, d2', tk2, os2⟩ := s2
  have e1' : g2 = s.gens := e1
  have e2' : d2' = s.drawn := e2
  have e3' : os2 = s.os := e3
  subst e1' e2' e3'
  have kk2' : ∀ b o, b ≠ x → h1.get? b = some o → h2.get? b = some o := kk2
  have hx2' : h2.get? x = some (excO C t1) := hx2
  have X2 : K.In h2 := kept_x X1 nx kk2'
  have hn2 := ns_x hn1 xne kk2'
  show _root_.PySem.wpAt _ _ _ (execs _ _) _ _ _
  refine ks_wpAt_execs_cons (fld_new (x := x) T (hs2 _) X2 hn2 hr1 hr2 hx2' no1 rfl k1 rfl d1 fun h3 tk3 dx kk3 dn dne hx3 hn3 => ?_)
  have X3 : K.In h3 := kept_x X2 nx kk3
  have hn3' := ns_x hn2 xne kk3
  show _root_.PySem.wpAt _ _ _ (execs _ _) _ _ _
  have Ldx : s.heap.objs.size < dx := by
    obtain ⟨o, _, _, ho, _⟩ := hn2
    exact Nat.lt_of_lt_of_le (Heap.lt_size ho) dn
  refine ks_wpAt_execs_cons (fld_old (x := x) (dx := dx) (nl := [f1]) T (hs3 _) X3 hn3' hr1 hr3 hx3 hn3 (fun y hy => ?_) (by simp) no2 rfl k2 rfl d2 fun h4 tk4 kk4 hn4 => ?_)
  · by_cases q : y = f1
    · simp [q]
    · exact absurd (if_neg q) hy
  show _root_.PySem.wpAt _ _ _ (execs _ _) _ _ _
  refine wpAt_of_wpAny (wpAny_execs_nil (hq h4 tk4 ⟨fun b o hb z => ?_, ⟨dx, t1, kk4 _ _ (Ne.symm dne) hx3, Nat.le_of_lt Ldx, dne, hn4⟩⟩))
  have h9 : b < dx := Nat.lt_trans (Heap.lt_size z) Ldx
  exact kk4 _ _ (Nat.ne_of_lt h9) (kk3 _ _ hb (kk2' _ _ hb (kk1 _ _ z)))
/-- __init__(self, f1) -/
theorem init1 {f1 text : Str} {a3 pa pb : Nat → Pos} {tk : Nat} {more} {v1 : Value} {t0 : Addr} {R : Result → Shared → Prop} {s : Shared} {pl : Sem Bool} (T : ExK P K mg C fI cc cda qual (arg2 f1 a3) [supS text pa tk, fldS f1 pb] (sc2 f1 more))
    (he : ∀ L, eval (.Call (.Attribute (.Call (.Name "super" (pa 0)) [] [] (pa 1)) "__init__" (pa 2)) [.Constant (.str text) tk (pa 3)] [] (pa 4)) (ksEnv qual (sc2 f1 more) L fI (.ref cda) cc) = (do
      let ov ← attributeBase (.Call (.Name "super" (pa 0)) [] [] (pa 1)) "__init__" (ksEnv qual (sc2 f1 more) L fI (.ref cda) cc) (eval (.Call (.Name "super" (pa 0)) [] [] (pa 1)) (ksEnv qual (sc2 f1 more) L fI (.ref cda) cc))
      standAt (pa 2).atName
      let (f, first) ← holding [ov] (getMethod ov "__init__" pl)
      callWith (pa 4) f first (backTo (pa 4) (starEach [.Constant (.str text) tk (pa 3)] (ksEnv qual (sc2 f1 more) L fI (.ref cda) cc))) []))
    (hs1 : ∀ L, swapsWith (.Call (.Attribute (.Call (.Name "super" (pa 0)) [] [] (pa 1)) "__init__" (pa 2)) [.Constant (.str text) tk (pa 3)] [] (pa 4)) none (pa 5).line (ksEnv qual (sc2 f1 more) L fI (.ref cda) cc) = pure false)
    (hs2 : ∀ L, swapsWith (.Name f1 (pb 2)) (some (.Attribute (.Name "self" (pb 0)) f1 (pb 1))) (pb 3).line (ksEnv qual (sc2 f1 more) L fI (.ref cda) cc) = pure false)
    (hb2 : ∀ (kV doc pm ct : Value) (an : Option Addr) (u1 u2 : Value), bindArgs (ksFn "__init__" qual (arg2 f1 a3) [supS text pa tk, fldS f1 pb] (sc2 f1 more) .none kV doc pm an (.ref cda) ct cc) ⟨[u1, u2], []⟩ = pure [(("self" : Str), u1), (f1, u2)])
    (hr1 : ([(("self" : Str), Value.ref x), (f1, v1)] : List (Str × Value)).reverse.lookup ("self" : Str) = some (.ref x)) (hr2 : ([(("self" : Str), Value.ref x), (f1, v1)] : List (Str × Value)).reverse.lookup f1 = some v1)
    (k1 : (sc2 f1 more).names.lookup f1 = some .local) (k3 : (sc2 f1 more).names.lookup ("super" : Str) = some .globalImplicit) (k4 : (sc2 f1 more).names.lookup ("__class__" : Str) = some .free)
    (d1 : (f1 == ("__debug__" : Str)) = false) (no1 : findIn K (.ref C) f1 = some none)
    (X : K.In s.heap) (hlim : s.heap.NoLimit) (hg : s.heap.Ns mainGlobals mg) (hb : s.heap.Ns builtinsNs mb) (hbs : mb "super" = some (.type "super")) (hroom : A.depth < recursionLimit) (hx : s.heap.get? x = some (excO C t0)) (nx : K.lookup x = none)
    (hq : ∀ h' tk', Done s.heap h' x C (fun y => if y = f1 then some v1 else none) → R (.ok (.ret .none)) { s with heap := h', toks := tk' }) :
    codeAny (model P w) A (.call (.ref fI) ⟨[.ref x, v1], []⟩) R s := by
  obtain ⟨oc, od, dV, kV, doc, pm, ct, an, osl, rfl, hf⟩ := T.fn
  have xL : x < s.heap.objs.size := Heap.lt_size hx
  have xne : s.heap.objs.size ≠ x := Nat.ne_of_gt xL
  refine ks_codeAny_call_defAt (binds := [(("self" : Str), .ref x), (f1, v1)]) hroom (X _ _ hf) rfl hlim (codeRec_of X T.code) rfl (.of_eq (hb2 _ _ _ _ _ _ _)) (by intro y hy; simp at hy; rcases hy with rfl | rfl | rfl | rfl <;> simp) ?_ fun h1 hn1 kk1 => ?_
  · intro y hy
    simp at hy
    rcases hy with rfl | rfl
    · rfl
    · exact k1
  have X1 : K.In h1 := X.keeps kk1
  have hx1 := kk1 _ _ hx
  refine ks_wpAt_execs_cons (sup_run (x := x) T (he _) (hs1 _) X1 (hg.keeps kk1) (hb.keeps kk1) hbs hn1 rfl rfl hr1 hx1 xne k3 k4 rfl rfl fun s2 t1 kk2 hx2 e1 e2 e3 => ?_)
  obtain ⟨h2, g2, d2', tk2, os2⟩ := s2
  have e1' : g2 = s.gens := e1
  have e2' : d2' = s.drawn := e2
  have e3' : os2 = s.os := e3
  subst e1' e2' e3'
  have kk2' : ∀ b o, b ≠ x → h1.get? b = some o → h2.get? b = some o := kk2
  have hx2' : h2.get? x = some (excO C t1) := hx2
  have X2 : K.In h2 := kept_x X1 nx kk2'
  have hn2 := ns_x hn1 xne kk2'
  show _root_.PySem.wpAt _ _ _ (execs _ _) _ _ _
  refine ks_wpAt_execs_cons (fld_new (x := x) T (hs2 _) X2 hn2 hr1 hr2 hx2' no1 rfl k1 rfl d1 fun h3 tk3 dx kk3 dn dne hx3 hn3 => ?_)
  show _root_.PySem.wpAt _ _ _ (execs _ _) _ _ _
  have Ldx : s.heap.objs.size < dx := by
    obtain ⟨o, _, _, ho, _⟩ := hn2
    exact Nat.lt_of_lt_of_le (Heap.lt_size ho) dn
  exact wpAt_of_wpAny (wpAny_execs_nil (hq h3 tk3 ⟨fun b o hb z => kk3 _ _ hb (kk2' _ _ hb (kk1 _ _ z)), ⟨dx, t1, hx3, Nat.le_of_lt Ldx, dne, hn3⟩⟩))
end
end XC
namespace XC
open PySem PySem.W PySem.Calls PyProof.Rows PySem.HandSPX L2
/-- fields by their names, as they are set one after another -/
def fset (fs : List Str) (us : List Value) : Str → Option Value := fun y => (fs.zip us).reverse.lookup y
def xset (fs : List Str) (vs : List V) : List (Str × V) := (fs.zip vs).reverse
theorem rel_look {vs : List V} {us : List Value} (r : Vals vs us) : ∀ (fs : List Str) (l : List (Str × V)) (l' : List (Str × Value)), (∀ y, RelO (l.lookup y) (l'.lookup y)) → ∀ y, RelO (List.lookup y ((fs.zip vs).reverse ++ l)) (List.lookup y ((fs.zip us).reverse ++ l')) := by
  induction r with
  | nil => intro fs l l' h y; simp; exact h y
  | @cons v u vs us rv _ ih =>
    intro fs l l' h y
    cases fs with
    | nil => simp; exact h y
    | cons f fs =>
      rw [List.zip_cons_cons, List.zip_cons_cons, List.reverse_cons, List.reverse_cons, List.append_assoc, List.append_assoc]
      refine ih fs _ _ (fun z => ?_) y
      show RelO (List.lookup z ((f, v) :: l)) (List.lookup z ((f, u) :: l'))
      unfold List.lookup
      by_cases q : z == f
      · rw [q]; exact rv
      · have q' : (z == f) = false := by simpa using q
        rw [q']; exact h z
theorem rel_set {vs : List V} {us : List Value} (r : Vals vs us) (fs : List Str) (y : Str) : RelO (List.lookup y (xset fs vs)) (fset fs us y) := by
  have h := rel_look r fs [] [] (fun _ => trivial) y
  simpa [xset, fset] using h
/-- a class of errors with an own __init__ that sets its fields -/
structure InitOk (P : Program) (K : Frag) (mg : Str → Option Value) (C : Addr) (fs : List Str) : Prop where
  cls : ∃ nm q N bs bm sn sub ab col dd k0 k1 k2 k3 k5, K.lookup C = some (excClassObj nm q C N bs bm true sn sub ab col dd k0 k1 k2 k3 k5 "ValueError.__new__") ∧ refsVE bm = true
  kC : keepIn K (.ref C) = true
  exC : subIn K (.ref C) (.type "BaseException") = some true
  tyC : typeIn K (.ref C) = some (.type "type")
  init : ∃ fI, findIn K (.ref C) "__init__" = some (some (.ref fI)) ∧ typeIn K (.ref fI) = some (.type "function") ∧ ∀ (w : World) (A : Around) (x t0 : Addr) (us : List Value) (R : Result → Shared → Prop) (s : Shared), us.length = fs.length → K.In s.heap → s.heap.NoLimit → s.heap.Ns mainGlobals mg → (∃ mb, s.heap.Ns builtinsNs mb ∧ mb "super" = some (.type "super")) →
    A.depth < recursionLimit → s.heap.get? x = some (excO C t0) → K.lookup x = none → (∀ h' tk', Done s.heap h' x C (fset fs us) → R (.ok (.ret .none)) { s with heap := h', toks := tk' }) →
    codeAny (model P w) A (.call (.ref fI) ⟨.ref x :: us, []⟩) R s
/-- C(us) -/
theorem made {P : Program} {w : World} {A : Around} {K : Frag} {mg : Str → Option Value} {C : Addr} {fs : List Str} (T : InitOk P K mg C fs) {us : List Value} {R : Result → Shared → Prop} {s : Shared} (hl : us.length = fs.length) (hz : us.length ≤ sizeLine) (X : K.In s.heap) (hlim : s.heap.NoLimit) (hg : s.heap.Ns mainGlobals mg) (hb : ∃ mb, s.heap.Ns builtinsNs mb ∧ mb "super" = some (.type "super")) (hroom : A.depth + 1 < recursionLimit)
    (hq : ∀ h' tk e d t, (∀ b o, s.heap.get? b = some o → h'.get? b = some o) → s.heap.objs.size ≤ e → h'.get? e = some (excD C d t) → s.heap.objs.size ≤ d → d ≠ e → h'.Ns1 d (fset fs us) → R (.ok (.ret (.ref e))) { s with heap := h', toks := tk }) :
    codeAny (model P w) A (.call (.ref C) ⟨us, []⟩) R s := by
  obtain ⟨nm, q, N, bs, bm, sn, sub, ab, col, dd, k0, k1, k2, k3, k5, hC, hbm⟩ := T.cls
  obtain ⟨fI, iC, tI, hi⟩ := T.init
  obtain ⟨hp, g, dr, tk, os⟩ := s
  have k : ∀ b o, hp.get? b = some o → ((hp.push (kdv_tup us)).push (excO C hp.objs.size)).get? b = some o := fun b o e => Heap.get?_push_of_some _ (Heap.get?_push_of_some _ e)
  have hget : ((hp.push (kdv_tup us)).push (excO C hp.objs.size)).get? (hp.objs.size + 1) = some (excO C hp.objs.size) := by heap_get
  have hnx : K.lookup (hp.objs.size + 1) = none := by
    cases e : K.lookup (hp.objs.size + 1) with
    | none => rfl
    | some o =>
      have z : hp.get? (hp.objs.size + 1) = some o := X _ _ e
      exact absurd (Nat.lt_of_succ_lt (Heap.lt_size z)) (Nat.lt_irrefl _)
  refine call_own F.excBase_ValueError (fun X => refsVE_contains X bm hbm) (X _ _ hC) (looks_findIn X iC) (fun self => bind_fn X self tI) hz ?_
  obtain ⟨mb, b1, b2⟩ := hb
  refine hi w _ (hp.objs.size + 1) hp.objs.size us _ ⟨(hp.push (kdv_tup us)).push (excO C hp.objs.size), g, dr, tk, os⟩ hl (X.keeps k) (hlim.keeps k) (hg.keeps k) ⟨mb, b1.keeps k, b2⟩ ?_ hget hnx fun h' tk' D => ?_
  · show A.depth + 1 < recursionLimit
    exact hroom
  · obtain ⟨dx, t, hx, dn, dne, hns⟩ := D.obj
    have old : ∀ b o, hp.get? b = some o → h'.get? b = some o := fun b o e => D.keep b o (Nat.ne_of_lt (Nat.lt_succ_of_lt (Heap.lt_size e))) (k b o e)
    have z : hp.objs.size + 1 + 1 ≤ dx := by
      first
        | (simpa only [Heap.size_push] using dn)
        | exact dn
        | (have q := dn; rw [Heap.size_push, Heap.size_push] at q; exact q)
    exact ⟨rfl, hq h' tk' (hp.objs.size + 1) dx t old (Nat.le_succ _) hx (Nat.le_trans (Nat.le_trans (Nat.le_succ _) (Nat.le_succ _)) z) dne hns⟩
/-- C(a, ..) within a raise -/
theorem pmk_made {X : Cx} {C : Addr} {fs : List Str} {nm : Str} {a : Expr} {es : List Expr} {ta : TA} {p pos : Pos} {k : Nat} (T : InitOk X.prog X.K X.mg C fs) (gC : X.mg nm = some (.ref C)) (hf : fs.length ≤ 10) (hr : Room (k + 1) X.A) (ha : PA X (a :: es) ta) (hg : Gl X nm) (hd : (nm == ("__debug__" : Str)) = false)
    (he : starEach (a :: es) X.env = (false, eval a X.env) :: starEach es X.env) (hpl : (backTo pos (starEach es X.env)).any (·.1) = false) :
    L2N.PMk X (.Call (.Name nm p) (a :: es) [] pos) (fun σ H Q => ta σ H fun vs H1 => vs.length = fs.length ∧ ∀ d, H1 d = none → Q (.ref C) (some d) (upd H1 d (.xd (xset fs vs)))) := by
  intro pins s σ H Q I h
  refine wpAny_Call_Name_kw (ld_glob I hg gC ?_ hd)
  refine callWith_K (h₀ := X.base) I.ok.mod.kin T.kC (thn (ha.run pos pins s σ H _ I h) fun us s1 hh => ?_) he hpl
  obtain ⟨vs, H1, I1, r1, el, q1⟩ := hh
  refine ⟨I1.kIn, ?_⟩
  have hlu : us.length = fs.length := by rw [← r1.length]; exact el
  have hlim := I1.nolimit
  have hgl := I1.mod.glob.keeps I1.bk
  have hbl : ∃ mb, s1.heap.Ns builtinsNs mb ∧ mb "super" = some (.type "super") := by
    obtain ⟨mb, h1, h2⟩ := I1.mod.blt
    exact ⟨mb, h1.keeps I1.bk, (h2 "super" (by decide)).trans (by decide +kernel)⟩
  obtain ⟨hp, g, dr, tk, os⟩ := s1
  refine wpAny_call (made T hlu (by rw [sizeLine_eq]; simp only [List.nil_append]; omega) I1.kIn hlim hgl hbl (by have := hr.dp; omega) fun h' tk' e d t old hne hoe hdb dne hns => ?_)
  show L2N.MkP X pins σ Q (.ref e) ⟨h', g, dr, tk', os⟩
  obtain ⟨G', g1, g2⟩ := restrict h' fun b => decide (b ≠ e)
  have gk : ∀ b, b ≠ e → G'.get? b = h'.get? b := fun b hb => g1 b (decide_eq_true hb)
  have ge : G'.get? e = none := g2 e (by simp)
  have old' : ∀ b o, hp.get? b = some o → G'.get? b = some o := fun b o q => (gk b (Nat.ne_of_lt (Nat.lt_of_lt_of_le (Heap.lt_size q) hne))).trans (old b o q)
  have ob : ObjOk X.prog X.w (upd H1 d (.xd (xset fs vs))) G' d (.xd (xset fs vs)) := ⟨_, hns.at (fun o q => (gk d dne).trans q), fun f => rel_set r1 fs f⟩
  have J : Inv X pins σ (upd H1 d (.xd (xset fs vs))) ⟨G', g, dr, tk', os⟩ := I1.laid (t' := tk') old' hdb ob
  refine ⟨e, _, _, ⟨G', g, dr, tk', os⟩, _, .ref C, some d, rfl, J, fun b o q => ?_, ge, hoe, ⟨rfl, rfl, fun vs e => by cases e; rfl⟩, rfl, rfl, ?_, rfl, I1.bare, raises_own T.exC T.tyC, q1 d (I1.hok.fresh hdb)⟩
  · by_cases hb : b = e
    · have q' : G'.get? b = some o := q
      rw [hb, ge] at q'; cases q'
    · exact (gk b hb).symm.trans q
  · rw [upd_ne (Ne.symm dne)]
    exact I1.hok.fresh hne
/-- C() of a class without an own __init__ -/
theorem pmk_bare {X : Cx} {C : Addr} {bmB : List Value} {B newId initId : String} {nm : Str} {p pos : Pos} (F : ExcBaseFacts B newId initId bmB) (q : excIn X.K C bmB newId = true) (gC : X.mg nm = some (.ref C)) (kC : keepIn X.K (.ref C) = true) (r : Raises X (.ref C)) (hg : Gl X nm) (hd : (nm == ("__debug__" : Str)) = false) :
    L2N.PMk X (.Call (.Name nm p) [] [] pos) (fun _ H Q => Q (.ref C) none H) := by
  intro pins s σ H Q I h
  refine wpAny_Call_Name_kw (ld_glob I hg gC ?_ hd)
  refine callWith_K0 I.kIn kC ?_
  obtain ⟨bm, N, nm, qn, bs, hdct, sn, sub, ab, col, dd, k0, k1, k2, k3, k5, mN, hC, hN, hni, T⟩ := exc_obj I.kIn q
  obtain ⟨hp1, g1, d1, tk1, os1⟩ := s
  refine wpAny_call_exc_subT F T hC hN hni (fun h' e hm => ?_) (Nat.zero_le _)
  exact L2N.mk_of I hm r h (I.hok.gone hm.new)
end XC
namespace DL
open PySem PySem.Spec PyProof.Rows L2
open PySem.W (dataLe EachIs sortLe_total)
/-! ### cards in their order -/
abbrev Cd := Int × Nat × Nat
def lt3 (c d : Cd) : Bool := decide (c.1 < d.1) || (decide (c.1 = d.1) && (decide (c.2.1 < d.2.1) || (decide (c.2.1 = d.2.1) && decide (c.2.2 < d.2.2))))
def pdC (c : Cd) : PyData := .tuple [.int c.1, .int c.2.1, .int c.2.2]
def vC (c : Cd) : List V := [.int c.1, .int c.2.1, .int c.2.2]
def dC (c : Cd) : D := .tup [.int c.1, .int c.2.1, .int c.2.2]
theorem pdC_lt (c d : Cd) : PySem.W.dataLt (pdC c) (pdC d) = lt3 c d := by
  obtain ⟨a, b, e⟩ := c
  obtain ⟨a', b', e'⟩ := d
  have al : ∀ i j : Int, PySem.W.alike (.int i) (.int j) = true := fun i j => by simp only [PySem.W.alike]
  have nc : ∀ i j : Nat, ((i : Int) == (j : Int)) = decide (i = j) := fun i j => by
    rw [Bool.eq_iff_iff]; simp; omega
  have nl : ∀ i j : Nat, decide ((i : Int) < (j : Int)) = decide (i < j) := fun i j => by
    rw [Bool.eq_iff_iff]; simp
  have ic : ∀ i j : Int, (i == j) = decide (i = j) := fun i j => by
    rw [Bool.eq_iff_iff]; simp
  unfold pdC
  rw [PySem.W.dataLt_tuple, PySem.W.dataLt_cons (al _ _), PySem.W.dataLt_cons (al _ _), PySem.W.dataLt_cons (al _ _)]
  simp only [PyData.eqv, PySem.W.dataLt_int, nc, nl, ic]
  unfold lt3
  simp only
  have z : PyProof.Rows.lexLt itemOrd (PySem.W.keyToksAll []) (PySem.W.keyToksAll []) = false := lex_irrefl _
  by_cases h1 : a = a'
  · subst h1
    by_cases h2 : b = b'
    · subst h2
      by_cases h3 : e = e'
      · subst h3
        simp [z]
      · simp [h3]
    · simp [h2]
  · simp [h1]
theorem pdC_le (c d : V × Cd) : dataLe false (fun z : V × Cd => pdC z.2) c d = !lt3 d.2 c.2 := by
  rw [← pdC_lt]
  rfl
def rSort3 (K : PySem.W.Frag) : List V → Hp → VK → Prop := fun vs H Q => ∃ (a : Addr) (zs : List (V × Cd)), vs = [V.ref a] ∧ SqL K H a (zs.map (·.1)) ∧ (∀ z ∈ zs, ∃ t, z.1 = .ref t ∧ SqT K H t (vC z.2)) ∧
  ∀ (ys : List (V × Cd)) (p : Addr), ys.Perm zs → ys.Pairwise (fun c d => lt3 d.2 c.2 = false) → H p = none → Q (.ref p) (upd H p (.lst (ys.map (·.1))))
theorem each_of {R : V → Value → Prop} : ∀ {zs : List (V × Cd)} {its : List Value}, Paired R (zs.map (·.1)) its → EachIs (fun u z => R z.1 u) its zs
  | [], _, h => by cases h; exact .nil
  | z :: zs, _, h => by
    cases h with
    | cons a b => exact .cons a (each_of b)
theorem vals_of_each : ∀ {zs : List (V × Cd)} {out : List Value}, EachIs (fun u z => RelV z.1 u) out zs → Vals (zs.map (·.1)) out
  | _, _, .nil => .nil
  | _, _, .cons a b => .cons a (vals_of_each b)
theorem cr_sort3 {X : Cx} (hu : X.A.units + 64 < cLine) : CallR X (.builtin "sorted") (rSort3 X.K) := by
  intro pins s σ H vs us Q I r h
  obtain ⟨a, zs, rfl, hs, hx, q⟩ := h
  obtain ⟨its, rv, hl, hz⟩ := I.list hs
  rw [Vals.ref1 r]
  have e0 : EachIs (fun u z => RelV z.1 u) its zs := each_of rv
  have er : EachIs (fun u z => ∃ as, Reads s.heap u (pdC z.2) as) its zs := by
    have key : ∀ {us : List Value} {ys : List (V × Cd)}, EachIs (fun u z => RelV z.1 u) us ys → (∀ z ∈ ys, z ∈ zs) → EachIs (fun u z => ∃ as, Reads s.heap u (pdC z.2) as) us ys := by
      intro us ys h
      induction h with
      | nil => intro _; exact .nil
      | cons r1 _ ih =>
        intro hm
        refine .cons ?_ (ih fun z hz => hm z (List.mem_cons_of_mem _ hz))
        rename_i u z _ _ _
        obtain ⟨t, e1, e2⟩ := hx z (hm z List.mem_cons_self)
        exact Dp.reads I (pdC z.2) z.1 u (by rw [e1]; exact .tup e2 (.cons (.int _) (.cons (.int _) (.cons (.int _) .nil)))) r1
    exact key e0 fun _ h => h
  have hlen : zs.length ≤ sizeLine := by simpa using hz
  refine PySem.W.sorted_data hl.isList e0 er (fun d hd d' hd' => ?_) (.inl fun d hd => ?_) hlen (fun b hb => ?_) fun out ho eo => ?_
  · obtain ⟨z, _, rfl⟩ := List.mem_map.mp hd
    obtain ⟨z', _, rfl⟩ := List.mem_map.mp hd'
    simp [pdC, PySem.W.alike, PySem.W.alikeAll]
  · obtain ⟨z, _, rfl⟩ := List.mem_map.mp hd
    exact ⟨_, _, rfl⟩
  · have : (pdC b.2).depth ≤ 2 := by simp [pdC, PyData.depth, PyData.depthAll]
    omega
  · obtain ⟨ep, he'⟩ := sortedAll_at s.heap its out.toArray
    have tl := sortLe_total (listOrd itemOrd) false fun b : V × Cd => PySem.W.keyToks (pdC b.2)
    have ht : ∀ a b c : V × Cd, dataLe false (fun z : V × Cd => pdC z.2) a b = true → dataLe false (fun z : V × Cd => pdC z.2) b c = true → dataLe false (fun z : V × Cd => pdC z.2) a c = true := tl.trans
    have htt : ∀ a b : V × Cd, (dataLe false (fun z : V × Cd => pdC z.2) a b || dataLe false (fun z : V × Cd => pdC z.2) b a) = true := fun a b => by rw [Bool.or_eq_true]; exact tl.total a b
    have hp := List.mergeSort_perm zs (dataLe false fun z : V × Cd => pdC z.2)
    have hpw := List.pairwise_mergeSort ht htt zs
    have hl2 : ((zs.mergeSort (dataLe false fun z : V × Cd => pdC z.2)).map (·.1)).length ≤ sizeLine := by rw [List.length_map, hp.length_eq]; exact hlen
    refine ⟨.ref _, upd H (s.heap.objs.size + 1) (.lst ((zs.mergeSort (dataLe false fun z : V × Cd => pdC z.2)).map (·.1))), I.laid (t' := s.toks) (fun _ _ => sortedAll_old) (Nat.le_succ _) ⟨hl2, out, ep, vals_of_each eo, by simpa using he'⟩, rfl, q _ _ hp (hpw.imp fun {c d} h => ?_) (I.hok.fresh (Nat.le_succ _))⟩
    rw [pdC_le] at h
    simpa using h
section
variable {ι : Type} {X : ι → Cx} {P : Program} {w : World} {K : PySem.W.Frag} {mg : Str → Option Value} {base : Heap} {k : Nat} {E : XK} {ρ : Rho} {R : Er → Prop} {pos : Pos}
theorem Ok.un (O : Ok X P w K mg base k E) (i : ι) : (X i).A.units + 64 < cLine := by have := (O.room i).un; omega
theorem Ok.un' (O : Ok X P w K mg base k E) (i : ι) : (X i).A.units + 65 < cLine := by have := (O.room i).un; omega
theorem Reps.cards {G : Hp} : ∀ {cs : List Cd} {vs : List V}, Reps K G (cs.map dC) vs → ∃ zs : List (V × Cd), zs.map (·.1) = vs ∧ zs.map (·.2) = cs ∧ ∀ z ∈ zs, ∃ t, z.1 = .ref t ∧ SqT K G t (vC z.2)
  | [], _, h => by rw [Reps.nil_iff.mp h]; exact ⟨[], rfl, rfl, fun _ h => nomatch h⟩
  | c :: cs, _, h => by
    obtain ⟨v, r, rfl, h1, h2⟩ := h.inv
    obtain ⟨zs, e1, e2, e3⟩ := Reps.cards h2
    obtain ⟨t, us, rfl, ht, hr⟩ := Rep.tup_iff.mp h1
    have e : us = vC c := Reps.scas (.cons (.int _) (.cons (.int _) (.cons (.int _) .nil))) hr
    subst e
    refine ⟨(.ref t, c) :: zs, by rw [List.map_cons, e1], by rw [List.map_cons, e2], fun z hz => ?_⟩
    rcases List.mem_cons.mp hz with rfl | hz
    · exact ⟨t, rfl, ht⟩
    · exact e3 z hz
theorem Reps.of_cards {G : Hp} : ∀ (zs : List (V × Cd)), (∀ z ∈ zs, ∃ t, z.1 = .ref t ∧ SqT K G t (vC z.2)) → Reps K G ((zs.map (·.2)).map dC) (zs.map (·.1))
  | [], _ => Reps.nil
  | z :: zs, h => by
    obtain ⟨t, e1, e2⟩ := h z List.mem_cons_self
    refine Reps.cons ?_ (Reps.of_cards zs fun y hy => h y (List.mem_cons_of_mem _ hy))
    exact Rep.tup_iff.mpr ⟨t, _, e1, e2, Reps.of_scas (.cons (.int _) (.cons (.int _) (.cons (.int _) .nil)))⟩
theorem c_sort3 (O : Ok X P w K mg base k E) {cs : List Cd} {Q : List D → Prop} (q : ∀ ms : List Cd, ms.Perm cs → ms.Pairwise (fun c d => lt3 d c = false) → Q (ms.map dC)) : can X K (.builtin "sorted") [.lst (cs.map dC)] Q := ⟨fun G H vs eG rs Qv kk => by
  obtain ⟨v, rfl, rv⟩ := rs.one
  obtain ⟨a, us, rfl, ha, ra⟩ := Rep.lst_iff.mp rv
  obtain ⟨zs, e1, e2, e3⟩ := ra.cards
  subst e1 e2
  refine ⟨rSort3 K, fun i => by have := cr_sort3 (X := X i) (O.un i); rw [O.K i] at this; exact this, a, zs, rfl, SqL.of (eG _ _ ha), fun z hz => ?_, fun ys p hp hpw hn => ?_⟩
  · obtain ⟨t, h1, h2⟩ := e3 z hz
    exact ⟨t, h1, eG.sqT h2⟩
  · refine kk _ p _ G _ (q (ys.map (·.2)) (hp.map _) ?_) (Stp.own eG hn) hn (eG.free hn) upd_same (Reps.of_cards ys fun z hz => e3 z (hp.subset hz))
    rw [List.pairwise_map]
    exact hpw⟩
end
end DL
namespace DL
open PySem PySem.Spec PyProof.Rows L2
/-! ### data as the library's data -/
mutual
def pd : D → PyData
  | .non => .none
  | .bl b => .bool b
  | .int i => .int i
  | .str x => .str x
  | .lst xs => .list (pds xs)
  | .tup xs => .tuple (pds xs)
  | .scr ns => .list (ns.map .int)
  | .oh _ => .none
  | .gd _ => .none
def pds : List D → List PyData
  | [] => []
  | d :: ds => pd d :: pds ds
end
mutual
/-- no guides in it -/
def pln : D → Bool
  | .oh _ => false
  | .gd _ => false
  | .lst xs => plns xs
  | .tup xs => plns xs
  | _ => true
def plns : List D → Bool
  | [] => true
  | d :: ds => pln d && plns ds
end
theorem pds_map : ∀ xs : List D, pds xs = xs.map pd
  | [] => rfl
  | _ :: xs => by rw [pds, List.map_cons, pds_map xs]
section
variable {K : PySem.W.Frag} {G : Hp}
theorem dp_ints : ∀ ns : List Int, DpAll K G (ns.map .int) (ns.map .int)
  | [] => .nil
  | n :: ns => .cons (.int n) (dp_ints ns)
mutual
theorem Rep.dp : ∀ (d : D) {v : V}, pln d = true → Rep K G d v → Dp K G v (pd d)
  | .non, _, _, r => by rw [Rep.non_iff.mp r]; exact .non
  | .bl b, _, _, r => by rw [Rep.bl_iff.mp r]; exact .bl b
  | .int i, _, _, r => by rw [Rep.int_iff.mp r]; exact .int i
  | .str x, _, _, r => by rw [Rep.str_iff.mp r]; exact .str x
  | .lst xs, _, p, r => by
    obtain ⟨a, vs, rfl, h1, h2⟩ := Rep.lst_iff.mp r
    exact .lst (SqL.of h1) (Reps.dp xs (by simpa only [pln] using p) h2)
  | .tup xs, _, p, r => by
    obtain ⟨a, vs, rfl, h1, h2⟩ := Rep.tup_iff.mp r
    exact .tup h1 (Reps.dp xs (by simpa only [pln] using p) h2)
  | .scr ns, _, _, r => by
    obtain ⟨a, rfl, h⟩ := Rep.scr_iff.mp r
    exact .lst h (dp_ints ns)
  | .oh _, _, p, _ => by simp [pln] at p
  | .gd _, _, p, _ => by simp [pln] at p
theorem Reps.dp : ∀ (ds : List D) {vs : List V}, plns ds = true → Reps K G ds vs → DpAll K G vs (pds ds)
  | [], _, _, r => by rw [Reps.nil_iff.mp r]; exact .nil
  | d :: ds, _, p, r => by
    obtain ⟨v, us, rfl, h1, h2⟩ := r.inv
    have p' : pln d = true ∧ plns ds = true := by simpa [plns, Bool.and_eq_true] using p
    exact .cons (Rep.dp d p'.1 h1) (Reps.dp ds p'.2 h2)
end
end
/-- of few levels, of sound texts -/
structure Lay (d : D) (n : Nat) : Prop where
  p : pln d = true
  c : (pd d).canLay0 = true
  d : (pd d).depth ≤ n
theorem Lay.sh {d : D} {n : Nat} (l : Lay d n) (h : n ≤ 64) : SeqAt.shaped (pd d) = true := by
  unfold SeqAt.shaped
  rw [l.c, decide_eq_true (Nat.le_trans l.d h)]
  rfl
theorem Lay.int (i : Int) : Lay (.int i) 0 := ⟨rfl, rfl, Nat.le_refl _⟩
theorem Lay.bl (i : Bool) : Lay (.bl i) 0 := ⟨rfl, rfl, Nat.le_refl _⟩
theorem Lay.non : Lay .non 0 := ⟨rfl, rfl, Nat.le_refl _⟩
theorem Lay.str (x : Str) (h : PyData.strOk x = true) : Lay (.str x) 0 := ⟨rfl, h, Nat.le_refl _⟩
theorem lay_all : ∀ (ds : List D) {n : Nat}, (∀ d ∈ ds, Lay d n) → plns ds = true ∧ PyData.canLayAll0 (pds ds) = true ∧ PyData.depthAll (pds ds) ≤ n
  | [], _, _ => ⟨rfl, rfl, Nat.zero_le _⟩
  | d :: ds, n, h => by
    obtain ⟨h1, h2, h3⟩ := lay_all ds fun x hx => h x (List.mem_cons_of_mem _ hx)
    have l := h d List.mem_cons_self
    refine ⟨by simp [plns, l.p, h1], by simp [pds, PyData.canLayAll0, l.c, h2], ?_⟩
    simp only [pds, PyData.depthAll]
    exact Nat.max_le.mpr ⟨l.d, h3⟩
theorem Lay.lst {ds : List D} {n : Nat} (h : ∀ d ∈ ds, Lay d n) : Lay (.lst ds) (n + 1) := by
  obtain ⟨h1, h2, h3⟩ := lay_all ds h
  exact ⟨by simpa [pln] using h1, by simpa [pd, PyData.canLay0] using h2, by simp only [pd, PyData.depth]; omega⟩
theorem Lay.tup {ds : List D} {n : Nat} (h : ∀ d ∈ ds, Lay d n) : Lay (.tup ds) (n + 1) := by
  obtain ⟨h1, h2, h3⟩ := lay_all ds h
  exact ⟨by simpa [pln] using h1, by simpa [pd, PyData.canLay0] using h2, by simp only [pd, PyData.depth]; omega⟩
theorem Lay.lI (ns : List Int) : Lay (lI ns) 1 := Lay.lst fun d hd => by
  obtain ⟨i, _, rfl⟩ := List.mem_map.mp hd
  exact Lay.int i
theorem lN_eq (ns : List Nat) : lN ns = lI (ns.map fun (n : Nat) => (n : Int)) := by
  unfold lN lI
  rw [List.map_map]
  rfl
theorem Lay.lN (ns : List Nat) : Lay (DL.lN ns) 1 := by rw [lN_eq]; exact Lay.lI _
theorem eqv_intL : ∀ ns ms : List Int, PyData.eqvAll (ns.map .int) (ms.map .int) = decide (ns = ms)
  | [], [] => rfl
  | [], _ :: _ => rfl
  | _ :: _, [] => rfl
  | n :: ns, m :: ms => by
    rw [List.map_cons, List.map_cons]
    simp only [PyData.eqvAll, PyData.eqv, eqv_intL ns ms]
    rw [Bool.eq_iff_iff]
    simp
theorem pds_ints (ns : List Int) : pds (ns.map .int) = ns.map .int := by rw [pds_map, List.map_map]; rfl
theorem eqv_lI (ns ms : List Int) : PyData.eqv (pd (lI ns)) (pd (lI ms)) = decide (ns = ms) := by
  simp only [lI, pd, PyData.eqv, pds_ints, eqv_intL]
section
variable {ι : Type} {X : ι → Cx} {P : Program} {w : World} {K : PySem.W.Frag} {mg : Str → Option Value} {base : Heap} {k : Nat} {E : XK} {ρ : Rho} {R : Er → Prop} {pos : Pos}
/-! ### == of data, in -/
theorem o_eqD (O : Ok X P w K mg base k E) {x y : D} {n m : Nat} {Q : D → Prop} (lx : Lay x n) (ly : Lay y m) (q : Q (.bl (PyData.eqv (pd x) (pd y)))) (hn : n ≤ 64 := by decide) (hm : m ≤ 64 := by decide) : opd X K (compareOp .Eq) x y Q := ⟨fun G H vx vy eG rx ry Qv kk =>
  ⟨rEqD K, fun i => by have := op_eqD (X := X i) (O.un i); rw [O.K i] at this; exact this, _, _, (Rep.mono eG _ rx).dp _ lx.p, (Rep.mono eG _ ry).dp _ ly.p, lx.sh hn, ly.sh hm, kk _ _ G H q (Stp.refl eG) (Sca.bl _).rep⟩⟩
theorem o_neD (O : Ok X P w K mg base k E) {x y : D} {n m : Nat} {Q : D → Prop} (lx : Lay x n) (ly : Lay y m) (q : Q (.bl (!PyData.eqv (pd x) (pd y)))) (hn : n ≤ 64 := by decide) (hm : m ≤ 64 := by decide) : opd X K (compareOp .NotEq) x y Q := ⟨fun G H vx vy eG rx ry Qv kk =>
  ⟨rNeD K, fun i => by have := op_neD (X := X i) (O.un i); rw [O.K i] at this; exact this, _, _, (Rep.mono eG _ rx).dp _ lx.p, (Rep.mono eG _ ry).dp _ ly.p, lx.sh hn, ly.sh hm, kk _ _ G H q (Stp.refl eG) (Sca.bl _).rep⟩⟩
theorem inV_ints (i : Int) (ns : List Int) : inV (.int i) (ns.map V.int) = decide (i ∈ ns) := by
  unfold inV
  rw [List.any_map, Bool.eq_iff_iff]
  simp [eqV]
theorem flat_ints (ns : List Int) : (ns.map V.int).all flatV = true := by
  rw [List.all_map, List.all_eq_true]
  exact fun _ _ => rfl
theorem o_in (O : Ok X P w K mg base k E) {i : Int} {ns : List Int} {Q : D → Prop} (q : Q (.bl (decide (i ∈ ns)))) : opd X K (compareOp .In) (.int i) (lI ns) Q := ⟨fun G H vx vy eG rx ry Qv kk => by
  rw [Rep.int_iff.mp rx]
  obtain ⟨a, rfl, ha⟩ := ry.intL
  exact ⟨rIn K false, fun i => by have := op_in_seq (X := X i); rw [O.K i] at this; exact this, a, _, rfl, .inl (SqL.of (eG _ _ ha)), rfl, flat_ints ns, by rw [inV_ints]; exact kk _ _ G H q (Stp.refl eG) (Sca.bl _).rep⟩⟩
theorem o_notIn (O : Ok X P w K mg base k E) {i : Int} {ns : List Int} {Q : D → Prop} (q : Q (.bl (!decide (i ∈ ns)))) : opd X K (compareOp .NotIn) (.int i) (lI ns) Q := ⟨fun G H vx vy eG rx ry Qv kk => by
  rw [Rep.int_iff.mp rx]
  obtain ⟨a, rfl, ha⟩ := ry.intL
  exact ⟨rIn K true, fun i => by have := op_notIn_seq (X := X i); rw [O.K i] at this; exact this, a, _, rfl, .inl (SqL.of (eG _ _ ha)), rfl, flat_ints ns, by rw [inV_ints]; exact kk _ _ G H q (Stp.refl eG) (Sca.bl _).rep⟩⟩
/-! ### methods of texts and lists -/
variable (X K) in
def WM (id : String) : V → List V → Hp → VK → Prop := fun x vs H Q => ∃ r, (∀ i, MtR (X i) id r) ∧ r x vs H Q
theorem wm_ok {id : String} (i : ι) : MtR (X i) id (WM X id) := fun pins s σ H x vs v us Q I rx rs ⟨r, h, q⟩ => h i pins s σ H x vs v us Q I rx rs q
variable (X K) in
structure mtd (id : String) (x : D) (ds : List D) (Q : D → Prop) : Prop where
  run : ∀ (G H : Hp) (vx : V) (vs : List V), Ex G H → Rep K G x vx → Reps K G ds vs → ∀ Qv : VK, (∀ d v G' H', Q d → Stp G H G' H' → Rep K G' d v → Qv v H') → WM X id vx vs H Qv
/-- is of the built-in type T -/
inductive TyD : String → D → Prop
  | str (x : Str) : TyD "str" (.str x)
  | lst (ds : List D) : TyD "list" (.lst ds)
theorem TyD.ty {T : String} {x : D} (h : TyD T x) {G H : Hp} {v : V} (e : Ex G H) (r : Rep K G x v) : tyV K T v H := by
  cases h with
  | str x => rw [Rep.str_iff.mp r]; rfl
  | lst ds =>
    obtain ⟨a, vs, rfl, h1, _⟩ := Rep.lst_iff.mp r
    exact .inl ⟨rfl, vs, SqL.of (e _ _ h1)⟩
theorem ev_bm {T id : String} {o e : Expr} {es : List Expr} {name : Str} {apos : Pos} {Q : D → Prop} (O : Ok X P w K mg base k E) (pa : PlainAttrs T) (slot : Slot T name id) (hty : typeOf (.builtin id) = pure (.type "method_descriptor"))
    (h : ev X K E o ρ (fun x => TyD T x ∧ evs X K E (e :: es) ρ (fun ds => mtd X K id x ds Q) R) R)
    (hbase : ∀ i, attributeBase o name (X i).env (eval o (X i).env) = eval o (X i).env := by intro _; rfl)
    (hfew : ∀ i, ((backTo pos (starEach (e :: es) (X i).env)).all (fun x => !x.1) && (backToKw pos (keywordEach [] (X i).env)).all (fun x => x.1.isSome)
      && decide ((e :: es).length + ([] : List Keyword).length + (if ([] : List Keyword).isEmpty then 0 else 1) < 30)) = true := by intro _; rfl)
    (hline : (apos.endLine == pos.line) = true := by rfl) (hs : ∀ i, starEach (e :: es) (X i).env = (false, eval e (X i).env) :: starEach es (X i).env := by intro _; rfl) (hplain : ∀ i, (backTo pos (starEach es (X i).env)).any (·.1) = false := by intro _; rfl) :
    ev X K E (.Call (.Attribute o name apos) (e :: es) [] pos) ρ Q R := ⟨fun B G H σ eB eG c w Qv kk =>
  ⟨tBM K T (WM X id) (WE X o) (WA X (e :: es)), fun i => by
    have z := pe_bm (X := X i) pa slot hty (wm_ok i) (we_ok i) (wa_ok i) (hbase i) (hfew i) hline (hs i) (hplain i)
    rw [O.K i] at z
    exact z, h.run B G H σ eB eG c w _ fun x v G1 H1 ⟨ty, h2⟩ s1 r1 => ⟨ty.ty s1.i r1, h2.run B G1 H1 σ (eB.trans s1.h) s1.i (c.mono s1) w _ fun ds vs G2 H2 h3 s2 r2 =>
      h3.run G2 H2 v vs s2.i (r1.mono s2.g) r2 Qv fun d u G3 H3 q s3 r3 => kk d u G3 H3 q ((s1.trans s2).trans s3) r3⟩⟩⟩
theorem mt_sca {id : String} {x : D} {ds : List D} {u : V} {us : List V} {z : D} {y : V} {Q : D → Prop} {r : V → List V → Hp → VK → Prop} (hx : Sca x u) (hs : Paired Sca ds us) (hz : Sca z y) (h : ∀ i, MtR (X i) id r) (hr : ∀ (H : Hp) (Qv : VK), Qv y H → r u us H Qv) (q : Q z) : mtd X K id x ds Q := ⟨fun G H vx vs eG rx rs Qv kk => by
  rw [hx.of rx, Reps.scas hs rs]
  exact ⟨r, h, hr H Qv (kk z y G H q (Stp.refl eG) hz.rep)⟩⟩
theorem m_count {a b : Str} {Q : D → Prop} (q : Q (.int (Txt.count a b))) : mtd X K "str.count" (.str a) [.str b] Q := mt_sca (.str _) (.cons (.str _) .nil) (.int _) (fun _ => mt_count) (fun H Qv z => ⟨a, b, rfl, rfl, z⟩) q
theorem m_join (O : Ok X P w K mg base k E) {a : Str} {ys : List Str} {Q : D → Prop} (hl : (ys.map (·.length)).sum + ys.length * a.length ≤ 16777216) (q : Q (.str (Txt.join a ys))) : mtd X K "str.join" (.str a) [.lst (ys.map .str)] Q := ⟨fun G H vx vs eG rx rs Qv kk => by
  rw [Rep.str_iff.mp rx]
  obtain ⟨v, rfl, rv⟩ := rs.one
  obtain ⟨p, us, rfl, hp, hr⟩ := Rep.lst_iff.mp rv
  have e : us = ys.map V.str := Reps.scas (sca_map _ _ (fun z => Sca.str z) ys) hr
  subst e
  exact ⟨fun x xs H Q => ∃ a p, ∃ ys : List Str, x = .str a ∧ xs = [.ref p] ∧ (SqL K H p (ys.map V.str) ∨ SqT K H p (ys.map V.str)) ∧ (ys.map (·.length)).sum + ys.length * a.length ≤ 16777216 ∧ Q (.str (Txt.join a ys)) H, fun i => by have := mt_join (X := X i); rw [O.K i] at this; exact this, a, p, ys, rfl, rfl, .inl (SqL.of (eG _ _ hp)), hl, kk _ _ G H q (Stp.refl eG) (Sca.str _).rep⟩⟩
theorem m_indexI (O : Ok X P w K mg base k E) {ns : List Int} {i : Int} {j : Nat} {Q : D → Prop} (hj : ns[j]? = some i) (hno : ∀ (m : Nat) z, m < j → ns[m]? = some z → z ≠ i) (q : Q (.int j)) : mtd X K "list.index" (lI ns) [.int i] Q := ⟨fun G H vx vs eG rx rs Qv kk => by
  obtain ⟨a, rfl, ha⟩ := rx.intL
  obtain ⟨v, rfl, rv⟩ := rs.one
  rw [Rep.int_iff.mp rv]
  refine ⟨rIndex K, fun i => by have := mt_index (X := X i); rw [O.K i] at this; exact this, a, _, _, j, .int i, rfl, rfl, SqL.of (eG _ _ ha), rfl, flat_ints ns, by rw [List.getElem?_map, hj]; rfl, by simp [eqV], fun m z' hm hz => ?_, kk _ _ G H q (Stp.refl eG) (Sca.int _).rep⟩
  rw [List.getElem?_map] at hz
  cases e : ns[m]? with
  | none => rw [e] at hz; cases hz
  | some z =>
    rw [e] at hz
    cases hz
    have := hno m z hm e
    simp [eqV, this]⟩
/-- items that are data of any depth -/
theorem m_indexD (O : Ok X P w K mg base k E) {ds : List D} {d z : D} {j n m : Nat} {Q : D → Prop} (lx : Lay (.lst ds) n) (ly : Lay d m) (hj : ds[j]? = some z) (he : PyData.eqv (pd z) (pd d) = true) (hno : ∀ (i : Nat) y, i < j → ds[i]? = some y → PyData.eqv (pd y) (pd d) = false) (q : Q (.int j)) (hn : n ≤ 64 := by decide) (hm : m ≤ 64 := by decide) :
    mtd X K "list.index" (.lst ds) [d] Q := ⟨fun G H vx vs eG rx rs Qv kk => by
  obtain ⟨v, rfl, rv⟩ := rs.one
  have dx := (Rep.mono eG _ rx).dp _ lx.p
  have dy := (Rep.mono eG _ rv).dp _ ly.p
  obtain ⟨a, us, rfl, ha, hr⟩ := Rep.lst_iff.mp rx
  refine ⟨rIndexD K, fun i => by have := mt_indexD (X := X i) (O.un' i); rw [O.K i] at this; exact this, a, v, pd d, pds ds, j, pd z, rfl, rfl, by simpa only [pd] using dx, dy, by have := lx.sh hn; simpa only [pd] using this, ly.sh hm, by rw [pds_map, List.getElem?_map, hj]; rfl, he, fun i y hi hy => ?_, kk _ _ G H q (Stp.refl eG) (Sca.int _).rep⟩
  rw [pds_map, List.getElem?_map] at hy
  cases e : ds[i]? with
  | none => rw [e] at hy; cases hy
  | some y' =>
    rw [e] at hy
    cases hy
    exact hno i y' hi e⟩
/-! ### isinstance -/
/-- the type of scalars -/
def tyS : D → String
  | .non => "NoneType"
  | .bl _ => "bool"
  | .int _ => "int"
  | _ => "str"
theorem Sca.tyx {d : D} {v : V} (h : Sca d v) {H : Hp} : TyX K H v (.type (tyS d)) := by
  cases h
  · exact .base .non
  · exact .base (.bl _)
  · exact .base (.int _)
  · exact .base (.str _)
theorem ev_isi {e : Expr} {T : Str} {T' : String} {p p2 : Pos} {Q : D → Prop} (O : Ok X P w K mg base k E) (hm : mg "isinstance" = none) (hT : mg T = none) (h : ev X K E e ρ (fun d => ∃ v b, Sca d v ∧ PySem.W.kitOne K (.type (tyS d)) (.type T') = some b ∧ Q (.bl b)) R)
    (hvT : bootBuiltins T = some (.type T') := by decide +kernel) (hgT : ∀ i, Gl (X i) T := by intro _; rfl) (hnT : T ≠ "__name__" := by decide) (hdT : (T == ("__debug__" : Str)) = false := by decide)
    (hg : ∀ i, Gl (X i) "isinstance" := by intro _; rfl) (hs : ∀ i, starEach [e, .Name T p2] (X i).env = (false, eval e (X i).env) :: starEach [.Name T p2] (X i).env := by intro _; rfl) (hs2 : ∀ i, starEach [.Name T p2] (X i).env = (false, eval (.Name T p2) (X i).env) :: starEach [] (X i).env := by intro _; rfl) (hpl : ∀ i, (backTo pos (starEach [.Name T p2] (X i).env)).any (·.1) = false := by intro _; rfl) :
    ev X K E (.Call (.Name "isinstance" p) [e, .Name T p2] [] pos) ρ Q R := ⟨fun B G H σ eB eG c w Qv kk =>
  ⟨tCB (rIsi K) (tCons (WE X e) (tCons (tC (.ty T')) tNil)), fun i => by
    have z := pe_callB (X := X i) (p := p) (pos := pos) (call_isi (X := X i)) (hg i) (by rw [O.mg i]; exact hm) (by decide +kernel) (pa_cons (we_ok (e := e) i) (pa_cons (pe_bltn (pos := p2) (v := .ty T') (hgT i) (by rw [O.mg i]; exact hT) hvT rfl hnT hdT) pa_nil (hs2 i)) (hs i)) (by decide) (by decide) (hs i) (hpl i)
    rw [O.K i] at z
    exact z, h.run B G H σ eB eG c w _ fun d v G1 H1 ⟨v', b, sc, hk, q⟩ s1 r1 => by
      rw [sc.of r1]
      exact ⟨v', .ty T', .type (tyS d), .type T', b, rfl, .ty T', sc.tyx, hk, kk _ _ G1 H1 q s1 (Sca.bl _).rep⟩⟩⟩
theorem kit_ii : PySem.W.kitOne K (.type "int") (.type "int") = some true := by kernel_rfl
theorem kit_ib : PySem.W.kitOne K (.type "int") (.type "bool") = some false := by kernel_rfl
theorem kit_ss : PySem.W.kitOne K (.type "str") (.type "str") = some true := by kernel_rfl
end
end DL
namespace DL
open PySem PySem.Spec PyProof.Rows L2
/-! ### the two classes -/
def flG : List Str := ["side", "many", "won", "hands"]
def flO : List Str := ["mine", "theirs", "my_left", "their_left"]
structure ObK (K : PySem.W.Frag) : Prop where
  clG : Cls K (CG K)
  clO : Cls K (CO K)
  naG : ∀ f ∈ flG, NoAttr K (CG K) f
  naO : ∀ f ∈ flO, NoAttr K (CO K) f
inductive ObD (K : PySem.W.Frag) : D → Addr → List Str → Prop
  | gd (g : GS) : ObD K (.gd g) (CG K) flG
  | oh (g : GS) : ObD K (.oh g) (CO K) flO
theorem keys_none {α : Type} : ∀ (l : List (Str × α)) (m : Str), m ∉ l.map (·.1) → l.lookup m = none
  | [], _, _ => rfl
  | (x, v) :: l, m, h => by
    rw [List.map_cons, List.mem_cons, not_or] at h
    unfold List.lookup
    have : (m == x) = false := by simpa using h.1
    rw [this]
    exact keys_none l m h.2
theorem ObD.at_ {K : PySem.W.Frag} {d : D} {C : Addr} {fl : List Str} (o : ObD K d C fl) {G : Hp} {v : V} (r : Rep K G d v) : ∃ a dx fs, v = .ref a ∧ G a = some (.ins C dx fs) ∧ fs.map (·.1) = fl := by
  cases o with
  | gd g =>
    obtain ⟨a, rfl, h⟩ := Rep.gd_iff.mp r
    obtain ⟨dx, b, h0, _⟩ := h.at_
    exact ⟨a, dx, _, rfl, h0, rfl⟩
  | oh g =>
    obtain ⟨a, rfl, h⟩ := Rep.oh_iff.mp r
    obtain ⟨dx, a1, a2, a3, a4, h0, _⟩ := h.at_
    exact ⟨a, dx, _, rfl, h0, rfl⟩
/-- a field -/
inductive FlD : D → Str → D → Prop
  | side (g : GS) : FlD (.gd g) "side" (.str g.side)
  | many (g : GS) : FlD (.gd g) "many" (.str g.many)
  | won (g : GS) : FlD (.gd g) "won" (.int g.won)
  | hands (g : GS) : FlD (.gd g) "hands" (.oh g)
  | mine (g : GS) : FlD (.oh g) "mine" (lI g.mine)
  | theirs (g : GS) : FlD (.oh g) "theirs" (lI g.theirs)
  | ml (g : GS) : FlD (.oh g) "my_left" (lN g.ml)
  | tl (g : GS) : FlD (.oh g) "their_left" (lN g.tl)
theorem natR {K : PySem.W.Frag} {G : Hp} (ns : List Nat) : Reps K G (ns.map fun (n : Nat) => D.int n) (ns.map fun (n : Nat) => V.int n) := Reps.of_scas (sca_map (fun (n : Nat) => D.int n) (fun (n : Nat) => V.int n) (fun n => Sca.int n) ns)
theorem FlD.at_ {K : PySem.W.Frag} {d e : D} {f : Str} (T : ObK K) (x : FlD d f e) {G : Hp} {v : V} (r : Rep K G d v) : ∃ a C dx fs u, v = .ref a ∧ G a = some (.ins C dx fs) ∧ Cls K C ∧ NoAttr K C f ∧ fs.lookup f = some u ∧ Rep K G e u := by
  cases x with
  | side g =>
    obtain ⟨a, rfl, h⟩ := Rep.gd_iff.mp r
    obtain ⟨dx, b, h0, _⟩ := h.at_
    exact ⟨a, _, dx, _, _, rfl, h0, T.clG, T.naG _ (by simp [flG]), rfl, (Sca.str _).rep⟩
  | many g =>
    obtain ⟨a, rfl, h⟩ := Rep.gd_iff.mp r
    obtain ⟨dx, b, h0, _⟩ := h.at_
    exact ⟨a, _, dx, _, _, rfl, h0, T.clG, T.naG _ (by simp [flG]), rfl, (Sca.str _).rep⟩
  | won g =>
    obtain ⟨a, rfl, h⟩ := Rep.gd_iff.mp r
    obtain ⟨dx, b, h0, _⟩ := h.at_
    exact ⟨a, _, dx, _, _, rfl, h0, T.clG, T.naG _ (by simp [flG]), rfl, (Sca.int _).rep⟩
  | hands g =>
    obtain ⟨a, rfl, h⟩ := Rep.gd_iff.mp r
    obtain ⟨dx, b, h0, h1⟩ := h.at_
    exact ⟨a, _, dx, _, _, rfl, h0, T.clG, T.naG _ (by simp [flG]), rfl, Rep.oh_iff.mpr ⟨b, rfl, h1⟩⟩
  | mine g =>
    obtain ⟨a, rfl, h⟩ := Rep.oh_iff.mp r
    obtain ⟨dx, a1, a2, a3, a4, h0, h1, h2, h3, h4⟩ := h.at_
    exact ⟨a, _, dx, _, _, rfl, h0, T.clO, T.naO _ (by simp [flO]), rfl, Rep.lst_iff.mpr ⟨a1, _, rfl, h1, Reps.of_ints _⟩⟩
  | theirs g =>
    obtain ⟨a, rfl, h⟩ := Rep.oh_iff.mp r
    obtain ⟨dx, a1, a2, a3, a4, h0, h1, h2, h3, h4⟩ := h.at_
    exact ⟨a, _, dx, _, _, rfl, h0, T.clO, T.naO _ (by simp [flO]), rfl, Rep.lst_iff.mpr ⟨a2, _, rfl, h2, Reps.of_ints _⟩⟩
  | ml g =>
    obtain ⟨a, rfl, h⟩ := Rep.oh_iff.mp r
    obtain ⟨dx, a1, a2, a3, a4, h0, h1, h2, h3, h4⟩ := h.at_
    exact ⟨a, _, dx, _, _, rfl, h0, T.clO, T.naO _ (by simp [flO]), rfl, Rep.lst_iff.mpr ⟨a3, _, rfl, h3, natR _⟩⟩
  | tl g =>
    obtain ⟨a, rfl, h⟩ := Rep.oh_iff.mp r
    obtain ⟨dx, a1, a2, a3, a4, h0, h1, h2, h3, h4⟩ := h.at_
    exact ⟨a, _, dx, _, _, rfl, h0, T.clO, T.naO _ (by simp [flO]), rfl, Rep.lst_iff.mpr ⟨a4, _, rfl, h4, natR _⟩⟩
section
variable {ι : Type} {X : ι → Cx} {P : Program} {w : World} {K : PySem.W.Frag} {mg : Str → Option Value} {base : Heap} {k : Nat} {E : XK} {ρ : Rho} {R : Er → Prop} {pos : Pos}
theorem ev_fld {e : Expr} {f : Str} {Q : D → Prop} (O : Ok X P w K mg base k E) (T : ObK K) (h : ev X K E e ρ (fun d => ∃ d', FlD d f d' ∧ Q d') R) (hb : ∀ i, attributeBase e f (X i).env (eval e (X i).env) = eval e (X i).env := by intro _; rfl) : ev X K E (.Attribute e f pos) ρ Q R := ⟨fun B G H σ eB eG c w Qv kk =>
  ⟨tFld K (WE X e) f, fun i => by have z := pe_fld (X := X i) (pos := pos) (we_ok (e := e) i) (hb i); rw [O.K i] at z; exact z, h.run B G H σ eB eG c w _ fun d v G1 H1 ⟨d', fl, q⟩ s1 r1 => by
    obtain ⟨a, C, dx, fs, u, rfl, h0, cl, na, hl, hr⟩ := fl.at_ T r1
    exact ⟨a, C, dx, fs, u, rfl, s1.i _ _ h0, cl, na, hl, kk d' u G1 H1 q s1 hr⟩⟩⟩
/-- a method of one of the classes -/
structure MeK (P : Program) (w : World) (K : PySem.W.Frag) (mg : Str → Option Value) (base : Heap) (C : Addr) (m : Str) (k : Nat) (wp : WPr) : Prop where
  ex : ∃ f fd ps, FnOk P w K mg base (L2N.CX P w) k f fd ps (spD K wp) ∧ Meth K C m f ∧ Binds K fd ps []
  cl : Cls K C
theorem ev_meth0 {o : Expr} {m : Str} {km : Nat} {C : Addr} {fl : List Str} {wp : WPr} {apos : Pos} {Q : D → Prop} (O : Ok X P w K mg base k E) (M : MeK P w K mg base C m km wp) (hk : km ≤ k) (h : ev X K E o ρ (fun x => ObD K x C fl ∧ wp [x] Q R) R) (hno : m ∉ fl)
    (ht : ∀ i, ∃ pl : Sem Bool, eval (.Call (.Attribute o m apos) [] [] pos) (X i).env = (do
      let ov ← eval o (X i).env
      standAt apos.atName
      let (f, first) ← holding [ov] (getMethod ov m pl)
      callWith pos f first (backTo pos (starEach [] (X i).env)) (backToKw pos (keywordEach [] (X i).env))) := by intro _; exact ⟨_, rfl⟩) :
    ev X K E (.Call (.Attribute o m apos) [] [] pos) ρ Q R := ⟨fun B G H σ eB eG c w Qv kk => by
  obtain ⟨f, fd, ps, F, hm, hb⟩ := M.ex
  refine ⟨tMeth C m (spD K wp) [] E (WE X o) tNil, fun i => ?_, ?_⟩
  · have F' : FnOk (X i).prog (X i).w (X i).K (X i).mg (X i).base (L2N.CX (X i).prog (X i).w) km f fd ps (spD K wp) := by rw [O.p i, O.w i, O.K i, O.mg i, O.base i]; exact F
    obtain ⟨pl, hpl⟩ := ht i
    exact pe_meth0 (we_ok i) (by rw [O.K i]; exact M.cl) (by rw [O.K i]; exact hm) F' ((O.room i).mono hk) (by rw [O.K i]; exact hb) .nil (O.pass i) hpl
  · refine h.run B G H σ eB eG c w _ fun x v G1 H1 ⟨ob, hw⟩ s1 r1 => ?_
    obtain ⟨a, dx, fs, rfl, h0, hf⟩ := ob.at_ r1
    refine ⟨a, dx, fs, rfl, s1.i _ _ h0, keys_none fs m (by rw [hf]; exact hno), ?_⟩
    exact ⟨G1, [x], Q, R, s1.i, Reps.cons r1 Reps.nil, hw, w.mono (eB.trans s1.h), fun d v G2 H2 q s2 r2 => kk d v G2 H2 q (s1.trans s2) r2⟩⟩
theorem ev_meth {o e : Expr} {es : List Expr} {m : Str} {km : Nat} {C : Addr} {fl : List Str} {wp : WPr} {apos : Pos} {Q : D → Prop} (O : Ok X P w K mg base k E) (M : MeK P w K mg base C m km wp) (hk : km ≤ k) (h : ev X K E o ρ (fun x => ObD K x C fl ∧ evs X K E (e :: es) ρ (fun ds => wp (x :: ds) Q R) R) R) (hno : m ∉ fl)
    (hst : ∀ i, starEach (e :: es) (X i).env = (false, eval e (X i).env) :: starEach es (X i).env := by intro _; rfl) (hpl : ∀ i, (backTo pos (starEach es (X i).env)).any (·.1) = false := by intro _; rfl)
    (ht : ∀ i, ∃ pl : Sem Bool, eval (.Call (.Attribute o m apos) (e :: es) [] pos) (X i).env = (do
      let ov ← eval o (X i).env
      standAt apos.atName
      let (f, first) ← holding [ov] (getMethod ov m pl)
      callWith pos f first (backTo pos (starEach (e :: es) (X i).env)) (backToKw pos (keywordEach [] (X i).env))) := by intro _; exact ⟨_, rfl⟩) :
    ev X K E (.Call (.Attribute o m apos) (e :: es) [] pos) ρ Q R := ⟨fun B G H σ eB eG c w Qv kk => by
  obtain ⟨f, fd, ps, F, hm, hb⟩ := M.ex
  refine ⟨tMeth C m (spD K wp) [] E (WE X o) (WA X (e :: es)), fun i => ?_, ?_⟩
  · have F' : FnOk (X i).prog (X i).w (X i).K (X i).mg (X i).base (L2N.CX (X i).prog (X i).w) km f fd ps (spD K wp) := by rw [O.p i, O.w i, O.K i, O.mg i, O.base i]; exact F
    obtain ⟨pl, h1⟩ := ht i
    exact pe_meth (we_ok i) (by rw [O.K i]; exact M.cl) (by rw [O.K i]; exact hm) F' ((O.room i).mono hk) (by rw [O.K i]; exact hb) .nil (O.pass i) (wa_ok i) (hst i) (hpl i) h1
  · refine h.run B G H σ eB eG c w _ fun x v G1 H1 ⟨ob, hw⟩ s1 r1 => ?_
    obtain ⟨a, dx, fs, rfl, h0, hf⟩ := ob.at_ r1
    refine ⟨a, dx, fs, rfl, s1.i _ _ h0, keys_none fs m (by rw [hf]; exact hno), ?_⟩
    refine hw.run B G1 H1 σ (eB.trans s1.h) s1.i (c.mono s1) w _ fun ds vs G2 H2 hw2 s2 r2 => ?_
    rw [List.append_nil]
    have s3 := s1.trans s2
    exact ⟨G2, x :: ds, Q, R, s2.i, Reps.cons (r1.mono s2.g) r2, hw2, w.mono (eB.trans s3.h), fun d v G4 H4 q s4 r4 => kk d v G4 H4 q (s3.trans s4) r4⟩⟩
/-! ### defaults, keywords -/
structure KnD (P : Program) (w : World) (K : PySem.W.Frag) (mg : Str → Option Value) (base : Heap) (x : Str) (k : Nat) (dd : List D) (wp : WPr) : Prop where
  ex : ∃ f fd ps us ds, FnOk P w K mg base (L2N.CX P w) k f fd ps (spD K wp) ∧ mg x = some (.ref f) ∧ PySem.W.keepIn K (.ref f) = true ∧ Binds K fd ps ds ∧ Vals us ds ∧ Paired Sca dd us
theorem Reps.sapp {K : PySem.W.Frag} {G : Hp} {ds dd : List D} {vs us : List V} (r : Reps K G ds vs) (s : Paired Sca dd us) : Reps K G (ds ++ dd) (vs ++ us) := r.app (Reps.of_scas s)
theorem ev_callD {x : Str} {kx : Nat} {wp : WPr} {dd : List D} {e : Expr} {es : List Expr} {p : Pos} {Q : D → Prop} (O : Ok X P w K mg base k E) (F : KnD P w K mg base x kx dd wp) (hk : kx ≤ k) (h : evs X K E (e :: es) ρ (fun ds => wp (ds ++ dd) Q R) R)
    (hg : ∀ i, Gl (X i) x := by intro _; rfl) (hdb : (x == ("__debug__" : Str)) = false := by decide)
    (he : ∀ i, starEach (e :: es) (X i).env = (false, eval e (X i).env) :: starEach es (X i).env := by intro _; rfl) (hpl : ∀ i, (backTo pos (starEach es (X i).env)).any (·.1) = false := by intro _; rfl) : ev X K E (.Call (.Name x p) (e :: es) [] pos) ρ Q R := ⟨fun B G H σ eB eG c w Qv kk => by
  obtain ⟨f, fd, ps, us, ds, F, hm, hkp, hb, hv, sc⟩ := F.ex
  refine ⟨tCall (spD K wp) us E (WA X (e :: es)), fun i => ?_, ?_⟩
  · have F' : FnOk (X i).prog (X i).w (X i).K (X i).mg (X i).base (L2N.CX (X i).prog (X i).w) kx f fd ps (spD K wp) := by rw [O.p i, O.w i, O.K i, O.mg i, O.base i]; exact F
    exact pe_call F' ((O.room i).mono hk) (hg i) (by rw [O.mg i]; exact hm) (by rw [O.K i]; exact hkp) (by rw [O.K i]; exact hb) hv (O.pass i) (wa_ok i) hdb (he i) (hpl i)
  · refine h.run B G H σ eB eG c w _ fun ds vs G1 H1 hw s1 r1 => ?_
    exact ⟨G1, _, Q, R, s1.i, r1.sapp sc, hw, w.mono (eB.trans s1.h), fun d v G2 H2 q s2 r2 => kk d v G2 H2 q (s1.trans s2) r2⟩⟩
structure KnK (P : Program) (w : World) (K : PySem.W.Frag) (mg : Str → Option Value) (base : Heap) (x : Str) (k n : Nat) (kw : Str) (wp : WPr) : Prop where
  ex : ∃ f fd ps g gV, FnOk P w K mg base (L2N.CX P w) k f fd ps (spD K wp) ∧ mg x = some (.ref f) ∧ PySem.W.keepIn K (.ref f) = true ∧ KBn K fd ps n [kw] g gV ∧ ∀ vs zs : List V, vs.length = n → zs.length = 1 → gV vs zs = vs ++ zs
theorem ev_callK {x kw : Str} {kx n : Nat} {wp : WPr} {e e' : Expr} {es : List Expr} {p kpos : Pos} {Q : D → Prop} (O : Ok X P w K mg base k E) (F : KnK P w K mg base x kx n kw wp) (hk : kx ≤ k) (h : evs X K E (e :: es) ρ (fun ds => ev X K E e' ρ (fun d => ds.length = n ∧ wp (ds ++ [d]) Q R) R) R)
    (hg : ∀ i, Gl (X i) x := by intro _; rfl) (hdb : (x == ("__debug__" : Str)) = false := by decide) (hall : ∀ i, (backToKw pos (keywordEach [⟨some kw, e', kpos⟩] (X i).env)).all (·.1.isSome) = true := by intro _; rfl) (hks : ∀ i, (backToKw pos (keywordEach [⟨some kw, e', kpos⟩] (X i).env)).filterMap (·.1) = [kw] := by intro _; rfl)
    (he : ∀ i, starEach (e :: es) (X i).env = (false, eval e (X i).env) :: starEach es (X i).env := by intro _; rfl)
    (hpl : ∀ i, ((backTo pos (starEach (e :: es) (X i).env)).any (·.1) || (backToKw pos (keywordEach [⟨some kw, e', kpos⟩] (X i).env)).any (·.1.isNone)) = false := by intro _; rfl) :
    ev X K E (.Call (.Name x p) (e :: es) [⟨some kw, e', kpos⟩] pos) ρ Q R := ⟨fun B G H σ eB eG c w Qv kk => by
  obtain ⟨f, fd, ps, g, gV, F, hm, hkp, hb, hgv⟩ := F.ex
  refine ⟨tCallN n 1 (spD K wp) gV E (WA X (e :: es)) (tCons (WE X e') tNil), fun i => ?_, ?_⟩
  · have F' : FnOk (X i).prog (X i).w (X i).K (X i).mg (X i).base (L2N.CX (X i).prog (X i).w) kx f fd ps (spD K wp) := by rw [O.p i, O.w i, O.K i, O.mg i, O.base i]; exact F
    exact pe_callN F' ((O.room i).mono hk) (hg i) (by rw [O.mg i]; exact hm) (by rw [O.K i]; exact hkp) (by rw [O.K i]; exact hb) (O.pass i) (wa_ok i) (pk_cons (we_ok i) pk_nil) (hall i) (hks i) hdb (he i) (hpl i)
  · refine h.run B G H σ eB eG c w _ fun ds vs G1 H1 h2 s1 r1 => ?_
    refine h2.run B G1 H1 σ (eB.trans s1.h) s1.i (c.mono s1) w _ fun d v G2 H2 ⟨hn, hw⟩ s2 r2 => ⟨by rw [r1.len]; exact hn, rfl, ?_⟩
    rw [hgv vs [v] (by rw [r1.len]; exact hn) rfl]
    have s3 := s1.trans s2
    exact ⟨G2, _, Q, R, s2.i, (r1.mono s2.g).app (Reps.cons r2 Reps.nil), hw, w.mono (eB.trans s3.h), fun d v G4 H4 q s4 r4 => kk d v G4 H4 q (s3.trans s4) r4⟩⟩
/-! ### raise -/
theorem s_raise {nm : Str} {fs : List Str} {a : Expr} {es : List Expr} {p pos2 : Pos} {D : DE} (O : Ok X P w K mg base k E) (tk : ∀ i, L2N.Takes (X i) fun cls d _ H => E cls d H) (T : XC.InitOk P K mg (He.ga K nm) fs) (gC : mg nm = some (.ref (He.ga K nm))) (hk : 1 ≤ k)
    (h : evs X K E (a :: es) ρ (fun ds => ∃ us, Paired Sca ds us ∧ us.length = fs.length ∧ R ⟨nm, XC.xset fs us⟩) R) (hf : fs.length ≤ 10 := by decide) (hg : ∀ i, Gl (X i) nm := by intro _; rfl) (hd : (nm == ("__debug__" : Str)) = false := by decide)
    (he : ∀ i, starEach (a :: es) (X i).env = (false, eval a (X i).env) :: starEach es (X i).env := by intro _; rfl) (hpl : ∀ i, (backTo pos (starEach es (X i).env)).any (·.1) = false := by intro _; rfl) :
    st1 X K E (.Raise (some (.Call (.Name nm p) (a :: es) [] pos)) none pos2) ρ D R := ⟨fun G0 B G H σ Dv s c w m =>
  ⟨_, fun i => L2N.ps_raise (O.calm i) (tk i) (XC.pmk_made (k := 0) (by rw [O.p i, O.K i, O.mg i]; exact T) (by rw [O.mg i]; exact gC) hf ((O.room i).mono hk) (wa_ok i) (hg i) hd (he i) (hpl i)),
    h.run B G H σ s.h s.i c w _ fun ds vs G1 H1 ⟨us, sc, hl, r⟩ s1 r1 => by
      rw [Reps.scas sc r1]
      exact ⟨hl, fun d hd => w _ _ _ _ r ((s.h.trans s1.h).trans (Ex.upd hd)) ⟨rfl, .inr ⟨d, rfl, upd_same⟩⟩⟩⟩⟩
theorem s_raise0 {nm : Str} {C : Addr} {bmB : List Value} {B0 newId initId : String} {p pos2 : Pos} {D : DE} (O : Ok X P w K mg base k E) (tk : ∀ i, L2N.Takes (X i) fun cls d _ H => E cls d H) (F : ExcBaseFacts B0 newId initId bmB) (q : PySem.W.excIn K (He.ga K nm) bmB newId = true) (gC : mg nm = some (.ref (He.ga K nm)))
    (kC : PySem.W.keepIn K (.ref (He.ga K nm)) = true) (e1 : PySem.W.subIn K (.ref (He.ga K nm)) (.type "BaseException") = some true) (e2 : PySem.W.typeIn K (.ref (He.ga K nm)) = some (.type "type")) (h : R ⟨nm, []⟩) (hg : ∀ i, Gl (X i) nm := by intro _; rfl) (hd : (nm == ("__debug__" : Str)) = false := by decide) :
    st1 X K E (.Raise (some (.Call (.Name nm p) [] [] pos)) none pos2) ρ D R := ⟨fun G0 B G H σ Dv s c w m =>
  ⟨_, fun i => L2N.ps_raise (O.calm i) (tk i) (XC.pmk_bare F (by rw [O.K i]; exact q) (by rw [O.mg i]; exact gC) (by rw [O.K i]; exact kC) (raises_own (by rw [O.K i]; exact e1) (by rw [O.K i]; exact e2)) (hg i) hd),
    w _ _ _ _ h s.h ⟨rfl, .inl ⟨rfl, rfl⟩⟩⟩⟩
/-! ### for over enumerate -/
theorem s_forE {elts : List Expr} {x1 : Nat} {e : Expr} {body : List Stmt} {js : List Nat} {D : DE} {p p2 tpos : Pos} (O : Ok X P w K mg base k E) (hp : ∀ i, PassesOwn (model (X i).prog (X i).w) (X i).A (X i).env (X i).xe) (hm : mg "enumerate" = none)
    (h : ev X K E e ρ (fun d => ∃ ds, d = .lst ds ∧ ∃ I : Nat → Rho → Prop, I 0 ρ ∧
      (∀ (n : Nat) x ρ', ds[n]? = some x → I n ρ' → tgd X K (.Tuple elts x1 tpos) js (.tup [.int n, x]) ρ' (fun ρ2 => stm X K E body ρ2 { D with nx := I (n + 1), ct := I (n + 1), bk := D.nx } R)) ∧ ∀ ρ', I ds.length ρ' → D.nx ρ') R)
    (hg : ∀ i, Gl (X i) "enumerate" := by intro _; rfl) (hst : ∀ i, starEach [e] (X i).env = [(false, eval e (X i).env)] := by intro _; rfl) (hst2 : ∀ i, starEach [e] (X i).env = (false, eval e (X i).env) :: starEach [] (X i).env := by intro _; rfl)
    (hs : ∀ i x, foldedSetIterable (.Call (.Name "enumerate" p) [e] [] p2) (X i).env x = pure x := by intro _ _; rfl) : st1 X K E (.For (.Tuple elts x1 tpos) (.Call (.Name "enumerate" p) [e] [] p2) body [] pos) ρ D R := ⟨fun G0 B G H σ Dv s c w m =>
  ⟨tFor (iEnum K (tCons (WE X e) tNil)) (WG X (.Tuple elts x1 tpos)) (WB X body), fun i => by
    have z := ps_for (pos := pos) (hp i) (O.calm i) (pi_enum (X := X i) (elts := elts) (kk := x1) (tpos := tpos) (p := p) (pos := p2) (hg i) (by rw [O.mg i]; exact hm) (pa_cons (we_ok (e := e) i) pa_nil (hst2 i)) (hst i)) (wg_ok (e := .Tuple elts x1 tpos) i) (wb_ok (e := body) i) (hs i)
    rw [O.K i] at z
    exact z,
    h.run B G H σ s.h s.i c w _ fun d v G1 H1 ⟨ds, hd, I, i0, hstep, hend⟩ s1 r1 => by
      subst hd
      obtain ⟨a, vs, rfl, ha, ra⟩ := Rep.lst_iff.mp r1
      have s2 := s.trans s1
      have up : ∀ {G3 H3 : Hp}, Stp G1 B G3 H3 → Stp G0 B G3 H3 := fun t3 => ⟨s2.g.trans t3.g, t3.h, t3.i, fun a q => (t3.n a q).elim (s2.n a) .inr⟩
      have hsq : ∀ {G' H' : Hp}, Stp G1 B G' H' → SqL K H' a vs := fun t => SqL.of (t.i _ _ (t.g _ _ ha))
      refine ⟨a, vs, rfl, SqL.of (s1.i _ _ ha), fun i mm σ' H' => mm = vs.length - i ∧ i ≤ vs.length ∧ ∃ ρ' G', I i ρ' ∧ Stp G1 B G' H' ∧ EnvR K B G' H' σ' ρ', ⟨vs.length, by simp, Nat.zero_le _, ρ, G1, i0, ⟨Ex.refl _, s2.h, s1.i, fun a q => .inl q⟩, c.mono s1⟩, ?_⟩
      rintro i mm σ' H' ⟨rfl, hi, ρ', G', hI, t, c'⟩
      by_cases hlt : i < vs.length
      · refine .inr ⟨⟨vs, vs[i], hsq t, by simp [hlt]⟩, fun σ3 H3 => ∃ ρ3 G3, I (i + 1) ρ3 ∧ Stp G1 B G3 H3 ∧ EnvR K B G3 H3 σ3 ρ3, fun σ3 H3 q3 => ⟨vs.length - (i + 1), by omega, rfl, hlt, q3⟩, fun x H2 y => ?_⟩
        obtain ⟨T, x', rfl, hT, rfl, hx⟩ := y
        have hx' := hx vs (hsq t)
        have hn : i < ds.length := by rw [← ra.len]; exact hlt
        obtain ⟨u, hu, ru⟩ := ra.get (List.getElem?_eq_getElem hn)
        rw [hx'] at hu
        cases hu
        have sn := Stp.new (o := .tup [.int (i : Nat), x']) t.i hT
        have t' : Stp G1 B (upd G' T (.tup [.int (i : Nat), x'])) (upd H' T (.tup [.int (i : Nat), x'])) := t.trans sn
        have rp : Rep K (upd G' T (.tup [.int (i : Nat), x'])) (.tup [.int i, ds[i]]) (.ref T) := Rep.tup_iff.mpr ⟨T, _, rfl, SqT.of upd_same, Reps.cons (Sca.int _).rep (Reps.cons (ru.mono (t.g.trans sn.g)) Reps.nil)⟩
        refine (hstep i _ ρ' (List.getElem?_eq_getElem hn) hI).run B _ _ σ' _ t'.h t'.i (c'.mono sn) rp _ fun ρ2 σ2 q2 c2 _ => ?_
        exact q2.run G1 B _ _ σ2 _ t' c2 w ⟨fun ρ3 σ3 G3 H3 q3 t3 c3 => ⟨ρ3, G3, q3, t3, c3⟩, fun ρ3 σ3 G3 H3 q3 t3 c3 => m.nx ρ3 σ3 G3 H3 q3 (up t3) c3, fun ρ3 σ3 G3 H3 q3 t3 c3 => ⟨ρ3, G3, q3, t3, c3⟩,
          fun d v G3 H3 q3 t3 r3 => m.rt d v G3 H3 q3 (up t3) r3⟩
      · have e : i = vs.length := by omega
        subst e
        refine .inl ⟨⟨vs, hsq t, Nat.le_refl _⟩, ?_⟩
        rw [ra.len] at hI
        exact m.nx ρ' σ' G' H' (hend ρ' hI) (up t) c'⟩⟩
end
end DL
namespace DL
open PySem PySem.Spec PyProof.Rows L2
theorem blk_N {ι : Type} {X : ι → Cx} {scope : Scope} {N : List Str} (h : ∀ i, (X i).N = N) : ∀ i, (Blk X scope i).N = N := fun i => h i.1
def rlk (scope sc : Scope) : Scope := { scope with names := scope.names.map fun (n, k) => if (k == NameKind.free && sc.kind == .function && sc.names.lookup n == some .cell) then (n, NameKind.cell) else (n, k) }
theorem blk_S {ι : Type} {X : ι → Cx} {scope sc : Scope} (h : ∀ i, (X i).env.scope = sc) : ∀ i, (Blk X scope i).env.scope = rlk scope sc := fun i => by
  have e : (Blk X scope i).env.scope = relabel scope (X i.1).env := rfl
  rw [e, ← h i.1]
  rfl
def visB (sc : Scope) (x : Str) : Bool := decide (sc.names.lookup x = some .local) || decide (sc.names.lookup x = some .cell) || decide (sc.names.lookup x = some .free)
section
variable {ι : Type} {X : ι → Cx} {P : Program} {w : World} {K : PySem.W.Frag} {mg : Str → Option Value} {base : Heap} {k : Nat} {E : XK} {ρ : Rho} {R : Er → Prop} {pos : Pos}
theorem ev_nm {x : Str} {j : Nat} {d : D} {Q : D → Prop} {N : List Str} {sc : Scope} (h : ρ[j]? = some (.va d)) (q : Q d) (hN : ∀ i, (X i).N = N := by first | exact blk_N fun _ => rfl | exact fun _ => rfl) (hx : N[j]? = some x := by decide +kernel) (hS : ∀ i, (X i).env.scope = sc := by first | exact blk_S fun _ => rfl | exact fun _ => rfl)
    (hv : visB sc x = true := by decide +kernel) (hd : (x == ("__debug__" : Str) || x == ("__classdict__" : Str)) = false := by decide +kernel) : ev X K E (.Name x pos) ρ Q R := by
  have hd' := Bool.or_eq_false_iff.mp hd
  refine ev_name h q (fun i => by rw [hN i]; exact hx) (fun i => ?_) hd'.1 hd'.2
  rw [hS i]
  unfold visB at hv
  simp only [Bool.or_eq_true, decide_eq_true_eq] at hv
  rcases hv with (h | h) | h
  · exact .inl h
  · first | exact .inr (.inl h) | exact .inr (.inr h)
  · first | exact .inr (.inr h) | exact .inr (.inl h)
/-! ### operations under their names -/
variable (X K) in
structure opc (op : CmpOp) (x y : D) (Q : D → Prop) : Prop where
  run : opd X K (compareOp op) x y Q
variable (X K) in
structure opb (op : Operator) (x y : D) (Q : D → Prop) : Prop where
  run : opd X K (binaryOp op) x y Q
theorem ec_cmp {a b : Expr} {op : CmpOp} {Q : D → Prop} (h : ev X K E a ρ (fun x => ev X K E b ρ (fun y => opc X K op x y Q) R) R) (hm : behindInMarks op b = false := by first | exact nomark _ | rfl) : ev X K E (.Compare a [op] [b] pos) ρ Q R :=
  ev_cmp (h := ⟨fun B G H σ eB eG e w Qv kk => h.run B G H σ eB eG e w Qv fun d v G1 H1 q s r => kk d v G1 H1 ⟨fun B G H σ eB eG e w Qv kk => q.run B G H σ eB eG e w Qv fun d v G1 H1 q s r => kk d v G1 H1 q.run s r⟩ s r⟩) hm
theorem et_cmp {a b : Expr} {op : CmpOp} {Q : Bool → Prop} (h : ev X K E a ρ (fun x => ev X K E b ρ (fun y => opc X K op x y (fun d => ∃ c, d = .bl c ∧ Q c)) R) R) (hm : behindInMarks op b = false := by first | exact nomark _ | rfl) : evt X K E (.Compare a [op] [b] pos) ρ Q R :=
  evt_cmp (h := ⟨fun B G H σ eB eG e w Qv kk => h.run B G H σ eB eG e w Qv fun d v G1 H1 q s r => kk d v G1 H1 ⟨fun B G H σ eB eG e w Qv kk => q.run B G H σ eB eG e w Qv fun d v G1 H1 q s r => kk d v G1 H1 q.run s r⟩ s r⟩) hm
theorem ec_bin {a b : Expr} {op : Operator} {Q : D → Prop} (h : ev X K E a ρ (fun x => ev X K E b ρ (fun y => opb X K op x y Q) R) R) : ev X K E (.BinOp a op b pos) ρ Q R :=
  ev_bin (h := ⟨fun B G H σ eB eG e w Qv kk => h.run B G H σ eB eG e w Qv fun d v G1 H1 q s r => kk d v G1 H1 ⟨fun B G H σ eB eG e w Qv kk => q.run B G H σ eB eG e w Qv fun d v G1 H1 q s r => kk d v G1 H1 q.run s r⟩ s r⟩)
section
variable {i j : Int} {a b : Str} {Q : D → Prop}
theorem c_lt (q : Q (.bl (decide (i < j)))) : opc X K .Lt (.int i) (.int j) Q := ⟨o_lt q⟩
theorem c_le (q : Q (.bl (decide (i ≤ j)))) : opc X K .LtE (.int i) (.int j) Q := ⟨o_le q⟩
theorem c_gt (q : Q (.bl (decide (j < i)))) : opc X K .Gt (.int i) (.int j) Q := ⟨o_gt q⟩
theorem c_ge (q : Q (.bl (decide (j ≤ i)))) : opc X K .GtE (.int i) (.int j) Q := ⟨o_ge q⟩
theorem c_eqI (q : Q (.bl (decide (i = j)))) : opc X K .Eq (.int i) (.int j) Q := ⟨o_eqI q⟩
theorem c_neI (q : Q (.bl (!decide (i = j)))) : opc X K .NotEq (.int i) (.int j) Q := ⟨o_neI q⟩
theorem c_eqS (q : Q (.bl (decide (a = b)))) : opc X K .Eq (.str a) (.str b) Q := ⟨o_eqS q⟩
theorem c_neS (q : Q (.bl (!decide (a = b)))) : opc X K .NotEq (.str a) (.str b) Q := ⟨o_neS q⟩
theorem c_isN {d : D} (q : Q (.bl d.isN)) : opc X K .Is d .non Q := ⟨o_isN q⟩
theorem c_notN {d : D} (q : Q (.bl (!d.isN))) : opc X K .IsNot d .non Q := ⟨o_notN q⟩
theorem b_add (q : Q (.int (i + j))) : opb X K .Add (.int i) (.int j) Q := ⟨o_add q⟩
theorem b_sub (q : Q (.int (i - j))) : opb X K .Sub (.int i) (.int j) Q := ⟨o_sub q⟩
theorem b_mul (hc : CMul i j) (q : Q (.int (i * j))) : opb X K .Mult (.int i) (.int j) Q := ⟨o_mul hc q⟩
theorem b_mod (hc : 0 < j) (q : Q (.int (i % j))) : opb X K .Mod (.int i) (.int j) Q := ⟨o_mod hc q⟩
theorem b_div (hc : CDiv i j) (q : Q (.int (i / j))) : opb X K .FloorDiv (.int i) (.int j) Q := ⟨o_div hc q⟩
theorem b_pow (hc : CPow i j) (q : Q (.int (i ^ j.toNat))) : opb X K .Pow (.int i) (.int j) Q := ⟨o_pow hc q⟩
theorem b_addS (hl : a.length + b.length ≤ sizeLine) (q : Q (.str (a ++ b))) : opb X K .Add (.str a) (.str b) Q := ⟨o_addS hl q⟩
theorem b_cat {xs ys : List D} (hl : xs.length + ys.length ≤ sizeLine) (q : Q (.lst (xs ++ ys))) : opb X K .Add (.lst xs) (.lst ys) Q := ⟨opd_of_opn (o_cat hl q)⟩
end
end
theorem bo_len : bootBuiltins ("len" : Str) = some (.builtin "len") := by decide +kernel
theorem bo_abs : bootBuiltins ("abs" : Str) = some (.builtin "abs") := by decide +kernel
theorem bo_max : bootBuiltins ("max" : Str) = some (.builtin "max") := by decide +kernel
theorem bo_min : bootBuiltins ("min" : Str) = some (.builtin "min") := by decide +kernel
theorem bo_sorted : bootBuiltins ("sorted" : Str) = some (.builtin "sorted") := by decide +kernel
theorem bo_all : bootBuiltins ("all" : Str) = some (.builtin "all") := by decide +kernel
theorem bo_isinstance : bootBuiltins ("isinstance" : Str) = some (.builtin "isinstance") := by decide +kernel
theorem bo_repr : bootBuiltins ("repr" : Str) = some (.builtin "repr") := by decide +kernel
theorem bo_int : bootBuiltins ("int" : Str) = some (.type "int") := by decide +kernel
theorem bo_list : bootBuiltins ("list" : Str) = some (.type "list") := by decide +kernel
theorem bo_bool : bootBuiltins ("bool" : Str) = some (.type "bool") := by decide +kernel
theorem bo_str : bootBuiltins ("str" : Str) = some (.type "str") := by decide +kernel
end DL
namespace DL
open PySem PySem.Spec PyProof.Rows L2
def locB (sc : Scope) (x : Str) : Bool := decide (sc.names.lookup x = some .local)
def celB (sc : Scope) (x : Str) : Bool := decide (sc.names.lookup x = some .cell)
section
variable {ι : Type} {X : ι → Cx} {P : Program} {w : World} {K : PySem.W.Frag} {mg : Str → Option Value} {base : Heap} {k : Nat} {E : XK} {ρ : Rho} {R : Er → Prop} {pos : Pos}
theorem loc_of {sc : Scope} {x : Str} (h : (locB sc x || celB sc x) = true) : Loc sc x := by
  rcases Bool.or_eq_true_iff.mp h with h | h
  · exact .inl (of_decide_eq_true h)
  · exact .inr (of_decide_eq_true h)
/-- x = e -/
theorem s_st {j : Nat} {x : Str} {e : Expr} {D : DE} {pos' : Pos} {N : List Str} {sc : Scope} (O : Ok X P w K mg base k E) (h : ev X K E e ρ (fun d => D.nx (ρ.set j (.va d))) R) (hN : ∀ i, (X i).N = N := by first | exact blk_N fun _ => rfl | exact fun _ => rfl) (hx : N[j]? = some x := by decide +kernel)
    (hS : ∀ i, (X i).env.scope = sc := by first | exact blk_S fun _ => rfl | exact fun _ => rfl) (hv : (locB sc x || celB sc x) = true := by decide +kernel) (hs : ∀ i, swapsWith e (some (.Name x pos')) pos.line (X i).env = pure false := by intro _; rfl) (hf : ∀ i, (X i).fn x = true := by intro _; rfl) : st1 X K E (.Assign [.Name x pos'] e pos) ρ D R :=
  s_set O h (fun i => by rw [hN i]; exact hx) (fun i => by rw [hS i]; exact loc_of hv) hs (fun i => .inl (hf i))
/-- x = e, a list of one's own -/
theorem s_so {j : Nat} {x : Str} {e : Expr} {D : DE} {pos' : Pos} {N : List Str} {sc : Scope} (O : Ok X P w K mg base k E) (h : evn X K E e ρ (fun ds => D.nx (ρ.set j (.ow ds))) R) (hN : ∀ i, (X i).N = N := by first | exact blk_N fun _ => rfl | exact fun _ => rfl) (hx : N[j]? = some x := by decide +kernel)
    (hS : ∀ i, (X i).env.scope = sc := by first | exact blk_S fun _ => rfl | exact fun _ => rfl) (hv : (locB sc x || celB sc x) = true := by decide +kernel) (hs : ∀ i, swapsWith e (some (.Name x pos')) pos.line (X i).env = pure false := by intro _; rfl) (hf : ∀ i, (X i).fn x = true := by intro _; rfl) : st1 X K E (.Assign [.Name x pos'] e pos) ρ D R :=
  s_setO O h (fun i => by rw [hN i]; exact hx) (fun i => by rw [hS i]; exact loc_of hv) hs (fun i => .inl (hf i))
/-! ### comprehensions over what stands for a list -/
def TurnA {ι : Type} (X : ι → Cx) (K : PySem.W.Frag) (scope : Scope) (tg elt : Expr) (ifs : List Expr) (js vs : List Nat) (ρ : Rho) (b : Bool) (o x : DL.D) : Prop :=
  Turns X K scope tg elt ifs js vs ρ (fun _ => b) (fun _ => o) x
theorem lc_readA {α : Type} {scope : Scope} {tg elt e : Expr} {ifs : List Expr} {js vs : List Nat} {B G H : Hp} {σ : L2.St} {Q : List DL.D → Prop} (hjs : ∀ j ∈ js, j ∈ vs)
    (h : ev X K E e ρ (fun d => ∃ (xs : List α) (enc : α → DL.D) (p : α → Bool) (f : α → DL.D), d = .lst (xs.map enc) ∧ xs.length < 100000 ∧ (∀ x ∈ xs, TurnA X K scope tg elt ifs js vs ρ (p x) (f x) (enc x)) ∧ Q ((xs.filter p).map f)) R)
    (eB : Ex B H) (eG : Ex G H) (c : EnvR K B G H σ ρ) (w : Wish K B E R) (Qv : VK)
    (kk : ∀ ds p vs G' H', Q ds → Stp G H G' H' → H p = none → G' p = none → H' p = some (.lst vs) → Reps K G' ds vs → Qv (.ref p) H') :
    tLc (iList K (WE X e)) (WG (Blk X scope) tg) (WTs (Blk X scope) ifs) (WE (Blk X scope) elt) vs σ H Qv := by
  refine h.run B G H σ eB eG c w _ fun d v G1 H1 ⟨xs, enc, p, f, hd, hlen, ht, q⟩ s1 r1 => ?_
  subst hd
  obtain ⟨a, us, rfl, ha, ra⟩ := Rep.lst_iff.mp r1
  refine ⟨a, rfl, ⟨us, SqL.of (s1.i _ _ ha)⟩, fun Dl hD => ?_⟩
  refine lc_list (K := K) (a := a) (xs := us) (fun n Hc => ∃ Gc acc, Stp G1 H1 Gc Hc ∧ Hc Dl = some (.lst acc) ∧ Gc Dl = none ∧ Reps K Gc (((xs.take n).filter p).map f) acc) ⟨G1, [], Stp.own s1.i hD, upd_same, s1.i.free hD, Reps.nil⟩
    (fun n Hc _ ⟨Gc, acc, s, _⟩ => SqL.of (s.i _ _ (s.g _ _ ha))) ?_ ?_
  · rintro n x Hc hx ⟨Gc, acc, s, h1, h2, h3⟩
    have hn : n < xs.length := by have := (List.getElem?_eq_some_iff.mp hx).1; rw [ra.len, List.length_map] at this; exact this
    have hget : (xs.map enc)[n]? = some (enc xs[n]) := by rw [List.getElem?_map, List.getElem?_eq_getElem hn]; rfl
    obtain ⟨v, hv, rv⟩ := ra.get hget
    rw [hx] at hv
    cases hv
    refine lc_turn hjs (ht _ (List.getElem_mem hn)) (eB.trans s1.h) (c.mono s1) s hD h1 h2 h3 (rv.mono s.g) ?_ fun G' H' acc' s' k1 k2 k3 => ⟨G', acc', s', k1, k2, by rw [filter_snoc p f xs n _ (List.getElem?_eq_getElem hn)]; exact k3⟩
    rw [List.length_map]
    have := List.length_filter_le p (xs.take n)
    rw [List.length_take] at this
    have h9 : (100000 : Nat) ≤ sizeLine := by decide
    omega
  · rintro Hc ⟨Gc, acc, s, h1, h2, h3⟩
    rw [ra.len, List.length_map, List.take_length] at h3
    exact kk _ Dl acc Gc Hc q (s1.trans s) (s1.h.free hD) h2 h1 h3
theorem lc_readB {scope : Scope} {tg elt e : Expr} {ifs : List Expr} {js vs : List Nat} {B G H : Hp} {σ : L2.St} {Q : List DL.D → Prop} (hjs : ∀ j ∈ js, j ∈ vs)
    (h : ev X K E e ρ (fun d => ∃ (N : Nat) (p : Nat → Bool) (f : Nat → DL.D), d = .int N ∧ N < 100000 ∧ (∀ n : Nat, n < N → TurnA X K scope tg elt ifs js vs ρ (p n) (f n) (.int n)) ∧ Q (((List.range N).filter p).map f)) R)
    (eB : Ex B H) (eG : Ex G H) (c : EnvR K B G H σ ρ) (w : Wish K B E R) (Qv : VK)
    (kk : ∀ ds p vs G' H', Q ds → Stp G H G' H' → H p = none → G' p = none → H' p = some (.lst vs) → Reps K G' ds vs → Qv (.ref p) H') :
    tLc (iRng1 (tCons (WE X e) tNil)) (WG (Blk X scope) tg) (WTs (Blk X scope) ifs) (WE (Blk X scope) elt) vs σ H Qv := by
  refine h.run B G H σ eB eG c w _ fun d v G1 H1 ⟨N, p, f, hd, hlen, ht, q⟩ s1 r1 => ?_
  subst hd
  refine ⟨(N : Int), by rw [Rep.int_iff.mp r1], by omega, by omega, ?_⟩
  rw [Int.toNat_natCast]
  intro Dl hD
  refine lc_range (lo := 0) (n := N) (fun n Hc => ∃ Gc acc, Stp G1 H1 Gc Hc ∧ Hc Dl = some (.lst acc) ∧ Gc Dl = none ∧ Reps K Gc ((((List.range N).take n).filter p).map f) acc) ⟨G1, [], Stp.own s1.i hD, upd_same, s1.i.free hD, Reps.nil⟩ ?_ ?_
  · rintro n Hc hn ⟨Gc, acc, s, h1, h2, h3⟩
    have e0 : (0 : Int) + (n : Int) = (n : Int) := Int.zero_add _
    rw [e0]
    refine lc_turn hjs (ht n hn) (eB.trans s1.h) (c.mono s1) s hD h1 h2 h3 (Sca.int _).rep ?_ fun G' H' acc' s' k1 k2 k3 => ⟨G', acc', s', k1, k2, by rw [filter_snoc p f _ n n (List.getElem?_range hn)]; exact k3⟩
    rw [List.length_map]
    have := List.length_filter_le p ((List.range N).take n)
    rw [List.length_take] at this
    have h9 : (100000 : Nat) ≤ sizeLine := by decide
    omega
  · rintro Hc ⟨Gc, acc, s, h1, h2, h3⟩
    rw [List.take_of_length_le (by simp)] at h3
    exact kk _ Dl acc Gc Hc q (s1.trans s) (s1.h.free hD) h2 h1 h3
/-- [elt for tg in e if ..] -/
theorem en_c {α : Type} {N : List Str} {sc scope : Scope} {tg elt e : Expr} {ifs : List Expr} {Q : List DL.D → Prop} (own : List (Str × Nat)) (js : List Nat) (O : Ok X P w K mg base k E)
    (h : ev X K E e ρ (fun d => ∃ (xs : List α) (enc : α → DL.D) (p : α → Bool) (f : α → DL.D), d = .lst (xs.map enc) ∧ xs.length < 100000 ∧ (∀ x ∈ xs, TurnA X K scope tg elt ifs js (own.map (·.2)) ρ (p x) (f x) (enc x)) ∧ Q ((xs.filter p).map f)) R)
    (hN : ∀ i, (X i).N = N := by first | exact blk_N fun _ => rfl | exact fun _ => rfl) (hS : ∀ i, (X i).env.scope = sc := by first | exact blk_S fun _ => rfl | exact fun _ => rfl) (hb : blkC N sc scope own = true := by decide +kernel) (hjs : ∀ j ∈ js, j ∈ own.map (·.2) := by simp)
    (hs : ∀ i x, foldedSetIterable e (X i).env x = pure x := by intro _ _; rfl) : evn X K E (.ListComp elt [⟨tg, e, ifs, 0⟩] scope pos) ρ Q R := ⟨fun B G H σ eB eG c w Qv kk =>
  ⟨_, fun i => by
    have := pe_lc (X := X i) (pos := pos) (O.calm i) (O.nd i) (pi_list (tg := tg) (we_ok (e := e) i)) (by rw [hN i, hS i]; exact blkOk_by hb) (fun s H C cl fp => wg_ok (X := Blk X scope) (e := tg) (i, s, H, C, cl, fp)) (fun s H C cl fp => wts_ok (X := Blk X scope) (e := ifs) (i, s, H, C, cl, fp)) (fun s H C cl fp => we_ok (X := Blk X scope) (e := elt) (i, s, H, C, cl, fp)) (hs i)
    rw [O.K i] at this
    exact this, lc_readA hjs h eB eG c w Qv kk⟩⟩
/-- x = [elt for tg in e if ..], x not a cell -/
theorem s_c {α : Type} {j : Nat} {x : Str} {pos' lp : Pos} {N : List Str} {sc scope : Scope} {tg elt e : Expr} {ifs : List Expr} {D : DE} (own : List (Str × Nat)) (js : List Nat) (O : Ok X P w K mg base k E)
    (h : ev X K E e ρ (fun d => ∃ (xs : List α) (enc : α → DL.D) (p : α → Bool) (f : α → DL.D), d = .lst (xs.map enc) ∧ xs.length < 100000 ∧ (∀ x ∈ xs, TurnA X K scope tg elt ifs js (own.map (·.2)) ρ (p x) (f x) (enc x)) ∧ D.nx (ρ.set j (.va (.lst ((xs.filter p).map f))))) R)
    (hN : ∀ i, (X i).N = N := by first | exact blk_N fun _ => rfl | exact fun _ => rfl) (hx : N[j]? = some x := by decide +kernel) (hS : ∀ i, (X i).env.scope = sc := by first | exact blk_S fun _ => rfl | exact fun _ => rfl) (hb : blkC N sc scope own = true := by decide +kernel) (hl : locB sc x = true := by decide +kernel) (hjs : ∀ j ∈ js, j ∈ own.map (·.2) := by simp)
    (hk : ∀ i, (X i).env.scope.kind = .function := by intro _; rfl) (hli : (pos'.line == lp.line) = true := by rfl) (hse : (pos.line) = pos.line := by rfl) (hno : (scope.names.any fun (n, k) => n == x && (k == .local || k == .cell)) = false := by decide +kernel)
    (hs : ∀ i x, foldedSetIterable e (X i).env x = pure x := by intro _ _; rfl) : st1 X K E (.Assign [.Name x pos'] (.ListComp elt [⟨tg, e, ifs, 0⟩] scope lp) pos) ρ D R := ⟨fun G0 B G H σ Dv s c w m =>
  ⟨_, fun i => by
    have hloc : (X i).env.scope.names.lookup x = some .local := by rw [hS i]; exact of_decide_eq_true hl
    have := ps_setLc (X := X i) (py := pos') (pos := lp) (spos := pos) (O.calm i) (O.nd i) (by rw [hN i]; exact hx) hloc (sw_true (hk i) hloc hli hno) (pi_list (tg := tg) (we_ok (e := e) i)) (by rw [hN i, hS i]; exact blkOk_by hb) (fun s H C cl fp => wg_ok (X := Blk X scope) (e := tg) (i, s, H, C, cl, fp)) (fun s H C cl fp => wts_ok (X := Blk X scope) (e := ifs) (i, s, H, C, cl, fp)) (fun s H C cl fp => we_ok (X := Blk X scope) (e := elt) (i, s, H, C, cl, fp)) (hs i)
    rw [O.K i] at this
    exact this, lc_readA (Q := fun ds => D.nx (ρ.set j (.va (.lst ds)))) hjs h s.h s.i c w (fun v H1 => Dv.nx (σ.set j (some v)) H1) fun ds p vs G' H' q s' h1 h2 h3 r => by
      obtain ⟨t1, t2⟩ := own_data s' h1 h2 h3 r
      exact m.nx _ _ _ _ q (s.trans t1) ((c.mono t1).set j t2)⟩⟩
/-- the same, a list of one's own -/
theorem s_co {α : Type} {j : Nat} {x : Str} {pos' lp : Pos} {N : List Str} {sc scope : Scope} {tg elt e : Expr} {ifs : List Expr} {D : DE} (own : List (Str × Nat)) (js : List Nat) (O : Ok X P w K mg base k E)
    (h : ev X K E e ρ (fun d => ∃ (xs : List α) (enc : α → DL.D) (p : α → Bool) (f : α → DL.D), d = .lst (xs.map enc) ∧ xs.length < 100000 ∧ (∀ x ∈ xs, TurnA X K scope tg elt ifs js (own.map (·.2)) ρ (p x) (f x) (enc x)) ∧ D.nx (ρ.set j (.ow ((xs.filter p).map f)))) R)
    (hN : ∀ i, (X i).N = N := by first | exact blk_N fun _ => rfl | exact fun _ => rfl) (hx : N[j]? = some x := by decide +kernel) (hS : ∀ i, (X i).env.scope = sc := by first | exact blk_S fun _ => rfl | exact fun _ => rfl) (hb : blkC N sc scope own = true := by decide +kernel) (hl : locB sc x = true := by decide +kernel) (hjs : ∀ j ∈ js, j ∈ own.map (·.2) := by simp)
    (hk : ∀ i, (X i).env.scope.kind = .function := by intro _; rfl) (hli : (pos'.line == lp.line) = true := by rfl) (hno : (scope.names.any fun (n, k) => n == x && (k == .local || k == .cell)) = false := by decide +kernel)
    (hs : ∀ i x, foldedSetIterable e (X i).env x = pure x := by intro _ _; rfl) : st1 X K E (.Assign [.Name x pos'] (.ListComp elt [⟨tg, e, ifs, 0⟩] scope lp) pos) ρ D R := ⟨fun G0 B G H σ Dv s c w m =>
  ⟨_, fun i => by
    have hloc : (X i).env.scope.names.lookup x = some .local := by rw [hS i]; exact of_decide_eq_true hl
    have := ps_setLc (X := X i) (py := pos') (pos := lp) (spos := pos) (O.calm i) (O.nd i) (by rw [hN i]; exact hx) hloc (sw_true (hk i) hloc hli hno) (pi_list (tg := tg) (we_ok (e := e) i)) (by rw [hN i, hS i]; exact blkOk_by hb) (fun s H C cl fp => wg_ok (X := Blk X scope) (e := tg) (i, s, H, C, cl, fp)) (fun s H C cl fp => wts_ok (X := Blk X scope) (e := ifs) (i, s, H, C, cl, fp)) (fun s H C cl fp => we_ok (X := Blk X scope) (e := elt) (i, s, H, C, cl, fp)) (hs i)
    rw [O.K i] at this
    exact this, lc_readA (Q := fun ds => D.nx (ρ.set j (.ow ds))) hjs h s.h s.i c w (fun v H1 => Dv.nx (σ.set j (some v)) H1) fun ds p vs G' H' q s' h1 h2 h3 r =>
      m.nx _ _ G' H' q (s.trans s') ((c.mono s').setOwn j (s.h.free h1) h2 h3 r fun i es _ hi hp => by
        obtain ⟨l, us, k1, _, _, k4, _⟩ := c.ow i es hi
        rw [k1] at hp
        cases hp
        rw [h1] at k4; cases k4)⟩⟩
/-- [elt for tg in range(e) if ..] -/
theorem en_r {N : List Str} {sc scope : Scope} {tg elt e : Expr} {ifs : List Expr} {Q : List DL.D → Prop} {p p2 : Pos} (own : List (Str × Nat)) (js : List Nat) (O : Ok X P w K mg base k E) (hm : mg "range" = none)
    (h : ev X K E e ρ (fun d => ∃ (N : Nat) (p : Nat → Bool) (f : Nat → DL.D), d = .int N ∧ N < 100000 ∧ (∀ n : Nat, n < N → TurnA X K scope tg elt ifs js (own.map (·.2)) ρ (p n) (f n) (.int n)) ∧ Q (((List.range N).filter p).map f)) R)
    (hN : ∀ i, (X i).N = N := by first | exact blk_N fun _ => rfl | exact fun _ => rfl) (hS : ∀ i, (X i).env.scope = sc := by first | exact blk_S fun _ => rfl | exact fun _ => rfl) (hb : blkC N sc scope own = true := by decide +kernel) (hjs : ∀ j ∈ js, j ∈ own.map (·.2) := by simp)
    (hg : ∀ i, Gl (X i) "range" := by intro _; rfl) (hst : ∀ i, starEach [e] (X i).env = [(false, eval e (X i).env)] := by intro _; rfl) (hst2 : ∀ i, starEach [e] (X i).env = (false, eval e (X i).env) :: starEach [] (X i).env := by intro _; rfl)
    (hs : ∀ i x, foldedSetIterable (.Call (.Name "range" p) [e] [] p2) (X i).env x = pure x := by intro _ _; rfl) : evn X K E (.ListComp elt [⟨tg, .Call (.Name "range" p) [e] [] p2, ifs, 0⟩] scope pos) ρ Q R := ⟨fun B G H σ eB eG c w Qv kk =>
  ⟨_, fun i => pe_lc (X := X i) (pos := pos) (O.calm i) (O.nd i) (pi_range1 (hg i) (by rw [O.mg i]; exact hm) (pa_cons (we_ok (e := e) i) pa_nil (hst2 i)) (hst i)) (by rw [hN i, hS i]; exact blkOk_by hb) (fun s H C cl fp => wg_ok (X := Blk X scope) (e := tg) (i, s, H, C, cl, fp)) (fun s H C cl fp => wts_ok (X := Blk X scope) (e := ifs) (i, s, H, C, cl, fp)) (fun s H C cl fp => we_ok (X := Blk X scope) (e := elt) (i, s, H, C, cl, fp)) (hs i), lc_readB hjs h eB eG c w Qv kk⟩⟩
/-- x = [elt for tg in range(e) if ..] -/
theorem s_r {j : Nat} {x : Str} {pos' lp p p2 : Pos} {N : List Str} {sc scope : Scope} {tg elt e : Expr} {ifs : List Expr} {D : DE} (own : List (Str × Nat)) (js : List Nat) (O : Ok X P w K mg base k E) (hm : mg "range" = none)
    (h : ev X K E e ρ (fun d => ∃ (N : Nat) (p : Nat → Bool) (f : Nat → DL.D), d = .int N ∧ N < 100000 ∧ (∀ n : Nat, n < N → TurnA X K scope tg elt ifs js (own.map (·.2)) ρ (p n) (f n) (.int n)) ∧ D.nx (ρ.set j (.va (.lst (((List.range N).filter p).map f))))) R)
    (hN : ∀ i, (X i).N = N := by first | exact blk_N fun _ => rfl | exact fun _ => rfl) (hx : N[j]? = some x := by decide +kernel) (hS : ∀ i, (X i).env.scope = sc := by first | exact blk_S fun _ => rfl | exact fun _ => rfl) (hb : blkC N sc scope own = true := by decide +kernel) (hl : locB sc x = true := by decide +kernel) (hjs : ∀ j ∈ js, j ∈ own.map (·.2) := by simp)
    (hk : ∀ i, (X i).env.scope.kind = .function := by intro _; rfl) (hli : (pos'.line == lp.line) = true := by rfl) (hno : (scope.names.any fun (n, k) => n == x && (k == .local || k == .cell)) = false := by decide +kernel)
    (hg : ∀ i, Gl (X i) "range" := by intro _; rfl) (hst : ∀ i, starEach [e] (X i).env = [(false, eval e (X i).env)] := by intro _; rfl) (hst2 : ∀ i, starEach [e] (X i).env = (false, eval e (X i).env) :: starEach [] (X i).env := by intro _; rfl)
    (hs : ∀ i x, foldedSetIterable (.Call (.Name "range" p) [e] [] p2) (X i).env x = pure x := by intro _ _; rfl) : st1 X K E (.Assign [.Name x pos'] (.ListComp elt [⟨tg, .Call (.Name "range" p) [e] [] p2, ifs, 0⟩] scope lp) pos) ρ D R := ⟨fun G0 B G H σ Dv s c w m =>
  ⟨_, fun i => by
    have hloc : (X i).env.scope.names.lookup x = some .local := by rw [hS i]; exact of_decide_eq_true hl
    exact ps_setLc (X := X i) (py := pos') (pos := lp) (spos := pos) (O.calm i) (O.nd i) (by rw [hN i]; exact hx) hloc (sw_true (hk i) hloc hli hno) (pi_range1 (hg i) (by rw [O.mg i]; exact hm) (pa_cons (we_ok (e := e) i) pa_nil (hst2 i)) (hst i)) (by rw [hN i, hS i]; exact blkOk_by hb) (fun s H C cl fp => wg_ok (X := Blk X scope) (e := tg) (i, s, H, C, cl, fp)) (fun s H C cl fp => wts_ok (X := Blk X scope) (e := ifs) (i, s, H, C, cl, fp)) (fun s H C cl fp => we_ok (X := Blk X scope) (e := elt) (i, s, H, C, cl, fp)) (hs i),
    lc_readB (Q := fun ds => D.nx (ρ.set j (.va (.lst ds)))) hjs h s.h s.i c w (fun v H1 => Dv.nx (σ.set j (some v)) H1) fun ds p vs G' H' q s' h1 h2 h3 r => by
      obtain ⟨t1, t2⟩ := own_data s' h1 h2 h3 r
      exact m.nx _ _ _ _ q (s.trans t1) ((c.mono t1).set j t2)⟩⟩
/-- the same, a list of one's own -/
theorem s_ro {j : Nat} {x : Str} {pos' lp p p2 : Pos} {N : List Str} {sc scope : Scope} {tg elt e : Expr} {ifs : List Expr} {D : DE} (own : List (Str × Nat)) (js : List Nat) (O : Ok X P w K mg base k E) (hm : mg "range" = none)
    (h : ev X K E e ρ (fun d => ∃ (N : Nat) (p : Nat → Bool) (f : Nat → DL.D), d = .int N ∧ N < 100000 ∧ (∀ n : Nat, n < N → TurnA X K scope tg elt ifs js (own.map (·.2)) ρ (p n) (f n) (.int n)) ∧ D.nx (ρ.set j (.ow (((List.range N).filter p).map f)))) R)
    (hN : ∀ i, (X i).N = N := by first | exact blk_N fun _ => rfl | exact fun _ => rfl) (hx : N[j]? = some x := by decide +kernel) (hS : ∀ i, (X i).env.scope = sc := by first | exact blk_S fun _ => rfl | exact fun _ => rfl) (hb : blkC N sc scope own = true := by decide +kernel) (hl : locB sc x = true := by decide +kernel) (hjs : ∀ j ∈ js, j ∈ own.map (·.2) := by simp)
    (hk : ∀ i, (X i).env.scope.kind = .function := by intro _; rfl) (hli : (pos'.line == lp.line) = true := by rfl) (hno : (scope.names.any fun (n, k) => n == x && (k == .local || k == .cell)) = false := by decide +kernel)
    (hg : ∀ i, Gl (X i) "range" := by intro _; rfl) (hst : ∀ i, starEach [e] (X i).env = [(false, eval e (X i).env)] := by intro _; rfl) (hst2 : ∀ i, starEach [e] (X i).env = (false, eval e (X i).env) :: starEach [] (X i).env := by intro _; rfl)
    (hs : ∀ i x, foldedSetIterable (.Call (.Name "range" p) [e] [] p2) (X i).env x = pure x := by intro _ _; rfl) : st1 X K E (.Assign [.Name x pos'] (.ListComp elt [⟨tg, .Call (.Name "range" p) [e] [] p2, ifs, 0⟩] scope lp) pos) ρ D R := ⟨fun G0 B G H σ Dv s c w m =>
  ⟨_, fun i => by
    have hloc : (X i).env.scope.names.lookup x = some .local := by rw [hS i]; exact of_decide_eq_true hl
    exact ps_setLc (X := X i) (py := pos') (pos := lp) (spos := pos) (O.calm i) (O.nd i) (by rw [hN i]; exact hx) hloc (sw_true (hk i) hloc hli hno) (pi_range1 (hg i) (by rw [O.mg i]; exact hm) (pa_cons (we_ok (e := e) i) pa_nil (hst2 i)) (hst i)) (by rw [hN i, hS i]; exact blkOk_by hb) (fun s H C cl fp => wg_ok (X := Blk X scope) (e := tg) (i, s, H, C, cl, fp)) (fun s H C cl fp => wts_ok (X := Blk X scope) (e := ifs) (i, s, H, C, cl, fp)) (fun s H C cl fp => we_ok (X := Blk X scope) (e := elt) (i, s, H, C, cl, fp)) (hs i),
    lc_readB (Q := fun ds => D.nx (ρ.set j (.ow ds))) hjs h s.h s.i c w (fun v H1 => Dv.nx (σ.set j (some v)) H1) fun ds p vs G' H' q s' h1 h2 h3 r =>
      m.nx _ _ G' H' q (s.trans s') ((c.mono s').setOwn j (s.h.free h1) h2 h3 r fun i es _ hi hp => by
        obtain ⟨l, us, k1, _, _, k4, _⟩ := c.ow i es hi
        rw [k1] at hp
        cases hp
        rw [h1] at k4; cases k4)⟩⟩
end
end DL
namespace DL
open PySem PySem.Spec PyProof.Rows L2
section
variable {ι : Type} {X : ι → Cx} {P : Program} {w : World} {K : PySem.W.Frag} {mg : Str → Option Value} {base : Heap} {k : Nat} {E : XK} {ρ : Rho} {R : Er → Prop} {pos : Pos}
/-- an if whose test comes to a known truth -/
theorem s_ifv (t : Bool) {c : Expr} {a b : List Stmt} {D : DE} (h : evt X K E c ρ (fun z => z = t) R) (ha : t = true → stm X K E a ρ D R) (hb : t = false → stm X K E b ρ D R) : st1 X K E (.If c a b pos) ρ D R := by
  refine s_if ⟨fun B G H σ eB eG x w Qv k => h.run B G H σ eB eG x w Qv fun z G' H' hz s => ?_⟩
  subst hz
  exact k z G' H' ⟨ha, hb⟩ s
theorem evw_and0 {p : Pos} {a : Expr} {Q : Bool → Prop} (h : evt X K E a ρ Q R) : evw X K E (.BoolOp .And [a] p) ρ Q R := evw_and1 h
/-- list(range(e)) as a list -/
theorem gl_of {sc : Scope} {x : Str} (i : ι) (hS : (X i).env.scope = sc) (h : decide (sc.names.lookup x = some .globalImplicit) = true) : Gl (X i) x := by
  show (X i).env.scope.names.lookup x = _
  rw [hS]
  exact of_decide_eq_true h
end
end DL
namespace DL
open PySem PySem.Spec PyProof.Rows L2
section
variable {ι : Type} {X : ι → Cx} {P : Program} {w : World} {K : PySem.W.Frag} {mg : Str → Option Value} {base : Heap} {k : Nat} {E : XK} {ρ : Rho} {R : Er → Prop} {pos : Pos}
/-- a block over the signs of a text -/
theorem lc_signs {x : Str} {g : TG} {tt : TT} {te : TE} {vs : List Nat} {σ : L2.St} {H1 : Hp} {Dl : Addr} {Qd : Hp → Prop} (Pv : Nat → Hp → Prop) (h0 : Pv 0 (upd H1 Dl (.lst [])))
    (hs : ∀ i c H, x.cps[i]? = some c → Pv i H → g (.str ⟨#[c]⟩) (wipe σ vs) H fun σ2 H2 => wipe σ2 vs = wipe σ vs ∧ tt σ2 H2 fun b H3 =>
      if b = true then te σ2 H3 fun y H4 => ∃ acc, H4 Dl = some (.lst acc) ∧ acc.length < sizeLine ∧ Pv (i + 1) (upd H4 Dl (.lst (acc ++ [y]))) else Pv (i + 1) H3) (hd : ∀ H, Pv x.cps.size H → Qd H) :
    ∃ W : Nat → Nat → Hp → Prop, (∃ m, W 0 m (upd H1 Dl (.lst []))) ∧ ∀ i m H, W i m H →
      ((Its x).stop i H ∧ Qd H) ∨ ((Its x).go i H ∧ ∃ Nx : Hp → Prop, (∀ H', Nx H' → ∃ m', m' < m ∧ W (i + 1) m' H') ∧ ∀ u H', (Its x).yld i H u H' → g u (wipe σ vs) H' fun σ2 H2 => wipe σ2 vs = wipe σ vs ∧ tt σ2 H2 fun b H3 =>
        if b = true then te σ2 H3 fun y H4 => ∃ acc, H4 Dl = some (.lst acc) ∧ acc.length < sizeLine ∧ Nx (upd H4 Dl (.lst (acc ++ [y]))) else Nx H3) := by
  refine ⟨fun i m H => m = x.cps.size - i ∧ i ≤ x.cps.size ∧ Pv i H, ⟨_, rfl, Nat.zero_le _, h0⟩, fun i m H ⟨em, hi, p⟩ => ?_⟩
  subst em
  by_cases hlt : i < x.cps.size
  · refine .inr ⟨hlt, Pv (i + 1), fun H' p' => ⟨x.cps.size - (i + 1), by omega, rfl, hlt, p'⟩, fun u H' y => ?_⟩
    obtain ⟨e1, c, hc, e2⟩ := y
    rw [e1, e2]
    exact hs i c H hc p
  · refine .inl ⟨Nat.le_of_not_lt hlt, hd H ?_⟩
    have e : x.cps.size = i := by omega
    rw [e]; exact p
theorem lc_readS {scope : Scope} {tg elt e : Expr} {ifs : List Expr} {js vs : List Nat} {B G H : Hp} {σ : L2.St} {Q : List DL.D → Prop} (hjs : ∀ j ∈ js, j ∈ vs)
    (h : ev X K E e ρ (fun d => ∃ (l : List Nat) (p : Nat → Bool) (f : Nat → DL.D), d = .str ⟨l.toArray⟩ ∧ l.length < 100000 ∧ (∀ c ∈ l, TurnA X K scope tg elt ifs js vs ρ (p c) (f c) (.str ⟨#[c]⟩)) ∧ Q ((l.filter p).map f)) R)
    (eB : Ex B H) (eG : Ex G H) (c : EnvR K B G H σ ρ) (w : Wish K B E R) (Qv : VK)
    (kk : ∀ ds p vs G' H', Q ds → Stp G H G' H' → H p = none → G' p = none → H' p = some (.lst vs) → Reps K G' ds vs → Qv (.ref p) H') :
    tLc (iStr (WE X e)) (WG (Blk X scope) tg) (WTs (Blk X scope) ifs) (WE (Blk X scope) elt) vs σ H Qv := by
  refine h.run B G H σ eB eG c w _ fun d v G1 H1 ⟨l, p, f, hd, hlen, ht, q⟩ s1 r1 => ?_
  subst hd
  refine ⟨_, Rep.str_iff.mp r1, fun Dl hD => ?_⟩
  refine lc_signs (x := ⟨l.toArray⟩) (fun n Hc => ∃ Gc acc, Stp G1 H1 Gc Hc ∧ Hc Dl = some (.lst acc) ∧ Gc Dl = none ∧ Reps K Gc (((l.take n).filter p).map f) acc) ⟨G1, [], Stp.own s1.i hD, upd_same, s1.i.free hD, Reps.nil⟩ ?_ ?_
  · rintro n ch Hc hx ⟨Gc, acc, s, h1, h2, h3⟩
    have hx' : l[n]? = some ch := by simpa using hx
    refine lc_turn hjs (ht _ (List.mem_of_getElem? hx')) (eB.trans s1.h) (c.mono s1) s hD h1 h2 h3 (Sca.str _).rep ?_ fun G' H' acc' s' k1 k2 k3 => ⟨G', acc', s', k1, k2, by rw [filter_snoc p f l n _ hx']; exact k3⟩
    rw [List.length_map]
    have := List.length_filter_le p (l.take n)
    rw [List.length_take] at this
    have h9 : (100000 : Nat) ≤ sizeLine := by decide
    omega
  · rintro Hc ⟨Gc, acc, s, h1, h2, h3⟩
    have e : (⟨l.toArray⟩ : Str).cps.size = l.length := by simp
    rw [e, List.take_length] at h3
    exact kk _ Dl acc Gc Hc q (s1.trans s) (s1.h.free hD) h2 h1 h3
/-- [elt for tg in a text if ..] -/
theorem en_s {N : List Str} {sc scope : Scope} {tg elt e : Expr} {ifs : List Expr} {Q : List DL.D → Prop} (own : List (Str × Nat)) (js : List Nat) (O : Ok X P w K mg base k E)
    (h : ev X K E e ρ (fun d => ∃ (l : List Nat) (p : Nat → Bool) (f : Nat → DL.D), d = .str ⟨l.toArray⟩ ∧ l.length < 100000 ∧ (∀ c ∈ l, TurnA X K scope tg elt ifs js (own.map (·.2)) ρ (p c) (f c) (.str ⟨#[c]⟩)) ∧ Q ((l.filter p).map f)) R)
    (hN : ∀ i, (X i).N = N := by first | exact blk_N fun _ => rfl | exact fun _ => rfl) (hS : ∀ i, (X i).env.scope = sc := by first | exact blk_S fun _ => rfl | exact fun _ => rfl) (hb : blkC N sc scope own = true := by decide +kernel) (hjs : ∀ j ∈ js, j ∈ own.map (·.2) := by simp)
    (hs : ∀ i x, foldedSetIterable e (X i).env x = pure x := by intro _ _; rfl) : evn X K E (.ListComp elt [⟨tg, e, ifs, 0⟩] scope pos) ρ Q R := ⟨fun B G H σ eB eG c w Qv kk =>
  ⟨_, fun i => pe_lc (X := X i) (pos := pos) (O.calm i) (O.nd i) (pi_str (tg := tg) (we_ok (e := e) i)) (by rw [hN i, hS i]; exact blkOk_by hb) (fun s H C cl fp => wg_ok (X := Blk X scope) (e := tg) (i, s, H, C, cl, fp)) (fun s H C cl fp => wts_ok (X := Blk X scope) (e := ifs) (i, s, H, C, cl, fp)) (fun s H C cl fp => we_ok (X := Blk X scope) (e := elt) (i, s, H, C, cl, fp)) (hs i), lc_readS hjs h eB eG c w Qv kk⟩⟩
end
end DL
namespace DL
open PySem PySem.Spec PyProof.Rows L2
section
variable {ι : Type} {X : ι → Cx} {P : Program} {w : World} {K : PySem.W.Frag} {mg : Str → Option Value} {base : Heap} {k : Nat} {E : XK} {ρ : Rho} {R : Er → Prop} {pos : Pos}
theorem ev_len {e : Expr} {p : Pos} {Q : D → Prop} {sc : Scope} (O : Ok X P w K mg base k E) (hm : mg "len" = none) (h : ev X K E e ρ (fun d => cad X K (.builtin "len") [d] Q) R) (hS : ∀ i, (X i).env.scope = sc := by first | exact blk_S fun _ => rfl | exact fun _ => rfl) (hg : decide (sc.names.lookup ("len" : Str) = some .globalImplicit) = true := by decide +kernel)
    (he : ∀ i, starEach (e :: []) (X i).env = (false, eval e (X i).env) :: starEach [] (X i).env := by intro _; rfl) : ev X K E (.Call (.Name "len" p) [e] [] pos) ρ Q R :=
  ev_callB (id := "len") (hv := bo_len) O hm (evs_cons ⟨fun B G H σ eB eG c w Qv kk => h.run B G H σ eB eG c w Qv fun d v G' H' q s r => kk d v G' H' (evs_nil q) s r⟩ he) (hg := fun i => gl_of i (hS i) hg) (he := he)
theorem ev_int1 {e : Expr} {p : Pos} {Q : D → Prop} {sc : Scope} (O : Ok X P w K mg base k E) (hm : mg "int" = none) (h : ev X K E e ρ (fun d => cad X K (.type "int") [d] Q) R) (hS : ∀ i, (X i).env.scope = sc := by first | exact blk_S fun _ => rfl | exact fun _ => rfl) (hg : decide (sc.names.lookup ("int" : Str) = some .globalImplicit) = true := by decide +kernel)
    (he : ∀ i, starEach (e :: []) (X i).env = (false, eval e (X i).env) :: starEach [] (X i).env := by intro _; rfl) : ev X K E (.Call (.Name "int" p) [e] [] pos) ρ Q R :=
  ev_callT (id := "int") (hv := bo_int) O hm (evs_cons ⟨fun B G H σ eB eG c w Qv kk => h.run B G H σ eB eG c w Qv fun d v G' H' q s r => kk d v G' H' (evs_nil q) s r⟩ he) (hg := fun i => gl_of i (hS i) hg) (he := he)
variable (X K E) in
structure nmg (x : Str) (pos : Pos) (ρ : Rho) (Q : D → Prop) (R : Er → Prop) : Prop where
  run : ev X K E (.Name x pos) ρ Q R
theorem ev_isn {x : Str} {Q : D → Prop} (h : nmg X K E x pos ρ Q R) : ev X K E (.Name x pos) ρ Q R := h.run
theorem ng {x : Str} {j : Nat} {d : D} {Q : D → Prop} {N : List Str} {sc : Scope} (hN : ∀ i, (X i).N = N) (hS : ∀ i, (X i).env.scope = sc) (hx : N[j]? = some x) (hv : visB sc x = true) (hd : (x == ("__debug__" : Str) || x == ("__classdict__" : Str)) = false) (h : ρ[j]? = some (.va d)) (q : Q d) : nmg X K E x pos ρ Q R :=
  ⟨ev_nm (hN := hN) (hS := hS) (hx := hx) (hv := hv) (hd := hd) h q⟩
variable (X K E) in
structure nmh (N : List Str) (x : Str) (pos : Pos) (ρ : Rho) (Q : D → Prop) (R : Er → Prop) : Prop where
  run : ev X K E (.Name x pos) ρ Q R
theorem nh {x : Str} {Q : D → Prop} {N : List Str} {sc : Scope} (hN : ∀ i, (X i).N = N) (hS : ∀ i, (X i).env.scope = sc) (hv : (visB sc x && !(x == ("__debug__" : Str) || x == ("__classdict__" : Str))) = true) (h : (∀ i, (X i).N = N) → (∀ i, (X i).env.scope = sc) → visB sc x = true → (x == ("__debug__" : Str) || x == ("__classdict__" : Str)) = false → nmh X K E N x pos ρ Q R) : ev X K E (.Name x pos) ρ Q R := by
  have h2 := Bool.and_eq_true_iff.mp hv
  exact (h hN hS h2.1 (by simpa using h2.2)).run
theorem ni {x : Str} (j : Nat) {d : D} {Q : D → Prop} {N : List Str} {sc : Scope} (hN : ∀ i, (X i).N = N) (hS : ∀ i, (X i).env.scope = sc) (hv : visB sc x = true) (hd : (x == ("__debug__" : Str) || x == ("__classdict__" : Str)) = false) (hx : N[j]? = some x) (h : ρ[j]? = some (.va d)) (q : Q d) : nmh X K E N x pos ρ Q R :=
  ⟨ev_nm (hN := hN) (hS := hS) (hx := hx) (hv := hv) (hd := hd) h q⟩
end
end DL
namespace DL
open PySem PySem.Spec PyProof.Rows L2
theorem fold_signs (c : Nat) : ∀ (n : Nat) (acc : Array Nat), (List.replicate n (#[c] : Array Nat)).foldl (· ++ ·) acc = acc ++ (List.replicate n c).toArray
  | 0, acc => by simp
  | n + 1, acc => by
    rw [List.replicate_succ, List.foldl_cons, fold_signs c n, List.replicate_succ]
    apply Array.ext'
    simp
theorem op_mulT {X : Cx} : OpR X (binaryOp .Mult) (fun x y H Q => ∃ (c n : Nat), x = .str ⟨#[c]⟩ ∧ y = .int n ∧ n ≤ 1000 ∧ Q (.str ⟨(List.replicate n c).toArray⟩) H) := by
  intro pins s σ H x y v u Q I rx ry h
  obtain ⟨c, n, rfl, rfl, hn, q⟩ := h
  obtain ⟨t, rfl⟩ := rx
  obtain ⟨t', rfl⟩ := ry
  have hl : (⟨#[c]⟩ : Str).length = 1 := rfl
  have hsz : sizeLine = 16777216 := sizeLine_eq
  refine P.mul_str ?_ (fun h1 h2 => ?_) (fun h1 h2 => ?_) ?_
  · rw [decide_eq_false (by omega), decide_eq_false (by omega)]; rfl
  · rw [hl]
    have h3 : (1 : Int) ≤ n := by omega
    have : (n : Int) ≤ (2 ^ 63 - 1) / (n : Int) := by
      refine Int.le_ediv_of_mul_le (by omega) ?_
      have : (n : Int) * n ≤ 1000 * 1000 := Int.mul_le_mul (by omega) (by omega) (by omega) (by omega)
      omega
    show ¬ ((1 : Int) > _)
    omega
  · rw [hl]
    unfold Builtin.Str.tooLong
    simp
    omega
  · by_cases h1 : (n : Int) < 1
    · rw [if_pos h1]
      have e : n = 0 := by omega
      subst e
      exact ⟨by decide, .str _, H, I.tok _, ⟨_, rfl⟩, q⟩
    · rw [if_neg h1]
      by_cases h2 : ((n : Int) == 1 || (⟨#[c]⟩ : Str).length == 0) = true
      · rw [if_pos h2]
        have e : n = 1 := by
          rw [hl] at h2
          simp at h2
          omega
        subst e
        exact ⟨.str _, H, I, ⟨_, rfl⟩, q⟩
      · rw [if_neg h2]
        have e : (List.replicate (n : Int).toNat (⟨#[c]⟩ : Str).cps).foldl (· ++ ·) #[] = (List.replicate n c).toArray := by
          rw [Int.toNat_natCast]
          have := fold_signs c n #[]
          simpa using this
        rw [e]
        refine ⟨?_, .str _, H, I.tok _, ⟨_, rfl⟩, q⟩
        show (List.replicate n c).toArray.size ≤ _
        simp
        omega
section
variable {ι : Type} {X : ι → Cx} {P : Program} {w : World} {K : PySem.W.Frag} {mg : Str → Option Value} {base : Heap} {k : Nat} {E : XK} {ρ : Rho} {R : Er → Prop} {pos : Pos}
theorem b_mulT {c n : Nat} {Q : D → Prop} (hn : n ≤ 1000) (q : Q (.str ⟨(List.replicate n c).toArray⟩)) : opb X K .Mult (.str ⟨#[c]⟩) (.int n) Q :=
  ⟨opd_sca (.str _) (.int _) (.str _) (fun _ => op_mulT) (fun H Qv z => ⟨c, n, rfl, rfl, hn, z⟩) q⟩
end
end DL
namespace DL
open PySem PySem.Spec PyProof.Rows L2
/-- the names and the scope of the contexts -/
class Cn {ι : Type} (X : ι → Cx) (N : outParam (List Str)) (sc : outParam Scope) : Prop where
  hN : ∀ i, (X i).N = N
  hS : ∀ i, (X i).env.scope = sc
instance cn_body {P : Program} {w : World} {K : PySem.W.Frag} {mg : Str → Option Value} {base : Heap} {N : List Str} {qual : Str} {scope : Scope} {f : Addr} {cd : Value} {A : Around} {outer : List Env} {s : Shared} {H : Hp} {E : XK} : Cn (body1 P w K mg base N qual scope f cd A outer s H E) N scope := ⟨fun _ => rfl, fun _ => rfl⟩
instance cn_blk {ι : Type} {X : ι → Cx} {N : List Str} {sc scope : Scope} [c : Cn X N sc] : Cn (Blk X scope) N (rlk scope sc) := ⟨blk_N c.hN, blk_S c.hS⟩
section
variable {ι : Type} {X : ι → Cx} {P : Program} {w : World} {K : PySem.W.Frag} {mg : Str → Option Value} {base : Heap} {k : Nat} {E : XK} {ρ : Rho} {R : Er → Prop} {pos : Pos} {N : List Str} {sc : Scope}
variable (X K E) in
structure nmk (N : List Str) (sc : Scope) (x : Str) (pos : Pos) (ρ : Rho) (Q : D → Prop) (R : Er → Prop) : Prop where
  run : ev X K E (.Name x pos) ρ Q R
theorem nk [c : Cn X N sc] {x : Str} {Q : D → Prop} (h : nmk X K E N sc x pos ρ Q R) : ev X K E (.Name x pos) ρ Q R := h.run
def nokB (N : List Str) (sc : Scope) (x : Str) (j : Nat) : Bool := decide (N[j]? = some x) && (visB sc x && !(x == ("__debug__" : Str) || x == ("__classdict__" : Str)))
theorem nl [c : Cn X N sc] {x : Str} (j : Nat) {d : D} {Q : D → Prop} (hx : nokB N sc x j = true) (h : ρ[j]? = some (.va d)) (q : Q d) : nmk X K E N sc x pos ρ Q R := by
  have h1 := Bool.and_eq_true_iff.mp hx
  have h2 := Bool.and_eq_true_iff.mp h1.2
  exact ⟨ev_nm (hN := c.hN) (hS := c.hS) (hx := of_decide_eq_true h1.1) (hv := h2.1) (hd := by simpa using h2.2) h q⟩
variable (X K E) in
structure sts (N : List Str) (sc : Scope) (x : Str) (p : Pos) (e : Expr) (pos : Pos) (ρ : Rho) (D : DE) (R : Er → Prop) : Prop where
  run : st1 X K E (.Assign [.Name x p] e pos) ρ D R
theorem sk [c : Cn X N sc] {x : Str} {p : Pos} {e : Expr} {D : DE} (h : sts X K E N sc x p e pos ρ D R) : st1 X K E (.Assign [.Name x p] e pos) ρ D R := h.run
def sokB (N : List Str) (sc : Scope) (x : Str) (j : Nat) : Bool := decide (N[j]? = some x) && (locB sc x || celB sc x)
theorem sl [c : Cn X N sc] {x : Str} {p : Pos} {e : Expr} {D : DE} (j : Nat) (O : Ok X P w K mg base k E) (hx : sokB N sc x j = true) (h : ev X K E e ρ (fun d => D.nx (ρ.set j (.va d))) R) (hs : ∀ i, swapsWith e (some (.Name x p)) pos.line (X i).env = pure false := by intro _; rfl) (hf : ∀ i, (X i).fn x = true := by intro _; rfl) : sts X K E N sc x p e pos ρ D R := by
  have h1 := Bool.and_eq_true_iff.mp hx
  exact ⟨s_st (hN := c.hN) (hS := c.hS) (hx := of_decide_eq_true h1.1) (hv := h1.2) O h hs hf⟩
theorem ev_lenC [c : Cn X N sc] {e : Expr} {p : Pos} {Q : D → Prop} (O : Ok X P w K mg base k E) (hm : mg "len" = none) (hg : decide (sc.names.lookup ("len" : Str) = some .globalImplicit) = true) (h : ev X K E e ρ (fun d => cad X K (.builtin "len") [d] Q) R)
    (he : ∀ i, starEach (e :: []) (X i).env = (false, eval e (X i).env) :: starEach [] (X i).env := by intro _; rfl) : ev X K E (.Call (.Name "len" p) [e] [] pos) ρ Q R := ev_len O hm h c.hS hg he
theorem ev_intC [c : Cn X N sc] {e : Expr} {p : Pos} {Q : D → Prop} (O : Ok X P w K mg base k E) (hm : mg "int" = none) (hg : decide (sc.names.lookup ("int" : Str) = some .globalImplicit) = true) (h : ev X K E e ρ (fun d => cad X K (.type "int") [d] Q) R)
    (he : ∀ i, starEach (e :: []) (X i).env = (false, eval e (X i).env) :: starEach [] (X i).env := by intro _; rfl) : ev X K E (.Call (.Name "int" p) [e] [] pos) ρ Q R := ev_int1 O hm h c.hS hg he
end
end DL
namespace DL
open PySem PySem.Spec PyProof.Rows L2
theorem rgV_nat (n : Nat) : rgV 0 n = (List.range n).map fun (i : Nat) => V.int i := by
  unfold rgV
  have e : ((n : Int) - 0).toNat = n := by omega
  rw [e]
  refine List.map_congr_left fun i _ => ?_
  rw [Int.zero_add]
/-- an environment without slots of one's own does not look at the heap -/
theorem EnvR.plain {K : PySem.W.Frag} {B G H B' H' : Hp} {σ : L2.St} {ρ : Rho} (x : EnvR K B G H σ ρ) (no : ∀ (i : Nat) ds, ρ[i]? ≠ some (.ow ds)) (ng : ∀ (i : Nat) g, ρ[i]? ≠ some (.gu g)) : EnvR K B' G H' σ ρ :=
  ⟨x.len, x.va, fun i ds h => absurd h (no i ds), fun i _ ds _ _ h _ => absurd h (no i ds), ⟨fun _ => (default, default), fun i g h => absurd h (ng i g), fun i _ g _ _ h _ => absurd h (ng i g)⟩⟩
section
variable {ι : Type} {X : ι → Cx} {P : Program} {w : World} {K : PySem.W.Frag} {mg : Str → Option Value} {base : Heap} {k : Nat} {E : XK} {ρ : Rho} {R : Er → Prop} {pos : Pos}
/-- list(range(e)) -/
theorem evn_lrg {e : Expr} {p p1 p2 : Pos} {Q : List D → Prop} (O : Ok X P w K mg base k E) (hl : mg "list" = none) (hr : mg "range" = none) (h : ev X K E e ρ (fun d => ∃ n : Nat, d = .int n ∧ n ≤ 10000 ∧ Q ((List.range n).map fun (i : Nat) => D.int i)) R)
    (hg1 : ∀ i, Gl (X i) "list" := by intro _; rfl) (hg2 : ∀ i, Gl (X i) "range" := by intro _; rfl) (na : ∀ i, starEach [e] (X i).env = (false, eval e (X i).env) :: starEach [] (X i).env := by intro _; rfl)
    (nb : ∀ i, starEach [.Call (.Name "range" p1) [e] [] p2] (X i).env = (false, eval (.Call (.Name "range" p1) [e] [] p2) (X i).env) :: starEach [] (X i).env := by intro _; rfl) : evn X K E (.Call (.Name "list" p) [.Call (.Name "range" p1) [e] [] p2] [] pos) ρ Q R := ⟨fun B G H σ eB eG c w Qv kk =>
  ⟨_, fun i => pe_listRg (O.calm i) (hg1 i) (by rw [O.mg i]; exact hl) (prg_1 (hg2 i) (by rw [O.mg i]; exact hr) (we_ok (e := e) i) (na i)) (nb i), h.run B G H σ eB eG c w _ fun d v G1 H1 ⟨n, hd, hn, q⟩ s1 r1 => by
    subst hd
    refine ⟨(n : Int), Rep.int_iff.mp r1, RgOk.of_le (by omega) (by omega) (by omega) (by omega), fun p hp => ?_⟩
    rw [rgV_nat]
    exact kk _ p _ G1 _ q (s1.trans (Stp.own s1.i hp)) (s1.h.free hp) (s1.i.free hp) upd_same (Reps.of_scas (sca_map (fun (n : Nat) => D.int n) (fun (n : Nat) => V.int n) (fun n => Sca.int n) (List.range n)))⟩⟩
/-- self.f = e, read off: self at a, not data, its heap's other objects kept -/
theorem fld_read {x f : Str} {j : Nat} {e : Expr} {p0 p1 : Pos} {N : List Str} {sc : Scope} [cn : Cn X N sc] (O : Ok X P w K mg base k E) (hx : nokB N sc x j = true) {B G H : Hp} {σ : L2.St} {Dv : Ends} {a C dx : Addr} {fs : List (Str × V)} {Q : D → Prop} (h : ev X K E e ρ Q R)
    (eB : Ex B H) (eG : Ex G H) (c : EnvR K B G H σ ρ) (wi : Wish K B E R) (hσ : σ[j]? = some (some (.ref a))) (ha : H a = some (.ins C dx fs)) (cl : Cls K C) (na : NoAttr K C f) (hl : fs.length < 1000)
    (kk : ∀ d v G' H', Q d → Stp G H G' H' → Rep K G' d v → Dv.nx σ (upd H' a (.ins C dx (putF f v fs)))) (hs : ∀ i, swapsWith e (some (.Attribute (.Name x p0) f p1)) pos.line (X i).env = pure false := by intro _; rfl) :
    WS X (.Assign [.Attribute (.Name x p0) f p1] e pos) Dv σ H := by
  have a1 := Bool.and_eq_true_iff.mp hx
  have a2 := Bool.and_eq_true_iff.mp a1.2
  have hd := Bool.or_eq_false_iff.mp (show (x == ("__debug__" : Str) || x == ("__classdict__" : Str)) = false by simpa using a2.2)
  have hv : ∀ i, Vis (X i).env.scope x := fun i => by
    rw [cn.hS i]
    have hv := a2.1
    unfold visB at hv
    simp only [Bool.or_eq_true, decide_eq_true_eq] at hv
    rcases hv with (h | h) | h
    · exact .inl h
    · exact .inr (.inl h)
    · exact .inr (.inr h)
  refine ⟨sFld K (tVar j) (WE X e) f, fun i => by
    have z := ps_fld (X := X i) (f := f) (pos := pos) (pos' := p1) (pe_var (pos := p0) (by rw [cn.hN i]; exact of_decide_eq_true a1.1) (hv i) hd.1 hd.2) (we_ok (e := e) i) (hs i)
    rw [O.K i] at z
    exact z, h.run B G H σ eB eG c wi _ fun d v G' H' q s r => ?_⟩
  exact ⟨.ref a, hσ, a, C, dx, fs, rfl, s.h _ _ ha, cl, na, hl, kk d v G' H' q s r⟩
end
end DL
namespace CL
open PySem PySem.Spec PyProof.Rows L2 DL
/-! ### the names of the defs -/
def c_other_side : Scope := { kind := .function, names := [(PySem.Str.ofString "side", NameKind.local)], isGenerator := false, isCoroutine := false, more := (defScope (tp 17)).more }
theorem e_other_side : defScope (tp 17) = c_other_side := by rfl
abbrev n_other_side : List Str := ["side"]
abbrev p_other_side : List Str := ["side"]
theorem s_other_side : FnScope n_other_side p_other_side c_other_side := ⟨rfl, rfl, rfl, by decide +kernel, rfl, by decide +kernel, by decide +kernel⟩
abbrev F_other_side (K : PySem.W.Frag) (f : Addr) (fd : FuncData) : Prop := FunD K "other_side" "other_side" (defArgs (tp 17)) (defBody (tp 17)) c_other_side [] [] f fd
def c_check_hands : Scope := { kind := .function, names := [(PySem.Str.ofString "mine", NameKind.local), (PySem.Str.ofString "theirs", NameKind.local), (PySem.Str.ofString "len", NameKind.globalImplicit), (PySem.Str.ofString "BadHands", NameKind.globalImplicit)], isGenerator := false, isCoroutine := false, more := (defScope (tp 18)).more }
theorem e_check_hands : defScope (tp 18) = c_check_hands := by rfl
abbrev n_check_hands : List Str := ["mine", "theirs"]
abbrev p_check_hands : List Str := ["mine", "theirs"]
theorem s_check_hands : FnScope n_check_hands p_check_hands c_check_hands := ⟨rfl, rfl, rfl, by decide +kernel, rfl, by decide +kernel, by decide +kernel⟩
abbrev F_check_hands (K : PySem.W.Frag) (f : Addr) (fd : FuncData) : Prop := FunD K "check_hands" "check_hands" (defArgs (tp 18)) (defBody (tp 18)) c_check_hands [] [] f fd
def c_check_card : Scope := { kind := .function, names := [(PySem.Str.ofString "side", NameKind.local), (PySem.Str.ofString "index", NameKind.local), (PySem.Str.ofString "hand", NameKind.local), (PySem.Str.ofString "len", NameKind.globalImplicit), (PySem.Str.ofString "BadCard", NameKind.globalImplicit)], isGenerator := false, isCoroutine := false, more := (defScope (tp 19)).more }
theorem e_check_card : defScope (tp 19) = c_check_card := by rfl
abbrev n_check_card : List Str := ["side", "index", "hand"]
abbrev p_check_card : List Str := ["side", "index", "hand"]
theorem s_check_card : FnScope n_check_card p_check_card c_check_card := ⟨rfl, rfl, rfl, by decide +kernel, rfl, by decide +kernel, by decide +kernel⟩
abbrev F_check_card (K : PySem.W.Frag) (f : Addr) (fd : FuncData) : Prop := FunD K "check_card" "check_card" (defArgs (tp 19)) (defBody (tp 19)) c_check_card [] [] f fd
def c_check_letters : Scope := { kind := .function, names := [(PySem.Str.ofString "word", NameKind.local), (PySem.Str.ofString "most", NameKind.local), (PySem.Str.ofString "position", NameKind.local), (PySem.Str.ofString "range", NameKind.globalImplicit), (PySem.Str.ofString "len", NameKind.globalImplicit), (PySem.Str.ofString "BadWord", NameKind.globalImplicit)], isGenerator := false, isCoroutine := false, more := (defScope (tp 20)).more }
theorem e_check_letters : defScope (tp 20) = c_check_letters := by rfl
abbrev n_check_letters : List Str := ["word", "most", "position"]
abbrev p_check_letters : List Str := ["word", "most"]
theorem s_check_letters : FnScope n_check_letters p_check_letters c_check_letters := ⟨rfl, rfl, rfl, by decide +kernel, rfl, by decide +kernel, by decide +kernel⟩
abbrev F_check_letters (K : PySem.W.Frag) (f : Addr) (fd : FuncData) : Prop := FunD K "check_letters" "check_letters" (defArgs (tp 20)) (defBody (tp 20)) c_check_letters [] [] f fd
def c_check_word : Scope := { kind := .function, names := [(PySem.Str.ofString "word", NameKind.local), (PySem.Str.ofString "count", NameKind.local), (PySem.Str.ofString "check_letters", NameKind.globalImplicit), (PySem.Str.ofString "len", NameKind.globalImplicit), (PySem.Str.ofString "BadWord", NameKind.globalImplicit)], isGenerator := false, isCoroutine := false, more := (defScope (tp 21)).more }
theorem e_check_word : defScope (tp 21) = c_check_word := by rfl
abbrev n_check_word : List Str := ["word", "count"]
abbrev p_check_word : List Str := ["word", "count"]
theorem s_check_word : FnScope n_check_word p_check_word c_check_word := ⟨rfl, rfl, rfl, by decide +kernel, rfl, by decide +kernel, by decide +kernel⟩
abbrev F_check_word (K : PySem.W.Frag) (f : Addr) (fd : FuncData) : Prop := FunD K "check_word" "check_word" (defArgs (tp 21)) (defBody (tp 21)) c_check_word [] [] f fd
def c_chosen : Scope := { kind := .function, names := [(PySem.Str.ofString "hand", NameKind.cell), (PySem.Str.ofString "indexes", NameKind.local)], isGenerator := false, isCoroutine := false, more := (defScope (tp 22)).more }
theorem e_chosen : defScope (tp 22) = c_chosen := by rfl
abbrev n_chosen : List Str := ["hand", "indexes", "index"]
abbrev p_chosen : List Str := ["hand", "indexes"]
theorem s_chosen : FnScope n_chosen p_chosen c_chosen := ⟨rfl, rfl, rfl, by decide +kernel, rfl, by decide +kernel, by decide +kernel⟩
abbrev F_chosen (K : PySem.W.Frag) (f : Addr) (fd : FuncData) : Prop := FunD K "chosen" "chosen" (defArgs (tp 22)) (defBody (tp 22)) c_chosen [] [] f fd
def c_without : Scope := { kind := .function, names := [(PySem.Str.ofString "values", NameKind.local), (PySem.Str.ofString "value", NameKind.local), (PySem.Str.ofString "kept", NameKind.local), (PySem.Str.ofString "found", NameKind.local), (PySem.Str.ofString "entry", NameKind.local)], isGenerator := false, isCoroutine := false, more := (defScope (tp 23)).more }
theorem e_without : defScope (tp 23) = c_without := by rfl
abbrev n_without : List Str := ["values", "value", "kept", "found", "entry"]
abbrev p_without : List Str := ["values", "value"]
theorem s_without : FnScope n_without p_without c_without := ⟨rfl, rfl, rfl, by decide +kernel, rfl, by decide +kernel, by decide +kernel⟩
abbrev F_without (K : PySem.W.Frag) (f : Addr) (fd : FuncData) : Prop := FunD K "without" "without" (defArgs (tp 23)) (defBody (tp 23)) c_without [] [] f fd
def c_lays_before_last : Scope := { kind := .function, names := [(PySem.Str.ofString "word", NameKind.local), (PySem.Str.ofString "early", NameKind.local)], isGenerator := false, isCoroutine := false, more := (defScope (tp 24)).more }
theorem e_lays_before_last : defScope (tp 24) = c_lays_before_last := by rfl
abbrev n_lays_before_last : List Str := ["word", "early"]
abbrev p_lays_before_last : List Str := ["word"]
theorem s_lays_before_last : FnScope n_lays_before_last p_lays_before_last c_lays_before_last := ⟨rfl, rfl, rfl, by decide +kernel, rfl, by decide +kernel, by decide +kernel⟩
abbrev F_lays_before_last (K : PySem.W.Frag) (f : Addr) (fd : FuncData) : Prop := FunD K "lays_before_last" "lays_before_last" (defArgs (tp 24)) (defBody (tp 24)) c_lays_before_last [] [] f fd
def c_wins : Scope := { kind := .function, names := [(PySem.Str.ofString "my_number", NameKind.local), (PySem.Str.ofString "their_number", NameKind.local)], isGenerator := false, isCoroutine := false, more := (defScope (tp 27)).more }
theorem e_wins : defScope (tp 27) = c_wins := by rfl
abbrev n_wins : List Str := ["my_number", "their_number"]
abbrev p_wins : List Str := ["my_number", "their_number"]
theorem s_wins : FnScope n_wins p_wins c_wins := ⟨rfl, rfl, rfl, by decide +kernel, rfl, by decide +kernel, by decide +kernel⟩
abbrev F_wins (K : PySem.W.Frag) (f : Addr) (fd : FuncData) : Prop := FunD K "wins" "wins" (defArgs (tp 27)) (defBody (tp 27)) c_wins [] [] f fd
def c_hand_of : Scope := { kind := .function, names := [(PySem.Str.ofString "mine", NameKind.local), (PySem.Str.ofString "theirs", NameKind.local), (PySem.Str.ofString "side", NameKind.local)], isGenerator := false, isCoroutine := false, more := (defScope (tp 28)).more }
theorem e_hand_of : defScope (tp 28) = c_hand_of := by rfl
abbrev n_hand_of : List Str := ["mine", "theirs", "side"]
abbrev p_hand_of : List Str := ["mine", "theirs", "side"]
theorem s_hand_of : FnScope n_hand_of p_hand_of c_hand_of := ⟨rfl, rfl, rfl, by decide +kernel, rfl, by decide +kernel, by decide +kernel⟩
abbrev F_hand_of (K : PySem.W.Frag) (f : Addr) (fd : FuncData) : Prop := FunD K "hand_of" "hand_of" (defArgs (tp 28)) (defBody (tp 28)) c_hand_of [] [] f fd
def c_deck : Scope := { kind := .function, names := [(PySem.Str.ofString "mine", NameKind.local), (PySem.Str.ofString "theirs", NameKind.cell), (PySem.Str.ofString "index", NameKind.local), (PySem.Str.ofString "cards", NameKind.local), (PySem.Str.ofString "range", NameKind.globalImplicit), (PySem.Str.ofString "len", NameKind.globalImplicit), (PySem.Str.ofString "sorted", NameKind.globalImplicit)], isGenerator := false, isCoroutine := false, more := (defScope (tp 29)).more }
theorem e_deck : defScope (tp 29) = c_deck := by rfl
abbrev n_deck : List Str := ["mine", "theirs", "cards", "index", "card"]
abbrev p_deck : List Str := ["mine", "theirs"]
theorem s_deck : FnScope n_deck p_deck c_deck := ⟨rfl, rfl, rfl, by decide +kernel, rfl, by decide +kernel, by decide +kernel⟩
abbrev F_deck (K : PySem.W.Frag) (f : Addr) (fd : FuncData) : Prop := FunD K "deck" "deck" (defArgs (tp 29)) (defBody (tp 29)) c_deck [] [] f fd
def c_around : Scope := { kind := .function, names := [(PySem.Str.ofString "mine", NameKind.local), (PySem.Str.ofString "theirs", NameKind.local), (PySem.Str.ofString "side", NameKind.cell), (PySem.Str.ofString "index", NameKind.local), (PySem.Str.ofString "down", NameKind.local), (PySem.Str.ofString "order", NameKind.local), (PySem.Str.ofString "place", NameKind.local), (PySem.Str.ofString "met", NameKind.local), (PySem.Str.ofString "check_card", NameKind.globalImplicit), (PySem.Str.ofString "hand_of", NameKind.globalImplicit), (PySem.Str.ofString "deck", NameKind.globalImplicit)], isGenerator := false, isCoroutine := false, more := (defScope (tp 30)).more }
theorem e_around : defScope (tp 30) = c_around := by rfl
abbrev n_around : List Str := ["mine", "theirs", "side", "index", "down", "order", "place", "met", "card"]
abbrev p_around : List Str := ["mine", "theirs", "side", "index", "down"]
theorem s_around : FnScope n_around p_around c_around := ⟨rfl, rfl, rfl, by decide +kernel, rfl, by decide +kernel, by decide +kernel⟩
abbrev F_around (K : PySem.W.Frag) (f : Addr) (fd : FuncData) : Prop := FunD K "around" "around" (defArgs (tp 30)) (defBody (tp 30)) c_around [] [] f fd
def c_next_up : Scope := { kind := .function, names := [(PySem.Str.ofString "mine", NameKind.local), (PySem.Str.ofString "theirs", NameKind.local), (PySem.Str.ofString "side", NameKind.local), (PySem.Str.ofString "index", NameKind.local), (PySem.Str.ofString "above", NameKind.local), (PySem.Str.ofString "around", NameKind.globalImplicit), (PySem.Str.ofString "len", NameKind.globalImplicit), (PySem.Str.ofString "BadHands", NameKind.globalImplicit)], isGenerator := false, isCoroutine := false, more := (defScope (tp 31)).more }
theorem e_next_up : defScope (tp 31) = c_next_up := by rfl
abbrev n_next_up : List Str := ["mine", "theirs", "side", "index", "above"]
abbrev p_next_up : List Str := ["mine", "theirs", "side", "index"]
theorem s_next_up : FnScope n_next_up p_next_up c_next_up := ⟨rfl, rfl, rfl, by decide +kernel, rfl, by decide +kernel, by decide +kernel⟩
abbrev F_next_up (K : PySem.W.Frag) (f : Addr) (fd : FuncData) : Prop := FunD K "next_up" "next_up" (defArgs (tp 31)) (defBody (tp 31)) c_next_up [] [] f fd
def c_next_down : Scope := { kind := .function, names := [(PySem.Str.ofString "mine", NameKind.local), (PySem.Str.ofString "theirs", NameKind.local), (PySem.Str.ofString "side", NameKind.local), (PySem.Str.ofString "index", NameKind.local), (PySem.Str.ofString "below", NameKind.local), (PySem.Str.ofString "around", NameKind.globalImplicit), (PySem.Str.ofString "len", NameKind.globalImplicit), (PySem.Str.ofString "BadHands", NameKind.globalImplicit)], isGenerator := false, isCoroutine := false, more := (defScope (tp 32)).more }
theorem e_next_down : defScope (tp 32) = c_next_down := by rfl
abbrev n_next_down : List Str := ["mine", "theirs", "side", "index", "below"]
abbrev p_next_down : List Str := ["mine", "theirs", "side", "index"]
theorem s_next_down : FnScope n_next_down p_next_down c_next_down := ⟨rfl, rfl, rfl, by decide +kernel, rfl, by decide +kernel, by decide +kernel⟩
abbrev F_next_down (K : PySem.W.Frag) (f : Addr) (fd : FuncData) : Prop := FunD K "next_down" "next_down" (defArgs (tp 32)) (defBody (tp 32)) c_next_down [] [] f fd
def c_heights : Scope := { kind := .function, names := [(PySem.Str.ofString "mine", NameKind.local), (PySem.Str.ofString "theirs", NameKind.local), (PySem.Str.ofString "height", NameKind.local), (PySem.Str.ofString "walk", NameKind.local), (PySem.Str.ofString "card", NameKind.local), (PySem.Str.ofString "check_hands", NameKind.globalImplicit), (PySem.Str.ofString "deck", NameKind.globalImplicit)], isGenerator := false, isCoroutine := false, more := (defScope (tp 34)).more }
theorem e_heights : defScope (tp 34) = c_heights := by rfl
abbrev n_heights : List Str := ["mine", "theirs", "height", "walk", "card"]
abbrev p_heights : List Str := ["mine", "theirs"]
theorem s_heights : FnScope n_heights p_heights c_heights := ⟨rfl, rfl, rfl, by decide +kernel, rfl, by decide +kernel, by decide +kernel⟩
abbrev F_heights (K : PySem.W.Frag) (f : Addr) (fd : FuncData) : Prop := FunD K "heights" "heights" (defArgs (tp 34)) (defBody (tp 34)) c_heights [] [] f fd
def c_side_levels : Scope := { kind := .function, names := [(PySem.Str.ofString "mine", NameKind.local), (PySem.Str.ofString "theirs", NameKind.local), (PySem.Str.ofString "side", NameKind.local), (PySem.Str.ofString "walk", NameKind.local), (PySem.Str.ofString "found", NameKind.local), (PySem.Str.ofString "place", NameKind.local), (PySem.Str.ofString "owner", NameKind.local), (PySem.Str.ofString "index", NameKind.local), (PySem.Str.ofString "heights", NameKind.globalImplicit), (PySem.Str.ofString "len", NameKind.globalImplicit), (PySem.Str.ofString "enumerate", NameKind.globalImplicit), (PySem.Str.ofString "deck", NameKind.globalImplicit), (PySem.Str.ofString "int", NameKind.globalImplicit)], isGenerator := false, isCoroutine := false, more := (defScope (tp 36)).more }
theorem e_side_levels : defScope (tp 36) = c_side_levels := by rfl
abbrev n_side_levels : List Str := ["mine", "theirs", "side", "walk", "found", "place", "owner", "index"]
abbrev p_side_levels : List Str := ["mine", "theirs", "side"]
theorem s_side_levels : FnScope n_side_levels p_side_levels c_side_levels := ⟨rfl, rfl, rfl, by decide +kernel, rfl, by decide +kernel, by decide +kernel⟩
abbrev F_side_levels (K : PySem.W.Frag) (f : Addr) (fd : FuncData) : Prop := FunD K "side_levels" "side_levels" (defArgs (tp 36)) (defBody (tp 36)) c_side_levels [] [] f fd
def c_row_of : Scope := { kind := .function, names := [(PySem.Str.ofString "mine", NameKind.local), (PySem.Str.ofString "theirs", NameKind.local), (PySem.Str.ofString "sorted", NameKind.globalImplicit), (PySem.Str.ofString "side_levels", NameKind.globalImplicit)], isGenerator := false, isCoroutine := false, more := (defScope (tp 37)).more }
theorem e_row_of : defScope (tp 37) = c_row_of := by rfl
abbrev n_row_of : List Str := ["mine", "theirs"]
abbrev p_row_of : List Str := ["mine", "theirs"]
theorem s_row_of : FnScope n_row_of p_row_of c_row_of := ⟨rfl, rfl, rfl, by decide +kernel, rfl, by decide +kernel, by decide +kernel⟩
abbrev F_row_of (K : PySem.W.Frag) (f : Addr) (fd : FuncData) : Prop := FunD K "row_of" "row_of" (defArgs (tp 37)) (defBody (tp 37)) c_row_of [] [] f fd
def c_entry_value : Scope := { kind := .function, names := [(PySem.Str.ofString "row", NameKind.local), (PySem.Str.ofString "early", NameKind.local), (PySem.Str.ofString "late", NameKind.local)], isGenerator := false, isCoroutine := false, more := (defScope (tp 39)).more }
theorem e_entry_value : defScope (tp 39) = c_entry_value := by rfl
abbrev n_entry_value : List Str := ["row", "early", "late"]
abbrev p_entry_value : List Str := ["row", "early", "late"]
theorem s_entry_value : FnScope n_entry_value p_entry_value c_entry_value := ⟨rfl, rfl, rfl, by decide +kernel, rfl, by decide +kernel, by decide +kernel⟩
abbrev F_entry_value (K : PySem.W.Frag) (f : Addr) (fd : FuncData) : Prop := FunD K "entry_value" "entry_value" (defArgs (tp 39)) (defBody (tp 39)) c_entry_value [] [] f fd
def c_value : Scope := { kind := .function, names := [(PySem.Str.ofString "row", NameKind.local), (PySem.Str.ofString "word", NameKind.local), (PySem.Str.ofString "many", NameKind.local), (PySem.Str.ofString "mine_lays", NameKind.local), (PySem.Str.ofString "their_lays", NameKind.local), (PySem.Str.ofString "check_word", NameKind.globalImplicit), (PySem.Str.ofString "len", NameKind.globalImplicit), (PySem.Str.ofString "lays_before_last", NameKind.globalImplicit), (PySem.Str.ofString "entry_value", NameKind.globalImplicit)], isGenerator := false, isCoroutine := false, more := (defScope (tp 40)).more }
theorem e_value : defScope (tp 40) = c_value := by rfl
abbrev n_value : List Str := ["row", "word", "many", "mine_lays", "their_lays"]
abbrev p_value : List Str := ["row", "word", "many"]
theorem s_value : FnScope n_value p_value c_value := ⟨rfl, rfl, rfl, by decide +kernel, rfl, by decide +kernel, by decide +kernel⟩
abbrev F_value (K : PySem.W.Frag) (f : Addr) (fd : FuncData) : Prop := FunD K "value" "value" (defArgs (tp 40)) (defBody (tp 40)) c_value [] [] f fd
def c_value_of : Scope := { kind := .function, names := [(PySem.Str.ofString "mine", NameKind.local), (PySem.Str.ofString "theirs", NameKind.local), (PySem.Str.ofString "word", NameKind.local), (PySem.Str.ofString "many", NameKind.local), (PySem.Str.ofString "value", NameKind.globalImplicit), (PySem.Str.ofString "row_of", NameKind.globalImplicit)], isGenerator := false, isCoroutine := false, more := (defScope (tp 41)).more }
theorem e_value_of : defScope (tp 41) = c_value_of := by rfl
abbrev n_value_of : List Str := ["mine", "theirs", "word", "many"]
abbrev p_value_of : List Str := ["mine", "theirs", "word", "many"]
theorem s_value_of : FnScope n_value_of p_value_of c_value_of := ⟨rfl, rfl, rfl, by decide +kernel, rfl, by decide +kernel, by decide +kernel⟩
abbrev F_value_of (K : PySem.W.Frag) (f : Addr) (fd : FuncData) : Prop := FunD K "value_of" "value_of" (defArgs (tp 41)) (defBody (tp 41)) c_value_of [] [] f fd
def c_plan_lay : Scope := { kind := .function, names := [(PySem.Str.ofString "mine", NameKind.local), (PySem.Str.ofString "theirs", NameKind.local), (PySem.Str.ofString "side", NameKind.cell), (PySem.Str.ofString "many", NameKind.local), (PySem.Str.ofString "heights", NameKind.cell), (PySem.Str.ofString "goal", NameKind.cell), (PySem.Str.ofString "spots", NameKind.local), (PySem.Str.ofString "side_levels", NameKind.globalImplicit), (PySem.Str.ofString "len", NameKind.globalImplicit), (PySem.Str.ofString "OutOfTurn", NameKind.globalImplicit), (PySem.Str.ofString "max", NameKind.globalImplicit), (PySem.Str.ofString "min", NameKind.globalImplicit), (PySem.Str.ofString "deck", NameKind.globalImplicit)], isGenerator := false, isCoroutine := false, more := (defScope (tp 43)).more }
theorem e_plan_lay : defScope (tp 43) = c_plan_lay := by rfl
abbrev n_plan_lay : List Str := ["mine", "theirs", "side", "many", "heights", "goal", "spots", "owner", "index"]
abbrev p_plan_lay : List Str := ["mine", "theirs", "side", "many"]
theorem s_plan_lay : FnScope n_plan_lay p_plan_lay c_plan_lay := ⟨rfl, rfl, rfl, by decide +kernel, rfl, by decide +kernel, by decide +kernel⟩
abbrev F_plan_lay (K : PySem.W.Frag) (f : Addr) (fd : FuncData) : Prop := FunD K "plan_lay" "plan_lay" (defArgs (tp 43)) (defBody (tp 43)) c_plan_lay [] [] f fd
def c_plan_answer : Scope := { kind := .function, names := [(PySem.Str.ofString "mine", NameKind.local), (PySem.Str.ofString "theirs", NameKind.local), (PySem.Str.ofString "side", NameKind.local), (PySem.Str.ofString "index", NameKind.local), (PySem.Str.ofString "many", NameKind.local), (PySem.Str.ofString "next_up", NameKind.globalImplicit), (PySem.Str.ofString "other_side", NameKind.globalImplicit), (PySem.Str.ofString "next_down", NameKind.globalImplicit)], isGenerator := false, isCoroutine := false, more := (defScope (tp 44)).more }
theorem e_plan_answer : defScope (tp 44) = c_plan_answer := by rfl
abbrev n_plan_answer : List Str := ["mine", "theirs", "side", "index", "many"]
abbrev p_plan_answer : List Str := ["mine", "theirs", "side", "index", "many"]
theorem s_plan_answer : FnScope n_plan_answer p_plan_answer c_plan_answer := ⟨rfl, rfl, rfl, by decide +kernel, rfl, by decide +kernel, by decide +kernel⟩
abbrev F_plan_answer (K : PySem.W.Frag) (f : Addr) (fd : FuncData) : Prop := FunD K "plan_answer" "plan_answer" (defArgs (tp 44)) (defBody (tp 44)) c_plan_answer [] [] f fd
def c_q_cell : Scope := { kind := .function, names := [(PySem.Str.ofString "_law_script", NameKind.local), (PySem.Str.ofString "_law_k", NameKind.local), (PySem.Str.ofString "len", NameKind.globalImplicit), (PySem.Str.ofString "int", NameKind.globalImplicit)], isGenerator := false, isCoroutine := false, more := (defScope (tp 48)).more }
theorem e_q_cell : defScope (tp 48) = c_q_cell := by rfl
abbrev n_q_cell : List Str := ["_law_script", "_law_k"]
abbrev p_q_cell : List Str := ["_law_script", "_law_k"]
theorem s_q_cell : FnScope n_q_cell p_q_cell c_q_cell := ⟨rfl, rfl, rfl, by decide +kernel, rfl, by decide +kernel, by decide +kernel⟩
abbrev F_q_cell (K : PySem.W.Frag) (f : Addr) (fd : FuncData) : Prop := FunD K "_law_cell" "_law_cell" (defArgs (tp 48)) (defBody (tp 48)) c_q_cell [] [] f fd
def c_q_draws : Scope := { kind := .function, names := [(PySem.Str.ofString "_law_cell_here", NameKind.local), (PySem.Str.ofString "_law_sizes", NameKind.local), (PySem.Str.ofString "_law_digits", NameKind.local), (PySem.Str.ofString "_law_great", NameKind.local), (PySem.Str.ofString "_law_first", NameKind.local), (PySem.Str.ofString "_law_out", NameKind.local), (PySem.Str.ofString "_law_k", NameKind.local), (PySem.Str.ofString "_law_mixed", NameKind.local), (PySem.Str.ofString "abs", NameKind.globalImplicit), (PySem.Str.ofString "int", NameKind.globalImplicit), (PySem.Str.ofString "range", NameKind.globalImplicit), (PySem.Str.ofString "len", NameKind.globalImplicit)], isGenerator := false, isCoroutine := false, more := (defScope (tp 49)).more }
theorem e_q_draws : defScope (tp 49) = c_q_draws := by rfl
abbrev n_q_draws : List Str := ["_law_cell_here", "_law_sizes", "_law_digits", "_law_great", "_law_first", "_law_out", "_law_k", "_law_mixed"]
abbrev p_q_draws : List Str := ["_law_cell_here", "_law_sizes"]
theorem s_q_draws : FnScope n_q_draws p_q_draws c_q_draws := ⟨rfl, rfl, rfl, by decide +kernel, rfl, by decide +kernel, by decide +kernel⟩
abbrev F_q_draws (K : PySem.W.Frag) (f : Addr) (fd : FuncData) : Prop := FunD K "_law_draws" "_law_draws" (defArgs (tp 49)) (defBody (tp 49)) c_q_draws [] [] f fd
def c_q_hand : Scope := { kind := .function, names := [(PySem.Str.ofString "_law_cell_here", NameKind.local), (PySem.Str.ofString "_law_count", NameKind.cell), (PySem.Str.ofString "_law_kind", NameKind.local), (PySem.Str.ofString "_law_draws", NameKind.globalImplicit), (PySem.Str.ofString "range", NameKind.globalImplicit)], isGenerator := false, isCoroutine := false, more := (defScope (tp 50)).more }
theorem e_q_hand : defScope (tp 50) = c_q_hand := by rfl
abbrev n_q_hand : List Str := ["_law_cell_here", "_law_count", "_law_kind", "_law_x", "_law_k"]
abbrev p_q_hand : List Str := ["_law_cell_here", "_law_count", "_law_kind"]
theorem s_q_hand : FnScope n_q_hand p_q_hand c_q_hand := ⟨rfl, rfl, rfl, by decide +kernel, rfl, by decide +kernel, by decide +kernel⟩
abbrev F_q_hand (K : PySem.W.Frag) (f : Addr) (fd : FuncData) : Prop := FunD K "_law_hand" "_law_hand" (defArgs (tp 50)) (defBody (tp 50)) c_q_hand [] [] f fd
def c_q_hands : Scope := { kind := .function, names := [(PySem.Str.ofString "_law_script", NameKind.local), (PySem.Str.ofString "_law_at", NameKind.local), (PySem.Str.ofString "_law_count", NameKind.local), (PySem.Str.ofString "_law_shape", NameKind.cell), (PySem.Str.ofString "_law_mine", NameKind.local), (PySem.Str.ofString "_law_theirs", NameKind.local), (PySem.Str.ofString "_law_draws", NameKind.globalImplicit), (PySem.Str.ofString "_law_cell", NameKind.globalImplicit), (PySem.Str.ofString "_law_hand", NameKind.globalImplicit), (PySem.Str.ofString "list", NameKind.globalImplicit)], isGenerator := false, isCoroutine := false, more := (defScope (tp 51)).more }
theorem e_q_hands : defScope (tp 51) = c_q_hands := by rfl
abbrev n_q_hands : List Str := ["_law_script", "_law_at", "_law_count", "_law_shape", "_law_mine", "_law_theirs", "_law_x"]
abbrev p_q_hands : List Str := ["_law_script", "_law_at", "_law_count"]
theorem s_q_hands : FnScope n_q_hands p_q_hands c_q_hands := ⟨rfl, rfl, rfl, by decide +kernel, rfl, by decide +kernel, by decide +kernel⟩
abbrev F_q_hands (K : PySem.W.Frag) (f : Addr) (fd : FuncData) : Prop := FunD K "_law_hands" "_law_hands" (defArgs (tp 51)) (defBody (tp 51)) c_q_hands [] [] f fd
def c_q_word : Scope := { kind := .function, names := [(PySem.Str.ofString "_law_cell_here", NameKind.local), (PySem.Str.ofString "_law_count", NameKind.local), (PySem.Str.ofString "_law_draws", NameKind.globalImplicit), (PySem.Str.ofString "range", NameKind.globalImplicit)], isGenerator := false, isCoroutine := false, more := (defScope (tp 52)).more }
theorem e_q_word : defScope (tp 52) = c_q_word := by rfl
abbrev n_q_word : List Str := ["_law_cell_here", "_law_count", "_law_x", "_law_k"]
abbrev p_q_word : List Str := ["_law_cell_here", "_law_count"]
theorem s_q_word : FnScope n_q_word p_q_word c_q_word := ⟨rfl, rfl, rfl, by decide +kernel, rfl, by decide +kernel, by decide +kernel⟩
abbrev F_q_word (K : PySem.W.Frag) (f : Addr) (fd : FuncData) : Prop := FunD K "_law_word" "_law_word" (defArgs (tp 52)) (defBody (tp 52)) c_q_word [] [] f fd
def c_q_is_int : Scope := { kind := .function, names := [(PySem.Str.ofString "_law_x", NameKind.local), (PySem.Str.ofString "isinstance", NameKind.globalImplicit), (PySem.Str.ofString "int", NameKind.globalImplicit), (PySem.Str.ofString "bool", NameKind.globalImplicit)], isGenerator := false, isCoroutine := false, more := (defScope (tp 53)).more }
theorem e_q_is_int : defScope (tp 53) = c_q_is_int := by rfl
abbrev n_q_is_int : List Str := ["_law_x"]
abbrev p_q_is_int : List Str := ["_law_x"]
theorem s_q_is_int : FnScope n_q_is_int p_q_is_int c_q_is_int := ⟨rfl, rfl, rfl, by decide +kernel, rfl, by decide +kernel, by decide +kernel⟩
abbrev F_q_is_int (K : PySem.W.Frag) (f : Addr) (fd : FuncData) : Prop := FunD K "_law_is_int" "_law_is_int" (defArgs (tp 53)) (defBody (tp 53)) c_q_is_int [] [] f fd
def c_q_order : Scope := { kind := .function, names := [(PySem.Str.ofString "_law_mine", NameKind.cell), (PySem.Str.ofString "_law_theirs", NameKind.cell), (PySem.Str.ofString "_law_cards", NameKind.local), (PySem.Str.ofString "range", NameKind.globalImplicit), (PySem.Str.ofString "len", NameKind.globalImplicit), (PySem.Str.ofString "sorted", NameKind.globalImplicit)], isGenerator := false, isCoroutine := false, more := (defScope (tp 54)).more }
theorem e_q_order : defScope (tp 54) = c_q_order := by rfl
abbrev n_q_order : List Str := ["_law_mine", "_law_theirs", "_law_cards", "_law_k"]
abbrev p_q_order : List Str := ["_law_mine", "_law_theirs"]
theorem s_q_order : FnScope n_q_order p_q_order c_q_order := ⟨rfl, rfl, rfl, by decide +kernel, rfl, by decide +kernel, by decide +kernel⟩
abbrev F_q_order (K : PySem.W.Frag) (f : Addr) (fd : FuncData) : Prop := FunD K "_law_order" "_law_order" (defArgs (tp 54)) (defBody (tp 54)) c_q_order [] [] f fd
def c_q_row : Scope := { kind := .function, names := [(PySem.Str.ofString "_law_mine", NameKind.local), (PySem.Str.ofString "_law_theirs", NameKind.local), (PySem.Str.ofString "_law_height", NameKind.local), (PySem.Str.ofString "_law_out", NameKind.local), (PySem.Str.ofString "_law_card", NameKind.local), (PySem.Str.ofString "_law_order", NameKind.globalImplicit), (PySem.Str.ofString "sorted", NameKind.globalImplicit)], isGenerator := false, isCoroutine := false, more := (defScope (tp 55)).more }
theorem e_q_row : defScope (tp 55) = c_q_row := by rfl
abbrev n_q_row : List Str := ["_law_mine", "_law_theirs", "_law_height", "_law_out", "_law_card"]
abbrev p_q_row : List Str := ["_law_mine", "_law_theirs"]
theorem s_q_row : FnScope n_q_row p_q_row c_q_row := ⟨rfl, rfl, rfl, by decide +kernel, rfl, by decide +kernel, by decide +kernel⟩
abbrev F_q_row (K : PySem.W.Frag) (f : Addr) (fd : FuncData) : Prop := FunD K "_law_row" "_law_row" (defArgs (tp 55)) (defBody (tp 55)) c_q_row [] [] f fd
def c_q_value : Scope := { kind := .function, names := [(PySem.Str.ofString "_law_row_here", NameKind.local), (PySem.Str.ofString "_law_word_here", NameKind.local), (PySem.Str.ofString "_law_wish", NameKind.local), (PySem.Str.ofString "_law_early", NameKind.local), (PySem.Str.ofString "_law_mine_lays", NameKind.local), (PySem.Str.ofString "len", NameKind.globalImplicit)], isGenerator := false, isCoroutine := false, more := (defScope (tp 56)).more }
theorem e_q_value : defScope (tp 56) = c_q_value := by rfl
abbrev n_q_value : List Str := ["_law_row_here", "_law_word_here", "_law_wish", "_law_early", "_law_mine_lays", "_law_x"]
abbrev p_q_value : List Str := ["_law_row_here", "_law_word_here", "_law_wish"]
theorem s_q_value : FnScope n_q_value p_q_value c_q_value := ⟨rfl, rfl, rfl, by decide +kernel, rfl, by decide +kernel, by decide +kernel⟩
abbrev F_q_value (K : PySem.W.Frag) (f : Addr) (fd : FuncData) : Prop := FunD K "_law_value" "_law_value" (defArgs (tp 56)) (defBody (tp 56)) c_q_value [] [] f fd
def c_q_up : Scope := { kind := .function, names := [(PySem.Str.ofString "_law_mine", NameKind.local), (PySem.Str.ofString "_law_theirs", NameKind.local), (PySem.Str.ofString "_law_side", NameKind.local), (PySem.Str.ofString "_law_index", NameKind.local), (PySem.Str.ofString "_law_own", NameKind.cell), (PySem.Str.ofString "_law_order_here", NameKind.local), (PySem.Str.ofString "_law_at", NameKind.local), (PySem.Str.ofString "int", NameKind.globalImplicit), (PySem.Str.ofString "_law_order", NameKind.globalImplicit)], isGenerator := false, isCoroutine := false, more := (defScope (tp 57)).more }
theorem e_q_up : defScope (tp 57) = c_q_up := by rfl
abbrev n_q_up : List Str := ["_law_mine", "_law_theirs", "_law_side", "_law_index", "_law_own", "_law_order_here", "_law_at", "_law_card"]
abbrev p_q_up : List Str := ["_law_mine", "_law_theirs", "_law_side", "_law_index"]
theorem s_q_up : FnScope n_q_up p_q_up c_q_up := ⟨rfl, rfl, rfl, by decide +kernel, rfl, by decide +kernel, by decide +kernel⟩
abbrev F_q_up (K : PySem.W.Frag) (f : Addr) (fd : FuncData) : Prop := FunD K "_law_up" "_law_up" (defArgs (tp 57)) (defBody (tp 57)) c_q_up [] [] f fd
def c_q_levels : Scope := { kind := .function, names := [(PySem.Str.ofString "_law_mine", NameKind.local), (PySem.Str.ofString "_law_theirs", NameKind.local), (PySem.Str.ofString "_law_height", NameKind.local), (PySem.Str.ofString "_law_found", NameKind.local), (PySem.Str.ofString "_law_card", NameKind.local), (PySem.Str.ofString "_law_row_here", NameKind.local), (PySem.Str.ofString "_law_order", NameKind.globalImplicit)], isGenerator := false, isCoroutine := false, more := (defScope (tp 58)).more }
theorem e_q_levels : defScope (tp 58) = c_q_levels := by rfl
abbrev n_q_levels : List Str := ["_law_mine", "_law_theirs", "_law_height", "_law_found", "_law_card", "_law_row_here", "_law_x"]
abbrev p_q_levels : List Str := ["_law_mine", "_law_theirs"]
theorem s_q_levels : FnScope n_q_levels p_q_levels c_q_levels := ⟨rfl, rfl, rfl, by decide +kernel, rfl, by decide +kernel, by decide +kernel⟩
abbrev F_q_levels (K : PySem.W.Frag) (f : Addr) (fd : FuncData) : Prop := FunD K "_law_levels" "_law_levels" (defArgs (tp 58)) (defBody (tp 58)) c_q_levels [] [] f fd
def c_q_best_lay : Scope := { kind := .function, names := [(PySem.Str.ofString "_law_mine", NameKind.local), (PySem.Str.ofString "_law_theirs", NameKind.local), (PySem.Str.ofString "_law_side", NameKind.local), (PySem.Str.ofString "_law_wish", NameKind.local), (PySem.Str.ofString "_law_own", NameKind.cell), (PySem.Str.ofString "_law_levels_here", NameKind.cell), (PySem.Str.ofString "_law_goal", NameKind.cell), (PySem.Str.ofString "int", NameKind.globalImplicit), (PySem.Str.ofString "_law_levels", NameKind.globalImplicit), (PySem.Str.ofString "max", NameKind.globalImplicit), (PySem.Str.ofString "min", NameKind.globalImplicit), (PySem.Str.ofString "_law_order", NameKind.globalImplicit)], isGenerator := false, isCoroutine := false, more := (defScope (tp 59)).more }
theorem e_q_best_lay : defScope (tp 59) = c_q_best_lay := by rfl
abbrev n_q_best_lay : List Str := ["_law_mine", "_law_theirs", "_law_side", "_law_wish", "_law_own", "_law_levels_here", "_law_goal", "_law_card"]
abbrev p_q_best_lay : List Str := ["_law_mine", "_law_theirs", "_law_side", "_law_wish"]
theorem s_q_best_lay : FnScope n_q_best_lay p_q_best_lay c_q_best_lay := ⟨rfl, rfl, rfl, by decide +kernel, rfl, by decide +kernel, by decide +kernel⟩
abbrev F_q_best_lay (K : PySem.W.Frag) (f : Addr) (fd : FuncData) : Prop := FunD K "_law_best_lay" "_law_best_lay" (defArgs (tp 59)) (defBody (tp 59)) c_q_best_lay [] [] f fd
def c_q_foe : Scope := { kind := .function, names := [(PySem.Str.ofString "_law_hands_here", NameKind.local), (PySem.Str.ofString "_law_side", NameKind.cell), (PySem.Str.ofString "_law_wish", NameKind.local), (PySem.Str.ofString "_law_laid", NameKind.local), (PySem.Str.ofString "_law_way", NameKind.local), (PySem.Str.ofString "_law_order_here", NameKind.local), (PySem.Str.ofString "_law_mode", NameKind.local), (PySem.Str.ofString "_law_up_here", NameKind.local), (PySem.Str.ofString "_law_order", NameKind.globalImplicit), (PySem.Str.ofString "int", NameKind.globalImplicit), (PySem.Str.ofString "len", NameKind.globalImplicit), (PySem.Str.ofString "_law_best_lay", NameKind.globalImplicit), (PySem.Str.ofString "_law_up", NameKind.globalImplicit)], isGenerator := false, isCoroutine := false, more := (defScope (tp 60)).more }
theorem e_q_foe : defScope (tp 60) = c_q_foe := by rfl
abbrev n_q_foe : List Str := ["_law_hands_here", "_law_side", "_law_wish", "_law_laid", "_law_way", "_law_order_here", "_law_mode", "_law_up_here", "_law_card"]
abbrev p_q_foe : List Str := ["_law_hands_here", "_law_side", "_law_wish", "_law_laid", "_law_way"]
theorem s_q_foe : FnScope n_q_foe p_q_foe c_q_foe := ⟨rfl, rfl, rfl, by decide +kernel, rfl, by decide +kernel, by decide +kernel⟩
abbrev F_q_foe (K : PySem.W.Frag) (f : Addr) (fd : FuncData) : Prop := FunD K "_law_foe" "_law_foe" (defArgs (tp 60)) (defBody (tp 60)) c_q_foe [] [] f fd
def c_q_is_left : Scope := { kind := .function, names := [(PySem.Str.ofString "_law_told", NameKind.local), (PySem.Str.ofString "_law_left", NameKind.local), (PySem.Str.ofString "_law_is_int", NameKind.globalImplicit)], isGenerator := false, isCoroutine := false, more := (defScope (tp 61)).more }
theorem e_q_is_left : defScope (tp 61) = c_q_is_left := by rfl
abbrev n_q_is_left : List Str := ["_law_told", "_law_left"]
abbrev p_q_is_left : List Str := ["_law_told", "_law_left"]
theorem s_q_is_left : FnScope n_q_is_left p_q_is_left c_q_is_left := ⟨rfl, rfl, rfl, by decide +kernel, rfl, by decide +kernel, by decide +kernel⟩
abbrev F_q_is_left (K : PySem.W.Frag) (f : Addr) (fd : FuncData) : Prop := FunD K "_law_is_left" "_law_is_left" (defArgs (tp 61)) (defBody (tp 61)) c_q_is_left [] [] f fd
def c_q_round : Scope := { kind := .function, names := [(PySem.Str.ofString "_law_guide", NameKind.local), (PySem.Str.ofString "_law_hands_here", NameKind.cell), (PySem.Str.ofString "_law_left", NameKind.local), (PySem.Str.ofString "_law_roles", NameKind.local), (PySem.Str.ofString "_law_way", NameKind.local), (PySem.Str.ofString "_law_twice", NameKind.local), (PySem.Str.ofString "_law_own", NameKind.local), (PySem.Str.ofString "_law_foe_here", NameKind.local), (PySem.Str.ofString "_law_numbers", NameKind.local), (PySem.Str.ofString "_law_card", NameKind.local), (PySem.Str.ofString "_law_at", NameKind.local), (PySem.Str.ofString "_law_other", NameKind.local), (PySem.Str.ofString "_law_spot", NameKind.local), (PySem.Str.ofString "_law_up_here", NameKind.local), (PySem.Str.ofString "int", NameKind.globalImplicit), (PySem.Str.ofString "_law_is_left", NameKind.globalImplicit), (PySem.Str.ofString "_law_best_lay", NameKind.globalImplicit), (PySem.Str.ofString "_law_foe", NameKind.globalImplicit), (PySem.Str.ofString "_law_up", NameKind.globalImplicit), (PySem.Str.ofString "len", NameKind.globalImplicit)], isGenerator := false, isCoroutine := false, more := (defScope (tp 62)).more }
theorem e_q_round : defScope (tp 62) = c_q_round := by rfl
abbrev n_q_round : List Str := ["_law_guide", "_law_hands_here", "_law_left", "_law_roles", "_law_way", "_law_twice", "_law_own", "_law_foe_here", "_law_numbers", "_law_card", "_law_at", "_law_other", "_law_spot", "_law_up_here", "_law_k"]
abbrev p_q_round : List Str := ["_law_guide", "_law_hands_here", "_law_left", "_law_roles", "_law_way", "_law_twice"]
theorem s_q_round : FnScope n_q_round p_q_round c_q_round := ⟨rfl, rfl, rfl, by decide +kernel, rfl, by decide +kernel, by decide +kernel⟩
abbrev F_q_round (K : PySem.W.Frag) (f : Addr) (fd : FuncData) : Prop := FunD K "_law_round" "_law_round" (defArgs (tp 62)) (defBody (tp 62)) c_q_round [] [] f fd
def c_q_call : Scope := { kind := .function, names := [(PySem.Str.ofString "_law_guide", NameKind.local), (PySem.Str.ofString "_law_what", NameKind.local), (PySem.Str.ofString "_law_a", NameKind.local), (PySem.Str.ofString "_law_b", NameKind.local)], isGenerator := false, isCoroutine := false, more := (defScope (tp 63)).more }
theorem e_q_call : defScope (tp 63) = c_q_call := by rfl
abbrev n_q_call : List Str := ["_law_guide", "_law_what", "_law_a", "_law_b"]
abbrev p_q_call : List Str := ["_law_guide", "_law_what", "_law_a", "_law_b"]
theorem s_q_call : FnScope n_q_call p_q_call c_q_call := ⟨rfl, rfl, rfl, by decide +kernel, rfl, by decide +kernel, by decide +kernel⟩
abbrev F_q_call (K : PySem.W.Frag) (f : Addr) (fd : FuncData) : Prop := FunD K "_law_call" "_law_call" (defArgs (tp 63)) (defBody (tp 63)) c_q_call [] [] f fd
def c_q_try : Scope := { kind := .function, names := [(PySem.Str.ofString "_law_guide", NameKind.local), (PySem.Str.ofString "_law_what", NameKind.local), (PySem.Str.ofString "_law_a", NameKind.local), (PySem.Str.ofString "_law_b", NameKind.local), (PySem.Str.ofString "e", NameKind.local), (PySem.Str.ofString "_law_kinds", NameKind.local), (PySem.Str.ofString "_law_call", NameKind.globalImplicit), (PySem.Str.ofString "ClimbrowError", NameKind.globalImplicit), (PySem.Str.ofString "isinstance", NameKind.globalImplicit), (PySem.Str.ofString "BadBounds", NameKind.globalImplicit), (PySem.Str.ofString "BadHands", NameKind.globalImplicit), (PySem.Str.ofString "BadPairing", NameKind.globalImplicit), (PySem.Str.ofString "BadPlace", NameKind.globalImplicit), (PySem.Str.ofString "BadSchedule", NameKind.globalImplicit), (PySem.Str.ofString "BadText", NameKind.globalImplicit), (PySem.Str.ofString "Unsteady", NameKind.globalImplicit), (PySem.Str.ofString "Contradiction", NameKind.globalImplicit), (PySem.Str.ofString "DuplicateName", NameKind.globalImplicit), (PySem.Str.ofString "Unreachable", NameKind.globalImplicit), (PySem.Str.ofString "UnknownName", NameKind.globalImplicit), (PySem.Str.ofString "ValueError", NameKind.globalImplicit), (PySem.Str.ofString "BadCard", NameKind.globalImplicit), (PySem.Str.ofString "BadWord", NameKind.globalImplicit), (PySem.Str.ofString "OutOfTurn", NameKind.globalImplicit), (PySem.Str.ofString "_law_is_int", NameKind.globalImplicit)], isGenerator := false, isCoroutine := false, more := (defScope (tp 64)).more }
theorem e_q_try : defScope (tp 64) = c_q_try := by rfl
abbrev n_q_try : List Str := ["_law_guide", "_law_what", "_law_a", "_law_b", "e", "_law_kinds"]
abbrev p_q_try : List Str := ["_law_guide", "_law_what", "_law_a", "_law_b"]
theorem s_q_try : FnScope n_q_try p_q_try c_q_try := ⟨rfl, rfl, rfl, by decide +kernel, rfl, by decide +kernel, by decide +kernel⟩
abbrev F_q_try (K : PySem.W.Frag) (f : Addr) (fd : FuncData) : Prop := FunD K "_law_try" "_law_try" (defArgs (tp 64)) (defBody (tp 64)) c_q_try [] [] f fd
def c_q_refused : Scope := { kind := .function, names := [(PySem.Str.ofString "_law_guide", NameKind.local), (PySem.Str.ofString "_law_foe_here", NameKind.local), (PySem.Str.ofString "_law_left", NameKind.cell), (PySem.Str.ofString "_law_count", NameKind.local), (PySem.Str.ofString "_law_letters", NameKind.local), (PySem.Str.ofString "_law_size", NameKind.local), (PySem.Str.ofString "_law_asked", NameKind.local), (PySem.Str.ofString "_law_entry", NameKind.local), (PySem.Str.ofString "_law_gone", NameKind.local), (PySem.Str.ofString "_law_index", NameKind.local), (PySem.Str.ofString "_law_m", NameKind.local), (PySem.Str.ofString "_law_t", NameKind.local), (PySem.Str.ofString "len", NameKind.globalImplicit), (PySem.Str.ofString "_law_try", NameKind.globalImplicit), (PySem.Str.ofString "range", NameKind.globalImplicit), (PySem.Str.ofString "int", NameKind.globalImplicit)], isGenerator := false, isCoroutine := false, more := (defScope (tp 65)).more }
theorem e_q_refused : defScope (tp 65) = c_q_refused := by rfl
abbrev n_q_refused : List Str := ["_law_guide", "_law_foe_here", "_law_left", "_law_count", "_law_letters", "_law_size", "_law_asked", "_law_entry", "_law_gone", "_law_index", "_law_m", "_law_t", "_law_k"]
abbrev p_q_refused : List Str := ["_law_guide", "_law_foe_here", "_law_left", "_law_count", "_law_letters"]
theorem s_q_refused : FnScope n_q_refused p_q_refused c_q_refused := ⟨rfl, rfl, rfl, by decide +kernel, rfl, by decide +kernel, by decide +kernel⟩
abbrev F_q_refused (K : PySem.W.Frag) (f : Addr) (fd : FuncData) : Prop := FunD K "_law_refused" "_law_refused" (defArgs (tp 65)) (defBody (tp 65)) c_q_refused [] [] f fd
def c_q_unlike : Scope := { kind := .function, names := [(PySem.Str.ofString "_law_mine", NameKind.local), (PySem.Str.ofString "_law_theirs", NameKind.local), (PySem.Str.ofString "_law_side", NameKind.local), (PySem.Str.ofString "_law_wish", NameKind.local), (PySem.Str.ofString "e", NameKind.local), (PySem.Str.ofString "Guide", NameKind.globalImplicit), (PySem.Str.ofString "list", NameKind.globalImplicit), (PySem.Str.ofString "BadHands", NameKind.globalImplicit), (PySem.Str.ofString "isinstance", NameKind.globalImplicit), (PySem.Str.ofString "BadBounds", NameKind.globalImplicit), (PySem.Str.ofString "BadCard", NameKind.globalImplicit), (PySem.Str.ofString "BadPairing", NameKind.globalImplicit), (PySem.Str.ofString "BadPlace", NameKind.globalImplicit), (PySem.Str.ofString "BadSchedule", NameKind.globalImplicit), (PySem.Str.ofString "BadText", NameKind.globalImplicit), (PySem.Str.ofString "BadWord", NameKind.globalImplicit), (PySem.Str.ofString "OutOfTurn", NameKind.globalImplicit), (PySem.Str.ofString "Contradiction", NameKind.globalImplicit), (PySem.Str.ofString "DuplicateName", NameKind.globalImplicit), (PySem.Str.ofString "Unreachable", NameKind.globalImplicit), (PySem.Str.ofString "UnknownName", NameKind.globalImplicit), (PySem.Str.ofString "ValueError", NameKind.globalImplicit), (PySem.Str.ofString "ClimbrowError", NameKind.globalImplicit), (PySem.Str.ofString "_law_is_int", NameKind.globalImplicit), (PySem.Str.ofString "len", NameKind.globalImplicit)], isGenerator := false, isCoroutine := false, more := (defScope (tp 66)).more }
theorem e_q_unlike : defScope (tp 66) = c_q_unlike := by rfl
abbrev n_q_unlike : List Str := ["_law_mine", "_law_theirs", "_law_side", "_law_wish", "e"]
abbrev p_q_unlike : List Str := ["_law_mine", "_law_theirs", "_law_side", "_law_wish"]
theorem s_q_unlike : FnScope n_q_unlike p_q_unlike c_q_unlike := ⟨rfl, rfl, rfl, by decide +kernel, rfl, by decide +kernel, by decide +kernel⟩
abbrev F_q_unlike (K : PySem.W.Frag) (f : Addr) (fd : FuncData) : Prop := FunD K "_law_unlike" "_law_unlike" (defArgs (tp 66)) (defBody (tp 66)) c_q_unlike [] [] f fd
def c_q_unlikes : Scope := { kind := .function, names := [(PySem.Str.ofString "_law_hands_here", NameKind.local), (PySem.Str.ofString "_law_side", NameKind.local), (PySem.Str.ofString "_law_wish", NameKind.local), (PySem.Str.ofString "_law_unlike", NameKind.globalImplicit)], isGenerator := false, isCoroutine := false, more := (defScope (tp 67)).more }
theorem e_q_unlikes : defScope (tp 67) = c_q_unlikes := by rfl
abbrev n_q_unlikes : List Str := ["_law_hands_here", "_law_side", "_law_wish"]
abbrev p_q_unlikes : List Str := ["_law_hands_here", "_law_side", "_law_wish"]
theorem s_q_unlikes : FnScope n_q_unlikes p_q_unlikes c_q_unlikes := ⟨rfl, rfl, rfl, by decide +kernel, rfl, by decide +kernel, by decide +kernel⟩
abbrev F_q_unlikes (K : PySem.W.Frag) (f : Addr) (fd : FuncData) : Prop := FunD K "_law_unlikes" "_law_unlikes" (defArgs (tp 67)) (defBody (tp 67)) c_q_unlikes [] [] f fd
def c_q_shown : Scope := { kind := .function, names := [(PySem.Str.ofString "_law_guide", NameKind.local), (PySem.Str.ofString "_law_side", NameKind.local), (PySem.Str.ofString "_law_wish", NameKind.local), (PySem.Str.ofString "_law_hits", NameKind.local), (PySem.Str.ofString "isinstance", NameKind.globalImplicit), (PySem.Str.ofString "str", NameKind.globalImplicit), (PySem.Str.ofString "_law_is_int", NameKind.globalImplicit)], isGenerator := false, isCoroutine := false, more := (defScope (tp 68)).more }
theorem e_q_shown : defScope (tp 68) = c_q_shown := by rfl
abbrev n_q_shown : List Str := ["_law_guide", "_law_side", "_law_wish", "_law_hits"]
abbrev p_q_shown : List Str := ["_law_guide", "_law_side", "_law_wish", "_law_hits"]
theorem s_q_shown : FnScope n_q_shown p_q_shown c_q_shown := ⟨rfl, rfl, rfl, by decide +kernel, rfl, by decide +kernel, by decide +kernel⟩
abbrev F_q_shown (K : PySem.W.Frag) (f : Addr) (fd : FuncData) : Prop := FunD K "_law_shown" "_law_shown" (defArgs (tp 68)) (defBody (tp 68)) c_q_shown [] [] f fd
def c_q_row_left : Scope := { kind := .function, names := [(PySem.Str.ofString "_law_hands_here", NameKind.cell), (PySem.Str.ofString "_law_left", NameKind.local), (PySem.Str.ofString "_law_row", NameKind.globalImplicit)], isGenerator := false, isCoroutine := false, more := (defScope (tp 69)).more }
theorem e_q_row_left : defScope (tp 69) = c_q_row_left := by rfl
abbrev n_q_row_left : List Str := ["_law_hands_here", "_law_left", "_law_k"]
abbrev p_q_row_left : List Str := ["_law_hands_here", "_law_left"]
theorem s_q_row_left : FnScope n_q_row_left p_q_row_left c_q_row_left := ⟨rfl, rfl, rfl, by decide +kernel, rfl, by decide +kernel, by decide +kernel⟩
abbrev F_q_row_left (K : PySem.W.Frag) (f : Addr) (fd : FuncData) : Prop := FunD K "_law_row_left" "_law_row_left" (defArgs (tp 69)) (defBody (tp 69)) c_q_row_left [] [] f fd
def c_q_keeps : Scope := { kind := .function, names := [(PySem.Str.ofString "_law_row_here", NameKind.local), (PySem.Str.ofString "_law_behind", NameKind.cell), (PySem.Str.ofString "_law_hit", NameKind.cell), (PySem.Str.ofString "_law_strikes", NameKind.local), (PySem.Str.ofString "_law_high", NameKind.cell), (PySem.Str.ofString "_law_kept", NameKind.cell), (PySem.Str.ofString "_law_gaps", NameKind.local), (PySem.Str.ofString "len", NameKind.globalImplicit), (PySem.Str.ofString "range", NameKind.globalImplicit), (PySem.Str.ofString "all", NameKind.globalImplicit)], isGenerator := false, isCoroutine := false, more := (defScope (tp 70)).more }
theorem e_q_keeps : defScope (tp 70) = c_q_keeps := by rfl
abbrev n_q_keeps : List Str := ["_law_row_here", "_law_behind", "_law_hit", "_law_strikes", "_law_high", "_law_kept", "_law_gaps", "_law_x", "_law_k"]
abbrev p_q_keeps : List Str := ["_law_row_here", "_law_behind", "_law_hit", "_law_strikes", "_law_high"]
theorem s_q_keeps : FnScope n_q_keeps p_q_keeps c_q_keeps := ⟨rfl, rfl, rfl, by decide +kernel, rfl, by decide +kernel, by decide +kernel⟩
abbrev F_q_keeps (K : PySem.W.Frag) (f : Addr) (fd : FuncData) : Prop := FunD K "_law_keeps" "_law_keeps" (defArgs (tp 70)) (defBody (tp 70)) c_q_keeps [] [] f fd
def c_q_text : Scope := { kind := .function, names := [(PySem.Str.ofString "_law_guide", NameKind.local), (PySem.Str.ofString "_law_letters", NameKind.local), (PySem.Str.ofString "_law_shown_here", NameKind.local), (PySem.Str.ofString "len", NameKind.globalImplicit), (PySem.Str.ofString "repr", NameKind.globalImplicit)], isGenerator := false, isCoroutine := false, more := (defScope (tp 71)).more }
theorem e_q_text : defScope (tp 71) = c_q_text := by rfl
abbrev n_q_text : List Str := ["_law_guide", "_law_letters", "_law_shown_here"]
abbrev p_q_text : List Str := ["_law_guide", "_law_letters"]
theorem s_q_text : FnScope n_q_text p_q_text c_q_text := ⟨rfl, rfl, rfl, by decide +kernel, rfl, by decide +kernel, by decide +kernel⟩
abbrev F_q_text (K : PySem.W.Frag) (f : Addr) (fd : FuncData) : Prop := FunD K "_law_text" "_law_text" (defArgs (tp 71)) (defBody (tp 71)) c_q_text [] [] f fd
def c_q_quiet : Scope := { kind := .function, names := [(PySem.Str.ofString "_law_guide", NameKind.local), (PySem.Str.ofString "_law_foe_here", NameKind.local), (PySem.Str.ofString "_law_left", NameKind.local), (PySem.Str.ofString "_law_count", NameKind.local), (PySem.Str.ofString "_law_letters", NameKind.local), (PySem.Str.ofString "_law_before", NameKind.local), (PySem.Str.ofString "_law_text", NameKind.globalImplicit), (PySem.Str.ofString "_law_refused", NameKind.globalImplicit)], isGenerator := false, isCoroutine := false, more := (defScope (tp 72)).more }
theorem e_q_quiet : defScope (tp 72) = c_q_quiet := by rfl
abbrev n_q_quiet : List Str := ["_law_guide", "_law_foe_here", "_law_left", "_law_count", "_law_letters", "_law_before"]
abbrev p_q_quiet : List Str := ["_law_guide", "_law_foe_here", "_law_left", "_law_count", "_law_letters"]
theorem s_q_quiet : FnScope n_q_quiet p_q_quiet c_q_quiet := ⟨rfl, rfl, rfl, by decide +kernel, rfl, by decide +kernel, by decide +kernel⟩
abbrev F_q_quiet (K : PySem.W.Frag) (f : Addr) (fd : FuncData) : Prop := FunD K "_law_quiet" "_law_quiet" (defArgs (tp 72)) (defBody (tp 72)) c_q_quiet [] [] f fd
def c_q_made : Scope := { kind := .function, names := [(PySem.Str.ofString "_law_given", NameKind.local), (PySem.Str.ofString "_law_side", NameKind.local), (PySem.Str.ofString "_law_wish", NameKind.local), (PySem.Str.ofString "_law_left_out", NameKind.local), (PySem.Str.ofString "Guide", NameKind.globalImplicit)], isGenerator := false, isCoroutine := false, more := (defScope (tp 73)).more }
theorem e_q_made : defScope (tp 73) = c_q_made := by rfl
abbrev n_q_made : List Str := ["_law_given", "_law_side", "_law_wish", "_law_left_out"]
abbrev p_q_made : List Str := ["_law_given", "_law_side", "_law_wish", "_law_left_out"]
theorem s_q_made : FnScope n_q_made p_q_made c_q_made := ⟨rfl, rfl, rfl, by decide +kernel, rfl, by decide +kernel, by decide +kernel⟩
abbrev F_q_made (K : PySem.W.Frag) (f : Addr) (fd : FuncData) : Prop := FunD K "_law_made" "_law_made" (defArgs (tp 73)) (defBody (tp 73)) c_q_made [] [] f fd
def c_q_apart : Scope := { kind := .function, names := [(PySem.Str.ofString "_law_other", NameKind.local), (PySem.Str.ofString "_law_hands_here", NameKind.local), (PySem.Str.ofString "_law_side", NameKind.local), (PySem.Str.ofString "_law_wish", NameKind.local), (PySem.Str.ofString "_law_word_here", NameKind.local), (PySem.Str.ofString "_law_told", NameKind.local), (PySem.Str.ofString "_law_shown", NameKind.globalImplicit), (PySem.Str.ofString "_law_is_int", NameKind.globalImplicit), (PySem.Str.ofString "_law_value", NameKind.globalImplicit), (PySem.Str.ofString "_law_row", NameKind.globalImplicit)], isGenerator := false, isCoroutine := false, more := (defScope (tp 74)).more }
theorem e_q_apart : defScope (tp 74) = c_q_apart := by rfl
abbrev n_q_apart : List Str := ["_law_other", "_law_hands_here", "_law_side", "_law_wish", "_law_word_here", "_law_told"]
abbrev p_q_apart : List Str := ["_law_other", "_law_hands_here", "_law_side", "_law_wish", "_law_word_here"]
theorem s_q_apart : FnScope n_q_apart p_q_apart c_q_apart := ⟨rfl, rfl, rfl, by decide +kernel, rfl, by decide +kernel, by decide +kernel⟩
abbrev F_q_apart (K : PySem.W.Frag) (f : Addr) (fd : FuncData) : Prop := FunD K "_law_apart" "_law_apart" (defArgs (tp 74)) (defBody (tp 74)) c_q_apart [] [] f fd
def c_q_flat : Scope := { kind := .function, names := [(PySem.Str.ofString "_law_hands_here", NameKind.cell), (PySem.Str.ofString "_law_flat_here", NameKind.local)], isGenerator := false, isCoroutine := false, more := (defScope (tp 75)).more }
theorem e_q_flat : defScope (tp 75) = c_q_flat := by rfl
abbrev n_q_flat : List Str := ["_law_hands_here", "_law_flat_here", "_law_x"]
abbrev p_q_flat : List Str := ["_law_hands_here", "_law_flat_here"]
theorem s_q_flat : FnScope n_q_flat p_q_flat c_q_flat := ⟨rfl, rfl, rfl, by decide +kernel, rfl, by decide +kernel, by decide +kernel⟩
abbrev F_q_flat (K : PySem.W.Frag) (f : Addr) (fd : FuncData) : Prop := FunD K "_law_flat" "_law_flat" (defArgs (tp 75)) (defBody (tp 75)) c_q_flat [] [] f fd
def c_q_every_word : Scope := { kind := .function, names := [(PySem.Str.ofString "_law_guide", NameKind.local), (PySem.Str.ofString "_law_row_here", NameKind.local), (PySem.Str.ofString "_law_wish", NameKind.local), (PySem.Str.ofString "_law_hits", NameKind.local), (PySem.Str.ofString "_law_size", NameKind.local), (PySem.Str.ofString "_law_counts", NameKind.local), (PySem.Str.ofString "_law_mine_lays", NameKind.local), (PySem.Str.ofString "_law_letter", NameKind.local), (PySem.Str.ofString "_law_letters", NameKind.local), (PySem.Str.ofString "_law_told", NameKind.local), (PySem.Str.ofString "len", NameKind.globalImplicit), (PySem.Str.ofString "range", NameKind.globalImplicit), (PySem.Str.ofString "_law_is_int", NameKind.globalImplicit), (PySem.Str.ofString "_law_value", NameKind.globalImplicit)], isGenerator := false, isCoroutine := false, more := (defScope (tp 76)).more }
theorem e_q_every_word : defScope (tp 76) = c_q_every_word := by rfl
abbrev n_q_every_word : List Str := ["_law_guide", "_law_row_here", "_law_wish", "_law_hits", "_law_size", "_law_counts", "_law_mine_lays", "_law_letter", "_law_letters", "_law_told", "_law_k"]
abbrev p_q_every_word : List Str := ["_law_guide", "_law_row_here", "_law_wish", "_law_hits"]
theorem s_q_every_word : FnScope n_q_every_word p_q_every_word c_q_every_word := ⟨rfl, rfl, rfl, by decide +kernel, rfl, by decide +kernel, by decide +kernel⟩
abbrev F_q_every_word (K : PySem.W.Frag) (f : Addr) (fd : FuncData) : Prop := FunD K "_law_every_word" "_law_every_word" (defArgs (tp 76)) (defBody (tp 76)) c_q_every_word [] [] f fd
def c_q_all_answers : Scope := { kind := .function, names := [(PySem.Str.ofString "_law_guide", NameKind.local), (PySem.Str.ofString "_law_hands_here", NameKind.cell), (PySem.Str.ofString "_law_left", NameKind.local), (PySem.Str.ofString "_law_side", NameKind.local), (PySem.Str.ofString "_law_wish", NameKind.local), (PySem.Str.ofString "_law_own", NameKind.local), (PySem.Str.ofString "_law_foe_here", NameKind.local), (PySem.Str.ofString "_law_numbers", NameKind.local), (PySem.Str.ofString "_law_spots", NameKind.local), (PySem.Str.ofString "_law_spot", NameKind.local), (PySem.Str.ofString "_law_up_here", NameKind.local), (PySem.Str.ofString "_law_due", NameKind.local), (PySem.Str.ofString "_law_card", NameKind.local), (PySem.Str.ofString "int", NameKind.globalImplicit), (PySem.Str.ofString "range", NameKind.globalImplicit), (PySem.Str.ofString "len", NameKind.globalImplicit), (PySem.Str.ofString "_law_up", NameKind.globalImplicit), (PySem.Str.ofString "_law_is_int", NameKind.globalImplicit)], isGenerator := false, isCoroutine := false, more := (defScope (tp 77)).more }
theorem e_q_all_answers : defScope (tp 77) = c_q_all_answers := by rfl
abbrev n_q_all_answers : List Str := ["_law_guide", "_law_hands_here", "_law_left", "_law_side", "_law_wish", "_law_own", "_law_foe_here", "_law_numbers", "_law_spots", "_law_spot", "_law_up_here", "_law_due", "_law_card", "_law_k"]
abbrev p_q_all_answers : List Str := ["_law_guide", "_law_hands_here", "_law_left", "_law_side", "_law_wish"]
theorem s_q_all_answers : FnScope n_q_all_answers p_q_all_answers c_q_all_answers := ⟨rfl, rfl, rfl, by decide +kernel, rfl, by decide +kernel, by decide +kernel⟩
abbrev F_q_all_answers (K : PySem.W.Frag) (f : Addr) (fd : FuncData) : Prop := FunD K "_law_all_answers" "_law_all_answers" (defArgs (tp 77)) (defBody (tp 77)) c_q_all_answers [] [] f fd
def c_q_looked : Scope := { kind := .function, names := [(PySem.Str.ofString "_law_guide", NameKind.local), (PySem.Str.ofString "_law_hands_here", NameKind.local), (PySem.Str.ofString "_law_left", NameKind.local), (PySem.Str.ofString "_law_roles", NameKind.local), (PySem.Str.ofString "_law_count", NameKind.local), (PySem.Str.ofString "_law_letters", NameKind.local), (PySem.Str.ofString "_law_foe_here", NameKind.local), (PySem.Str.ofString "int", NameKind.globalImplicit), (PySem.Str.ofString "_law_quiet", NameKind.globalImplicit), (PySem.Str.ofString "_law_all_answers", NameKind.globalImplicit)], isGenerator := false, isCoroutine := false, more := (defScope (tp 78)).more }
theorem e_q_looked : defScope (tp 78) = c_q_looked := by rfl
abbrev n_q_looked : List Str := ["_law_guide", "_law_hands_here", "_law_left", "_law_roles", "_law_count", "_law_letters", "_law_foe_here"]
abbrev p_q_looked : List Str := ["_law_guide", "_law_hands_here", "_law_left", "_law_roles", "_law_count", "_law_letters"]
theorem s_q_looked : FnScope n_q_looked p_q_looked c_q_looked := ⟨rfl, rfl, rfl, by decide +kernel, rfl, by decide +kernel, by decide +kernel⟩
abbrev F_q_looked (K : PySem.W.Frag) (f : Addr) (fd : FuncData) : Prop := FunD K "_law_looked" "_law_looked" (defArgs (tp 78)) (defBody (tp 78)) c_q_looked [] [] f fd
def c_q_next_left : Scope := { kind := .function, names := [(PySem.Str.ofString "_law_left", NameKind.local), (PySem.Str.ofString "_law_pair", NameKind.cell)], isGenerator := false, isCoroutine := false, more := (defScope (tp 79)).more }
theorem e_q_next_left : defScope (tp 79) = c_q_next_left := by rfl
abbrev n_q_next_left : List Str := ["_law_left", "_law_pair", "_law_x"]
abbrev p_q_next_left : List Str := ["_law_left", "_law_pair"]
theorem s_q_next_left : FnScope n_q_next_left p_q_next_left c_q_next_left := ⟨rfl, rfl, rfl, by decide +kernel, rfl, by decide +kernel, by decide +kernel⟩
abbrev F_q_next_left (K : PySem.W.Frag) (f : Addr) (fd : FuncData) : Prop := FunD K "_law_next_left" "_law_next_left" (defArgs (tp 79)) (defBody (tp 79)) c_q_next_left [] [] f fd
def c_law : Scope := { kind := .function, names := [(PySem.Str.ofString "_law_script", NameKind.local), (PySem.Str.ofString "_law_shape", NameKind.local), (PySem.Str.ofString "_law_count", NameKind.local), (PySem.Str.ofString "_law_hands_here", NameKind.local), (PySem.Str.ofString "_law_side", NameKind.local), (PySem.Str.ofString "_law_wish", NameKind.local), (PySem.Str.ofString "_law_word_here", NameKind.local), (PySem.Str.ofString "_law_k", NameKind.local), (PySem.Str.ofString "_law_plays", NameKind.local), (PySem.Str.ofString "_law_loose", NameKind.local), (PySem.Str.ofString "_law_given", NameKind.local), (PySem.Str.ofString "_law_guide", NameKind.local), (PySem.Str.ofString "_law_other", NameKind.local), (PySem.Str.ofString "_law_left", NameKind.local), (PySem.Str.ofString "_law_row_here", NameKind.local), (PySem.Str.ofString "_law_hits", NameKind.local), (PySem.Str.ofString "_law_first", NameKind.local), (PySem.Str.ofString "_law_promise", NameKind.local), (PySem.Str.ofString "_law_letters", NameKind.local), (PySem.Str.ofString "_law_roles", NameKind.local), (PySem.Str.ofString "_law_way", NameKind.local), (PySem.Str.ofString "_law_pair", NameKind.local), (PySem.Str.ofString "_law_told", NameKind.local), (PySem.Str.ofString "_law_moment", NameKind.local), (PySem.Str.ofString "_law_hit", NameKind.local), (PySem.Str.ofString "_law_behind", NameKind.local), (PySem.Str.ofString "_law_draws", NameKind.globalImplicit), (PySem.Str.ofString "_law_cell", NameKind.globalImplicit), (PySem.Str.ofString "int", NameKind.globalImplicit), (PySem.Str.ofString "_law_flat", NameKind.globalImplicit), (PySem.Str.ofString "_law_hands", NameKind.globalImplicit), (PySem.Str.ofString "_law_word", NameKind.globalImplicit), (PySem.Str.ofString "range", NameKind.globalImplicit), (PySem.Str.ofString "_law_unlikes", NameKind.globalImplicit), (PySem.Str.ofString "list", NameKind.globalImplicit), (PySem.Str.ofString "_law_made", NameKind.globalImplicit), (PySem.Str.ofString "_law_row_left", NameKind.globalImplicit), (PySem.Str.ofString "_law_round", NameKind.globalImplicit), (PySem.Str.ofString "_law_is_int", NameKind.globalImplicit), (PySem.Str.ofString "_law_value", NameKind.globalImplicit), (PySem.Str.ofString "_law_shown", NameKind.globalImplicit), (PySem.Str.ofString "_law_every_word", NameKind.globalImplicit), (PySem.Str.ofString "_law_looked", NameKind.globalImplicit), (PySem.Str.ofString "len", NameKind.globalImplicit), (PySem.Str.ofString "_law_next_left", NameKind.globalImplicit), (PySem.Str.ofString "_law_keeps", NameKind.globalImplicit), (PySem.Str.ofString "_law_apart", NameKind.globalImplicit)], isGenerator := false, isCoroutine := false, more := (defScope (tp 80)).more }
theorem e_law : defScope (tp 80) = c_law := by rfl
abbrev n_law : List Str := ["_law_script", "_law_shape", "_law_count", "_law_hands_here", "_law_side", "_law_wish", "_law_word_here", "_law_plays", "_law_loose", "_law_given", "_law_guide", "_law_other", "_law_left", "_law_row_here", "_law_hits", "_law_first", "_law_promise", "_law_k", "_law_letters", "_law_roles", "_law_way", "_law_pair", "_law_told", "_law_moment", "_law_hit", "_law_behind"]
abbrev p_law : List Str := ["_law_script"]
theorem s_law : FnScope n_law p_law c_law := ⟨rfl, rfl, rfl, by decide +kernel, rfl, by decide +kernel, by decide +kernel⟩
abbrev F_law (K : PySem.W.Frag) (f : Addr) (fd : FuncData) : Prop := FunD K "law" "law" (defArgs (tp 80)) (defBody (tp 80)) c_law [] [] f fd
end CL
namespace CL
open PySem PySem.Spec PyProof.Rows L2 DL
/-! ### the names of the defs -/
def clsBody (s : Stmt) : List Stmt := match s with
  | .ClassDef _ _ _ b _ _ _ _ _ _ _ => b
  | _ => []
def mp (i j : Nat) : Stmt := (clsBody (tp i)).getD j (.Pass ⟨0, 0, 0, 0⟩)
def c_m_OpenHands_init : Scope := { kind := .function, names := [(PySem.Str.ofString "self", NameKind.local), (PySem.Str.ofString "mine", NameKind.local), (PySem.Str.ofString "theirs", NameKind.local), (PySem.Str.ofString "list", NameKind.globalImplicit), (PySem.Str.ofString "range", NameKind.globalImplicit), (PySem.Str.ofString "len", NameKind.globalImplicit)], isGenerator := false, isCoroutine := false, more := (defScope (mp 45 0)).more }
theorem e_m_OpenHands_init : defScope (mp 45 0) = c_m_OpenHands_init := by rfl
abbrev n_m_OpenHands_init : List Str := ["self", "mine", "theirs"]
abbrev p_m_OpenHands_init : List Str := ["self", "mine", "theirs"]
theorem s_m_OpenHands_init : FnScope n_m_OpenHands_init p_m_OpenHands_init c_m_OpenHands_init := ⟨rfl, rfl, rfl, by decide +kernel, rfl, by decide +kernel, by decide +kernel⟩
abbrev F_m_OpenHands_init (K : PySem.W.Frag) (f : Addr) (fd : FuncData) : Prop := FunD K "__init__" "OpenHands.__init__" (defArgs (mp 45 0)) (defBody (mp 45 0)) c_m_OpenHands_init [] [] f fd
def c_m_OpenHands_numbers : Scope := { kind := .function, names := [(PySem.Str.ofString "self", NameKind.local), (PySem.Str.ofString "chosen", NameKind.globalImplicit)], isGenerator := false, isCoroutine := false, more := (defScope (mp 45 1)).more }
theorem e_m_OpenHands_numbers : defScope (mp 45 1) = c_m_OpenHands_numbers := by rfl
abbrev n_m_OpenHands_numbers : List Str := ["self"]
abbrev p_m_OpenHands_numbers : List Str := ["self"]
theorem s_m_OpenHands_numbers : FnScope n_m_OpenHands_numbers p_m_OpenHands_numbers c_m_OpenHands_numbers := ⟨rfl, rfl, rfl, by decide +kernel, rfl, by decide +kernel, by decide +kernel⟩
abbrev F_m_OpenHands_numbers (K : PySem.W.Frag) (f : Addr) (fd : FuncData) : Prop := FunD K "numbers" "OpenHands.numbers" (defArgs (mp 45 1)) (defBody (mp 45 1)) c_m_OpenHands_numbers [] [] f fd
def c_m_OpenHands_spot : Scope := { kind := .function, names := [(PySem.Str.ofString "self", NameKind.local), (PySem.Str.ofString "side", NameKind.local), (PySem.Str.ofString "index", NameKind.local), (PySem.Str.ofString "left", NameKind.local), (PySem.Str.ofString "BadCard", NameKind.globalImplicit)], isGenerator := false, isCoroutine := false, more := (defScope (mp 45 2)).more }
theorem e_m_OpenHands_spot : defScope (mp 45 2) = c_m_OpenHands_spot := by rfl
abbrev n_m_OpenHands_spot : List Str := ["self", "side", "index", "left"]
abbrev p_m_OpenHands_spot : List Str := ["self", "side", "index"]
theorem s_m_OpenHands_spot : FnScope n_m_OpenHands_spot p_m_OpenHands_spot c_m_OpenHands_spot := ⟨rfl, rfl, rfl, by decide +kernel, rfl, by decide +kernel, by decide +kernel⟩
abbrev F_m_OpenHands_spot (K : PySem.W.Frag) (f : Addr) (fd : FuncData) : Prop := FunD K "spot" "OpenHands.spot" (defArgs (mp 45 2)) (defBody (mp 45 2)) c_m_OpenHands_spot [] [] f fd
def c_m_OpenHands_indexes : Scope := { kind := .function, names := [(PySem.Str.ofString "self", NameKind.local), (PySem.Str.ofString "side", NameKind.local), (PySem.Str.ofString "list", NameKind.globalImplicit)], isGenerator := false, isCoroutine := false, more := (defScope (mp 45 3)).more }
theorem e_m_OpenHands_indexes : defScope (mp 45 3) = c_m_OpenHands_indexes := by rfl
abbrev n_m_OpenHands_indexes : List Str := ["self", "side"]
abbrev p_m_OpenHands_indexes : List Str := ["self", "side"]
theorem s_m_OpenHands_indexes : FnScope n_m_OpenHands_indexes p_m_OpenHands_indexes c_m_OpenHands_indexes := ⟨rfl, rfl, rfl, by decide +kernel, rfl, by decide +kernel, by decide +kernel⟩
abbrev F_m_OpenHands_indexes (K : PySem.W.Frag) (f : Addr) (fd : FuncData) : Prop := FunD K "indexes" "OpenHands.indexes" (defArgs (mp 45 3)) (defBody (mp 45 3)) c_m_OpenHands_indexes [] [] f fd
def c_m_OpenHands_remove_pair : Scope := { kind := .function, names := [(PySem.Str.ofString "self", NameKind.local), (PySem.Str.ofString "m", NameKind.local), (PySem.Str.ofString "t", NameKind.local), (PySem.Str.ofString "BadCard", NameKind.globalImplicit), (PySem.Str.ofString "without", NameKind.globalImplicit), (PySem.Str.ofString "wins", NameKind.globalImplicit)], isGenerator := false, isCoroutine := false, more := (defScope (mp 45 4)).more }
theorem e_m_OpenHands_remove_pair : defScope (mp 45 4) = c_m_OpenHands_remove_pair := by rfl
abbrev n_m_OpenHands_remove_pair : List Str := ["self", "m", "t"]
abbrev p_m_OpenHands_remove_pair : List Str := ["self", "m", "t"]
theorem s_m_OpenHands_remove_pair : FnScope n_m_OpenHands_remove_pair p_m_OpenHands_remove_pair c_m_OpenHands_remove_pair := ⟨rfl, rfl, rfl, by decide +kernel, rfl, by decide +kernel, by decide +kernel⟩
abbrev F_m_OpenHands_remove_pair (K : PySem.W.Frag) (f : Addr) (fd : FuncData) : Prop := FunD K "remove_pair" "OpenHands.remove_pair" (defArgs (mp 45 4)) (defBody (mp 45 4)) c_m_OpenHands_remove_pair [] [] f fd
def c_m_Guide_init : Scope := { kind := .function, names := [(PySem.Str.ofString "self", NameKind.local), (PySem.Str.ofString "mine", NameKind.local), (PySem.Str.ofString "theirs", NameKind.local), (PySem.Str.ofString "side", NameKind.local), (PySem.Str.ofString "many", NameKind.local), (PySem.Str.ofString "check_hands", NameKind.globalImplicit), (PySem.Str.ofString "OpenHands", NameKind.globalImplicit)], isGenerator := false, isCoroutine := false, more := (defScope (mp 46 0)).more }
theorem e_m_Guide_init : defScope (mp 46 0) = c_m_Guide_init := by rfl
abbrev n_m_Guide_init : List Str := ["self", "mine", "theirs", "side", "many"]
abbrev p_m_Guide_init : List Str := ["self", "mine", "theirs", "side", "many"]
theorem s_m_Guide_init : FnScope n_m_Guide_init p_m_Guide_init c_m_Guide_init := ⟨rfl, rfl, rfl, by decide +kernel, rfl, by decide +kernel, by decide +kernel⟩
abbrev F_m_Guide_init (K : PySem.W.Frag) (f : Addr) (fd : FuncData) : Prop := FunD K "__init__" "Guide.__init__" (defArgs (mp 46 0)) (defBody (mp 46 0)) c_m_Guide_init [] [("many", .str "mine")] f fd
def c_m_Guide_lay : Scope := { kind := .function, names := [(PySem.Str.ofString "self", NameKind.local), (PySem.Str.ofString "mine", NameKind.local), (PySem.Str.ofString "theirs", NameKind.local), (PySem.Str.ofString "at", NameKind.local), (PySem.Str.ofString "plan_lay", NameKind.globalImplicit)], isGenerator := false, isCoroutine := false, more := (defScope (mp 46 1)).more }
theorem e_m_Guide_lay : defScope (mp 46 1) = c_m_Guide_lay := by rfl
abbrev n_m_Guide_lay : List Str := ["self", "mine", "theirs", "at"]
abbrev p_m_Guide_lay : List Str := ["self"]
theorem s_m_Guide_lay : FnScope n_m_Guide_lay p_m_Guide_lay c_m_Guide_lay := ⟨rfl, rfl, rfl, by decide +kernel, rfl, by decide +kernel, by decide +kernel⟩
abbrev F_m_Guide_lay (K : PySem.W.Frag) (f : Addr) (fd : FuncData) : Prop := FunD K "lay" "Guide.lay" (defArgs (mp 46 1)) (defBody (mp 46 1)) c_m_Guide_lay [] [] f fd
def c_m_Guide_answer : Scope := { kind := .function, names := [(PySem.Str.ofString "self", NameKind.local), (PySem.Str.ofString "index", NameKind.local), (PySem.Str.ofString "laid", NameKind.local), (PySem.Str.ofString "mine", NameKind.local), (PySem.Str.ofString "theirs", NameKind.local), (PySem.Str.ofString "at", NameKind.local), (PySem.Str.ofString "other_side", NameKind.globalImplicit), (PySem.Str.ofString "plan_answer", NameKind.globalImplicit)], isGenerator := false, isCoroutine := false, more := (defScope (mp 46 2)).more }
theorem e_m_Guide_answer : defScope (mp 46 2) = c_m_Guide_answer := by rfl
abbrev n_m_Guide_answer : List Str := ["self", "index", "laid", "mine", "theirs", "at"]
abbrev p_m_Guide_answer : List Str := ["self", "index"]
theorem s_m_Guide_answer : FnScope n_m_Guide_answer p_m_Guide_answer c_m_Guide_answer := ⟨rfl, rfl, rfl, by decide +kernel, rfl, by decide +kernel, by decide +kernel⟩
abbrev F_m_Guide_answer (K : PySem.W.Frag) (f : Addr) (fd : FuncData) : Prop := FunD K "answer" "Guide.answer" (defArgs (mp 46 2)) (defBody (mp 46 2)) c_m_Guide_answer [] [] f fd
def c_m_Guide_saw : Scope := { kind := .function, names := [(PySem.Str.ofString "self", NameKind.local), (PySem.Str.ofString "m", NameKind.local), (PySem.Str.ofString "t", NameKind.local)], isGenerator := false, isCoroutine := false, more := (defScope (mp 46 3)).more }
theorem e_m_Guide_saw : defScope (mp 46 3) = c_m_Guide_saw := by rfl
abbrev n_m_Guide_saw : List Str := ["self", "m", "t"]
abbrev p_m_Guide_saw : List Str := ["self", "m", "t"]
theorem s_m_Guide_saw : FnScope n_m_Guide_saw p_m_Guide_saw c_m_Guide_saw := ⟨rfl, rfl, rfl, by decide +kernel, rfl, by decide +kernel, by decide +kernel⟩
abbrev F_m_Guide_saw (K : PySem.W.Frag) (f : Addr) (fd : FuncData) : Prop := FunD K "saw" "Guide.saw" (defArgs (mp 46 3)) (defBody (mp 46 3)) c_m_Guide_saw [] [] f fd
def c_m_Guide_promise : Scope := { kind := .function, names := [(PySem.Str.ofString "self", NameKind.local), (PySem.Str.ofString "word", NameKind.local), (PySem.Str.ofString "mine", NameKind.local), (PySem.Str.ofString "theirs", NameKind.local), (PySem.Str.ofString "value_of", NameKind.globalImplicit)], isGenerator := false, isCoroutine := false, more := (defScope (mp 46 4)).more }
theorem e_m_Guide_promise : defScope (mp 46 4) = c_m_Guide_promise := by rfl
abbrev n_m_Guide_promise : List Str := ["self", "word", "mine", "theirs"]
abbrev p_m_Guide_promise : List Str := ["self", "word"]
theorem s_m_Guide_promise : FnScope n_m_Guide_promise p_m_Guide_promise c_m_Guide_promise := ⟨rfl, rfl, rfl, by decide +kernel, rfl, by decide +kernel, by decide +kernel⟩
abbrev F_m_Guide_promise (K : PySem.W.Frag) (f : Addr) (fd : FuncData) : Prop := FunD K "promise" "Guide.promise" (defArgs (mp 46 4)) (defBody (mp 46 4)) c_m_Guide_promise [] [] f fd
end CL
namespace HX
open PySem PySem.Spec PyProof.Rows L2 DL CL
/-! ### the text of the three __init__ -/
def pSup (s : Stmt) : Nat → Pos := fun n => match s with
  | .Expr (.Call (.Attribute (.Call (.Name _ p0) _ _ p1) _ p2) [.Constant _ _ p3] _ p4) p5 => (match n with
    | 0 => p0
    | 1 => p1
    | 2 => p2
    | 3 => p3
    | 4 => p4
    | _ => p5)
  | _ => ⟨0, 0, 0, 0⟩
def pFld (s : Stmt) : Nat → Pos := fun n => match s with
  | .Assign [.Attribute (.Name _ p0) _ p1] (.Name _ p2) p3 => (match n with
    | 0 => p0
    | 1 => p1
    | 2 => p2
    | _ => p3)
  | _ => ⟨0, 0, 0, 0⟩
def pArg (a : Arguments) : Nat → Pos := fun n => match a.args[n]? with
  | some x => x.pos
  | none => ⟨0, 0, 0, 0⟩
def st (i n : Nat) : Stmt := (defBody (mp i 0)).getD n (.Pass ⟨0, 0, 0, 0⟩)
abbrev tH : Str := "the hands have different lengths"
abbrev tC : Str := "the side has no such card"
abbrev tW : Str := "the word has a wrong letter or a wrong length"
abbrev bodyH : List Stmt := [XC.supS tH (pSup (st 2 0)) 0, XC.fldS "mine_count" (pFld (st 2 1)), XC.fldS "theirs_count" (pFld (st 2 2))]
abbrev bodyC : List Stmt := [XC.supS tC (pSup (st 5 0)) 0, XC.fldS "side" (pFld (st 5 1)), XC.fldS "index" (pFld (st 5 2))]
abbrev bodyW : List Stmt := [XC.supS tW (pSup (st 3 0)) 0, XC.fldS "position" (pFld (st 3 1))]
abbrev argH : Arguments := XC.arg3 "mine_count" "theirs_count" (pArg (defArgs (mp 2 0)))
abbrev argC : Arguments := XC.arg3 "side" "index" (pArg (defArgs (mp 5 0)))
abbrev argW : Arguments := XC.arg2 "position" (pArg (defArgs (mp 3 0)))
abbrev scH : Scope := XC.sc3 "mine_count" "theirs_count" (defScope (mp 2 0)).more
abbrev scC : Scope := XC.sc3 "side" "index" (defScope (mp 5 0)).more
abbrev scW : Scope := XC.sc2 "position" (defScope (mp 3 0)).more
theorem is_bodyH : defBody (mp 2 0) = bodyH := by kernel_rfl
theorem is_bodyC : defBody (mp 5 0) = bodyC := by kernel_rfl
theorem is_bodyW : defBody (mp 3 0) = bodyW := by kernel_rfl
theorem is_argH : defArgs (mp 2 0) = argH := by kernel_rfl
theorem is_argC : defArgs (mp 5 0) = argC := by kernel_rfl
theorem is_argW : defArgs (mp 3 0) = argW := by kernel_rfl
theorem is_scH : defScope (mp 2 0) = scH := by kernel_rfl
theorem is_scC : defScope (mp 5 0) = scC := by kernel_rfl
theorem is_scW : defScope (mp 3 0) = scW := by kernel_rfl
end HX
namespace HX
open PySem PySem.Spec PyProof.Rows L2 DL CL
/-! ### an error class with an own __init__, in the written part -/
structure IniD where
  cls : Str
  qual : Str
  params : Arguments
  body : List Stmt
  scope : Scope
abbrev FnI : Type := Option (Str × Str × Arguments × FuncBody × Scope × Addr × List Str × Addr)
def fI (K : PySem.W.Frag) (x : Str) : Addr := He.ma K (He.ga K x) "__init__"
def fnI (K : PySem.W.Frag) (x : Str) : FnI := match K.lookup (fI K x) with
  | some ⟨_, _, .func fd, _⟩ => some (fd.name, fd.qualname, fd.params, fd.body, fd.scope, fd.globals, fd.closure.map (·.1), fd.builtins)
  | _ => none
def IniD.val (d : IniD) : FnI := some ("__init__", d.qual, d.params, .stmts d.body, d.scope, mainGlobals, ["__class__"], builtinsNs)
def clB (K : PySem.W.Frag) (C : Addr) : Bool := match K.lookup C with
  | some ⟨.type "type", _, .cls cd, sl⟩ => (match cd.mro, sl.toList with
    | .ref D :: bm, [_, _, _, _, some (.builtin n), _] => D == C && (n == "ValueError.__new__" && (!cd.hasDel && (cd.hasDict && PySem.HandSPX.refsVE bm)))
    | _, _ => false)
  | _ => false
theorem clB_ok {K : PySem.W.Frag} {C : Addr} (h : clB K C = true) : ∃ nm q N bs bm sn sub ab col dd k0 k1 k2 k3 k5, K.lookup C = some (excClassObj nm q C N bs bm true sn sub ab col dd k0 k1 k2 k3 k5 "ValueError.__new__") ∧ PySem.HandSPX.refsVE bm = true := by
  unfold clB at h
  split at h
  · rename_i dd cd sl look
    split at h
    · rename_i D bm k0 k1 k2 k3 n k5 hm hs
      simp only [Bool.and_eq_true, beq_iff_eq, Bool.not_eq_true'] at h
      obtain ⟨rfl, rfl, hdel, hdict, hve⟩ := h
      obtain ⟨nm, bs, mro, ns, qn, hd, sn, sub, ab, col, del⟩ := cd
      dsimp only at hm hdel hdict
      subst hm hdel hdict
      obtain ⟨l⟩ := sl
      dsimp only at hs
      subst hs
      exact ⟨nm, qn, ns, bs, bm, sn, sub, ab, col, dd, k0, k1, k2, k3, k5, look, hve⟩
    · cases h
  · cases h
/-- its code, its cell -/
def ccB (K : PySem.W.Frag) (fl : Str) (x qual : Str) : Bool := match K.lookup (fI K x) with
  | some ⟨_, _, .func fd, _⟩ => (match fd.closure, fd.code with
    | [(_, cc)], .ref cda => PySem.W.codeIn K (.ref cda) qual && ((match fd.defaults with
      | .none => true
      | _ => false) && ((match K.lookup cc with
      | some ⟨_, _, .cell (some (.ref D)), _⟩ => D == He.ga K x
      | _ => false) && (match K.lookup cda with
      | some ⟨_, _, .fields vs, _⟩ => (match (vs[2]? : Option Value) with
        | some (Value.str file _) => fl == file
        | _ => false)
      | _ => false)))
    | _, _ => false)
  | _ => false
def iniB (K : PySem.W.Frag) (fl : Str) (x qual : Str) : Bool := clB K (He.ga K x) && (He.eqO (PySem.W.findIn K (.ref (He.ga K x)) "__setattr__") (some (some (.builtin "object.__setattr__"))) && (He.eqO (PySem.W.findIn K (.ref (He.ga K x)) "__init__") (some (some (.ref (fI K x)))) && (decide (PySem.W.typeIn K (.ref (fI K x)) = some (.type "function")) &&
  (PySem.W.keepIn K (.ref (He.ga K x)) && (decide (PySem.W.subIn K (.ref (He.ga K x)) (.type "BaseException") = some true) && (decide (PySem.W.typeIn K (.ref (He.ga K x)) = some (.type "type")) && (decide (PySem.W.subIn K (.ref (He.ga K x)) (.type "ValueError") = some true) && (decide (PySem.W.mroIn K (He.ga K x) (.ref (He.ga K x)) = some true) &&
  (He.eqO (PySem.W.nsIn K cStatics "thirdparty.any") (some none) && (He.eqO (PySem.W.ks_superIn K (He.ga K x) (He.ga K x) "__init__") (some (some (.builtin "ValueError.__init__"))) && ccB K fl x qual))))))))))
theorem iniB_ok {P : Program} {K : PySem.W.Frag} {mg : Str → Option Value} {d : IniD} {fl : Str} (e : fnI K d.cls = d.val) (c : iniB K fl d.cls d.qual = true) (mS : mg "super" = none) (top : (P.main.scope.names.lookup ("super" : Str)).isSome = false) (hfl : (P.main.file : Str) = fl) :
    ∃ cc cda, XC.ExK P K mg (He.ga K d.cls) (fI K d.cls) cc cda d.qual d.params d.body d.scope := by
  obtain ⟨c1, c⟩ := He.ba c
  obtain ⟨c2, c⟩ := He.ba c
  obtain ⟨c3, c⟩ := He.ba c
  obtain ⟨c4, c⟩ := He.ba c
  obtain ⟨c5, c⟩ := He.ba c
  obtain ⟨c6, c⟩ := He.ba c
  obtain ⟨c7, c⟩ := He.ba c
  obtain ⟨c8, c⟩ := He.ba c
  obtain ⟨c9, c⟩ := He.ba c
  obtain ⟨ca, c⟩ := He.ba c
  obtain ⟨cb, cc⟩ := He.ba c
  unfold ccB at cc
  unfold fnI at e
  cases q : K.lookup (fI K d.cls) with
  | none => rw [q] at cc; cases cc
  | some o =>
    obtain ⟨oc, od, dt, osl⟩ := o
    rw [q] at cc e
    cases dt with
    | func fd =>
      obtain ⟨n1, n2, n3, n4, n5, n6, n7, n8, n9, n10, n11, n12, n13, n14, n15⟩ := fd
      have e2 : (some (n1, n2, n3, n4, n5, n6, n7.map (·.1), n15) : FnI) = IniD.val d := e
      unfold IniD.val at e2
      simp only [Option.some.injEq, Prod.mk.injEq] at e2
      obtain ⟨h1, h2, h3, h4, h5, h6, h7, h8⟩ := e2
      dsimp only at cc
      have en : ∃ nm ccA cda, n7 = [(nm, ccA)] ∧ n13 = .ref cda := by
        rcases n7 with _ | ⟨⟨nm, ccA⟩, _ | ⟨p, r⟩⟩
        · cases cc
        · cases n13 with
          | ref cda => exact ⟨nm, ccA, cda, rfl, rfl⟩
          | _ => cases cc
        · cases cc
      obtain ⟨nm, ccA, cda, rfl, rfl⟩ := en
      have en : nm = "__class__" := (List.cons.inj h7).1
      subst en h1 h2 h3 h4 h5 h6 h8
      obtain ⟨k1, k2⟩ := He.ba cc
      obtain ⟨k0, k2⟩ := He.ba k2
      obtain ⟨k2, k3⟩ := He.ba k2
      have e8 : n8 = .none := by
        cases n8 with
        | none => rfl
        | _ => cases k0
      refine ⟨ccA, cda, ⟨clB_ok c1, He.eqO_ok c2, He.eqO_ok c3, of_decide_eq_true c4, c5, of_decide_eq_true c6, of_decide_eq_true c7, of_decide_eq_true c8, of_decide_eq_true c9, He.eqO_ok ca, He.eqO_ok cb, ⟨oc, od, n8, n9, n10, n11, n14, n12, osl, e8, q⟩, k1, ?_, ?_, mS, top⟩⟩
      · split at k3
        · rename_i a1 a2 vs a4 look
          split at k3
          · rename_i file tf hv
            exact ⟨_, _, vs, _, file, tf, look, hv, by rw [hfl]; exact k3⟩
          · cases k3
        · cases k3
      · split at k2
        · rename_i a1 a2 D a4 look
          rw [beq_iff_eq.mp k2] at look
          exact ⟨_, _, _, look⟩
        · cases k2
    | _ => cases cc
end HX
namespace HX
open PySem PySem.Spec PyProof.Rows L2 DL CL
/-! ### the defs, the facts that the head tells -/
def d_other_side : He.DefD := ⟨("other_side", none), "other_side", "other_side", defArgs (tp 17), defBody (tp 17), c_other_side, [], []⟩
def d_check_hands : He.DefD := ⟨("check_hands", none), "check_hands", "check_hands", defArgs (tp 18), defBody (tp 18), c_check_hands, [], []⟩
def d_check_card : He.DefD := ⟨("check_card", none), "check_card", "check_card", defArgs (tp 19), defBody (tp 19), c_check_card, [], []⟩
def d_check_letters : He.DefD := ⟨("check_letters", none), "check_letters", "check_letters", defArgs (tp 20), defBody (tp 20), c_check_letters, [], []⟩
def d_check_word : He.DefD := ⟨("check_word", none), "check_word", "check_word", defArgs (tp 21), defBody (tp 21), c_check_word, [], []⟩
def d_chosen : He.DefD := ⟨("chosen", none), "chosen", "chosen", defArgs (tp 22), defBody (tp 22), c_chosen, [], []⟩
def d_without : He.DefD := ⟨("without", none), "without", "without", defArgs (tp 23), defBody (tp 23), c_without, [], []⟩
def d_lays_before_last : He.DefD := ⟨("lays_before_last", none), "lays_before_last", "lays_before_last", defArgs (tp 24), defBody (tp 24), c_lays_before_last, [], []⟩
def d_wins : He.DefD := ⟨("wins", none), "wins", "wins", defArgs (tp 27), defBody (tp 27), c_wins, [], []⟩
def d_hand_of : He.DefD := ⟨("hand_of", none), "hand_of", "hand_of", defArgs (tp 28), defBody (tp 28), c_hand_of, [], []⟩
def d_deck : He.DefD := ⟨("deck", none), "deck", "deck", defArgs (tp 29), defBody (tp 29), c_deck, [], []⟩
def d_around : He.DefD := ⟨("around", none), "around", "around", defArgs (tp 30), defBody (tp 30), c_around, [], [("down", .bl false)]⟩
def d_next_up : He.DefD := ⟨("next_up", none), "next_up", "next_up", defArgs (tp 31), defBody (tp 31), c_next_up, [], []⟩
def d_next_down : He.DefD := ⟨("next_down", none), "next_down", "next_down", defArgs (tp 32), defBody (tp 32), c_next_down, [], []⟩
def d_heights : He.DefD := ⟨("heights", none), "heights", "heights", defArgs (tp 34), defBody (tp 34), c_heights, [], []⟩
def d_side_levels : He.DefD := ⟨("side_levels", none), "side_levels", "side_levels", defArgs (tp 36), defBody (tp 36), c_side_levels, [], []⟩
def d_row_of : He.DefD := ⟨("row_of", none), "row_of", "row_of", defArgs (tp 37), defBody (tp 37), c_row_of, [], []⟩
def d_entry_value : He.DefD := ⟨("entry_value", none), "entry_value", "entry_value", defArgs (tp 39), defBody (tp 39), c_entry_value, [], []⟩
def d_value : He.DefD := ⟨("value", none), "value", "value", defArgs (tp 40), defBody (tp 40), c_value, [], [("many", .str "mine")]⟩
def d_value_of : He.DefD := ⟨("value_of", none), "value_of", "value_of", defArgs (tp 41), defBody (tp 41), c_value_of, [], [("many", .str "mine")]⟩
def d_plan_lay : He.DefD := ⟨("plan_lay", none), "plan_lay", "plan_lay", defArgs (tp 43), defBody (tp 43), c_plan_lay, [], []⟩
def d_plan_answer : He.DefD := ⟨("plan_answer", none), "plan_answer", "plan_answer", defArgs (tp 44), defBody (tp 44), c_plan_answer, [], []⟩
def d_q_cell : He.DefD := ⟨("_law_cell", none), "_law_cell", "_law_cell", defArgs (tp 48), defBody (tp 48), c_q_cell, [], []⟩
def d_q_draws : He.DefD := ⟨("_law_draws", none), "_law_draws", "_law_draws", defArgs (tp 49), defBody (tp 49), c_q_draws, [], []⟩
def d_q_hand : He.DefD := ⟨("_law_hand", none), "_law_hand", "_law_hand", defArgs (tp 50), defBody (tp 50), c_q_hand, [], []⟩
def d_q_hands : He.DefD := ⟨("_law_hands", none), "_law_hands", "_law_hands", defArgs (tp 51), defBody (tp 51), c_q_hands, [], []⟩
def d_q_word : He.DefD := ⟨("_law_word", none), "_law_word", "_law_word", defArgs (tp 52), defBody (tp 52), c_q_word, [], []⟩
def d_q_is_int : He.DefD := ⟨("_law_is_int", none), "_law_is_int", "_law_is_int", defArgs (tp 53), defBody (tp 53), c_q_is_int, [], []⟩
def d_q_order : He.DefD := ⟨("_law_order", none), "_law_order", "_law_order", defArgs (tp 54), defBody (tp 54), c_q_order, [], []⟩
def d_q_row : He.DefD := ⟨("_law_row", none), "_law_row", "_law_row", defArgs (tp 55), defBody (tp 55), c_q_row, [], []⟩
def d_q_value : He.DefD := ⟨("_law_value", none), "_law_value", "_law_value", defArgs (tp 56), defBody (tp 56), c_q_value, [], []⟩
def d_q_up : He.DefD := ⟨("_law_up", none), "_law_up", "_law_up", defArgs (tp 57), defBody (tp 57), c_q_up, [], []⟩
def d_q_levels : He.DefD := ⟨("_law_levels", none), "_law_levels", "_law_levels", defArgs (tp 58), defBody (tp 58), c_q_levels, [], []⟩
def d_q_best_lay : He.DefD := ⟨("_law_best_lay", none), "_law_best_lay", "_law_best_lay", defArgs (tp 59), defBody (tp 59), c_q_best_lay, [], []⟩
def d_q_foe : He.DefD := ⟨("_law_foe", none), "_law_foe", "_law_foe", defArgs (tp 60), defBody (tp 60), c_q_foe, [], []⟩
def d_q_is_left : He.DefD := ⟨("_law_is_left", none), "_law_is_left", "_law_is_left", defArgs (tp 61), defBody (tp 61), c_q_is_left, [], []⟩
def d_q_round : He.DefD := ⟨("_law_round", none), "_law_round", "_law_round", defArgs (tp 62), defBody (tp 62), c_q_round, [], []⟩
def d_q_call : He.DefD := ⟨("_law_call", none), "_law_call", "_law_call", defArgs (tp 63), defBody (tp 63), c_q_call, [], []⟩
def d_q_try : He.DefD := ⟨("_law_try", none), "_law_try", "_law_try", defArgs (tp 64), defBody (tp 64), c_q_try, [], []⟩
def d_q_refused : He.DefD := ⟨("_law_refused", none), "_law_refused", "_law_refused", defArgs (tp 65), defBody (tp 65), c_q_refused, [], []⟩
def d_q_unlike : He.DefD := ⟨("_law_unlike", none), "_law_unlike", "_law_unlike", defArgs (tp 66), defBody (tp 66), c_q_unlike, [], []⟩
def d_q_unlikes : He.DefD := ⟨("_law_unlikes", none), "_law_unlikes", "_law_unlikes", defArgs (tp 67), defBody (tp 67), c_q_unlikes, [], []⟩
def d_q_shown : He.DefD := ⟨("_law_shown", none), "_law_shown", "_law_shown", defArgs (tp 68), defBody (tp 68), c_q_shown, [], []⟩
def d_q_row_left : He.DefD := ⟨("_law_row_left", none), "_law_row_left", "_law_row_left", defArgs (tp 69), defBody (tp 69), c_q_row_left, [], []⟩
def d_q_keeps : He.DefD := ⟨("_law_keeps", none), "_law_keeps", "_law_keeps", defArgs (tp 70), defBody (tp 70), c_q_keeps, [], []⟩
def d_q_text : He.DefD := ⟨("_law_text", none), "_law_text", "_law_text", defArgs (tp 71), defBody (tp 71), c_q_text, [], []⟩
def d_q_quiet : He.DefD := ⟨("_law_quiet", none), "_law_quiet", "_law_quiet", defArgs (tp 72), defBody (tp 72), c_q_quiet, [], []⟩
def d_q_made : He.DefD := ⟨("_law_made", none), "_law_made", "_law_made", defArgs (tp 73), defBody (tp 73), c_q_made, [], []⟩
def d_q_apart : He.DefD := ⟨("_law_apart", none), "_law_apart", "_law_apart", defArgs (tp 74), defBody (tp 74), c_q_apart, [], []⟩
def d_q_flat : He.DefD := ⟨("_law_flat", none), "_law_flat", "_law_flat", defArgs (tp 75), defBody (tp 75), c_q_flat, [], []⟩
def d_q_every_word : He.DefD := ⟨("_law_every_word", none), "_law_every_word", "_law_every_word", defArgs (tp 76), defBody (tp 76), c_q_every_word, [], []⟩
def d_q_all_answers : He.DefD := ⟨("_law_all_answers", none), "_law_all_answers", "_law_all_answers", defArgs (tp 77), defBody (tp 77), c_q_all_answers, [], []⟩
def d_q_looked : He.DefD := ⟨("_law_looked", none), "_law_looked", "_law_looked", defArgs (tp 78), defBody (tp 78), c_q_looked, [], []⟩
def d_q_next_left : He.DefD := ⟨("_law_next_left", none), "_law_next_left", "_law_next_left", defArgs (tp 79), defBody (tp 79), c_q_next_left, [], []⟩
def d_law : He.DefD := ⟨("law", none), "law", "law", defArgs (tp 80), defBody (tp 80), c_law, [], []⟩
def d_m_OpenHands_init : He.DefD := ⟨("OpenHands", some "__init__"), "__init__", "OpenHands.__init__", defArgs (mp 45 0), defBody (mp 45 0), c_m_OpenHands_init, [], []⟩
def d_m_OpenHands_numbers : He.DefD := ⟨("OpenHands", some "numbers"), "numbers", "OpenHands.numbers", defArgs (mp 45 1), defBody (mp 45 1), c_m_OpenHands_numbers, [], []⟩
def d_m_OpenHands_spot : He.DefD := ⟨("OpenHands", some "spot"), "spot", "OpenHands.spot", defArgs (mp 45 2), defBody (mp 45 2), c_m_OpenHands_spot, [], []⟩
def d_m_OpenHands_indexes : He.DefD := ⟨("OpenHands", some "indexes"), "indexes", "OpenHands.indexes", defArgs (mp 45 3), defBody (mp 45 3), c_m_OpenHands_indexes, [], []⟩
def d_m_OpenHands_remove_pair : He.DefD := ⟨("OpenHands", some "remove_pair"), "remove_pair", "OpenHands.remove_pair", defArgs (mp 45 4), defBody (mp 45 4), c_m_OpenHands_remove_pair, [], []⟩
def d_m_Guide_init : He.DefD := ⟨("Guide", some "__init__"), "__init__", "Guide.__init__", defArgs (mp 46 0), defBody (mp 46 0), c_m_Guide_init, [], [("many", .str "mine")]⟩
def d_m_Guide_lay : He.DefD := ⟨("Guide", some "lay"), "lay", "Guide.lay", defArgs (mp 46 1), defBody (mp 46 1), c_m_Guide_lay, [], []⟩
def d_m_Guide_answer : He.DefD := ⟨("Guide", some "answer"), "answer", "Guide.answer", defArgs (mp 46 2), defBody (mp 46 2), c_m_Guide_answer, [], []⟩
def d_m_Guide_saw : He.DefD := ⟨("Guide", some "saw"), "saw", "Guide.saw", defArgs (mp 46 3), defBody (mp 46 3), c_m_Guide_saw, [], []⟩
def d_m_Guide_promise : He.DefD := ⟨("Guide", some "promise"), "promise", "Guide.promise", defArgs (mp 46 4), defBody (mp 46 4), c_m_Guide_promise, [], []⟩
def fn0 : List He.DefD := [d_other_side, d_check_hands, d_check_card, d_check_letters, d_check_word, d_chosen, d_without, d_lays_before_last, d_wins, d_hand_of, d_deck, d_around, d_next_up, d_next_down, d_heights, d_side_levels, d_row_of, d_entry_value, d_value, d_value_of]
def fn1 : List He.DefD := [d_plan_lay, d_plan_answer, d_q_cell, d_q_draws, d_q_hand, d_q_hands, d_q_word, d_q_is_int, d_q_order, d_q_row, d_q_value, d_q_up, d_q_levels, d_q_best_lay, d_q_foe, d_q_is_left, d_q_round, d_q_call, d_q_try, d_q_refused]
def fn2 : List He.DefD := [d_q_unlike, d_q_unlikes, d_q_shown, d_q_row_left, d_q_keeps, d_q_text, d_q_quiet, d_q_made, d_q_apart, d_q_flat, d_q_every_word, d_q_all_answers, d_q_looked, d_q_next_left, d_law, d_m_OpenHands_init, d_m_OpenHands_numbers, d_m_OpenHands_spot, d_m_OpenHands_indexes, d_m_OpenHands_remove_pair]
def fn3 : List He.DefD := [d_m_Guide_init, d_m_Guide_lay, d_m_Guide_answer, d_m_Guide_saw, d_m_Guide_promise]
def fnA : List He.DefD := fn0 ++ fn1 ++ fn2 ++ fn3
def fa0 : List He.Fa := [.glo "other_side", .glo "check_hands", .glo "check_card", .glo "check_letters", .glo "check_word", .glo "chosen", .glo "without", .glo "lays_before_last", .glo "wins", .glo "hand_of", .glo "deck", .glo "around", .glo "next_up", .glo "next_down", .glo "heights", .glo "side_levels", .glo "row_of", .glo "entry_value", .glo "value", .glo "value_of"]
def fa1 : List He.Fa := [.glo "plan_lay", .glo "plan_answer", .glo "_law_cell", .glo "_law_draws", .glo "_law_hand", .glo "_law_hands", .glo "_law_word", .glo "_law_is_int", .glo "_law_order", .glo "_law_row", .glo "_law_value", .glo "_law_up", .glo "_law_levels", .glo "_law_best_lay", .glo "_law_foe", .glo "_law_is_left", .glo "_law_round", .glo "_law_call", .glo "_law_try", .glo "_law_refused"]
def fa2 : List He.Fa := [.glo "_law_unlike", .glo "_law_unlikes", .glo "_law_shown", .glo "_law_row_left", .glo "_law_keeps", .glo "_law_text", .glo "_law_quiet", .glo "_law_made", .glo "_law_apart", .glo "_law_flat", .glo "_law_every_word", .glo "_law_all_answers", .glo "_law_looked", .glo "_law_next_left", .glo "law", .glo "SIDES", .glo "OpenHands", .glo "Guide", .glo "BadBounds", .glo "BadHands"]
def fa3 : List He.Fa := [.glo "BadPairing", .glo "BadPlace", .glo "BadSchedule", .glo "BadText", .glo "Unsteady", .glo "Contradiction", .glo "DuplicateName", .glo "Unreachable", .glo "UnknownName", .glo "BadCard", .glo "BadWord", .glo "OutOfTurn", .glo "ClimbrowError", .free "len", .free "range", .free "sorted", .free "enumerate", .free "int", .free "max", .free "min"]
def fa4 : List He.Fa := [.free "abs", .free "all", .free "list", .free "isinstance", .free "bool", .free "str", .free "repr", .free "super", .free "ValueError", .cls "Guide", .cls "OpenHands", .noat "Guide" "side", .noat "Guide" "many", .noat "Guide" "won", .noat "Guide" "hands", .noat "OpenHands" "mine", .noat "OpenHands" "theirs", .noat "OpenHands" "my_left", .noat "OpenHands" "their_left", .noat "BadHands" "mine_count"]
def fa5 : List He.Fa := [.noat "BadHands" "theirs_count", .noat "BadCard" "side", .noat "BadCard" "index", .noat "BadWord" "position", .meth "OpenHands" "numbers", .meth "OpenHands" "spot", .meth "OpenHands" "indexes", .meth "OpenHands" "remove_pair", .meth "Guide" "lay", .meth "Guide" "answer", .meth "Guide" "saw", .meth "Guide" "promise", .mkr "OpenHands", .mkr "Guide", .exc "OutOfTurn", .exm "BadHands" "ClimbrowError" true, .exm "BadCard" "ClimbrowError" true, .exm "BadWord" "ClimbrowError" true, .exm "OutOfTurn" "ClimbrowError" true, .exm "BadHands" "BadHands" true]
def faA : List He.Fa := fa0 ++ fa1 ++ fa2 ++ fa3 ++ fa4 ++ fa5
end HX
namespace HX
open PySem PySem.W PySem.Calls PyProof.Rows
abbrev Rr : OpenRow := OpenLaw.row PySem.Challenge.rw_climbrow_k42_whole_guide_for_few
abbrev qv : Program := view Rr.prog [80]
abbrev flR : PySem.Str := PySem.Challenge.pw_climbrow_k42_whole_guide_for_few.main.file
def n1 : List PySem.Str := ["ClimbrowError", "BadHands", "BadWord", "Unsteady", "BadCard", "BadPairing", "BadPlace", "OutOfTurn", "Unreachable", "Contradiction", "BadBounds", "BadSchedule", "BadText", "UnknownName", "DuplicateName", "other_side", "check_hands", "check_card", "check_letters", "check_word"]
def n2 : List PySem.Str := ["chosen", "without", "lays_before_last", "SIDES", "wins", "hand_of", "deck", "around", "next_up", "next_down", "heights", "side_levels", "row_of", "entry_value", "value", "value_of", "plan_lay", "plan_answer", "OpenHands", "Guide"]
def n3 : List PySem.Str := ["_law_cell", "_law_draws", "_law_hand", "_law_hands", "_law_word", "_law_is_int", "_law_order", "_law_row", "_law_value", "_law_up", "_law_levels", "_law_best_lay", "_law_foe", "_law_is_left", "_law_round", "_law_call", "_law_try", "_law_refused", "_law_unlike", "_law_unlikes"]
def n4 : List PySem.Str := ["_law_shown", "_law_row_left", "_law_keeps", "_law_text", "_law_quiet", "_law_made", "_law_apart", "_law_flat", "_law_every_word", "_law_all_answers", "_law_looked", "_law_next_left"]
def names : List PySem.Str := n1 ++ n2 ++ n3 ++ n4
/-! ### what the head looks at -/
def i1 : IniD := ⟨"BadHands", "BadHands.__init__", argH, bodyH, scH⟩
def i2 : IniD := ⟨"BadCard", "BadCard.__init__", argC, bodyC, scC⟩
def i3 : IniD := ⟨"BadWord", "BadWord.__init__", argW, bodyW, scW⟩
def exB (K : Frag) (C : Addr) : Bool := (clsIn K C).isSome && (He.eqO (findIn K (.ref C) "__getattribute__") (some (some (.builtin "BaseException.__getattribute__"))) && (He.eqO (findIn K (.ref C) "__getattr__") (some none) && (decide (subIn K (.ref C) (.type "BaseException") = some true) &&
  (He.eqO (findIn K (.ref C) "__class__") (some (some (.builtin "object.__class__"))) && (He.eqO (specialIn K (.builtin "object.__class__") "__get__") (some (some (.builtin "getset_descriptor.__get__"))) && (decide (takesIn K (.builtin "object.__class__") = some true) && (decide (mroIn K C (.type "object") = some true) && hasDictIn K C)))))))
def all4 : List PySem.Str := ["BadHands", "BadCard", "BadWord", "OutOfTurn"]
def cs15 : List PySem.Str := ["BadBounds", "BadHands", "BadPairing", "BadPlace", "BadSchedule", "BadText", "Unsteady", "Contradiction", "DuplicateName", "Unreachable", "UnknownName", "BadCard", "BadWord", "OutOfTurn", "ClimbrowError"]
def kitB (K : Frag) : Bool := all4.all fun x => exB K (He.ga K x) && (decide (kitOne K (.ref (He.ga K x)) (.type "ValueError") = some true) && cs15.all fun y => decide (kitOne K (.ref (He.ga K x)) (.ref (He.ga K y)) = some (decide (x = y) || decide (y = "ClimbrowError"))))
def xb (K : Frag) : Bool := He.tupB K "SIDES" [.str "theirs", .str "mine"] && (kitB K && (iniB K flR "BadHands" "BadHands.__init__" && (iniB K flR "BadCard" "BadCard.__init__" && iniB K flR "BadWord" "BadWord.__init__")))
abbrev AlX : Type := He.AlD × (FnI × FnI × FnI) × Bool
def obsX (K : Frag) : AlX := (He.obsD faA fnA K, (fnI K "BadHands", fnI K "BadCard", fnI K "BadWord"), xb K)
def valX : AlX := (He.valD fnA, (i1.val, i2.val, i3.val), true)
/-- layer by layer, with no look for doubles (He.asD's eraseDups costs the kernel 2 GB here) -/
def layD (g : Addr → Option Obj) : Nat → List Addr → List Addr
  | 0, as => as
  | n + 1, as => as ++ layD g n (as.flatMap fun a => match g a with
    | some o => He.refsD o
    | none => [])
def adX (g : Addr → Option Obj) : List Addr := cStatics :: layD g 4 [mainGlobals]
def hkX : Hook where
  α := AlX
  obs := fun s => obsX (He.frG s.heap.get? (adX s.heap.get?))
  val := fun _ => valX
  says := fun _ h => ∃ K : Frag, K.In h ∧ obsX K = valX
  of := fun _ _ e => ⟨_, He.frG_in, e⟩
  keeps := fun _ _ _ ⟨K, hK, c⟩ k => ⟨K, Frag.In.keeps hK k, c⟩
def obX (s : SharedT) : AlX := obsX (He.frG (HandSHeadRun.getT s) (adX (HandSHeadRun.getT s)))
theorem obX_eq (s : SharedT) : obX s = hkX.obs s.abs := by
  have e : HandSHeadRun.getT s = s.abs.heap.get? := funext fun a => HandSHeadRun.getT_eq s a
  show obsX (He.frG (HandSHeadRun.getT s) (adX (HandSHeadRun.getT s))) = obsX (He.frG s.abs.heap.get? (adX s.abs.heap.get?))
  rw [e]
theorem run (w : World) : HandSHeadRun.RunEq Rr qv hkX obX 30000 names w := by
  intro os
  kernel_rfl
theorem bare : Rr.prog.bare := ⟨rfl, rfl, rfl, rfl, rfl, by decide +kernel⟩
/-- the law holds if the walk of its def does -/
theorem row_holds (call : WalkO qv names (XL qv []) hkX.says Rr.toRowW (HandSHeadRun.topDef Rr.prog 80) [] fun f vs => PySem.call f vs) : PySem.Challenge.rw_climbrow_k42_whole_guide_for_few.Holds := by
  w_on; o_law
  refine HandSHeadRun.head_any (r := Rr) (q := qv) (H := hkX) (ob := obX) (M := 30000) (loose := names) (d := HandSHeadRun.topDef Rr.prog 80) (kwd := []) obX_eq
    (by kernel_rfl) (fun s => by kernel_rfl) run (by kernel_rfl) (by kernel_rfl) (by kernel_rfl) (by rfl) (by assumption) (by decide +kernel) bare ?hw call
  case hw => w_witness2
theorem top_super : (Rr.prog.main.scope.names.lookup ("super" : Str)).isSome = false := by kernel_rfl
theorem main_file : (Rr.prog.main.file : Str) = flR := by kernel_rfl
theorem top_name : (HandSHeadRun.topDef Rr.prog 80).name = ("law" : PySem.Str) := by kernel_rfl
end HX
namespace CL
open PySem DL
/-! ### the deck, in plain Lean -/
def sn (s : Nat) : Str := if s = 0 then "theirs" else "mine"
def cards (M T : List Int) : List Cd := ((List.range T.length).map fun i => (T.getD i 0, 0, i)) ++ (List.range M.length).map fun i => (M.getD i 0, 1, i)
def le3 (c d : Cd) : Bool := !lt3 d c
def ord (M T : List Int) : List Cd := (cards M T).mergeSort le3
def dK (c : Cd) : D := .tup [.str (sn c.2.1), .int c.2.2]
theorem lt3_iff {c d : Cd} : lt3 c d = true ↔ c.1 < d.1 ∨ (c.1 = d.1 ∧ (c.2.1 < d.2.1 ∨ (c.2.1 = d.2.1 ∧ c.2.2 < d.2.2))) := by
  unfold lt3
  simp only [Bool.or_eq_true, Bool.and_eq_true, decide_eq_true_eq]
theorem lt3_not {c d : Cd} : lt3 c d = false ↔ d.1 < c.1 ∨ (c.1 = d.1 ∧ (d.2.1 < c.2.1 ∨ (c.2.1 = d.2.1 ∧ d.2.2 ≤ c.2.2))) := by
  rw [← Bool.not_eq_true, lt3_iff]
  omega
theorem le3_trans {a b c : Cd} (h : le3 a b = true) (g : le3 b c = true) : le3 a c = true := by
  unfold le3 at *
  simp only [Bool.not_eq_true', lt3_not] at *
  omega
theorem le3_total (a b : Cd) : (le3 a b || le3 b a) = true := by
  unfold le3
  simp only [Bool.or_eq_true, Bool.not_eq_true', lt3_not]
  omega
theorem le3_anti {a b : Cd} (h : le3 a b = true) (g : le3 b a = true) : a = b := by
  obtain ⟨a1, a2, a3⟩ := a
  obtain ⟨b1, b2, b3⟩ := b
  unfold le3 at *
  simp only [Bool.not_eq_true', lt3_not] at *
  have h1 : a1 = b1 := by omega
  have h2 : a2 = b2 := by omega
  have h3 : a3 = b3 := by omega
  rw [h1, h2, h3]
theorem ord_perm (M T : List Int) : (ord M T).Perm (cards M T) := List.mergeSort_perm _ _
theorem ord_sorted (M T : List Int) : (ord M T).Pairwise (fun c d => le3 c d = true) := List.pairwise_mergeSort (le := le3) (fun _ _ _ => le3_trans) le3_total _
theorem sorted_uniq {α : Type} {r : α → α → Bool} (anti : ∀ a b, r a b = true → r b a = true → a = b) : ∀ {l m : List α}, l.Perm m → l.Pairwise (fun a b => r a b = true) → m.Pairwise (fun a b => r a b = true) → l = m
  | [], m, p, _, _ => by
    have := p.length_eq
    simp at this
    exact (List.eq_nil_of_length_eq_zero this.symm).symm ▸ rfl
  | a :: l, m, p, h, g => by
    cases m with
    | nil => have := p.length_eq; simp at this
    | cons b m =>
      rw [List.pairwise_cons] at h g
      have e : a = b := by
        rcases List.mem_cons.mp (p.mem_iff.mp (List.mem_cons_self (a := a) (l := l))) with e | ha
        · exact e
        · rcases List.mem_cons.mp (p.mem_iff.mpr (List.mem_cons_self (a := b) (l := m))) with e | hb
          · exact e.symm
          · exact anti a b (h.1 b hb) (g.1 a ha)
      subst e
      rw [sorted_uniq anti (List.Perm.cons_inv p) h.2 g.2]
theorem ord_uniq {M T : List Int} {l : List Cd} (p : l.Perm (cards M T)) (h : l.Pairwise (fun c d => lt3 d c = false)) : l = ord M T :=
  sorted_uniq (r := le3) (fun _ _ => le3_anti) (p.trans (ord_perm M T).symm) (h.imp fun {c d} e => by unfold le3; rw [e]; rfl) (ord_sorted M T)
theorem mem_cards {M T : List Int} {c : Cd} : c ∈ cards M T ↔ (c.2.1 = 0 ∧ c.2.2 < T.length ∧ c.1 = T.getD c.2.2 0) ∨ (c.2.1 = 1 ∧ c.2.2 < M.length ∧ c.1 = M.getD c.2.2 0) := by
  unfold cards
  rw [List.mem_append, List.mem_map, List.mem_map]
  obtain ⟨a, b, e⟩ := c
  constructor
  · rintro (⟨i, hi, q⟩ | ⟨i, hi, q⟩)
    · cases q; exact .inl ⟨rfl, List.mem_range.mp hi, rfl⟩
    · cases q; exact .inr ⟨rfl, List.mem_range.mp hi, rfl⟩
  · rintro (⟨h1, h2, h3⟩ | ⟨h1, h2, h3⟩)
    · simp only at h1 h2 h3; subst h1 h3; exact .inl ⟨e, List.mem_range.mpr h2, rfl⟩
    · simp only at h1 h2 h3; subst h1 h3; exact .inr ⟨e, List.mem_range.mpr h2, rfl⟩
theorem mem_ord {M T : List Int} {c : Cd} : c ∈ ord M T ↔ (c.2.1 = 0 ∧ c.2.2 < T.length ∧ c.1 = T.getD c.2.2 0) ∨ (c.2.1 = 1 ∧ c.2.2 < M.length ∧ c.1 = M.getD c.2.2 0) := by
  rw [(ord_perm M T).mem_iff, mem_cards]
theorem ord_len (M T : List Int) : (ord M T).length = T.length + M.length := by
  rw [(ord_perm M T).length_eq]
  simp [cards]
theorem ord_side {M T : List Int} {c : Cd} (h : c ∈ ord M T) : c.2.1 = 0 ∨ c.2.1 = 1 := by
  rcases mem_ord.mp h with h | h
  · exact .inl h.1
  · exact .inr h.1
theorem cards_nodup (M T : List Int) : (cards M T).Nodup := by
  unfold cards
  rw [List.nodup_append]
  refine ⟨?_, ?_, fun a ha b hb e => ?_⟩
  · rw [List.nodup_iff_pairwise_ne, List.pairwise_map]
    exact (List.nodup_range (n := T.length)).imp fun {a b} h e => h (congrArg (fun z : Cd => z.2.2) e)
  · rw [List.nodup_iff_pairwise_ne, List.pairwise_map]
    exact (List.nodup_range (n := M.length)).imp fun {a b} h e => h (congrArg (fun z : Cd => z.2.2) e)
  · obtain ⟨i, _, rfl⟩ := List.mem_map.mp ha
    obtain ⟨j, _, rfl⟩ := List.mem_map.mp hb
    simp at e
theorem ord_nodup (M T : List Int) : (ord M T).Nodup := (ord_perm M T).nodup_iff.mpr (cards_nodup M T)
/-- the card of a side and an index -/
def cd (M T : List Int) (s i : Nat) : Cd := if s = 0 then (T.getD i 0, 0, i) else (M.getD i 0, 1, i)
def hd (M T : List Int) (s : Nat) : List Int := if s = 0 then T else M
theorem cd_mem {M T : List Int} {s i : Nat} (hs : s = 0 ∨ s = 1) (hi : i < (hd M T s).length) : cd M T s i ∈ ord M T := by
  rw [mem_ord]
  rcases hs with rfl | rfl
  · exact .inl ⟨rfl, hi, rfl⟩
  · exact .inr ⟨rfl, hi, rfl⟩
theorem cd_of {M T : List Int} {c : Cd} (h : c ∈ ord M T) : c = cd M T c.2.1 c.2.2 ∧ c.2.2 < (hd M T c.2.1).length := by
  obtain ⟨a, b, e⟩ := c
  rcases mem_ord.mp h with ⟨h1, h2, h3⟩ | ⟨h1, h2, h3⟩
  · simp only at h1 h2 h3; subst h1 h3; exact ⟨rfl, h2⟩
  · simp only at h1 h2 h3; subst h1 h3; exact ⟨rfl, h2⟩
def plc (L : List Cd) (s i : Nat) : Nat := L.findIdx fun c => decide (c.2.1 = s) && decide (c.2.2 = i)
theorem plc_at {M T : List Int} {s i : Nat} (hs : s = 0 ∨ s = 1) (hi : i < (hd M T s).length) : (ord M T)[plc (ord M T) s i]? = some (cd M T s i) := by
  have hm := cd_mem hs hi
  have hlt : plc (ord M T) s i < (ord M T).length := by
    refine List.findIdx_lt_length.mpr ⟨_, hm, ?_⟩
    rcases hs with rfl | rfl <;> simp [cd]
  have h2 := List.findIdx_getElem (w := hlt)
  simp only [Bool.and_eq_true, decide_eq_true_eq] at h2
  have h2 : (ord M T)[plc (ord M T) s i].2.1 = s ∧ (ord M T)[plc (ord M T) s i].2.2 = i := h2
  have h3 := cd_of (List.getElem_mem hlt)
  rw [List.getElem?_eq_getElem hlt, h3.1, h2.1, h2.2]
def met (L : List Cd) (p : Nat) (down : Bool) : List Cd := if down then (L.drop (p + 1) ++ L.take p).reverse else L.drop (p + 1) ++ L.take p
def arnd (M T : List Int) (s i : Nat) (down : Bool) : List Nat := ((met (ord M T) (plc (ord M T) s i) down).filter fun c => !decide (c.2.1 = s)).map (·.2.2)
end CL
namespace CL
open PySem DL
/-! ### the walk, levels -/
def stp (c : Cd) : Int := if c.2.1 = 0 then 1 else -1
def ht (l : List Cd) : Int := (l.map stp).sum
theorem ht_nil : ht [] = 0 := rfl
theorem ht_snoc {L : List Cd} {n : Nat} {c : Cd} (h : L[n]? = some c) : ht (L.take (n + 1)) = ht (L.take n) + stp c := by
  have e : L.take (n + 1) = L.take n ++ [c] := by rw [List.take_add_one, h]; rfl
  unfold ht
  rw [e, List.map_append, List.sum_append]
  simp
def walkOf (L : List Cd) : List Int := (List.range (L.length + 1)).map fun k => ht (L.take k)
theorem walk_get (L : List Cd) {n : Nat} (h : n ≤ L.length) : (walkOf L)[n]? = some (ht (L.take n)) := by
  unfold walkOf
  rw [List.getElem?_map, List.getElem?_range (by omega)]
  rfl
theorem plc_ord {M T : List Int} {n : Nat} {c : Cd} (h : (ord M T)[n]? = some c) : plc (ord M T) c.2.1 c.2.2 = n := by
  have hm := List.mem_of_getElem? h
  have ho := cd_of hm
  have hp := plc_at (ord_side hm) ho.2
  rw [← ho.1] at hp
  obtain ⟨h1, e1⟩ := List.getElem?_eq_some_iff.mp hp
  obtain ⟨h2, e2⟩ := List.getElem?_eq_some_iff.mp h
  exact (List.getElem_inj (ord_nodup M T)).mp (e1.trans e2.symm)
def lvlAt (L : List Cd) (s i : Nat) : Int := ht (L.take (plc L s i + s))
def lvls (M T : List Int) (s : Nat) : List Int := (List.range M.length).map fun i => lvlAt (ord M T) s i
theorem lvls_len (M T : List Int) (s : Nat) : (lvls M T s).length = M.length := by simp [lvls]
theorem lvls_get {M T : List Int} {s i : Nat} (h : i < M.length) : (lvls M T s).getD i 0 = lvlAt (ord M T) s i := by
  unfold lvls
  simp [h]
/-- what the loop over the deck has found behind n cards -/
structure Fnd (M T : List Int) (s n : Nat) (fs : List Int) : Prop where
  len : fs.length = M.length
  at_ : ∀ i, i < M.length → plc (ord M T) s i < n → fs[i]? = some (lvlAt (ord M T) s i)
theorem Fnd.zero (M T : List Int) (s : Nat) : Fnd M T s 0 (List.replicate M.length 0) := ⟨by simp, fun _ _ h => absurd h (Nat.not_lt_zero _)⟩
theorem Fnd.put {M T : List Int} {s n : Nat} {fs : List Int} {c : Cd} (F : Fnd M T s n fs) (hl : M.length = T.length) (h : (ord M T)[n]? = some c) (e : c.2.1 = s) : Fnd M T s (n + 1) (fs.set c.2.2 (ht ((ord M T).take (n + s)))) := by
  have hp := plc_ord h
  rw [e] at hp
  refine ⟨by rw [List.length_set]; exact F.len, fun i hi hlt => ?_⟩
  by_cases q : c.2.2 = i
  · subst q
    rw [List.getElem?_set_self (by rw [F.len]; exact hi)]
    unfold lvlAt
    rw [hp]
  · rw [List.getElem?_set_ne q]
    refine F.at_ i hi ?_
    have : plc (ord M T) s i ≠ n := fun z => by
      have hs : s = 0 ∨ s = 1 := e ▸ ord_side (List.mem_of_getElem? h)
      have hh : i < (hd M T s).length := by rcases hs with rfl | rfl <;> simp [hd] <;> omega
      have h2 := plc_at hs hh
      rw [z, h] at h2
      have h3 := Option.some.inj h2
      apply q
      rw [h3]
      rcases hs with rfl | rfl <;> rfl
    omega
theorem Fnd.skip {M T : List Int} {s n : Nat} {fs : List Int} {c : Cd} (F : Fnd M T s n fs) (hl : M.length = T.length) (hs : s = 0 ∨ s = 1) (h : (ord M T)[n]? = some c) (e : c.2.1 ≠ s) : Fnd M T s (n + 1) fs := by
  refine ⟨F.len, fun i hi hlt => F.at_ i hi ?_⟩
  have : plc (ord M T) s i ≠ n := fun z => by
    have hh : i < (hd M T s).length := by rcases hs with rfl | rfl <;> simp [hd] <;> omega
    have h2 := plc_at hs hh
    rw [z, h] at h2
    have h3 := Option.some.inj h2
    apply e
    rw [h3]
    rcases hs with rfl | rfl <;> rfl
  omega
theorem Fnd.done {M T : List Int} {s : Nat} {fs : List Int} (hl : M.length = T.length) (hs : s = 0 ∨ s = 1) (F : Fnd M T s (ord M T).length fs) : fs = lvls M T s := by
  refine List.ext_getElem? fun i => ?_
  by_cases hi : i < M.length
  · have hh : i < (hd M T s).length := by rcases hs with rfl | rfl <;> simp [hd] <;> omega
    rw [F.at_ i hi (List.getElem?_eq_some_iff.mp (plc_at hs hh)).1]
    unfold lvls
    rw [List.getElem?_map, List.getElem?_range hi]
    rfl
  · rw [List.getElem?_eq_none (by rw [F.len]; omega), List.getElem?_eq_none (by rw [lvls_len]; omega)]
def leI (a b : Int) : Bool := decide (a ≤ b)
def srt (l : List Int) : List Int := l.mergeSort leI
theorem leI_trans (a b c : Int) (h : leI a b = true) (g : leI b c = true) : leI a c = true := by
  unfold leI at *
  simp only [decide_eq_true_eq] at *
  omega
theorem leI_total (a b : Int) : (leI a b || leI b a) = true := by
  unfold leI
  simp only [Bool.or_eq_true, decide_eq_true_eq]
  omega
theorem srt_perm (l : List Int) : (srt l).Perm l := List.mergeSort_perm _ _
theorem srt_sorted (l : List Int) : (srt l).Pairwise (fun a b => leI a b = true) := List.pairwise_mergeSort (le := leI) leI_trans leI_total l
theorem srt_uniq {l m : List Int} (p : m.Perm l) (h : m.Pairwise (· ≤ ·)) : m = srt l :=
  sorted_uniq (r := leI) (fun a b h g => by unfold leI at *; simp only [decide_eq_true_eq] at *; omega) (p.trans (srt_perm l).symm) (h.imp fun {a b} e => decide_eq_true e) (srt_sorted l)
theorem srt_len (l : List Int) : (srt l).length = l.length := (srt_perm l).length_eq
theorem srt_congr {l m : List Int} (p : l.Perm m) : srt l = srt m := by
  refine srt_uniq ((srt_perm l).trans p) ((srt_sorted l).imp fun {a b} e => of_decide_eq_true e)
def rowP (M T : List Int) : List Int := srt (lvls M T 1)
theorem rowP_len (M T : List Int) : (rowP M T).length = M.length := by unfold rowP; rw [srt_len, lvls_len]
def goalIs (ls : List Int) (hi : Bool) (g : Int) : Prop := g ∈ ls ∧ ∀ y ∈ ls, if hi = true then y ≤ g else g ≤ y
theorem goal_uniq {ls : List Int} {hi : Bool} {g h : Int} (a : goalIs ls hi g) (b : goalIs ls hi h) : g = h := by
  have h1 := a.2 h b.1
  have h2 := b.2 g a.1
  cases hi <;> simp at h1 h2 <;> omega
def spotsOf (M T : List Int) (s : Nat) (g : Int) : List Nat := ((ord M T).filter fun c => decide (c.2.1 = s) && decide ((lvls M T s).getD c.2.2 0 = g)).map (·.2.2)
def LayIs (M T : List Int) (s : Nat) (hi : Bool) (a : Nat) : Prop := ∃ g r, goalIs (lvls M T s) hi g ∧ spotsOf M T s g = a :: r
theorem lay_uniq {M T : List Int} {s : Nat} {hi : Bool} {a b : Nat} (x : LayIs M T s hi a) (y : LayIs M T s hi b) : a = b := by
  obtain ⟨g, r, h1, h2⟩ := x
  obtain ⟨g', r', h3, h4⟩ := y
  rw [goal_uniq h1 h3, h4] at h2
  exact (List.cons.inj h2).1.symm
end CL
namespace CL
open PySem DL
/-! ### the cards of one side -/
def sideIx (L : List Cd) (s : Nat) : List Nat := (L.filter fun c => decide (c.2.1 = s)).map (·.2.2)
theorem side_len {M T : List Int} {s : Nat} (hs : s = 0 ∨ s = 1) : (sideIx (ord M T) s).length = (hd M T s).length := by
  unfold sideIx
  rw [List.length_map, ((ord_perm M T).filter _).length_eq]
  unfold cards
  rw [List.filter_append, List.length_append]
  rcases hs with rfl | rfl
  · rw [List.filter_eq_self.mpr, List.filter_eq_nil_iff.mpr]
    · simp [hd]
    · intro a ha
      obtain ⟨i, _, rfl⟩ := List.mem_map.mp ha
      simp
    · intro a ha
      obtain ⟨i, _, rfl⟩ := List.mem_map.mp ha
      simp
  · rw [List.filter_eq_nil_iff.mpr, List.filter_eq_self.mpr]
    · simp [hd]
    · intro a ha
      obtain ⟨i, _, rfl⟩ := List.mem_map.mp ha
      simp
    · intro a ha
      obtain ⟨i, _, rfl⟩ := List.mem_map.mp ha
      simp
theorem side_mem {M T : List Int} {s i : Nat} (h : i ∈ sideIx (ord M T) s) : i < (hd M T s).length := by
  unfold sideIx at h
  obtain ⟨c, hc, rfl⟩ := List.mem_map.mp h
  obtain ⟨h1, h2⟩ := List.mem_filter.mp hc
  have e := of_decide_eq_true h2
  rw [← e]
  exact (cd_of h1).2
theorem side_has {M T : List Int} {s i : Nat} (hs : s = 0 ∨ s = 1) (h : i < (hd M T s).length) : i ∈ sideIx (ord M T) s := by
  unfold sideIx
  refine List.mem_map.mpr ⟨cd M T s i, List.mem_filter.mpr ⟨cd_mem hs h, ?_⟩, ?_⟩ <;> rcases hs with rfl | rfl <;> simp [cd]
theorem met_mem {L : List Cd} {p : Nat} {down : Bool} {c : Cd} : c ∈ met L p down ↔ c ∈ L.drop (p + 1) ∨ c ∈ L.take p := by
  unfold met
  split
  · rw [List.mem_reverse, List.mem_append]
  · rw [List.mem_append]
theorem arnd_mem {M T : List Int} {s i j : Nat} {down : Bool} (hs : s = 0 ∨ s = 1) (hi : i < (hd M T s).length) : j ∈ arnd M T s i down ↔ j < (hd M T (1 - s)).length := by
  have hs' : 1 - s = 0 ∨ 1 - s = 1 := by omega
  unfold arnd
  constructor
  · intro h
    obtain ⟨c, hc, rfl⟩ := List.mem_map.mp h
    obtain ⟨h1, h2⟩ := List.mem_filter.mp hc
    have h3 : c ∈ ord M T := by
      rcases met_mem.mp h1 with h | h
      · exact List.mem_of_mem_drop h
      · exact List.mem_of_mem_take h
    have h4 := cd_of h3
    have h5 := ord_side h3
    have h6 : c.2.1 ≠ s := by simpa using h2
    have e : c.2.1 = 1 - s := by omega
    rw [← e]
    exact h4.2
  · intro h
    have hm := cd_mem hs' h
    refine List.mem_map.mpr ⟨cd M T (1 - s) j, List.mem_filter.mpr ⟨met_mem.mpr ?_, ?_⟩, ?_⟩
    · have hp := plc_at hs hi
      obtain ⟨hlt, he⟩ := List.getElem?_eq_some_iff.mp hp
      have split3 : ord M T = (ord M T).take (plc (ord M T) s i) ++ (cd M T s i :: (ord M T).drop (plc (ord M T) s i + 1)) := by
        rw [← he, ← List.drop_eq_getElem_cons hlt, List.take_append_drop]
      rw [split3] at hm
      rcases List.mem_append.mp hm with h | h
      · exact .inr h
      · rcases List.mem_cons.mp h with h | h
        · exfalso
          have : (cd M T (1 - s) j).2.1 = (cd M T s i).2.1 := by rw [h]
          rcases hs with rfl | rfl <;> simp [cd] at this
        · exact .inl h
    · rcases hs with rfl | rfl <;> simp [cd]
    · rcases hs with rfl | rfl <;> simp [cd]
theorem spots_mem {M T : List Int} {s a : Nat} {g : Int} (hl : M.length = T.length) (hs : s = 0 ∨ s = 1) : a ∈ spotsOf M T s g ↔ a < M.length ∧ (lvls M T s).getD a 0 = g := by
  have hh : (hd M T s).length = M.length := by rcases hs with rfl | rfl <;> simp [hd, hl]
  unfold spotsOf
  constructor
  · intro h
    obtain ⟨c, hc, rfl⟩ := List.mem_map.mp h
    obtain ⟨h1, h2⟩ := List.mem_filter.mp hc
    rw [Bool.and_eq_true] at h2
    have e := of_decide_eq_true h2.1
    have := (cd_of h1).2
    rw [e, hh] at this
    exact ⟨this, of_decide_eq_true h2.2⟩
  · rintro ⟨h1, h2⟩
    refine List.mem_map.mpr ⟨cd M T s a, List.mem_filter.mpr ⟨cd_mem hs (by rw [hh]; exact h1), ?_⟩, ?_⟩
    · have e1 : (cd M T s a).2.1 = s := by rcases hs with rfl | rfl <;> simp [cd]
      have e2 : (cd M T s a).2.2 = a := by rcases hs with rfl | rfl <;> simp [cd]
      rw [e1, e2, decide_eq_true rfl, decide_eq_true h2]
      rfl
    · rcases hs with rfl | rfl <;> simp [cd]
theorem spots_ne {M T : List Int} {s : Nat} {hi : Bool} {g : Int} (hl : M.length = T.length) (hs : s = 0 ∨ s = 1) (h : goalIs (lvls M T s) hi g) : ∃ a r, spotsOf M T s g = a :: r ∧ a < M.length := by
  obtain ⟨i, hi', e⟩ := List.mem_iff_getElem.mp h.1
  rw [lvls_len] at hi'
  have hm : i ∈ spotsOf M T s g := (spots_mem hl hs).mpr ⟨hi', by
    rw [List.getD_eq_getElem?_getD, List.getElem?_eq_getElem (by rw [lvls_len]; exact hi'), e]; rfl⟩
  cases hsp : spotsOf M T s g with
  | nil => rw [hsp] at hm; cases hm
  | cons a r =>
    have ha : a ∈ spotsOf M T s g := by rw [hsp]; exact List.mem_cons_self
    exact ⟨a, r, rfl, ((spots_mem hl hs).mp ha).1⟩
theorem goal_ex {ls : List Int} (hi : Bool) (h : ls ≠ []) : ∃ g, goalIs ls hi g := by
  induction ls with
  | nil => exact absurd rfl h
  | cons a ls ih =>
    by_cases e : ls = []
    · subst e
      refine ⟨a, List.mem_cons_self, fun y hy => ?_⟩
      have : y = a := by simpa using hy
      subst this
      cases hi <;> simp
    · obtain ⟨g, h1, h2⟩ := ih e
      cases hi with
      | true =>
        by_cases q : a ≤ g
        · refine ⟨g, List.mem_cons_of_mem _ h1, fun y hy => ?_⟩
          rcases List.mem_cons.mp hy with rfl | hy
          · exact q
          · exact h2 y hy
        · refine ⟨a, List.mem_cons_self, fun y hy => ?_⟩
          rcases List.mem_cons.mp hy with rfl | hy
          · simp
          · have := h2 y hy
            simp at this ⊢
            omega
      | false =>
        by_cases q : g ≤ a
        · refine ⟨g, List.mem_cons_of_mem _ h1, fun y hy => ?_⟩
          rcases List.mem_cons.mp hy with rfl | hy
          · exact q
          · exact h2 y hy
        · refine ⟨a, List.mem_cons_self, fun y hy => ?_⟩
          rcases List.mem_cons.mp hy with rfl | hy
          · simp
          · have := h2 y hy
            simp at this ⊢
            omega
theorem lay_ex {M T : List Int} {s : Nat} (hi : Bool) (hl : M.length = T.length) (h0 : M.length ≠ 0) (hs : s = 0 ∨ s = 1) : ∃ a, LayIs M T s hi a ∧ a < M.length := by
  obtain ⟨g, hg⟩ := goal_ex (ls := lvls M T s) hi (by intro e; have := lvls_len M T s; rw [e] at this; exact h0 this.symm)
  obtain ⟨a, r, ha, hlt⟩ := spots_ne hl hs hg
  exact ⟨a, ⟨g, r, hg, ha⟩, hlt⟩
end CL
namespace CL
open PySem DL
/-! ### sorted lists compared -/
theorem cnt_sorted (v : Int) : ∀ {s : List Int}, s.Pairwise (fun a b => leI a b = true) → ∀ (k : Nat) (h : k < s.length), (s[k] ≤ v ↔ k < s.countP (fun x => decide (x ≤ v)))
  | [], _, k, h => absurd h (Nat.not_lt_zero _)
  | a :: s, hp, k, h => by
    rw [List.pairwise_cons] at hp
    have ih := cnt_sorted v hp.2
    rw [List.countP_cons]
    by_cases ha : a ≤ v
    · rw [if_pos (decide_eq_true ha)]
      cases k with
      | zero => simp [ha]
      | succ k =>
        have := ih k (by simpa using h)
        rw [List.getElem_cons_succ, this]
        omega
    · have h0 : s.countP (fun x => decide (x ≤ v)) = 0 := by
        rw [List.countP_eq_zero]
        intro x hx
        have := of_decide_eq_true (hp.1 x hx)
        have : ¬ x ≤ v := by omega
        simp [this]
      rw [h0, if_neg (by simp [ha])]
      have : ¬ (a :: s)[k] ≤ v := by
        cases k with
        | zero => simpa using ha
        | succ k =>
          rw [List.getElem_cons_succ]
          have := of_decide_eq_true (hp.1 _ (List.getElem_mem (by simpa using h)))
          omega
      simp [this]
theorem srt_le {l : List Int} {k : Nat} (h : k < l.length) (v : Int) : (srt l).getD k 0 ≤ v ↔ k < l.countP (fun x => decide (x ≤ v)) := by
  have hk : k < (srt l).length := by rw [srt_len]; exact h
  have := cnt_sorted v (srt_sorted l) k hk
  rw [(srt_perm l).countP_eq] at this
  rw [List.getD_eq_getElem?_getD, List.getElem?_eq_getElem hk]
  exact this
theorem countP_mono2 (v : Int) : ∀ {xs ys : List Int}, xs.length = ys.length → (∀ j, j < xs.length → xs.getD j 0 ≤ ys.getD j 0) → ys.countP (fun x => decide (x ≤ v)) ≤ xs.countP (fun x => decide (x ≤ v))
  | [], [], _, _ => Nat.le_refl _
  | [], _ :: _, h, _ => by simp at h
  | _ :: _, [], h, _ => by simp at h
  | x :: xs, y :: ys, h, hle => by
    have ih := countP_mono2 v (xs := xs) (ys := ys) (by simpa using h) fun j hj => by
      have := hle (j + 1) (by simpa using hj)
      simpa using this
    have h0 : x ≤ y := by have := hle 0 (by simp); simpa using this
    rw [List.countP_cons, List.countP_cons]
    by_cases hy : y ≤ v
    · rw [if_pos (decide_eq_true hy), if_pos (decide_eq_true (by omega))]
      omega
    · rw [if_neg (by simp [hy])]
      split <;> omega
theorem srt_mono {xs ys : List Int} (h : xs.length = ys.length) (hle : ∀ j, j < xs.length → xs.getD j 0 ≤ ys.getD j 0) {k : Nat} (hk : k < xs.length) : (srt xs).getD k 0 ≤ (srt ys).getD k 0 := by
  rw [srt_le hk]
  have := (srt_le (l := ys) (k := k) (by omega) ((srt ys).getD k 0)).mp (Int.le_refl _)
  have h2 := countP_mono2 ((srt ys).getD k 0) h hle
  omega
theorem countP_erase (p : Int → Bool) : ∀ (l : List Int) (i : Nat) (h : i < l.length), (l.eraseIdx i).countP p + (if p l[i] = true then 1 else 0) = l.countP p
  | [], i, h => absurd h (Nat.not_lt_zero _)
  | a :: l, 0, _ => by rw [List.eraseIdx_cons_zero, List.countP_cons]; simp
  | a :: l, i + 1, h => by
    have := countP_erase p l i (by simpa using h)
    rw [List.eraseIdx_cons_succ, List.countP_cons, List.countP_cons, List.getElem_cons_succ]
    omega
/-- an entry taken out -/
theorem srt_erase_tail {l : List Int} {i k : Nat} (hi : i < l.length) (hk : k + 1 < l.length) : (srt (l.eraseIdx i)).getD k 0 ≤ (srt l).getD (k + 1) 0 := by
  have hl : (l.eraseIdx i).length = l.length - 1 := List.length_eraseIdx_of_lt hi
  rw [srt_le (by omega)]
  have h1 := (srt_le (l := l) hk ((srt l).getD (k + 1) 0)).mp (Int.le_refl _)
  have h2 := countP_erase (fun x => decide (x ≤ (srt l).getD (k + 1) 0)) l i hi
  split at h2 <;> omega
/-- a greatest entry taken out -/
theorem srt_erase_max {l : List Int} {i k : Nat} (hi : i < l.length) (hmax : ∀ y ∈ l, y ≤ l[i]) (hk : k + 1 < l.length) : (srt (l.eraseIdx i)).getD k 0 ≤ (srt l).getD k 0 := by
  have hl : (l.eraseIdx i).length = l.length - 1 := List.length_eraseIdx_of_lt hi
  rw [srt_le (by omega)]
  have h1 := (srt_le (l := l) (k := k) (by omega) ((srt l).getD k 0)).mp (Int.le_refl _)
  have h2 := countP_erase (fun x => decide (x ≤ (srt l).getD k 0)) l i hi
  by_cases q : l[i] ≤ (srt l).getD k 0
  · have h3 : (l.eraseIdx i).countP (fun x => decide (x ≤ (srt l).getD k 0)) = (l.eraseIdx i).length := by
      rw [List.countP_eq_length]
      intro x hx
      have := hmax x (List.mem_of_mem_eraseIdx hx)
      exact decide_eq_true (by omega)
    omega
  · rw [if_neg (by simpa using q)] at h2
    omega
theorem srt_shift (l : List Int) (h : Int) {k : Nat} (hk : k < l.length) : (srt (l.map (· + h))).getD k 0 = (srt l).getD k 0 + h := by
  have e : srt (l.map (· + h)) = (srt l).map (· + h) := by
    symm
    refine srt_uniq ((srt_perm l).map _) ?_
    rw [List.pairwise_map]
    exact (srt_sorted l).imp fun {a b} q => by
      have := of_decide_eq_true q
      omega
  have hk2 : k < (srt l).length := by rw [srt_len]; exact hk
  rw [e]
  simp [hk2]
/-! ### levels by counting -/
def lev (C : List Cd) (c : Cd) : Int := (C.map fun d => if lt3 d c then stp d else 0).sum - (c.2.1 : Int)
theorem perm_sum {l m : List Int} (p : l.Perm m) : l.sum = m.sum := by
  induction p with
  | nil => rfl
  | cons x _ ih => rw [List.sum_cons, List.sum_cons, ih]
  | swap x y l => simp only [List.sum_cons]; omega
  | trans _ _ a b => exact a.trans b
theorem lev_perm {C C' : List Cd} (p : C.Perm C') (c : Cd) : lev C c = lev C' c := by
  unfold lev
  rw [perm_sum (p.map _)]
theorem lt3_of {c d : Cd} (h : le3 c d = true) (ne : c ≠ d) : lt3 c d = true := by
  obtain ⟨c1, c2, c3⟩ := c
  obtain ⟨d1, d2, d3⟩ := d
  unfold le3 at h
  simp only [Bool.not_eq_true', lt3_not] at h
  rw [lt3_iff]
  simp only at *
  rcases h with h | ⟨h1, h | ⟨h2, h3⟩⟩
  · exact .inl h
  · exact .inr ⟨h1.symm, .inl h⟩
  · refine .inr ⟨h1.symm, .inr ⟨h2.symm, ?_⟩⟩
    have : c3 ≠ d3 := fun e => ne (by rw [h1, h2, e])
    omega
theorem lt3_irr (c : Cd) : lt3 c c = false := by rw [lt3_not]; exact .inr ⟨rfl, .inr ⟨rfl, Nat.le_refl _⟩⟩
theorem sum_ite (l : List Cd) (c : Cd) (h : ∀ d ∈ l, lt3 d c = true) : (l.map fun d => if lt3 d c then stp d else 0).sum = ht l := by
  unfold ht
  congr 1
  refine List.map_congr_left fun d hd => ?_
  rw [if_pos (h d hd)]
theorem sum_ite0 (l : List Cd) (c : Cd) (h : ∀ d ∈ l, lt3 d c = false) : (l.map fun d => if lt3 d c then stp d else 0).sum = 0 := by
  induction l with
  | nil => rfl
  | cons a l ih =>
    rw [List.map_cons, List.sum_cons, ih fun d hd => h d (List.mem_cons_of_mem _ hd), h a List.mem_cons_self]
    simp
theorem lvlAt_lev {M T : List Int} {s i : Nat} (hs : s = 0 ∨ s = 1) (hi : i < (hd M T s).length) : lvlAt (ord M T) s i = lev (cards M T) (cd M T s i) := by
  rw [← lev_perm (ord_perm M T)]
  have hp := plc_at hs hi
  obtain ⟨hlt, he⟩ := List.getElem?_eq_some_iff.mp hp
  have split3 : ord M T = (ord M T).take (plc (ord M T) s i) ++ (cd M T s i :: (ord M T).drop (plc (ord M T) s i + 1)) := by
    rw [← he, ← List.drop_eq_getElem_cons hlt, List.take_append_drop]
  have hsr := ord_sorted M T
  have hnd := ord_nodup M T
  rw [split3] at hsr hnd
  rw [List.pairwise_append, List.pairwise_cons] at hsr
  rw [List.nodup_append, List.nodup_cons] at hnd
  have e1 : lev (ord M T) (cd M T s i) = ht ((ord M T).take (plc (ord M T) s i)) - ((cd M T s i).2.1 : Int) := by
    unfold lev
    congr 1
    conv => lhs; rw [split3]
    rw [List.map_append, List.sum_append, List.map_cons, List.sum_cons, lt3_irr, sum_ite _ _ fun d hd => lt3_of (hsr.2.2 d hd _ List.mem_cons_self) fun e => hnd.2.2 d hd _ List.mem_cons_self e,
      sum_ite0 _ _ fun d hd => by have := hsr.2.1.1 d hd; unfold le3 at this; simpa using this]
    simp
  rw [e1]
  unfold lvlAt
  rcases hs with rfl | rfl
  · simp [cd]
  · rw [ht_snoc hp]
    simp [cd, stp]
    omega
end CL
namespace CL
open PySem DL
/-! ### a closed walk goes up and down through each level alike -/
def upsL (L : List Cd) (n : Nat) : List Int := ((List.range n).filter fun k => decide ((L.getD k (0, 1, 0)).2.1 = 0)).map fun k => ht (L.take k)
def dnsL (L : List Cd) (n : Nat) : List Int := ((List.range n).filter fun k => !decide ((L.getD k (0, 1, 0)).2.1 = 0)).map fun k => ht (L.take (k + 1))
theorem ups_snoc {L : List Cd} {n : Nat} {c : Cd} (h : L[n]? = some c) : upsL L (n + 1) = upsL L n ++ if c.2.1 = 0 then [ht (L.take n)] else [] := by
  unfold upsL
  rw [List.range_succ, List.filter_append, List.map_append]
  have e : L.getD n (0, 1, 0) = c := by rw [List.getD_eq_getElem?_getD, h]; rfl
  congr 1
  by_cases q : c.2.1 = 0
  · rw [if_pos q, List.filter_cons, if_pos (by rw [e]; exact decide_eq_true q)]; rfl
  · rw [if_neg q, List.filter_cons, if_neg (by rw [e]; simpa using q)]; rfl
theorem dns_snoc {L : List Cd} {n : Nat} {c : Cd} (h : L[n]? = some c) : dnsL L (n + 1) = dnsL L n ++ if c.2.1 = 0 then [] else [ht (L.take (n + 1))] := by
  unfold dnsL
  rw [List.range_succ, List.filter_append, List.map_append]
  have e : L.getD n (0, 1, 0) = c := by rw [List.getD_eq_getElem?_getD, h]; rfl
  congr 1
  by_cases q : c.2.1 = 0
  · rw [if_pos q, List.filter_cons, if_neg (by rw [e]; simp [q])]; rfl
  · rw [if_neg q, List.filter_cons, if_pos (by rw [e]; simp [q])]; rfl
def bal (v h : Int) : Int := (if 0 ≤ v ∧ v < h then 1 else 0) - (if v < 0 ∧ h ≤ v then 1 else 0)
theorem bal_up (v h : Int) : bal v (h + 1) = bal v h + if h = v then 1 else 0 := by
  unfold bal
  split <;> split <;> split <;> split <;> split <;> omega
theorem walk_bal (L : List Cd) (v : Int) : ∀ n, n ≤ L.length → ((upsL L n).count v : Int) - ((dnsL L n).count v : Int) = bal v (ht (L.take n))
  | 0, _ => by
    show ((0 : Nat) : Int) - ((0 : Nat) : Int) = bal v 0
    unfold bal
    split <;> split <;> omega
  | n + 1, h => by
    have ih := walk_bal L v n (by omega)
    have hc : L[n]? = some L[n] := List.getElem?_eq_getElem (by omega)
    rw [ups_snoc hc, dns_snoc hc, List.count_append, List.count_append, ht_snoc hc]
    by_cases q : L[n].2.1 = 0
    · rw [if_pos q, if_pos q]
      have e : stp L[n] = 1 := by unfold stp; rw [if_pos q]
      rw [e, bal_up, List.count_singleton, List.count_nil]
      by_cases z : ht (L.take n) = v
      · rw [if_pos z]; simp [z]; rw [z] at ih; omega
      · rw [if_neg z]
        have : (ht (L.take n) == v) = false := by simpa using z
        simp [this]; omega
    · rw [if_neg q, if_neg q]
      have e : stp L[n] = -1 := by unfold stp; rw [if_neg q]
      have e2 : ht (L.take (n + 1)) = ht (L.take n) - 1 := by rw [ht_snoc hc, e]; omega
      have hb := bal_up v (ht (L.take n) - 1)
      have e3 : ht (L.take n) - 1 + 1 = ht (L.take n) := by omega
      rw [e3] at hb
      rw [e, List.count_singleton, List.count_nil]
      have e4 : ht (L.take n) + -1 = ht (L.take n) - 1 := by omega
      rw [e4]
      by_cases z : ht (L.take n) - 1 = v
      · rw [if_pos z] at hb
        have : (ht (L.take n) - 1 == v) = true := by simpa using z
        simp [this]; omega
      · rw [if_neg z] at hb
        have : (ht (L.take n) - 1 == v) = false := by simpa using z
        simp [this]; omega
theorem ht_ord {M T : List Int} (h : M.length = T.length) : ht (ord M T) = 0 := by
  unfold ht
  rw [perm_sum ((ord_perm M T).map stp)]
  unfold cards
  rw [List.map_append, List.sum_append, List.map_map, List.map_map]
  have a : ∀ n : Nat, ((List.range n).map (stp ∘ fun i => (T.getD i 0, 0, i))).sum = (n : Int) := fun n => by
    induction n with
    | zero => rfl
    | succ n ih => rw [List.range_succ, List.map_append, List.sum_append, ih]; simp [stp]
  have b : ∀ n : Nat, ((List.range n).map (stp ∘ fun i => (M.getD i 0, 1, i))).sum = -(n : Int) := fun n => by
    induction n with
    | zero => rfl
    | succ n ih => rw [List.range_succ, List.map_append, List.sum_append, ih]; simp [stp]; omega
  rw [a, b, h]
  omega
theorem ups_dns {M T : List Int} (h : M.length = T.length) : (upsL (ord M T) (ord M T).length).Perm (dnsL (ord M T) (ord M T).length) := by
  rw [List.perm_iff_count]
  intro v
  have := walk_bal (ord M T) v (ord M T).length (Nat.le_refl _)
  rw [List.take_length, ht_ord h] at this
  have z : bal v 0 = 0 := by unfold bal; split <;> split <;> omega
  rw [z] at this
  omega
/-- by places or by indexes -/
theorem range_side {M T : List Int} {s : Nat} (hs : s = 0 ∨ s = 1) (p : Cd → Bool) (hp : ∀ c ∈ ord M T, p c = decide (c.2.1 = s)) :
    (((List.range (ord M T).length).filter fun k => p ((ord M T).getD k (0, 1, 0))).map fun k => ht ((ord M T).take (k + s))) = (sideIx (ord M T) s).map (lvlAt (ord M T) s) := by
  have hL : ord M T = (List.range (ord M T).length).map fun k => (ord M T).getD k (0, 1, 0) := by
    refine List.ext_getElem? fun i => ?_
    by_cases hi : i < (ord M T).length
    · rw [List.getElem?_map, List.getElem?_range hi, List.getElem?_eq_getElem hi]
      simp [hi]
    · rw [List.getElem?_eq_none (by omega), List.getElem?_eq_none (by simp; omega)]
  unfold sideIx
  rw [List.map_map]
  have e1 : (ord M T).filter (fun c => decide (c.2.1 = s)) = (ord M T).filter p := List.filter_congr fun c hc => (hp c hc).symm
  rw [e1]
  conv => rhs; rw [hL]
  rw [List.filter_map, List.map_map, ← hL]
  refine List.map_congr_left fun k hk => ?_
  obtain ⟨h1, h2⟩ := List.mem_filter.mp hk
  have hk' := List.mem_range.mp h1
  have hg : (ord M T)[k]? = some ((ord M T).getD k (0, 1, 0)) := by rw [List.getElem?_eq_getElem hk']; simp [hk']
  have hm := List.mem_of_getElem? hg
  have hside : ((ord M T).getD k (0, 1, 0)).2.1 = s := by
    rw [hp _ hm] at h2
    exact of_decide_eq_true h2
  show ht ((ord M T).take (k + s)) = lvlAt (ord M T) s ((ord M T).getD k (0, 1, 0)).2.2
  unfold lvlAt
  have := plc_ord hg
  rw [hside] at this
  rw [this]
theorem sideIx_perm {M T : List Int} {s : Nat} (hs : s = 0 ∨ s = 1) : (sideIx (ord M T) s).Perm (List.range (hd M T s).length) := by
  have nd : (sideIx (ord M T) s).Nodup := by
    unfold sideIx
    rw [List.nodup_iff_pairwise_ne, List.pairwise_map, List.pairwise_filter]
    refine (ord_nodup M T).imp_of_mem fun {a b} ha hb ne h1 h2 e => ne ?_
    have e1 := (cd_of ha).1
    have e2 := (cd_of hb).1
    rw [e1, e2, of_decide_eq_true h1, of_decide_eq_true h2, e]
  refine (List.perm_ext_iff_of_nodup nd List.nodup_range).mpr fun a => ?_
  rw [List.mem_range]
  exact ⟨side_mem, side_has hs⟩
theorem lvls_perm {M T : List Int} (h : M.length = T.length) {s : Nat} (hs : s = 0 ∨ s = 1) : ((sideIx (ord M T) s).map (lvlAt (ord M T) s)).Perm (lvls M T s) := by
  have hh : (hd M T s).length = M.length := by rcases hs with rfl | rfl <;> simp [hd, h]
  have := (sideIx_perm (M := M) (T := T) hs).map (lvlAt (ord M T) s)
  rw [hh] at this
  exact this
theorem ups_is (M T : List Int) : upsL (ord M T) (ord M T).length = (sideIx (ord M T) 0).map (lvlAt (ord M T) 0) := by
  have := range_side (M := M) (T := T) (s := 0) (.inl rfl) (fun c => decide (c.2.1 = 0)) fun _ _ => rfl
  exact this
theorem dns_is (M T : List Int) : dnsL (ord M T) (ord M T).length = (sideIx (ord M T) 1).map (lvlAt (ord M T) 1) := by
  have := range_side (M := M) (T := T) (s := 1) (.inr rfl) (fun c => !decide (c.2.1 = 0)) fun c hc => by
    rcases ord_side hc with h | h <;> simp [h]
  exact this
/-- the levels of both sides are the same -/
theorem lvls_both {M T : List Int} (h : M.length = T.length) : (lvls M T 0).Perm (lvls M T 1) := by
  have a := ups_dns h
  rw [ups_is, dns_is] at a
  exact (lvls_perm h (.inl rfl)).symm.trans (a.trans (lvls_perm h (.inr rfl)))
theorem row_side {M T : List Int} (h : M.length = T.length) {s : Nat} (hs : s = 0 ∨ s = 1) : rowP M T = srt (lvls M T s) := by
  unfold rowP
  rcases hs with rfl | rfl
  · exact srt_congr (lvls_both h).symm
  · rfl
theorem row_ups {M T : List Int} (h : M.length = T.length) : srt (upsL (ord M T) (ord M T).length) = rowP M T := by
  rw [ups_is, row_side h (.inl rfl)]
  exact srt_congr (lvls_perm h (.inl rfl))
end CL
namespace CL
open PySem DL
/-! ### a pair is taken out -/
def upx (r j : Nat) : Nat := if j < r then j else j + 1
theorem upx_ne (r j : Nat) : upx r j ≠ r := by unfold upx; split <;> omega
theorem upx_lt {r i j : Nat} : upx r i < upx r j ↔ i < j := by unfold upx; split <;> split <;> omega
theorem upx_bd {r j n : Nat} (h : j < n - 1) : upx r j < n := by unfold upx; split <;> omega
theorem getD_erase {l : List Int} {r j : Nat} : (l.eraseIdx r).getD j 0 = l.getD (upx r j) 0 := by
  rw [List.getD_eq_getElem?_getD, List.getD_eq_getElem?_getD, List.getElem?_eraseIdx]
  unfold upx
  split <;> rfl
theorem range_up {n r : Nat} (h : r < n) : (List.range n).Perm (r :: (List.range (n - 1)).map (upx r)) := by
  have nd : (r :: (List.range (n - 1)).map (upx r)).Nodup := by
    rw [List.nodup_cons]
    refine ⟨fun hm => ?_, ?_⟩
    · obtain ⟨j, _, e⟩ := List.mem_map.mp hm
      exact upx_ne r j e
    · rw [List.nodup_iff_pairwise_ne, List.pairwise_map]
      refine (List.nodup_range (n := n - 1)).imp fun {a b} ne e => ne ?_
      unfold upx at e
      split at e <;> split at e <;> omega
  refine (List.perm_ext_iff_of_nodup List.nodup_range nd).mpr fun a => ?_
  rw [List.mem_range, List.mem_cons, List.mem_map]
  constructor
  · intro ha
    by_cases e : a = r
    · exact .inl e
    · refine .inr ⟨if a < r then a else a - 1, List.mem_range.mpr ?_, ?_⟩
      · split <;> omega
      · by_cases q : a < r
        · rw [if_pos q]; unfold upx; rw [if_pos q]
        · rw [if_neg q]; unfold upx; rw [if_neg (by omega)]; omega
  · rintro (rfl | ⟨j, hj, rfl⟩)
    · exact h
    · exact upx_bd (List.mem_range.mp hj)
def phi (m t : Nat) (c : Cd) : Cd := (c.1, c.2.1, if c.2.1 = 0 then upx t c.2.2 else upx m c.2.2)
theorem phi_lt {m t : Nat} {c d : Cd} : lt3 (phi m t c) (phi m t d) = lt3 c d := by
  rw [Bool.eq_iff_iff, lt3_iff, lt3_iff]
  unfold phi
  simp only
  constructor
  · rintro (h | ⟨h1, h | ⟨h2, h3⟩⟩)
    · exact .inl h
    · exact .inr ⟨h1, .inl h⟩
    · refine .inr ⟨h1, .inr ⟨h2, ?_⟩⟩
      rw [h2] at h3
      split at h3 <;> exact upx_lt.mp h3
  · rintro (h | ⟨h1, h | ⟨h2, h3⟩⟩)
    · exact .inl h
    · exact .inr ⟨h1, .inl h⟩
    · refine .inr ⟨h1, .inr ⟨h2, ?_⟩⟩
      rw [h2]
      split <;> exact upx_lt.mpr h3
theorem phi_stp (m t : Nat) (c : Cd) : stp (phi m t c) = stp c := rfl
theorem cards_phi {M T : List Int} {m t : Nat} (hm : m < M.length) (ht : t < T.length) : (cards M T).Perm (cd M T 0 t :: cd M T 1 m :: (cards (M.eraseIdx m) (T.eraseIdx t)).map (phi m t)) := by
  have l1 : (M.eraseIdx m).length = M.length - 1 := List.length_eraseIdx_of_lt hm
  have l2 : (T.eraseIdx t).length = T.length - 1 := List.length_eraseIdx_of_lt ht
  unfold cards
  rw [l1, l2, List.map_append, List.map_map, List.map_map]
  have a := (range_up ht).map fun i => ((T.getD i 0, 0, i) : Cd)
  have b := (range_up hm).map fun i => ((M.getD i 0, 1, i) : Cd)
  rw [List.map_cons, List.map_map] at a b
  have e1 : (List.range (T.length - 1)).map ((fun i => ((T.getD i 0, 0, i) : Cd)) ∘ upx t) = (List.range (T.length - 1)).map (phi m t ∘ fun i => ((T.eraseIdx t).getD i 0, 0, i)) := List.map_congr_left fun j _ => by
    show ((T.getD (upx t j) 0, 0, upx t j) : Cd) = ((T.eraseIdx t).getD j 0, 0, upx t j)
    rw [getD_erase]
  have e2 : (List.range (M.length - 1)).map ((fun i => ((M.getD i 0, 1, i) : Cd)) ∘ upx m) = (List.range (M.length - 1)).map (phi m t ∘ fun i => ((M.eraseIdx m).getD i 0, 1, i)) := List.map_congr_left fun j _ => by
    show ((M.getD (upx m j) 0, 1, upx m j) : Cd) = ((M.eraseIdx m).getD j 0, 1, upx m j)
    rw [getD_erase]
  rw [e1] at a
  rw [e2] at b
  refine (a.append b).trans ?_
  rw [List.cons_append]
  refine List.Perm.cons _ ?_
  exact List.perm_middle
def b2 (b : Bool) : Int := if b = true then 1 else 0
theorem lev_phi {M T : List Int} {m t : Nat} (hm : m < M.length) (ht : t < T.length) (c : Cd) : lev (cards (M.eraseIdx m) (T.eraseIdx t)) c = lev (cards M T) (phi m t c) - b2 (lt3 (cd M T 0 t) (phi m t c)) + b2 (lt3 (cd M T 1 m) (phi m t c)) := by
  rw [lev_perm (cards_phi hm ht)]
  unfold lev
  rw [List.map_cons, List.map_cons, List.sum_cons, List.sum_cons, List.map_map]
  have e : (cards (M.eraseIdx m) (T.eraseIdx t)).map ((fun d => if lt3 d (phi m t c) then stp d else 0) ∘ phi m t) = (cards (M.eraseIdx m) (T.eraseIdx t)).map fun d => if lt3 d c then stp d else 0 := List.map_congr_left fun d _ => by
    show (if lt3 (phi m t d) (phi m t c) then stp (phi m t d) else 0) = _
    rw [phi_lt, phi_stp]
  rw [e]
  have h0 : stp (cd M T 0 t) = 1 := rfl
  have h1 : stp (cd M T 1 m) = -1 := rfl
  have h2 : (phi m t c).2.1 = c.2.1 := rfl
  rw [h0, h1, h2]
  unfold b2
  split <;> split <;> omega
def own2 (s m t : Nat) : Nat := if s = 0 then t else m
theorem lvls_phi {M T : List Int} (hl : M.length = T.length) {m t s j : Nat} (hm : m < M.length) (ht : t < T.length) (hs : s = 0 ∨ s = 1) (hj : j < M.length - 1) :
    (lvls (M.eraseIdx m) (T.eraseIdx t) s).getD j 0 = (lvls M T s).getD (upx (own2 s m t) j) 0 - b2 (lt3 (cd M T 0 t) (cd M T s (upx (own2 s m t) j))) + b2 (lt3 (cd M T 1 m) (cd M T s (upx (own2 s m t) j))) := by
  have l1 : (M.eraseIdx m).length = M.length - 1 := List.length_eraseIdx_of_lt hm
  have l2 : (T.eraseIdx t).length = T.length - 1 := List.length_eraseIdx_of_lt ht
  have hu : upx (own2 s m t) j < M.length := upx_bd hj
  have hh : (hd M T s).length = M.length := by rcases hs with rfl | rfl <;> simp [hd, hl]
  have hh' : (hd (M.eraseIdx m) (T.eraseIdx t) s).length = M.length - 1 := by rcases hs with rfl | rfl <;> simp [hd] <;> omega
  rw [lvls_get (by omega), lvls_get hu, lvlAt_lev hs (by omega), lvlAt_lev hs (by omega), lev_phi hm ht]
  have e : phi m t (cd (M.eraseIdx m) (T.eraseIdx t) s j) = cd M T s (upx (own2 s m t) j) := by
    rcases hs with rfl | rfl
    · unfold phi cd own2
      simp only [if_true, getD_erase]
    · unfold phi cd own2
      simp only [Nat.one_ne_zero, if_false, getD_erase]
  rw [e]
def hitOf (M T : List Int) (m t : Nat) : Int := if T.getD t 0 ≤ M.getD m 0 then 1 else 0
theorem hit_b2 (M T : List Int) (m t : Nat) : hitOf M T m t = b2 (lt3 (cd M T 0 t) (cd M T 1 m)) := by
  unfold hitOf b2
  by_cases h : T.getD t 0 ≤ M.getD m 0
  · rw [if_pos h, if_pos]
    rw [lt3_iff]
    show T.getD t 0 < M.getD m 0 ∨ (T.getD t 0 = M.getD m 0 ∧ ((0 : Nat) < 1 ∨ _))
    by_cases e : T.getD t 0 = M.getD m 0
    · exact .inr ⟨e, .inl (by decide)⟩
    · exact .inl (by omega)
  · rw [if_neg h, if_neg]
    rw [lt3_iff]
    show ¬ (T.getD t 0 < M.getD m 0 ∨ (T.getD t 0 = M.getD m 0 ∧ _))
    rintro (h1 | ⟨h1, _⟩) <;> omega
theorem b2_01 (b : Bool) : b2 b = 0 ∨ b2 b = 1 := by cases b <;> simp [b2]
theorem lt3_tr {a b c : Cd} (h : lt3 a b = true) (g : lt3 b c = true) : lt3 a c = true := by
  rw [lt3_iff] at *
  omega
theorem lt3_as {a b : Cd} (h : lt3 a b = true) : lt3 b a = false := by
  rw [lt3_not]
  rw [lt3_iff] at h
  omega
/-- the arc from mine up to theirs: counted it is never more than one -/
theorem arc_le (a b c : Cd) : - b2 (lt3 a c) + b2 (lt3 b c) + b2 (lt3 a b) ≤ 1 := by
  rcases b2_01 (lt3 a c) with h1 | h1 <;> rcases b2_01 (lt3 b c) with h2 | h2 <;> rcases b2_01 (lt3 a b) with h3 | h3 <;> try omega
  exfalso
  have q2 : lt3 b c = true := by cases e : lt3 b c <;> simp [b2, e] at h2 ⊢
  have q3 : lt3 a b = true := by cases e : lt3 a b <;> simp [b2, e] at h3 ⊢
  have := lt3_tr q3 q2
  rw [this] at h1
  simp [b2] at h1
/-- the lay of a highest card -/
theorem row_lay {M T : List Int} (hl : M.length = T.length) {s m t k : Nat} (hm : m < M.length) (ht : t < T.length) (hs : s = 0 ∨ s = 1) (hlay : LayIs M T s true (own2 s m t)) (hk : k < M.length - 1) :
    (rowP (M.eraseIdx m) (T.eraseIdx t)).getD k 0 + hitOf M T m t ≤ (rowP M T).getD k 0 + 1 := by
  have l1 : (M.eraseIdx m).length = M.length - 1 := List.length_eraseIdx_of_lt hm
  have l2 : (T.eraseIdx t).length = T.length - 1 := List.length_eraseIdx_of_lt ht
  have hl' : (M.eraseIdx m).length = (T.eraseIdx t).length := by omega
  have hr : own2 s m t < M.length := by unfold own2; split <;> omega
  obtain ⟨g, r, hg, hsp⟩ := hlay
  have hin : own2 s m t ∈ spotsOf M T s g := by rw [hsp]; exact List.mem_cons_self
  have hval := ((spots_mem hl hs).mp hin).2
  rw [row_side hl' hs, row_side hl hs]
  have hlen : (lvls M T s).length = M.length := lvls_len M T s
  have hlen' : (lvls (M.eraseIdx m) (T.eraseIdx t) s).length = M.length - 1 := by rw [lvls_len, l1]
  have hri : own2 s m t < (lvls M T s).length := by omega
  have hget : (lvls M T s)[own2 s m t] = g := by
    rw [← hval, List.getD_eq_getElem?_getD, List.getElem?_eq_getElem hri]; rfl
  have h1 := srt_erase_max (l := lvls M T s) (i := own2 s m t) (k := k) hri (fun y hy => by rw [hget]; exact hg.2 y hy) (by omega)
  have le : ((lvls M T s).eraseIdx (own2 s m t)).length = M.length - 1 := by rw [List.length_eraseIdx_of_lt hri, hlen]
  have h2 : (srt ((lvls (M.eraseIdx m) (T.eraseIdx t) s).map (· + hitOf M T m t))).getD k 0 ≤ (srt (((lvls M T s).eraseIdx (own2 s m t)).map (· + 1))).getD k 0 := by
    refine srt_mono (by rw [List.length_map, List.length_map]; omega) (fun j hj => ?_) (by rw [List.length_map]; omega)
    rw [List.length_map] at hj
    have hj' : j < M.length - 1 := by omega
    have a1 : ((lvls (M.eraseIdx m) (T.eraseIdx t) s).map (· + hitOf M T m t)).getD j 0 = (lvls (M.eraseIdx m) (T.eraseIdx t) s).getD j 0 + hitOf M T m t := by
      simp [List.getD_eq_getElem?_getD, List.getElem?_eq_getElem hj]
    have a2 : (((lvls M T s).eraseIdx (own2 s m t)).map (· + 1)).getD j 0 = ((lvls M T s).eraseIdx (own2 s m t)).getD j 0 + 1 := by
      simp [List.getD_eq_getElem?_getD, List.getElem?_eq_getElem (show j < ((lvls M T s).eraseIdx (own2 s m t)).length by omega)]
    rw [a1, a2, lvls_phi hl hm ht hs hj', getD_erase, hit_b2]
    have := arc_le (cd M T 0 t) (cd M T 1 m) (cd M T s (upx (own2 s m t) j))
    omega
  rw [srt_shift _ _ (by omega), srt_shift _ _ (by omega)] at h2
  omega
/-- an answer: no card of the guide's side between -/
theorem row_answer {M T : List Int} (hl : M.length = T.length) {s m t k : Nat} (hm : m < M.length) (ht : t < T.length) (hs : s = 0 ∨ s = 1) (hno : ∀ i, i < M.length → i ≠ own2 s m t → - b2 (lt3 (cd M T 0 t) (cd M T s i)) + b2 (lt3 (cd M T 1 m) (cd M T s i)) + b2 (lt3 (cd M T 0 t) (cd M T 1 m)) ≤ 0) (hk : k < M.length - 1) :
    (rowP (M.eraseIdx m) (T.eraseIdx t)).getD k 0 + hitOf M T m t ≤ (rowP M T).getD (k + 1) 0 := by
  have l1 : (M.eraseIdx m).length = M.length - 1 := List.length_eraseIdx_of_lt hm
  have l2 : (T.eraseIdx t).length = T.length - 1 := List.length_eraseIdx_of_lt ht
  have hl' : (M.eraseIdx m).length = (T.eraseIdx t).length := by omega
  have hr : own2 s m t < M.length := by unfold own2; split <;> omega
  rw [row_side hl' hs, row_side hl hs]
  have hlen : (lvls M T s).length = M.length := lvls_len M T s
  have hlen' : (lvls (M.eraseIdx m) (T.eraseIdx t) s).length = M.length - 1 := by rw [lvls_len, l1]
  have hri : own2 s m t < (lvls M T s).length := by omega
  have h1 := srt_erase_tail (l := lvls M T s) (i := own2 s m t) (k := k) hri (by omega)
  have le : ((lvls M T s).eraseIdx (own2 s m t)).length = M.length - 1 := by rw [List.length_eraseIdx_of_lt hri, hlen]
  have h2 : (srt ((lvls (M.eraseIdx m) (T.eraseIdx t) s).map (· + hitOf M T m t))).getD k 0 ≤ (srt ((lvls M T s).eraseIdx (own2 s m t))).getD k 0 := by
    refine srt_mono (by rw [List.length_map]; omega) (fun j hj => ?_) (by rw [List.length_map]; omega)
    rw [List.length_map] at hj
    have hj' : j < M.length - 1 := by omega
    have a1 : ((lvls (M.eraseIdx m) (T.eraseIdx t) s).map (· + hitOf M T m t)).getD j 0 = (lvls (M.eraseIdx m) (T.eraseIdx t) s).getD j 0 + hitOf M T m t := by
      simp [List.getD_eq_getElem?_getD, List.getElem?_eq_getElem hj]
    rw [a1, lvls_phi hl hm ht hs hj', getD_erase, hit_b2]
    have := hno _ (upx_bd (r := own2 s m t) hj') (upx_ne _ _)
    omega
  rw [srt_shift _ _ (by omega)] at h2
  omega
end CL
namespace CL
open PySem DL
theorem ord_strict (M T : List Int) : (ord M T).Pairwise (fun c d => lt3 c d = true) := by
  have h1 := ord_sorted M T
  have h2 := ord_nodup M T
  rw [List.nodup_iff_pairwise_ne] at h2
  exact (h1.and h2).imp fun {a b} q => lt3_of q.1 q.2
theorem ord_parts {M T : List Int} {q : Nat} (h : q < (ord M T).length) : (∀ c ∈ (ord M T).take q, lt3 c (ord M T)[q] = true) ∧ (∀ c ∈ (ord M T).drop (q + 1), lt3 (ord M T)[q] c = true) ∧ (∀ c ∈ (ord M T).take q, ∀ d ∈ (ord M T).drop (q + 1), lt3 c d = true) ∧ ((ord M T).take q).Pairwise (fun c d => lt3 c d = true) ∧ ((ord M T).drop (q + 1)).Pairwise (fun c d => lt3 c d = true) := by
  have hs := ord_strict M T
  have split3 : ord M T = (ord M T).take q ++ ((ord M T)[q] :: (ord M T).drop (q + 1)) := by
    rw [← List.drop_eq_getElem_cons h, List.take_append_drop]
  rw [split3] at hs
  rw [List.pairwise_append, List.pairwise_cons] at hs
  exact ⟨fun c hc => hs.2.2 c hc _ List.mem_cons_self, hs.2.1.1, fun c hc d hd => hs.2.2 c hc d (List.mem_cons_of_mem _ hd), hs.1, hs.2.1.2⟩
/-- the next card of the other side up (s the side of the answer) -/
theorem up_first {M T : List Int} {o p : Nat} {r : List Nat} (hl : M.length = T.length) (ho : o < M.length) (h : arnd M T 1 o false = p :: r) (i : Nat) (hi : i < M.length) (hne : i ≠ p) :
    - b2 (lt3 (cd M T 0 p) (cd M T 0 i)) + b2 (lt3 (cd M T 1 o) (cd M T 0 i)) + b2 (lt3 (cd M T 0 p) (cd M T 1 o)) ≤ 0 := by
  have hh : o < (hd M T 1).length := ho
  have hp := plc_at (M := M) (T := T) (.inr rfl) hh
  obtain ⟨hlt, he⟩ := List.getElem?_eq_some_iff.mp hp
  obtain ⟨p1, p2, p3, p4, p5⟩ := ord_parts hlt
  rw [he] at p1 p2
  unfold arnd met at h
  simp only [Bool.false_eq_true, if_false] at h
  rw [List.filter_append, List.map_append] at h
  have key : ∀ c, c ∈ ord M T → c.2.1 = 0 → c.2.2 = p → c = cd M T 0 p := fun c hc h1 h2 => by
    have := (cd_of hc).1
    rw [h1, h2] at this
    exact this
  have hc : cd M T 0 i ∈ ord M T := cd_mem (.inl rfl) (by simp [hd]; omega)
  have hcs : (cd M T 0 i).2.1 = 0 := rfl
  have hnec : cd M T 0 i ≠ cd M T 0 p := fun e => hne (congrArg (fun c : Cd => c.2.2) e)
  have hin : cd M T 0 i ∈ (ord M T).take (plc (ord M T) 1 o) ∨ cd M T 0 i ∈ (ord M T).drop (plc (ord M T) 1 o + 1) := by
    have split3 : ord M T = (ord M T).take (plc (ord M T) 1 o) ++ (cd M T 1 o :: (ord M T).drop (plc (ord M T) 1 o + 1)) := by
      rw [← he, ← List.drop_eq_getElem_cons hlt, List.take_append_drop]
    rw [split3] at hc
    rcases List.mem_append.mp hc with h | h
    · exact .inl h
    · rcases List.mem_cons.mp h with h | h
      · exact absurd (congrArg (fun c : Cd => c.2.1) h) (by simp [cd])
      · exact .inr h
  cases hd' : ((ord M T).drop (plc (ord M T) 1 o + 1)).filter (fun c => !decide (c.2.1 = 1)) with
  | cons x xs =>
    rw [hd'] at h
    have hx : x ∈ (ord M T).drop (plc (ord M T) 1 o + 1) ∧ x.2.1 = 0 := by
      have : x ∈ ((ord M T).drop (plc (ord M T) 1 o + 1)).filter (fun c => !decide (c.2.1 = 1)) := by rw [hd']; exact List.mem_cons_self
      obtain ⟨a, b⟩ := List.mem_filter.mp this
      have := ord_side (List.mem_of_mem_drop a)
      have b' : x.2.1 ≠ 1 := by simpa using b
      exact ⟨a, by omega⟩
    have ex : x = cd M T 0 p := key x (List.mem_of_mem_drop hx.1) hx.2 (by have := (List.cons.inj h).1; exact this)
    subst ex
    have hpo := p2 _ hx.1
    rw [lt3_as hpo]
    rcases hin with h1 | h1
    · have q1 := p1 _ h1
      rw [lt3_as q1]
      have q2 := lt3_as (lt3_tr q1 hpo)
      rw [q2]
      simp [b2]
    · have hf : cd M T 0 i ∈ ((ord M T).drop (plc (ord M T) 1 o + 1)).filter (fun c => !decide (c.2.1 = 1)) := List.mem_filter.mpr ⟨h1, by rw [hcs]; rfl⟩
      rw [hd'] at hf
      have pw : (cd M T 0 p :: xs).Pairwise (fun c d => lt3 c d = true) := by rw [← hd']; exact p5.filter _
      rw [List.pairwise_cons] at pw
      rcases List.mem_cons.mp hf with e | hf
      · exact absurd e hnec
      · rw [pw.1 _ hf, p2 _ h1]
        simp [b2]
  | nil =>
    rw [hd'] at h
    have hno : ∀ c ∈ (ord M T).drop (plc (ord M T) 1 o + 1), c.2.1 ≠ 0 := fun c hc z => by
      have : c ∈ ((ord M T).drop (plc (ord M T) 1 o + 1)).filter (fun c => !decide (c.2.1 = 1)) := List.mem_filter.mpr ⟨hc, by rw [z]; rfl⟩
      rw [hd'] at this; cases this
    cases ht' : ((ord M T).take (plc (ord M T) 1 o)).filter (fun c => !decide (c.2.1 = 1)) with
    | nil => rw [ht'] at h; cases h
    | cons x xs =>
      rw [ht'] at h
      have hx : x ∈ (ord M T).take (plc (ord M T) 1 o) ∧ x.2.1 = 0 := by
        have : x ∈ ((ord M T).take (plc (ord M T) 1 o)).filter (fun c => !decide (c.2.1 = 1)) := by rw [ht']; exact List.mem_cons_self
        obtain ⟨a, b⟩ := List.mem_filter.mp this
        have := ord_side (List.mem_of_mem_take a)
        have b' : x.2.1 ≠ 1 := by simpa using b
        exact ⟨a, by omega⟩
      have ex : x = cd M T 0 p := key x (List.mem_of_mem_take hx.1) hx.2 (by have := (List.cons.inj h).1; exact this)
      subst ex
      rcases hin with h1 | h1
      · have hf : cd M T 0 i ∈ ((ord M T).take (plc (ord M T) 1 o)).filter (fun c => !decide (c.2.1 = 1)) := List.mem_filter.mpr ⟨h1, by rw [hcs]; rfl⟩
        rw [ht'] at hf
        have pw : (cd M T 0 p :: xs).Pairwise (fun c d => lt3 c d = true) := by rw [← ht']; exact p4.filter _
        rw [List.pairwise_cons] at pw
        rcases List.mem_cons.mp hf with e | hf
        · exact absurd e hnec
        · rw [pw.1 _ hf, lt3_as (p1 _ h1), p1 _ hx.1]
          simp [b2]
      · exact absurd hcs (hno _ h1)
/-- the next card of the other side down -/
theorem down_first {M T : List Int} {o p : Nat} {r : List Nat} (hl : M.length = T.length) (ho : o < T.length) (h : arnd M T 0 o true = p :: r) (i : Nat) (hi : i < M.length) (hne : i ≠ p) :
    - b2 (lt3 (cd M T 0 o) (cd M T 1 i)) + b2 (lt3 (cd M T 1 p) (cd M T 1 i)) + b2 (lt3 (cd M T 0 o) (cd M T 1 p)) ≤ 0 := by
  have hh : o < (hd M T 0).length := ho
  have hp := plc_at (M := M) (T := T) (.inl rfl) hh
  obtain ⟨hlt, he⟩ := List.getElem?_eq_some_iff.mp hp
  obtain ⟨p1, p2, p3, p4, p5⟩ := ord_parts hlt
  rw [he] at p1 p2
  unfold arnd met at h
  simp only [if_true] at h
  rw [List.reverse_append, List.filter_append, List.map_append] at h
  have key : ∀ c, c ∈ ord M T → c.2.1 = 1 → c.2.2 = p → c = cd M T 1 p := fun c hc h1 h2 => by
    have := (cd_of hc).1
    rw [h1, h2] at this
    exact this
  have hc : cd M T 1 i ∈ ord M T := cd_mem (.inr rfl) (by simp [hd]; omega)
  have hcs : (cd M T 1 i).2.1 = 1 := rfl
  have hnec : cd M T 1 i ≠ cd M T 1 p := fun e => hne (congrArg (fun c : Cd => c.2.2) e)
  have hin : cd M T 1 i ∈ (ord M T).take (plc (ord M T) 0 o) ∨ cd M T 1 i ∈ (ord M T).drop (plc (ord M T) 0 o + 1) := by
    have split3 : ord M T = (ord M T).take (plc (ord M T) 0 o) ++ (cd M T 0 o :: (ord M T).drop (plc (ord M T) 0 o + 1)) := by
      rw [← he, ← List.drop_eq_getElem_cons hlt, List.take_append_drop]
    rw [split3] at hc
    rcases List.mem_append.mp hc with h | h
    · exact .inl h
    · rcases List.mem_cons.mp h with h | h
      · exact absurd (congrArg (fun c : Cd => c.2.1) h) (by simp [cd])
      · exact .inr h
  cases ht' : ((ord M T).take (plc (ord M T) 0 o)).reverse.filter (fun c => !decide (c.2.1 = 0)) with
  | cons x xs =>
    rw [ht'] at h
    have hx : x ∈ (ord M T).take (plc (ord M T) 0 o) ∧ x.2.1 = 1 := by
      have : x ∈ ((ord M T).take (plc (ord M T) 0 o)).reverse.filter (fun c => !decide (c.2.1 = 0)) := by rw [ht']; exact List.mem_cons_self
      obtain ⟨a, b⟩ := List.mem_filter.mp this
      have a' := List.mem_reverse.mp a
      have := ord_side (List.mem_of_mem_take a')
      have b' : x.2.1 ≠ 0 := by simpa using b
      exact ⟨a', by omega⟩
    have ex : x = cd M T 1 p := key x (List.mem_of_mem_take hx.1) hx.2 (by have := (List.cons.inj h).1; exact this)
    subst ex
    have hpo := p1 _ hx.1
    rw [lt3_as hpo]
    rcases hin with h1 | h1
    · have hf : cd M T 1 i ∈ ((ord M T).take (plc (ord M T) 0 o)).reverse.filter (fun c => !decide (c.2.1 = 0)) := List.mem_filter.mpr ⟨List.mem_reverse.mpr h1, by rw [hcs]; rfl⟩
      rw [ht'] at hf
      have pw : (cd M T 1 p :: xs).Pairwise (fun c d => lt3 d c = true) := by rw [← ht']; exact (List.pairwise_reverse.mpr p4).filter _
      rw [List.pairwise_cons] at pw
      rcases List.mem_cons.mp hf with e | hf
      · exact absurd e hnec
      · rw [lt3_as (pw.1 _ hf), lt3_as (p1 _ h1)]
        simp [b2]
    · have q1 := p2 _ h1
      have q2 := lt3_tr hpo q1
      rw [q1, q2]
      simp [b2]
  | nil =>
    rw [ht'] at h
    have hno : ∀ c ∈ (ord M T).take (plc (ord M T) 0 o), c.2.1 ≠ 1 := fun c hc z => by
      have : c ∈ ((ord M T).take (plc (ord M T) 0 o)).reverse.filter (fun c => !decide (c.2.1 = 0)) := List.mem_filter.mpr ⟨List.mem_reverse.mpr hc, by rw [z]; rfl⟩
      rw [ht'] at this; cases this
    cases hd' : ((ord M T).drop (plc (ord M T) 0 o + 1)).reverse.filter (fun c => !decide (c.2.1 = 0)) with
    | nil => rw [hd'] at h; cases h
    | cons x xs =>
      rw [hd'] at h
      have hx : x ∈ (ord M T).drop (plc (ord M T) 0 o + 1) ∧ x.2.1 = 1 := by
        have : x ∈ ((ord M T).drop (plc (ord M T) 0 o + 1)).reverse.filter (fun c => !decide (c.2.1 = 0)) := by rw [hd']; exact List.mem_cons_self
        obtain ⟨a, b⟩ := List.mem_filter.mp this
        have a' := List.mem_reverse.mp a
        have := ord_side (List.mem_of_mem_drop a')
        have b' : x.2.1 ≠ 0 := by simpa using b
        exact ⟨a', by omega⟩
      have ex : x = cd M T 1 p := key x (List.mem_of_mem_drop hx.1) hx.2 (by have := (List.cons.inj h).1; exact this)
      subst ex
      rcases hin with h1 | h1
      · exact absurd hcs (hno _ h1)
      · have hf : cd M T 1 i ∈ ((ord M T).drop (plc (ord M T) 0 o + 1)).reverse.filter (fun c => !decide (c.2.1 = 0)) := List.mem_filter.mpr ⟨List.mem_reverse.mpr h1, by rw [hcs]; rfl⟩
        rw [hd'] at hf
        have pw : (cd M T 1 p :: xs).Pairwise (fun c d => lt3 d c = true) := by rw [← hd']; exact (List.pairwise_reverse.mpr p5).filter _
        rw [List.pairwise_cons] at pw
        rcases List.mem_cons.mp hf with e | hf
        · exact absurd e hnec
        · rw [lt3_as (pw.1 _ hf), p2 _ h1, p2 _ hx.1]
          simp [b2]
end CL
section
open PySem PySem.Spec PyProof.Rows L2 DL CL
local macro_rules | `(tactic| walk_at "nm") => `(tactic| (refine nh (by first | exact blk_N fun _ => rfl | exact fun _ => rfl) (by first | exact blk_S fun _ => rfl | exact fun _ => rfl) (by decide +kernel) ?_; intro hN hS hv hd; first | refine ni 0 hN hS hv hd (by decide +kernel) rfl ?_ | refine ni 1 hN hS hv hd (by decide +kernel) rfl ?_ | refine ni 2 hN hS hv hd (by decide +kernel) rfl ?_ | refine ni 3 hN hS hv hd (by decide +kernel) rfl ?_ | refine ni 4 hN hS hv hd (by decide +kernel) rfl ?_ | refine ni 5 hN hS hv hd (by decide +kernel) rfl ?_ | refine ni 6 hN hS hv hd (by decide +kernel) rfl ?_ | refine ni 7 hN hS hv hd (by decide +kernel) rfl ?_ | refine ni 8 hN hS hv hd (by decide +kernel) rfl ?_ | refine ni 9 hN hS hv hd (by decide +kernel) rfl ?_ | refine ni 10 hN hS hv hd (by decide +kernel) rfl ?_ | refine ni 11 hN hS hv hd (by decide +kernel) rfl ?_ | refine ni 12 hN hS hv hd (by decide +kernel) rfl ?_ | refine ni 13 hN hS hv hd (by decide +kernel) rfl ?_ | refine ni 14 hN hS hv hd (by decide +kernel) rfl ?_ | refine ni 15 hN hS hv hd (by decide +kernel) rfl ?_ | refine ni 16 hN hS hv hd (by decide +kernel) rfl ?_ | refine ni 17 hN hS hv hd (by decide +kernel) rfl ?_ | refine ni 18 hN hS hv hd (by decide +kernel) rfl ?_ | refine ni 19 hN hS hv hd (by decide +kernel) rfl ?_ | refine ni 20 hN hS hv hd (by decide +kernel) rfl ?_ | refine ni 21 hN hS hv hd (by decide +kernel) rfl ?_ | refine ni 22 hN hS hv hd (by decide +kernel) rfl ?_ | refine ni 23 hN hS hv hd (by decide +kernel) rfl ?_ | refine ni 24 hN hS hv hd (by decide +kernel) rfl ?_ | refine ni 25 hN hS hv hd (by decide +kernel) rfl ?_; clear hN hS hv hd))
local macro_rules | `(tactic| walk_at "ex") => `(tactic| refine c_notN ?_)
local macro_rules | `(tactic| walk_at "ex") => `(tactic| first | refine c_isN ?_ | fail)
local macro_rules | `(tactic| walk_at "ex") => `(tactic| first | refine c_neS ?_ | fail)
local macro_rules | `(tactic| walk_at "ex") => `(tactic| first | refine c_eqS ?_ | fail)
local macro_rules | `(tactic| walk_at "ex") => `(tactic| first | refine c_neI ?_ | fail)
local macro_rules | `(tactic| walk_at "ex") => `(tactic| first | refine c_eqI ?_ | fail)
local macro_rules | `(tactic| walk_at "ex") => `(tactic| first | refine c_ge ?_ | fail)
local macro_rules | `(tactic| walk_at "ex") => `(tactic| first | refine c_gt ?_ | fail)
local macro_rules | `(tactic| walk_at "ex") => `(tactic| first | refine c_le ?_ | fail)
local macro_rules | `(tactic| walk_at "ex") => `(tactic| first | refine c_lt ?_ | fail)
local macro_rules | `(tactic| walk_at "ex") => `(tactic| first | refine b_sub ?_ | fail)
local macro_rules | `(tactic| walk_at "ex") => `(tactic| first | refine b_add ?_ | fail)
local macro_rules | `(tactic| walk_at "ex") => `(tactic| first | refine c_intB ?_ | fail)
local macro_rules | `(tactic| walk_at "ex") => `(tactic| first | refine c_int ?_ | fail)
local macro_rules | `(tactic| walk_at "ex") => `(tactic| first | refine c_len (by assumption) ?_ | fail)
local macro_rules | `(tactic| walk_at "ex") => `(tactic| first | refine ev_int1 (by assumption) (Fre.int (by assumption)) ?_ | fail)
local macro_rules | `(tactic| walk_at "ex") => `(tactic| first | refine ev_len (by assumption) (Fre.len (by assumption)) ?_ | fail)
local macro_rules | `(tactic| walk_at "ex") => `(tactic| first | refine ev_neg ?_ | fail)
local macro_rules | `(tactic| walk_at "ex") => `(tactic| first | refine And.intro (show List.length _ ≤ 1000 by simp) ?_ | fail)
local macro_rules | `(tactic| walk_at "ex") => `(tactic| first | refine ev_lst ?_ | fail)
local macro_rules | `(tactic| walk_at "ex") => `(tactic| first | walk_at "nm" | fail)
local macro_rules | `(tactic| walk_at "ex") => `(tactic| first | refine ev_tup ?_ | fail)
local macro_rules | `(tactic| walk_at "ex") => `(tactic| first | refine evs_nil ?_ | fail)
local macro_rules | `(tactic| walk_at "ex") => `(tactic| first | refine evs_cons ?_ | fail)
local macro_rules | `(tactic| walk_at "ex") => `(tactic| first | refine ev_sub ?_ | fail)
local macro_rules | `(tactic| walk_at "ex") => `(tactic| first | refine ec_bin ?_ | fail)
local macro_rules | `(tactic| walk_at "ex") => `(tactic| first | refine ec_cmp ?_ | fail)
local macro_rules | `(tactic| walk_at "ex") => `(tactic| first | refine et_cmp ?_ | fail)
local macro_rules | `(tactic| walk_at "ex") => `(tactic| first | refine ev_non ?_ | fail)
local macro_rules | `(tactic| walk_at "ex") => `(tactic| first | refine ev_bl ?_ | fail)
local macro_rules | `(tactic| walk_at "ex") => `(tactic| first | refine ev_str ?_ | fail)
local macro_rules | `(tactic| walk_at "ex") => `(tactic| first | refine ev_int ?_ | fail)
local macro_rules | `(tactic| walk_at "all") => `(tactic| repeat walk_at "ex")
local macro_rules | `(tactic| walk_at "set") => `(tactic| refine st_cons (s_st (j := 25) (by assumption) ?_))
local macro_rules | `(tactic| walk_at "set") => `(tactic| first | refine st_cons (s_st (j := 24) (by assumption) ?_) | fail)
local macro_rules | `(tactic| walk_at "set") => `(tactic| first | refine st_cons (s_st (j := 23) (by assumption) ?_) | fail)
local macro_rules | `(tactic| walk_at "set") => `(tactic| first | refine st_cons (s_st (j := 22) (by assumption) ?_) | fail)
local macro_rules | `(tactic| walk_at "set") => `(tactic| first | refine st_cons (s_st (j := 21) (by assumption) ?_) | fail)
local macro_rules | `(tactic| walk_at "set") => `(tactic| first | refine st_cons (s_st (j := 20) (by assumption) ?_) | fail)
local macro_rules | `(tactic| walk_at "set") => `(tactic| first | refine st_cons (s_st (j := 19) (by assumption) ?_) | fail)
local macro_rules | `(tactic| walk_at "set") => `(tactic| first | refine st_cons (s_st (j := 18) (by assumption) ?_) | fail)
local macro_rules | `(tactic| walk_at "set") => `(tactic| first | refine st_cons (s_st (j := 17) (by assumption) ?_) | fail)
local macro_rules | `(tactic| walk_at "set") => `(tactic| first | refine st_cons (s_st (j := 16) (by assumption) ?_) | fail)
local macro_rules | `(tactic| walk_at "set") => `(tactic| first | refine st_cons (s_st (j := 15) (by assumption) ?_) | fail)
local macro_rules | `(tactic| walk_at "set") => `(tactic| first | refine st_cons (s_st (j := 14) (by assumption) ?_) | fail)
local macro_rules | `(tactic| walk_at "set") => `(tactic| first | refine st_cons (s_st (j := 13) (by assumption) ?_) | fail)
local macro_rules | `(tactic| walk_at "set") => `(tactic| first | refine st_cons (s_st (j := 12) (by assumption) ?_) | fail)
local macro_rules | `(tactic| walk_at "set") => `(tactic| first | refine st_cons (s_st (j := 11) (by assumption) ?_) | fail)
local macro_rules | `(tactic| walk_at "set") => `(tactic| first | refine st_cons (s_st (j := 10) (by assumption) ?_) | fail)
local macro_rules | `(tactic| walk_at "set") => `(tactic| first | refine st_cons (s_st (j := 9) (by assumption) ?_) | fail)
local macro_rules | `(tactic| walk_at "set") => `(tactic| first | refine st_cons (s_st (j := 8) (by assumption) ?_) | fail)
local macro_rules | `(tactic| walk_at "set") => `(tactic| first | refine st_cons (s_st (j := 7) (by assumption) ?_) | fail)
local macro_rules | `(tactic| walk_at "set") => `(tactic| first | refine st_cons (s_st (j := 6) (by assumption) ?_) | fail)
local macro_rules | `(tactic| walk_at "set") => `(tactic| first | refine st_cons (s_st (j := 5) (by assumption) ?_) | fail)
local macro_rules | `(tactic| walk_at "set") => `(tactic| first | refine st_cons (s_st (j := 4) (by assumption) ?_) | fail)
local macro_rules | `(tactic| walk_at "set") => `(tactic| first | refine st_cons (s_st (j := 3) (by assumption) ?_) | fail)
local macro_rules | `(tactic| walk_at "set") => `(tactic| first | refine st_cons (s_st (j := 2) (by assumption) ?_) | fail)
local macro_rules | `(tactic| walk_at "set") => `(tactic| first | refine st_cons (s_st (j := 1) (by assumption) ?_) | fail)
local macro_rules | `(tactic| walk_at "set") => `(tactic| first | refine st_cons (s_st (j := 0) (by assumption) ?_) | fail)
local macro_rules | `(tactic| walk_at "st") => `(tactic| walk_at "set")
local macro_rules | `(tactic| walk_at "st") => `(tactic| first | refine st_cons (s_if ?_) | fail)
local macro_rules | `(tactic| walk_at "st") => `(tactic| first | refine st_cons (s_retN ?_) | fail)
local macro_rules | `(tactic| walk_at "st") => `(tactic| first | refine st_one (s_retN ?_) | fail)
local macro_rules | `(tactic| walk_at "st") => `(tactic| first | refine st_cons (s_ret ?_) | fail)
local macro_rules | `(tactic| walk_at "st") => `(tactic| first | refine st_one (s_ret ?_) | fail)
namespace CL
open PySem PySem.Spec PyProof.Rows L2 DL
/-- the classes of the errors that are raised -/
structure Xs (P : Program) (K : PySem.W.Frag) (mg : Str → Option Value) : Prop where
  bh : XC.InitOk P K mg (He.ga K "BadHands") ["mine_count", "theirs_count"]
  bc : XC.InitOk P K mg (He.ga K "BadCard") ["side", "index"]
  bw : XC.InitOk P K mg (He.ga K "BadWord") ["position"]
  gbh : mg "BadHands" = some (.ref (He.ga K "BadHands"))
  gbc : mg "BadCard" = some (.ref (He.ga K "BadCard"))
  gbw : mg "BadWord" = some (.ref (He.ga K "BadWord"))
  goot : mg "OutOfTurn" = some (.ref (He.ga K "OutOfTurn"))
  oot : ∃ bmB, PySem.W.excIn K (He.ga K "OutOfTurn") bmB "ValueError.__new__" = true ∧ ExcBaseFacts "ValueError" "ValueError.__new__" "ValueError.__init__" bmB
  ootK : PySem.W.keepIn K (.ref (He.ga K "OutOfTurn")) = true
  ootB : PySem.W.subIn K (.ref (He.ga K "OutOfTurn")) (.type "BaseException") = some true
  ootT : PySem.W.typeIn K (.ref (He.ga K "OutOfTurn")) = some (.type "type")
def eHands (m t : Nat) : Er := ⟨"BadHands", [("theirs_count", .int t), ("mine_count", .int m)]⟩
def eCard (side : Str) (i : Int) : Er := ⟨"BadCard", [("index", .int i), ("side", .str side)]⟩
def eWord (i : Int) : Er := ⟨"BadWord", [("position", .int i)]⟩
def eTurn : Er := ⟨"OutOfTurn", []⟩
def other (s : Str) : Str := if s = "mine" then "theirs" else "mine"
section
variable {P : Program} {w : World} {K : PySem.W.Frag} {mg : Str → Option Value} {base : Heap} {f : Addr} {fd : FuncData}
def wpOther : WPr := fun ds Q R => ∃ s : Str, ds = [.str s] ∧ Q (.str (other s))
theorem ok_other (F : F_other_side K f fd) : FnOk P w K mg base (L2N.CX P w) 2 f fd p_other_side (spD K wpOther) := by
  refine fn_ok F s_other_side (fun ds Q R h => ?_) fun X E hX O hp tk ds Q R h => ?_
  · obtain ⟨s, rfl, _⟩ := h; rfl
  · obtain ⟨s, rfl, q⟩ := h
    obtain ⟨cdv, A, outer, sh, H, rfl⟩ := hX
    walk_at "st"
    walk_at "all"
    refine ⟨_, rfl, fun t => ?_, fun t => ?_⟩
    · walk_at "st"
      walk_at "all"
      rwa [other, if_pos (of_decide_eq_true t)] at q
    · refine st_nil ?_
      walk_at "st"
      walk_at "all"
      rwa [other, if_neg (of_decide_eq_false t)] at q
def wpCheckHands : WPr := fun ds Q R => ∃ M T : List Int, ds = [lI M, lI T] ∧ (M.length = T.length → Q .non) ∧ (M.length ≠ T.length → R (eHands M.length T.length))
theorem ok_check_hands (F : F_check_hands K f fd) (Y : Fre mg) (Z : Xs P K mg) : FnOk P w K mg base (L2N.CX P w) 2 f fd p_check_hands (spD K wpCheckHands) := by
  refine fn_ok F s_check_hands (fun ds Q R h => ?_) fun X E hX O hp tk ds Q R h => ?_
  · obtain ⟨s, t, rfl, _⟩ := h; rfl
  · obtain ⟨M, T, rfl, q1, q2⟩ := h
    obtain ⟨cdv, A, outer, sh, H, rfl⟩ := hX
    walk_at "st"
    walk_at "all"
    refine ⟨_, rfl, fun t => ?_, fun t => ?_⟩
    · have ne : M.length ≠ T.length := by simp at t; omega
      refine st_one (s_raise O tk Z.bh Z.gbh (Nat.le_refl _) ?_)
      walk_at "all"
      refine ⟨_, .cons (.int _) (.cons (.int _) .nil), rfl, ?_⟩
      rw [List.length_map, List.length_map]
      exact q2 ne
    · have e : M.length = T.length := by simp at t; omega
      exact st_nil (st_nil (q1 e))
def wpHandOf : WPr := fun ds Q R => ∃ (M T : List Int) (s : Str), ds = [lI M, lI T, .str s] ∧ Q (lI (if s = "mine" then M else T))
theorem ok_hand_of (F : F_hand_of K f fd) : FnOk P w K mg base (L2N.CX P w) 2 f fd p_hand_of (spD K wpHandOf) := by
  refine fn_ok F s_hand_of (fun ds Q R h => ?_) fun X E hX O hp tk ds Q R h => ?_
  · obtain ⟨_, _, _, rfl, _⟩ := h; rfl
  · obtain ⟨M, T, s, rfl, q⟩ := h
    obtain ⟨cdv, A, outer, sh, H, rfl⟩ := hX
    walk_at "st"
    walk_at "all"
    refine ⟨_, rfl, fun t => ?_, fun t => ?_⟩
    · walk_at "st"
      walk_at "all"
      rwa [if_pos (of_decide_eq_true t)] at q
    · refine st_nil ?_
      walk_at "st"
      walk_at "all"
      rwa [if_neg (of_decide_eq_false t)] at q
def wpCheckCard : WPr := fun ds Q R => ∃ (s : Str) (i : Int) (M : List Int), ds = [.str s, .int i, lI M] ∧ ((0 ≤ i ∧ i < M.length) → Q .non) ∧ (¬ (0 ≤ i ∧ i < M.length) → R (eCard s i))
theorem ok_check_card (F : F_check_card K f fd) (Y : Fre mg) (Z : Xs P K mg) : FnOk P w K mg base (L2N.CX P w) 2 f fd p_check_card (spD K wpCheckCard) := by
  refine fn_ok F s_check_card (fun ds Q R h => ?_) fun X E hX O hp tk ds Q R h => ?_
  · obtain ⟨_, _, _, rfl, _⟩ := h; rfl
  · obtain ⟨s, i, M, rfl, q1, q2⟩ := h
    obtain ⟨cdv, A, outer, sh, H, rfl⟩ := hX
    have bad : ¬ (0 ≤ i ∧ i < M.length) → stm (body1 P w K mg base n_check_card "check_card" c_check_card f cdv A outer sh H E) K E [(match defBody (tp 19) with | [.If _ [a] _ _] => a | _ => .Pass ⟨0, 0, 0, 0⟩)] (rhoOf n_check_card [.str s, .int i, lI M]) { nx := fun _ => Q .non, rt := Q } R := fun c => by
      refine st_one (s_raise O tk Z.bc Z.gbc (Nat.le_refl _) ?_)
      walk_at "all"
      exact ⟨_, .cons (.str _) (.cons (.int _) .nil), rfl, q2 c⟩
    refine st_one (s_if ?_)
    refine evt_w (evw_or ?_)
    walk_at "all"
    refine ⟨_, rfl, fun t => ⟨fun _ => bad fun z => ?_, fun z => absurd z (by simp)⟩, fun t => evw_or1 ?_⟩
    · have := of_decide_eq_true t
      omega
    · walk_at "all"
      refine ⟨_, rfl, fun t2 => bad fun z => ?_, fun t2 => st_nil (q1 ⟨?_, ?_⟩)⟩
      · have := of_decide_eq_true t2
        simp at this
        omega
      · have := of_decide_eq_false t
        omega
      · have := of_decide_eq_false t2
        simp at this
        omega
end
end CL
namespace CL
open PySem PySem.Spec PyProof.Rows L2 DL
/-! ### words -/
abbrev tx (l : List Nat) : Str := ⟨l.toArray⟩
def okc (c : Nat) : Bool := decide (c = 77) || decide (c = 84)
theorem tx_M : ("M" : Str) = tx [77] := by decide +kernel
theorem tx_T : ("T" : Str) = tx [84] := by decide +kernel
theorem tx_inj {a b : List Nat} : tx a = tx b ↔ a = b := by
  constructor
  · intro h
    have : (tx a).cps.toList = (tx b).cps.toList := by rw [h]
    simpa using this
  · rintro rfl; rfl
theorem tx_len (l : List Nat) : (tx l).length = l.length := by simp [Str.length]
/-- where the word goes wrong -/
def wordErr (l : List Nat) (n : Nat) : Option Nat := match l.findIdx? (fun c => !okc c) with
  | some p => some p
  | none => if n < l.length then some n else if l.length < n then some l.length else none
theorem find_none {l : List Nat} (h : ∀ (m : Nat) c, l[m]? = some c → okc c = true) : l.findIdx? (fun c => !okc c) = none := by
  rw [List.findIdx?_eq_none_iff]
  intro c hc
  obtain ⟨m, hm⟩ := List.mem_iff_getElem?.mp hc
  simp [h m c hm]
theorem find_some {l : List Nat} {n : Nat} {c : Nat} (hn : l[n]? = some c) (hc : okc c = false) (h : ∀ (m : Nat) c, m < n → l[m]? = some c → okc c = true) : l.findIdx? (fun c => !okc c) = some n := by
  rw [List.findIdx?_eq_some_iff_getElem]
  obtain ⟨h1, h2⟩ := List.getElem?_eq_some_iff.mp hn
  refine ⟨h1, by rw [h2]; simp [hc], fun j hj => ?_⟩
  have := h j l[j] hj (List.getElem?_eq_getElem (Nat.lt_trans hj h1))
  simp [this]
section
variable {P : Program} {w : World} {K : PySem.W.Frag} {mg : Str → Option Value} {base : Heap} {f : Addr} {fd : FuncData}
def letErr (l : List Nat) (n : Nat) : Option Nat := match l.findIdx? (fun c => !okc c) with
  | some p => some p
  | none => if n < l.length then some n else none
def wpCheckLetters : WPr := fun ds Q R => ∃ (l : List Nat) (n : Nat), ds = [.str (tx l), .int n] ∧ l.length ≤ 1000 ∧ (∀ p, letErr l n = some p → R (eWord p)) ∧ (letErr l n = none → Q .non)
theorem ok_check_letters (F : F_check_letters K f fd) (Y : Fre mg) (Z : Xs P K mg) : FnOk P w K mg base (L2N.CX P w) 2 f fd p_check_letters (spD K wpCheckLetters) := by
  refine fn_ok F s_check_letters (fun ds Q R h => ?_) fun X E hX O hp tk ds Q R h => ?_
  · obtain ⟨_, _, rfl, _⟩ := h; rfl
  · obtain ⟨l, n, rfl, hl, q1, q2⟩ := h
    obtain ⟨cdv, A, outer, sh, H, rfl⟩ := hX
    have hsz : (tx l).length ≤ sizeLine := by rw [tx_len, sizeLine_eq]; omega
    refine st_cons (s_forR (js := [2]) O hp Y.range ?_)
    walk_at "all"
    refine c_lenT O hsz ?_
    rw [tx_len]
    refine ⟨l.length, rfl, by omega, fun m ρ' => (∃ s, ρ' = [.va (.str (tx l)), .va (.int n), s]) ∧ ∀ (j : Nat) c, j < m → l[j]? = some c → okc c = true, ⟨⟨_, rfl⟩, fun j c h => absurd h (Nat.not_lt_zero _)⟩, ?_, ?_⟩
    · rintro m ρ' hm ⟨⟨s, rfl⟩, hok⟩
      have hc : l[m]? = some l[m] := List.getElem?_eq_getElem hm
      refine tg_name O ?_
      refine st_cons (s_if (evt_w (evw_and ?_)))
      walk_at "all"
      refine i_str (c := l[m]) hsz (atI_nat (by simpa using hc)) ?_
      walk_at "all"
      rw [tx_M]
      refine ⟨_, rfl, fun t => evw_and1 ?_, fun t => ⟨fun z => absurd z (by simp), fun _ => ?_⟩⟩
      · walk_at "all"
        refine i_str (c := l[m]) hsz (atI_nat (by simpa using hc)) ?_
        walk_at "all"
        rw [tx_T]
        refine ⟨_, rfl, fun t2 => ?_, fun t2 => ?_⟩
        · refine st_one (s_raise O tk Z.bw Z.gbw (Nat.le_refl _) ?_)
          walk_at "all"
          refine ⟨_, .cons (.int _) .nil, rfl, q1 m ?_⟩
          have e1 : l[m] ≠ 77 := fun z => by rw [z] at t; simp [tx] at t
          have e2 : l[m] ≠ 84 := fun z => by rw [z] at t2; simp [tx] at t2
          have : okc l[m] = false := by simp [okc, e1, e2]
          unfold letErr
          rw [find_some hc this hok]
        · refine st_nil (st_nil ⟨⟨_, rfl⟩, fun j c hj hc' => ?_⟩)
          by_cases e : j = m
          · subst e
            rw [hc] at hc'
            cases hc'
            have e2 : l[j] = 84 := by
              have := of_decide_eq_true (p := (⟨#[l[j]]⟩ : Str) = tx [84]) (by simpa using t2)
              have h3 := tx_inj (a := [l[j]]).mp this
              simpa using h3
            rw [e2]; rfl
          · exact hok j c (by omega) hc'
      · refine st_nil (st_nil ⟨⟨_, rfl⟩, fun j c hj hc' => ?_⟩)
        by_cases e : j = m
        · subst e
          rw [hc] at hc'
          cases hc'
          have e2 : l[j] = 77 := by
            have := of_decide_eq_true (p := (⟨#[l[j]]⟩ : Str) = tx [77]) (by simpa using t)
            have h3 := tx_inj (a := [l[j]]).mp this
            simpa using h3
          rw [e2]; rfl
        · exact hok j c (by omega) hc'
    · rintro ρ' ⟨⟨s, rfl⟩, hok⟩
      have hf := find_none (l := l) fun m c h => hok m c (List.getElem?_eq_some_iff.mp h).1 h
      walk_at "st"
      walk_at "all"
      refine c_lenT O hsz ?_
      rw [tx_len]
      walk_at "all"
      refine ⟨_, rfl, fun t => ?_, fun t => ?_⟩
      · refine st_one (s_raise O tk Z.bw Z.gbw (Nat.le_refl _) ?_)
        walk_at "all"
        refine ⟨_, .cons (.int _) .nil, rfl, q1 n ?_⟩
        unfold letErr
        rw [hf]
        have := of_decide_eq_true t
        simp only [ite_eq_left_iff]
        omega
      · refine st_nil (st_nil (q2 ?_))
        unfold letErr
        rw [hf]
        have := of_decide_eq_false t
        simp only [ite_eq_right_iff]
        omega
end
end CL
namespace CL
open PySem PySem.Spec PyProof.Rows L2 DL
theorem cnt_count (c : Nat) : ∀ l : List Nat, cnt c l = (l.count c : Nat)
  | [] => by rw [cnt_nil]; rfl
  | n :: l => by
    rw [cnt_cons, cnt_count c l, List.count_cons]
    by_cases h : n = c
    · subst h; simp; omega
    · simp [h]
theorem tcount (l : List Nat) (c : Nat) : Txt.count (tx l) (tx [c]) = (l.count c : Nat) := by
  have := count_cnt (tx l) c
  rw [cnt_count] at this
  simpa using this
theorem cut_last (l : List Nat) : cutS (tx l) none (some (-1)) = tx l.dropLast := by
  unfold cutS
  rw [tx_len]
  have e1 : HT.sIx l.length 0 none = 0 := rfl
  have e2 : HT.sIx l.length l.length (some (-1)) = l.length - 1 := by
    show (if (-1 : Int) < 0 then ((-1 : Int) + (l.length : Int)).toNat else min (-1 : Int).toNat l.length) = _
    rw [if_pos (by decide)]
    omega
  rw [e1, e2, Nat.sub_zero, List.drop_zero, List.dropLast_eq_take]
theorem cut_from (l : List Nat) (k : Nat) : cutS (tx l) (some (k : Int)) none = tx (l.drop k) := by
  unfold cutS
  rw [tx_len, HT.sIx_nat, HT.sIx_none]
  show tx ((l.drop (min k l.length)).take (l.length - min k l.length)) = _
  rw [List.take_of_length_le (by rw [List.length_drop]; exact Nat.le_refl _)]
  by_cases h : k ≤ l.length
  · rw [Nat.min_eq_left h]
  · rw [Nat.min_eq_right (by omega), List.drop_of_length_le (Nat.le_refl _), List.drop_of_length_le (by omega)]
theorem cut_to (l : List Nat) (k : Nat) : cutS (tx l) none (some (k : Int)) = tx (l.take k) := by
  unfold cutS
  rw [tx_len, HT.sIx_nat, HT.sIx_none, Nat.sub_zero, List.drop_zero]
  show tx (l.take (min k l.length)) = _
  by_cases h : k ≤ l.length
  · rw [Nat.min_eq_left h]
  · rw [Nat.min_eq_right (by omega), List.take_of_length_le (Nat.le_refl _), List.take_of_length_le (by omega)]
def early (l : List Nat) (c : Nat) : Nat := l.dropLast.count c
def entryV (r : List Int) (a b : Nat) : Int := if r = [] then 0 else (b : Int) + 1 + r.getD a 0
def valueV (r : List Int) (l : List Nat) (many : Str) : Int := if many = "mine" then entryV r (early l 77) (early l 84) else entryV r (early l 84) (early l 77)
theorem wordErr_len {l : List Nat} {n : Nat} (h : wordErr l n = none) : l.length = n := by
  unfold wordErr at h
  split at h
  · cases h
  · split at h
    · cases h
    · split at h
      · cases h
      · omega
theorem early_lt {l : List Nat} {n : Nat} (h : l.length = n) (hn : n ≠ 0) (c : Nat) : early l c < n := by
  unfold early
  have := List.count_le_length (a := c) (l := l.dropLast)
  rw [List.length_dropLast] at this
  omega
section
variable {P : Program} {w : World} {K : PySem.W.Frag} {mg : Str → Option Value} {base : Heap} {f : Addr} {fd : FuncData}
def wpCheckWord : WPr := fun ds Q R => ∃ (l : List Nat) (n : Nat), ds = [.str (tx l), .int n] ∧ l.length ≤ 1000 ∧ (∀ p, wordErr l n = some p → R (eWord p)) ∧ (wordErr l n = none → Q .non)
theorem ok_check_word (F : F_check_word K f fd) (Y : Fre mg) (Z : Xs P K mg) (k1 : Kn P w K mg base "check_letters" 2 wpCheckLetters) : FnOk P w K mg base (L2N.CX P w) 3 f fd p_check_word (spD K wpCheckWord) := by
  refine fn_ok F s_check_word (fun ds Q R h => ?_) fun X E hX O hp tk ds Q R h => ?_
  · obtain ⟨_, _, rfl, _⟩ := h; rfl
  · obtain ⟨l, n, rfl, hl, q1, q2⟩ := h
    obtain ⟨cdv, A, outer, sh, H, rfl⟩ := hX
    have hsz : (tx l).length ≤ sizeLine := by rw [tx_len, sizeLine_eq]; omega
    refine st_cons (s_expr (ev_call O k1 (by decide) ?_))
    walk_at "all"
    refine ⟨l, n, rfl, hl, fun p hp => ?_, fun hn => ?_⟩
    · refine q1 p ?_
      unfold letErr at hp
      unfold wordErr
      split
      · rename_i e; rw [e] at hp; exact hp
      · rename_i e
        rw [e] at hp
        simp only at hp
        split at hp
        · rename_i h9
          rw [if_pos h9]; exact hp
        · cases hp
    · have hlt : l.findIdx? (fun c => !okc c) = none ∧ ¬ n < l.length := by
        unfold letErr at hn
        split at hn
        · cases hn
        · rename_i e
          split at hn
          · cases hn
          · exact ⟨e, by assumption⟩
      walk_at "st"
      walk_at "all"
      refine c_lenT O hsz ?_
      rw [tx_len]
      walk_at "all"
      refine ⟨_, rfl, fun t => ?_, fun t => ?_⟩
      · have t := of_decide_eq_true t
        refine st_one (s_raise O tk Z.bw Z.gbw (by decide) ?_)
        walk_at "all"
        refine c_lenT O hsz ?_
        rw [tx_len]
        walk_at "all"
        refine ⟨_, .cons (.int _) .nil, rfl, q1 l.length ?_⟩
        unfold wordErr
        rw [hlt.1]
        simp only
        rw [if_neg hlt.2, if_pos (by omega)]
      · have t := of_decide_eq_false t
        refine st_nil (st_nil (q2 ?_))
        unfold wordErr
        rw [hlt.1]
        simp only
        rw [if_neg hlt.2, if_neg (by omega)]
def wpLays : WPr := fun ds Q R => ∃ (l : List Nat), ds = [.str (tx l)] ∧ l.length ≤ 1000 ∧ Q (.tup [.int (early l 77), .int (early l 84)])
theorem ok_lays (F : F_lays_before_last K f fd) (Y : Fre mg) : FnOk P w K mg base (L2N.CX P w) 2 f fd p_lays_before_last (spD K wpLays) := by
  refine fn_ok F s_lays_before_last (fun ds Q R h => ?_) fun X E hX O hp tk ds Q R h => ?_
  · obtain ⟨_, rfl, _⟩ := h; rfl
  · obtain ⟨l, rfl, hl, q⟩ := h
    obtain ⟨cdv, A, outer, sh, H, rfl⟩ := hX
    have hsz : (tx l).length ≤ sizeLine := by rw [tx_len, sizeLine_eq]; omega
    refine st_cons (s_st (j := 1) O (ev_slS ?_))
    walk_at "all"
    refine ⟨_, rfl, hsz, evo_none (evo_some ?_)⟩
    walk_at "all"
    refine ⟨_, rfl, _, rfl, ?_⟩
    have e0 : cutS (tx l) none (some (-1)) = tx l.dropLast := cut_last l
    rw [e0]
    walk_at "st"
    walk_at "all"
    refine ev_bm O PySem.F.plainAttrs_str PySem.F.slot_str_count PySem.F.type_str_count ?_
    walk_at "all"
    refine ⟨.str _, ?_⟩
    walk_at "all"
    rw [tx_M]
    refine m_count ?_
    rw [tcount]
    walk_at "all"
    refine ev_bm O PySem.F.plainAttrs_str PySem.F.slot_str_count PySem.F.type_str_count ?_
    walk_at "all"
    refine ⟨.str _, ?_⟩
    walk_at "all"
    rw [tx_T]
    refine m_count ?_
    rw [tcount]
    walk_at "all"
    exact q
def wpEntry : WPr := fun ds Q R => ∃ (r : List Int) (a b : Nat), ds = [lI r, .int a, .int b] ∧ (r ≠ [] → a < r.length) ∧ Q (.int (entryV r a b))
theorem ok_entry (F : F_entry_value K f fd) (Y : Fre mg) : FnOk P w K mg base (L2N.CX P w) 2 f fd p_entry_value (spD K wpEntry) := by
  refine fn_ok F s_entry_value (fun ds Q R h => ?_) fun X E hX O hp tk ds Q R h => ?_
  · obtain ⟨_, _, _, rfl, _⟩ := h; rfl
  · obtain ⟨r, a, b, rfl, hr, q⟩ := h
    obtain ⟨cdv, A, outer, sh, H, rfl⟩ := hX
    refine st_cons (s_if (evt_not (evt_truL O ?_)))
    walk_at "all"
    refine ⟨_, rfl, fun t => ?_, fun t => ?_⟩
    · have e : r = [] := by simpa using t
      walk_at "st"
      walk_at "all"
      rwa [entryV, if_pos e] at q
    · have e : r ≠ [] := by simpa using t
      refine st_nil ?_
      walk_at "st"
      walk_at "all"
      have h1 := hr e
      refine i_listN O (j := a) (d := .int r[a]) (by rw [List.getElem?_map, List.getElem?_eq_getElem h1]; rfl) ?_
      walk_at "all"
      rw [entryV, if_neg e] at q
      have e2 : r.getD a 0 = r[a] := by simp [h1]
      rwa [e2] at q
def wpValue : WPr := fun ds Q R => ∃ (r : List Int) (l : List Nat) (many : Str), ds = [lI r, .str (tx l), .str many] ∧ l.length ≤ 1000 ∧ (∀ p, wordErr l r.length = some p → R (eWord p)) ∧ (wordErr l r.length = none → Q (.int (valueV r l many)))
theorem ok_value (F : FunD K "value" "value" (defArgs (tp 40)) (defBody (tp 40)) c_value [] [("many", .str "mine")] f fd) (Y : Fre mg) (k1 : Kn P w K mg base "check_word" 3 wpCheckWord) (k2 : Kn P w K mg base "lays_before_last" 2 wpLays) (k3 : Kn P w K mg base "entry_value" 2 wpEntry) : FnOk P w K mg base (L2N.CX P w) 4 f fd p_value (spD K wpValue) := by
  refine fn_ok F s_value (fun ds Q R h => ?_) fun X E hX O hp tk ds Q R h => ?_
  · obtain ⟨_, _, _, rfl, _⟩ := h; rfl
  · obtain ⟨r, l, many, rfl, hl, q1, q2⟩ := h
    obtain ⟨cdv, A, outer, sh, H, rfl⟩ := hX
    refine st_cons (s_expr (ev_call O k1 (by decide) ?_))
    walk_at "all"
    refine ⟨l, r.length, by rw [List.length_map], hl, q1, fun hn => ?_⟩
    have q := q2 hn
    have e0 := wordErr_len hn
    have hlt : ∀ c, r ≠ [] → early l c < r.length := fun c hr => early_lt e0 (by simpa using hr) c
    refine st_cons (s_asg (js := [3] ++ [4]) (ev_call O k2 (by decide) ?_))
    walk_at "all"
    refine ⟨l, rfl, hl, ?_⟩
    refine tg_tup2 O (tg_name O (tg_name O ?_))
    walk_at "st"
    walk_at "all"
    unfold valueV at q
    refine ⟨_, rfl, fun t => ?_, fun t => ?_⟩
    · rw [if_pos (of_decide_eq_true t)] at q
      walk_at "st"
      refine ev_call O k3 (by decide) ?_
      walk_at "all"
      exact ⟨r, _, _, rfl, hlt _, q⟩
    · rw [if_neg (of_decide_eq_false t)] at q
      refine st_nil ?_
      walk_at "st"
      refine ev_call O k3 (by decide) ?_
      walk_at "all"
      exact ⟨r, _, _, rfl, hlt _, q⟩
end
end CL
namespace CL
open PySem PySem.Spec PyProof.Rows L2 DL
theorem erase_snoc {ns : List Int} {m : Nat} {z i : Int} (h : ns[m]? = some z) : (ns.take (m + 1)).erase i = if z = i ∧ i ∉ ns.take m then ns.take m else (ns.take m).erase i ++ [z] := by
  have e : ns.take (m + 1) = ns.take m ++ [z] := by rw [List.take_add_one, h]; rfl
  rw [e, List.erase_append]
  by_cases hm : i ∈ ns.take m
  · rw [if_pos hm, if_neg (fun q => q.2 hm)]
  · rw [if_neg hm]
    by_cases hz : z = i
    · subst hz
      rw [if_pos ⟨rfl, hm⟩]
      simp
    · rw [if_neg (fun q => hz q.1), List.erase_of_not_mem hm]
      have : ([z] : List Int).erase i = [z] := by
        rw [List.erase_of_not_mem]
        simpa using fun q => hz q.symm
      rw [this]
theorem mem_snoc {ns : List Int} {m : Nat} {z i : Int} (h : ns[m]? = some z) : i ∈ ns.take (m + 1) ↔ i ∈ ns.take m ∨ z = i := by
  have e : ns.take (m + 1) = ns.take m ++ [z] := by rw [List.take_add_one, h]; rfl
  rw [e, List.mem_append, List.mem_singleton]
  exact ⟨fun h => h.imp id Eq.symm, fun h => h.imp id Eq.symm⟩
/-- the module's constants -/
structure Sd (K : PySem.W.Frag) (mg : Str → Option Value) : Prop where
  ex : ∃ a, mg "SIDES" = some (.ref a) ∧ ∀ H, SqT K H a [.str "theirs", .str "mine"]
section
variable {P : Program} {w : World} {K : PySem.W.Frag} {mg : Str → Option Value} {base : Heap} {f : Addr} {fd : FuncData}
theorem ev_sides {ι : Type} {X : ι → Cx} {k : Nat} {E : XK} {ρ : Rho} {R : Er → Prop} {pos : Pos} {Q : D → Prop} (O : Ok X P w K mg base k E) (S : Sd K mg) (q : Q (.tup [.str "theirs", .str "mine"])) (hg : ∀ i, Gl (X i) "SIDES" := by intro _; rfl) : ev X K E (.Name "SIDES" pos) ρ Q R := ⟨fun B G H σ eB eG c w Qv kk => by
  obtain ⟨a, h1, h2⟩ := S.ex
  exact ⟨_, fun i => pe_glob (v := .ref a) (hg i) (by rw [O.mg i]; exact h1) rfl, kk _ _ G H q (Stp.refl eG) (Rep.tup_iff.mpr ⟨a, _, rfl, h2 G, Reps.of_scas (.cons (.str _) (.cons (.str _) .nil))⟩)⟩⟩
def wpWithout : WPr := fun ds Q R => ∃ (ns : List Int) (i : Int), ds = [lI ns, .int i] ∧ ns.length ≤ 1000 ∧ Q (lI (ns.erase i))
theorem ok_without (F : F_without K f fd) : FnOk P w K mg base (L2N.CX P w) 2 f fd p_without (spD K wpWithout) := by
  refine fn_ok F s_without (fun ds Q R h => ?_) fun X E hX O hp tk ds Q R h => ?_
  · obtain ⟨_, _, rfl, _⟩ := h; rfl
  · obtain ⟨ns, i, rfl, hl, q⟩ := h
    obtain ⟨cdv, A, outer, sh, H, rfl⟩ := hX
    refine st_cons (s_so (j := 2) O (evn_lst (evs_nil ⟨by simp, ?_⟩)))
    walk_at "st"
    walk_at "all"
    refine st_cons (s_for (js := [4]) O hp ?_)
    walk_at "all"
    refine ⟨_, rfl, fun m ρ' => ∃ s, ρ' = [.va (lI ns), .va (.int i), .ow (((ns.take m).erase i).map .int), .va (.bl (decide (i ∈ ns.take m))), s], ⟨_, rfl⟩, ?_, ?_⟩
    · rintro m x ρ' hx ⟨s, rfl⟩
      rw [List.getElem?_map] at hx
      cases hz : ns[m]? with
      | none => rw [hz] at hx; cases hx
      | some z =>
        rw [hz] at hx
        cases hx
        refine tg_name O ?_
        have keep : ¬ (z = i ∧ i ∉ ns.take m) → stm (body1 P w K mg base n_without "without" c_without f cdv A outer sh H E) K E [(match defBody (tp 23) with | [_, _, .For _ _ [.If _ _ [a] _] _ _, _] => a | _ => .Pass ⟨0, 0, 0, 0⟩)] [.va (lI ns), .va (.int i), .ow (((ns.take m).erase i).map .int), .va (.bl (decide (i ∈ ns.take m))), .va (.int z)]
            { nx := fun ρ' => stm (body1 P w K mg base n_without "without" c_without f cdv A outer sh H E) K E [] ρ' { nx := fun ρ' => ∃ s, ρ' = [.va (lI ns), .va (.int i), .ow (((ns.take (m + 1)).erase i).map .int), .va (.bl (decide (i ∈ ns.take (m + 1)))), s], rt := Q, ct := fun ρ' => ∃ s, ρ' = [.va (lI ns), .va (.int i), .ow (((ns.take (m + 1)).erase i).map .int), .va (.bl (decide (i ∈ ns.take (m + 1)))), s], bk := fun ρ' => stm (body1 P w K mg base n_without "without" c_without f cdv A outer sh H E) K E [(match defBody (tp 23) with | [_, _, _, a] => a | _ => .Pass ⟨0, 0, 0, 0⟩)] ρ' { nx := fun _ => Q .non, rt := Q } R } R, rt := Q, ct := fun ρ' => ∃ s, ρ' = [.va (lI ns), .va (.int i), .ow (((ns.take (m + 1)).erase i).map .int), .va (.bl (decide (i ∈ ns.take (m + 1)))), s], bk := fun ρ' => stm (body1 P w K mg base n_without "without" c_without f cdv A outer sh H E) K E [(match defBody (tp 23) with | [_, _, _, a] => a | _ => .Pass ⟨0, 0, 0, 0⟩)] ρ' { nx := fun _ => Q .non, rt := Q } R } R := fun hk => by
          refine st_one (s_app (j := 2) O rfl ?_ ?_)
          · rw [List.length_map]
            have := List.length_erase_le (a := i) (l := ns.take m)
            rw [List.length_take] at this
            rw [sizeLine_eq]
            omega
          · walk_at "all"
            refine st_nil ⟨.va (.int z), ?_⟩
            have h1 := erase_snoc (i := i) hz
            rw [if_neg hk] at h1
            have h2 : decide (i ∈ ns.take (m + 1)) = decide (i ∈ ns.take m) := by
              rw [decide_eq_decide, mem_snoc hz]
              constructor
              · rintro (h | h)
                · exact h
                · exact Classical.byContradiction fun c => hk ⟨h, c⟩
              · exact .inl
            rw [h1, h2, List.map_append]
            rfl
        refine st_cons (s_if (evt_w (evw_and ?_)))
        walk_at "all"
        refine ⟨_, rfl, fun t => evw_and1 (evt_not (evt_val ?_)), fun t => ⟨fun z => absurd z (by simp), fun _ => keep ?_⟩⟩
        · walk_at "all"
          refine ⟨_, rfl, fun t2 => ?_, fun t2 => keep ?_⟩
          · walk_at "set"
            walk_at "all"
            refine st_nil (st_nil ⟨.va (.int z), ?_⟩)
            have hk : z = i ∧ i ∉ ns.take m := ⟨of_decide_eq_true t, by simpa using t2⟩
            have h1 := erase_snoc (i := i) hz
            rw [if_pos hk] at h1
            have h2 : decide (i ∈ ns.take (m + 1)) = true := decide_eq_true ((mem_snoc hz).mpr (.inr hk.1))
            rw [h1, h2, List.erase_of_not_mem hk.2]
            rfl
          · intro c
            have h2 : ¬ i ∉ ns.take m := by simpa using t2
            exact h2 c.2
        · exact fun c => of_decide_eq_false t c.1
    · rintro ρ' ⟨s, rfl⟩
      rw [List.length_map, List.take_length]
      refine st_unown 2 rfl ?_
      walk_at "st"
      walk_at "all"
      exact q
end
end CL
namespace CL
open PySem PySem.Spec PyProof.Rows L2 DL
theorem rangeN (n : Nat) : ((List.range n).filter fun _ => true) = List.range n := List.filter_eq_self.mpr fun _ _ => rfl
theorem allL {α : Type} (l : List α) : (l.filter fun _ => true) = l := List.filter_eq_self.mpr fun _ _ => rfl
theorem getDi {ns : List Int} {i : Nat} (h : i < ns.length) : ns[i]? = some (ns.getD i 0) := by
  rw [List.getElem?_eq_getElem h]
  simp [h]
theorem iget {ns : List Int} {i : Nat} (h : i < ns.length) : (ns.map D.int)[i]? = some (D.int (ns.getD i 0)) := by
  rw [List.getElem?_map, getDi h]; rfl
theorem nget {ns : List Nat} {i : Nat} (h : i < ns.length) : (ns.map fun (n : Nat) => D.int n)[i]? = some (D.int (ns.getD i 0 : Nat)) := by
  rw [List.getElem?_map, List.getElem?_eq_getElem h]
  simp [h]
section
variable {P : Program} {w : World} {K : PySem.W.Frag} {mg : Str → Option Value} {base : Heap} {f : Addr} {fd : FuncData}
def wpDeck : WPr := fun ds Q R => ∃ M T : List Int, ds = [lI M, lI T] ∧ M.length ≤ 1000 ∧ T.length ≤ 1000 ∧ Q (.lst ((ord M T).map dK))
theorem ok_deck (F : F_deck K f fd) (Y : Fre mg) (S : Sd K mg) : FnOk P w K mg base (L2N.CX P w) 2 f fd p_deck (spD K wpDeck) := by
  refine fn_ok F s_deck (fun ds Q R h => ?_) fun X E hX O hp tk ds Q R h => ?_
  · obtain ⟨_, _, rfl, _⟩ := h; rfl
  · obtain ⟨M, T, rfl, hM, hT, q⟩ := h
    obtain ⟨cdv, A, outer, sh, H, rfl⟩ := hX
    refine st_cons (s_ro (j := 2) [("index", 3)] [3] O Y.range ?_)
    walk_at "all"
    rw [List.length_map]
    refine ⟨T.length, fun _ => true, fun i => dC (T.getD i 0, 0, i), rfl, by omega, fun n hn => ?_, ?_⟩
    · refine tg_name (O.blk _) (evi_nil ⟨rfl, fun _ => ?_⟩)
      walk_at "all"
      refine i_listN (O.blk _) (iget hn) ?_
      walk_at "all"
      rfl
    · rw [rangeN]
      refine st_cons (s_forR (js := [3]) O hp Y.range ?_)
      walk_at "all"
      rw [List.length_map]
      refine ⟨M.length, rfl, by omega, fun n ρ' => ∃ s, ρ' = [.va (lI M), .va (lI T), .ow (((List.range T.length).map fun i => dC (T.getD i 0, 0, i)) ++ (List.range n).map fun i => dC (M.getD i 0, 1, i)), s, .no], ⟨_, by rw [List.range_zero, List.map_nil, List.append_nil]; rfl⟩, ?_, ?_⟩
      · rintro n ρ' hn ⟨s, rfl⟩
        refine tg_name O ?_
        refine st_cons (s_app (j := 2) O rfl ?_ ?_)
        · rw [List.length_append, List.length_map, List.length_map, List.length_range, List.length_range, sizeLine_eq]
          omega
        · walk_at "all"
          refine i_listN O (iget hn) ?_
          walk_at "all"
          refine st_nil ⟨.va (.int n), ?_⟩
          rw [List.range_succ, List.map_append, List.append_assoc]
          rfl
      · rintro ρ' ⟨s, rfl⟩
        refine st_unown 2 rfl ?_
        refine st_one (s_ret (ev_of_evn (en_c (α := Cd) [("card", 4)] [4] O ?_)))
        refine ev_of_evn (evn_callB (id := "sorted") (hv := bo_sorted) O Y.sorted ?_)
        walk_at "all"
        have e : (((List.range T.length).map fun i => dC (T.getD i 0, 0, i)) ++ (List.range M.length).map fun i => dC (M.getD i 0, 1, i)) = (cards M T).map dC := by
          unfold cards
          rw [List.map_append, List.map_map, List.map_map]
          rfl
        rw [e]
        refine c_sort3 O fun ms hp hs => ?_
        rw [ord_uniq hp hs]
        refine ⟨ord M T, dC, fun _ => true, dK, rfl, by rw [ord_len]; omega, fun c hc => ?_, ?_⟩
        · refine tg_name (O.blk _) (evi_nil ⟨rfl, fun _ => ?_⟩)
          refine ev_tup ?_
          refine evs_cons (ev_sub (ev_sides (O.blk _) S ?_))
          walk_at "all"
          refine i_tupN (j := 1) (d := .int c.2.1) (O.blk _) rfl ?_
          refine i_tupN (j := c.2.1) (d := .str (sn c.2.1)) (O.blk _) ?_ ?_
          · rcases ord_side hc with h | h <;> rw [h] <;> rfl
          · walk_at "all"
            refine i_tupN (j := 2) (d := .int c.2.2) (O.blk _) rfl ?_
            walk_at "all"
            rfl
        · rw [allL]
          exact q
end
end CL
namespace CL
open PySem PySem.Spec PyProof.Rows L2 DL
theorem cutD_from (xs : List D) (k : Nat) : DL.cutD xs (some (k : Int)) none = xs.drop k := by
  unfold DL.cutD
  rw [HT.sIx_nat, HT.sIx_none, List.take_of_length_le (by rw [List.length_drop]; exact Nat.le_refl _)]
  by_cases h : k ≤ xs.length
  · rw [Nat.min_eq_left h]
  · rw [Nat.min_eq_right (by omega), List.drop_of_length_le (Nat.le_refl _), List.drop_of_length_le (by omega)]
theorem cutD_to (xs : List D) (k : Nat) : DL.cutD xs none (some (k : Int)) = xs.take k := by
  unfold DL.cutD
  rw [HT.sIx_nat, HT.sIx_none, Nat.sub_zero, List.drop_zero]
  by_cases h : k ≤ xs.length
  · rw [Nat.min_eq_left h]
  · rw [Nat.min_eq_right (by omega), List.take_of_length_le (Nat.le_refl _), List.take_of_length_le (by omega)]
theorem ok_sn {s : Nat} (hs : s = 0 ∨ s = 1) : PyData.strOk (sn s) = true := by rcases hs with rfl | rfl <;> decide +kernel
theorem sn_inj {s t : Nat} (hs : s = 0 ∨ s = 1) (ht : t = 0 ∨ t = 1) : sn s = sn t ↔ s = t := by
  constructor
  · intro h
    rcases hs with rfl | rfl <;> rcases ht with rfl | rfl <;> first | rfl | (exact absurd h (by decide +kernel))
  · rintro rfl; rfl
theorem lay_dK {c : Cd} (h : c.2.1 = 0 ∨ c.2.1 = 1) : Lay (dK c) 1 := Lay.tup fun d hd => by
  rcases List.mem_cons.mp hd with rfl | hd
  · exact Lay.str _ (ok_sn h)
  · rcases List.mem_cons.mp hd with rfl | hd
    · exact Lay.int _
    · cases hd
theorem eqv_dK (c : Cd) (s : Str) (i : Nat) : PyData.eqv (pd (dK c)) (pd (.tup [.str s, .int i])) = (decide (sn c.2.1 = s) && decide (c.2.2 = i)) := by
  simp only [dK, pd, pds, PyData.eqv, PyData.eqvAll, Bool.and_true]
  rw [Bool.eq_iff_iff]
  simp
  intro _
  omega
section
variable {P : Program} {w : World} {K : PySem.W.Frag} {mg : Str → Option Value} {base : Heap} {f : Addr} {fd : FuncData}
def wpAround : WPr := fun ds Q R => ∃ (M T : List Int) (s i : Nat) (down : Bool), ds = [lI M, lI T, .str (sn s), .int i, .bl down] ∧ M.length ≤ 1000 ∧ T.length ≤ 1000 ∧ (s = 0 ∨ s = 1) ∧ i < (hd M T s).length ∧ Q (lN (arnd M T s i down))
theorem ok_around (F : FunD K "around" "around" (defArgs (tp 30)) (defBody (tp 30)) c_around [] [("down", .bl false)] f fd) (k1 : Kn P w K mg base "check_card" 2 wpCheckCard) (k2 : Kn P w K mg base "hand_of" 2 wpHandOf) (k3 : Kn P w K mg base "deck" 2 wpDeck) :
    FnOk P w K mg base (L2N.CX P w) 3 f fd p_around (spD K wpAround) := by
  refine fn_ok F s_around (fun ds Q R h => ?_) fun X E hX O hp tk ds Q R h => ?_
  · obtain ⟨_, _, _, _, _, rfl, _⟩ := h; rfl
  · obtain ⟨M, T, s, i, down, rfl, hM, hT, hs, hi, q⟩ := h
    obtain ⟨cdv, A, outer, sh, H, rfl⟩ := hX
    have hlen := ord_len M T
    have hpl := plc_at hs hi
    have hplt := (List.getElem?_eq_some_iff.mp hpl).1
    refine st_cons (s_expr (ev_call O k1 (by decide) ?_))
    walk_at "all"
    refine ev_call O k2 (by decide) ?_
    walk_at "all"
    refine ⟨M, T, sn s, rfl, ?_⟩
    have hh : (if sn s = "mine" then M else T) = hd M T s := by
      rcases hs with rfl | rfl
      · rw [if_neg (by decide +kernel)]; rfl
      · rw [if_pos (by decide +kernel)]; rfl
    rw [hh]
    walk_at "all"
    refine ⟨sn s, i, hd M T s, rfl, fun _ => ?_, fun c => absurd ⟨by omega, by omega⟩ c⟩
    walk_at "st"
    refine ev_call O k3 (by decide) ?_
    walk_at "all"
    refine ⟨M, T, rfl, hM, hT, ?_⟩
    walk_at "st"
    refine ev_bm O PySem.F.plainAttrs_list PySem.F.slot_list_index PySem.F.type_list_index ?_
    walk_at "all"
    refine ⟨.lst _, ?_⟩
    walk_at "all"
    refine m_indexD (n := 2) (m := 1) (j := plc (ord M T) s i) (z := dK (cd M T s i)) O (Lay.lst fun d hd => ?_) (Lay.tup fun d hd => ?_) (by rw [List.getElem?_map, hpl]; rfl) ?_ (fun j y hj hy => ?_) ?_
    · obtain ⟨c, hc, rfl⟩ := List.mem_map.mp hd
      exact lay_dK (ord_side hc)
    · rcases List.mem_cons.mp hd with rfl | hd
      · exact (Lay.str _ (ok_sn hs))
      · rcases List.mem_cons.mp hd with rfl | hd
        · exact Lay.int _
        · cases hd
    · rw [eqv_dK]
      rcases hs with rfl | rfl <;> simp [cd]
    · rw [List.getElem?_map] at hy
      have hjl : j < (ord M T).length := Nat.lt_trans hj hplt
      rw [List.getElem?_eq_getElem hjl] at hy
      cases hy
      rw [eqv_dK]
      have h1 := List.not_of_lt_findIdx hj
      have hc := ord_side (List.getElem_mem hjl)
      rw [← h1]
      congr 1
      rw [decide_eq_decide]
      exact sn_inj hc hs
    walk_at "st"
    walk_at "all"
    refine ev_slL O ?_
    walk_at "all"
    refine ⟨_, rfl, evo_some ?_⟩
    walk_at "all"
    refine ⟨_, rfl, evo_none ?_⟩
    have e1 : ((plc (ord M T) s i : Nat) : Int) + 1 = ((plc (ord M T) s i + 1 : Nat) : Int) := by omega
    rw [e1, cutD_from]
    refine ev_slL O ?_
    walk_at "all"
    refine ⟨_, rfl, evo_none (evo_some ?_)⟩
    walk_at "all"
    refine ⟨_, rfl, ?_⟩
    rw [cutD_to]
    refine b_cat (by rw [List.length_drop, List.length_take, List.length_map, sizeLine_eq]; omega) ?_
    rw [← List.map_drop, ← List.map_take, ← List.map_append]
    have fin : ∀ ρ : Rho, ρ[7]? = some (.va (.lst ((met (ord M T) (plc (ord M T) s i) down).map dK))) → ρ[2]? = some (.va (.str (sn s))) → ρ.length = 9 → st1 (body1 P w K mg base n_around "around" c_around f cdv A outer sh H E) K E (match defBody (tp 30) with | [_, _, _, _, _, a] => a | _ => .Pass ⟨0, 0, 0, 0⟩) ρ { nx := fun _ => Q .non, rt := Q } R := fun ρ h7 h2 hl => by
      refine s_ret (ev_of_evn (en_c (α := Cd) [("card", 8)] [8] O ?_))
      refine ev_nm (j := 7) h7 ?_
      refine ⟨met (ord M T) (plc (ord M T) s i) down, dK, fun c => !decide (c.2.1 = s), fun c => .int c.2.2, rfl, ?_, fun c hc => ?_, ?_⟩
      · have : (met (ord M T) (plc (ord M T) s i) down).length ≤ (ord M T).length + (ord M T).length := by
          unfold met
          split
          · rw [List.length_reverse, List.length_append, List.length_drop, List.length_take]; omega
          · rw [List.length_append, List.length_drop, List.length_take]; omega
        omega
      · have hco : c ∈ ord M T := by
          unfold met at hc
          split at hc
          · rcases List.mem_append.mp (List.mem_reverse.mp hc) with h | h
            · exact List.mem_of_mem_drop h
            · exact List.mem_of_mem_take h
          · rcases List.mem_append.mp hc with h | h
            · exact List.mem_of_mem_drop h
            · exact List.mem_of_mem_take h
        refine tg_name (O.blk _) (evi_one ?_)
        refine et_cmp (ev_sub (ev_nm (j := 8) (by rw [List.getElem?_set_self (by simp [wipeR, hl])]) ?_))
        walk_at "all"
        refine i_tupN (j := 0) (d := .str (sn c.2.1)) (O.blk _) rfl ?_
        refine ev_nm (j := 2) (by rw [List.getElem?_set_ne (by decide)]; simp only [List.map, wipeR]; rw [List.getElem?_set_ne (by decide)]; exact h2) ?_
        walk_at "all"
        refine ⟨_, rfl, ⟨?_, fun _ => ?_⟩⟩
        · congr 1
          rw [decide_eq_decide]
          exact sn_inj (ord_side hco) hs
        · refine ev_sub (ev_nm (j := 8) (by rw [List.getElem?_set_self (by simp [wipeR, hl])]) ?_)
          walk_at "all"
          exact i_tupN (j := 1) (d := .int c.2.2) (O.blk _) rfl rfl
      · have e : List.map (fun c : Cd => D.int c.2.2) (List.filter (fun c : Cd => !decide (c.2.1 = s)) (met (ord M T) (plc (ord M T) s i) down)) = ((arnd M T s i down).map fun (n : Nat) => D.int n) := by
          unfold arnd
          rw [List.map_map]
          rfl
        rw [e]
        exact q
    refine st_cons (s_ifv down (evt_val ?_) (fun t => ?_) (fun t => ?_))
    · walk_at "all"
      exact ⟨_, rfl, rfl⟩
    · refine st_cons (s_st (j := 7) O (ev_of_evn (evn_rev O ?_)))
      walk_at "all"
      refine ⟨_, rfl, ?_⟩
      refine st_nil (st_one (fin _ ?_ rfl rfl))
      rw [← List.map_reverse]
      unfold met
      rw [if_pos t]
      rfl
    · refine st_nil (st_one (fin _ ?_ rfl rfl))
      unfold met
      rw [t]
      rfl
def wpNext (down : Bool) : WPr := fun ds Q R => ∃ (M T : List Int) (s i a : Nat) (r : List Nat), ds = [lI M, lI T, .str (sn s), .int i] ∧ M.length ≤ 1000 ∧ T.length ≤ 1000 ∧ (s = 0 ∨ s = 1) ∧ i < (hd M T s).length ∧ arnd M T s i down = a :: r ∧ Q (.int a)
theorem ok_next_up (F : F_next_up K f fd) (Y : Fre mg) (k1 : KnD P w K mg base "around" 3 [.bl false] wpAround) : FnOk P w K mg base (L2N.CX P w) 4 f fd p_next_up (spD K (wpNext false)) := by
  refine fn_ok F s_next_up (fun ds Q R h => ?_) fun X E hX O hp tk ds Q R h => ?_
  · obtain ⟨_, _, _, _, _, _, rfl, _⟩ := h; rfl
  · obtain ⟨M, T, s, i, a, r, rfl, hM, hT, hs, hi, ha, q⟩ := h
    obtain ⟨cdv, A, outer, sh, H, rfl⟩ := hX
    walk_at "st"
    refine ev_callD O k1 (by decide) ?_
    walk_at "all"
    refine ⟨M, T, s, i, false, rfl, hM, hT, hs, hi, ?_⟩
    rw [ha]
    refine st_cons (s_ifv false ?_ (fun t => nomatch t) fun _ => ?_)
    · walk_at "all"
      exact ⟨_, rfl, rfl⟩
    · refine st_nil ?_
      walk_at "st"
      walk_at "all"
      refine i_listN (j := 0) O rfl ?_
      exact q
theorem ok_next_down (F : F_next_down K f fd) (Y : Fre mg) (k1 : KnK P w K mg base "around" 3 4 "down" wpAround) : FnOk P w K mg base (L2N.CX P w) 4 f fd p_next_down (spD K (wpNext true)) := by
  refine fn_ok F s_next_down (fun ds Q R h => ?_) fun X E hX O hp tk ds Q R h => ?_
  · obtain ⟨_, _, _, _, _, _, rfl, _⟩ := h; rfl
  · obtain ⟨M, T, s, i, a, r, rfl, hM, hT, hs, hi, ha, q⟩ := h
    obtain ⟨cdv, A, outer, sh, H, rfl⟩ := hX
    walk_at "st"
    refine ev_callK O k1 (by decide) ?_
    walk_at "all"
    refine ⟨rfl, M, T, s, i, true, rfl, hM, hT, hs, hi, ?_⟩
    rw [ha]
    refine st_cons (s_ifv false ?_ (fun t => nomatch t) fun _ => ?_)
    · walk_at "all"
      exact ⟨_, rfl, rfl⟩
    · refine st_nil ?_
      walk_at "st"
      walk_at "all"
      refine i_listN (j := 0) O rfl ?_
      exact q
end
end CL
namespace CL
open PySem PySem.Spec PyProof.Rows L2 DL
section
variable {P : Program} {w : World} {K : PySem.W.Frag} {mg : Str → Option Value} {base : Heap} {f : Addr} {fd : FuncData}
theorem ls_dK {L : List Cd} {n : Nat} {x : D} (h : (L.map dK)[n]? = some x) : ∃ c, L[n]? = some c ∧ x = dK c := by
  rw [List.getElem?_map] at h
  cases e : L[n]? with
  | none => rw [e] at h; cases h
  | some c => rw [e] at h; cases h; exact ⟨c, rfl, rfl⟩
def wpHeights : WPr := fun ds Q R => ∃ M T : List Int, ds = [lI M, lI T] ∧ M.length = T.length ∧ M.length ≤ 1000 ∧ Q (lI (walkOf (ord M T)))
theorem ok_heights (F : F_heights K f fd) (k1 : Kn P w K mg base "check_hands" 2 wpCheckHands) (k2 : Kn P w K mg base "deck" 2 wpDeck) : FnOk P w K mg base (L2N.CX P w) 3 f fd p_heights (spD K wpHeights) := by
  refine fn_ok F s_heights (fun ds Q R h => ?_) fun X E hX O hp tk ds Q R h => ?_
  · obtain ⟨_, _, rfl, _⟩ := h; rfl
  · obtain ⟨M, T, rfl, hl, hM, q⟩ := h
    obtain ⟨cdv, A, outer, sh, H, rfl⟩ := hX
    refine st_cons (s_expr (ev_call O k1 (by decide) ?_))
    walk_at "all"
    refine ⟨M, T, rfl, fun _ => ?_, fun c => absurd hl c⟩
    walk_at "st"
    walk_at "all"
    refine st_cons (s_so (j := 3) O (evn_lst ?_))
    walk_at "all"
    refine st_cons (s_for (js := [4]) O hp (ev_call O k2 (by decide) ?_))
    walk_at "all"
    have hlen := ord_len M T
    refine ⟨M, T, rfl, hM, by omega, _, rfl, fun n ρ' => ∃ s, ρ' = [.va (lI M), .va (lI T), .va (.int (ht ((ord M T).take n))), .ow ((((List.range (n + 1)).map fun k => ht ((ord M T).take k))).map .int), s], ⟨_, rfl⟩, ?_, ?_⟩
    · rintro n x ρ' hx ⟨s, rfl⟩
      obtain ⟨c, hc, rfl⟩ := ls_dK hx
      have hn := (List.getElem?_eq_some_iff.mp hc).1
      refine tg_name O ?_
      have e := ht_snoc hc
      have fin : ∀ z : Int, z = ht ((ord M T).take (n + 1)) → ((((List.range (n + 1)).map fun k => ht ((ord M T).take k))).map D.int) ++ [D.int z] = (((List.range (n + 1 + 1)).map fun k => ht ((ord M T).take k))).map D.int := fun z hz => by
        rw [List.range_succ (n := n + 1), List.map_append, List.map_append, hz]
        rfl
      have hsz : ((((List.range (n + 1)).map fun k => ht ((ord M T).take k))).map D.int).length < sizeLine := by
        rw [List.length_map, List.length_map, List.length_range, sizeLine_eq]; omega
      refine st_cons (s_ifv (decide (sn c.2.1 = "theirs")) ?_ (fun t => ?_) fun t => ?_)
      · walk_at "all"
        refine i_tupN (j := 0) (d := .str (sn c.2.1)) O rfl ?_
        walk_at "all"
        exact ⟨_, rfl, rfl⟩
      · have e0 : c.2.1 = 0 := by
          rcases ord_side (List.mem_of_getElem? hc) with h | h
          · exact h
          · rw [h] at t; exact absurd (of_decide_eq_true t) (by decide +kernel)
        refine st_one (s_augI (j := 2) O rfl ?_)
        walk_at "all"
        refine ⟨1, rfl, st_one (s_app (j := 3) O rfl hsz ?_)⟩
        walk_at "all"
        refine ⟨.va (dK c), ?_⟩
        have ez : ht ((ord M T).take n) + 1 = ht ((ord M T).take (n + 1)) := by rw [e]; simp [stp, e0]
        rw [fin _ ez, ez]
        rfl
      · have e0 : c.2.1 ≠ 0 := fun h => by rw [h] at t; exact absurd (of_decide_eq_false t) (fun z => z (by decide +kernel))
        refine st_one (s_subI (j := 2) O rfl ?_)
        walk_at "all"
        refine ⟨1, rfl, st_one (s_app (j := 3) O rfl hsz ?_)⟩
        walk_at "all"
        refine ⟨.va (dK c), ?_⟩
        have ez : ht ((ord M T).take n) - 1 = ht ((ord M T).take (n + 1)) := by rw [e]; simp [stp, e0]; omega
        rw [fin _ ez, ez]
        rfl
    · rintro ρ' ⟨s, rfl⟩
      rw [List.length_map]
      refine st_unown 3 rfl ?_
      walk_at "st"
      walk_at "all"
      exact q
def wpLevels : WPr := fun ds Q R => ∃ (M T : List Int) (s : Nat), ds = [lI M, lI T, .str (sn s)] ∧ M.length = T.length ∧ M.length ≤ 1000 ∧ (s = 0 ∨ s = 1) ∧ Q (lI (lvls M T s))
theorem ok_levels (F : F_side_levels K f fd) (Y : Fre mg) (k1 : Kn P w K mg base "heights" 3 wpHeights) (k2 : Kn P w K mg base "deck" 2 wpDeck) : FnOk P w K mg base (L2N.CX P w) 4 f fd p_side_levels (spD K wpLevels) := by
  refine fn_ok F s_side_levels (fun ds Q R h => ?_) fun X E hX O hp tk ds Q R h => ?_
  · obtain ⟨_, _, _, rfl, _⟩ := h; rfl
  · obtain ⟨M, T, s, rfl, hl, hM, hs, q⟩ := h
    obtain ⟨cdv, A, outer, sh, H, rfl⟩ := hX
    walk_at "st"
    refine ev_call O k1 (by decide) ?_
    walk_at "all"
    refine ⟨M, T, rfl, hl, hM, ?_⟩
    refine st_cons (s_so (j := 4) O (ev_binN ?_))
    walk_at "all"
    rw [List.length_map]
    refine o_rep1 (.int 0) (by omega) (by rw [sizeLine_eq]; omega) ?_
    refine st_cons (s_forE (js := [5] ++ ([6] ++ [7])) O hp Y.enumerate (ev_call O k2 (by decide) ?_))
    walk_at "all"
    have hlen := ord_len M T
    refine ⟨M, T, rfl, hM, by omega, _, rfl, fun n ρ' => ∃ fs a b c, Fnd M T s n fs ∧ ρ' = [.va (lI M), .va (lI T), .va (.str (sn s)), .va (lI (walkOf (ord M T))), .ow (fs.map .int), a, b, c], ⟨_, .no, .no, .no, Fnd.zero M T s, by rw [List.map_replicate]; rfl⟩, ?_, ?_⟩
    · rintro n x ρ' hx ⟨fs, a, b, c', hF, rfl⟩
      obtain ⟨c, hc, rfl⟩ := ls_dK hx
      have hn := (List.getElem?_eq_some_iff.mp hc).1
      have hm := cd_of (List.mem_of_getElem? hc)
      have hcs := ord_side (List.mem_of_getElem? hc)
      refine tg_tup2 O (tg_name O (tg_tup2 O (tg_name O (tg_name O ?_))))
      refine st_cons (s_ifv (decide (c.2.1 = s)) ?_ (fun t => ?_) fun t => ?_)
      · walk_at "all"
        refine ⟨_, rfl, ?_⟩
        rw [decide_eq_decide]
        exact sn_inj hcs hs
      · have e0 := of_decide_eq_true t
        have hix : c.2.2 < M.length := by
          have := hm.2
          rcases hcs with h | h <;> rw [h] at this <;> simp [hd] at this <;> omega
        refine st_one (s_put (j := 4) O rfl ?_)
        walk_at "all"
        have es : (if decide (sn s = ("mine" : Str)) then (1 : Int) else 0) = (s : Int) := by
          rcases hs with rfl | rfl
          · rw [if_neg (by decide +kernel)]; rfl
          · rw [if_pos (by decide +kernel)]; rfl
        rw [es]
        have e2 : (n : Int) + (s : Int) = ((n + s : Nat) : Int) := by omega
        rw [e2]
        refine i_listN (d := .int (ht ((ord M T).take (n + s)))) O (by rw [List.getElem?_map, walk_get _ (by omega)]; rfl) ?_
        walk_at "all"
        refine ⟨c.2.2, rfl, by rw [List.length_map, hF.len]; exact hix, st_nil ⟨_, .va (.int n), .va (.str (sn c.2.1)), .va (.int c.2.2), hF.put hl hc e0, ?_⟩⟩
        rw [← List.map_set]
        rfl
      · exact st_nil (st_nil ⟨fs, _, _, _, hF.skip hl hs hc (of_decide_eq_false t), rfl⟩)
    · rintro ρ' ⟨fs, a, b, c, hF, rfl⟩
      rw [List.length_map] at hF
      rw [hF.done hl hs]
      refine st_unown 4 rfl ?_
      walk_at "st"
      walk_at "all"
      exact q
def wpRow : WPr := fun ds Q R => ∃ (M T : List Int), ds = [lI M, lI T] ∧ M.length = T.length ∧ M.length ≤ 1000 ∧ Q (lI (rowP M T))
theorem ok_row_of (F : F_row_of K f fd) (Y : Fre mg) (k1 : Kn P w K mg base "side_levels" 4 wpLevels) : FnOk P w K mg base (L2N.CX P w) 5 f fd p_row_of (spD K wpRow) := by
  refine fn_ok F s_row_of (fun ds Q R h => ?_) fun X E hX O hp tk ds Q R h => ?_
  · obtain ⟨_, _, rfl, _⟩ := h; rfl
  · obtain ⟨M, T, rfl, hl, hM, q⟩ := h
    obtain ⟨cdv, A, outer, sh, H, rfl⟩ := hX
    refine st_one (s_ret (ev_of_evn (evn_callB (id := "sorted") (hv := bo_sorted) O Y.sorted ?_)))
    walk_at "all"
    refine ev_call O k1 (by decide) ?_
    walk_at "all"
    refine ⟨M, T, 1, rfl, hl, hM, .inr rfl, ?_⟩
    walk_at "all"
    refine c_sorted O fun ms hp hs => ?_
    rw [srt_uniq hp hs]
    exact q
def wpValueOf : WPr := fun ds Q R => ∃ (M T : List Int) (l : List Nat) (many : Str), ds = [lI M, lI T, .str (tx l), .str many] ∧ M.length = T.length ∧ M.length ≤ 1000 ∧ l.length ≤ 1000 ∧ (∀ p, wordErr l M.length = some p → R (eWord p)) ∧ (wordErr l M.length = none → Q (.int (valueV (rowP M T) l many)))
theorem ok_value_of (F : FunD K "value_of" "value_of" (defArgs (tp 41)) (defBody (tp 41)) c_value_of [] [("many", .str "mine")] f fd) (k1 : Kn P w K mg base "row_of" 5 wpRow) (k2 : KnK P w K mg base "value" 4 2 "many" wpValue) : FnOk P w K mg base (L2N.CX P w) 6 f fd p_value_of (spD K wpValueOf) := by
  refine fn_ok F s_value_of (fun ds Q R h => ?_) fun X E hX O hp tk ds Q R h => ?_
  · obtain ⟨_, _, _, _, rfl, _⟩ := h; rfl
  · obtain ⟨M, T, l, many, rfl, hl, hM, hw, q1, q2⟩ := h
    obtain ⟨cdv, A, outer, sh, H, rfl⟩ := hX
    refine st_one (s_ret (ev_callK O k2 (by decide) ?_))
    walk_at "all"
    refine ev_call O k1 (by decide) ?_
    walk_at "all"
    refine ⟨M, T, rfl, hl, hM, ?_⟩
    walk_at "all"
    refine ⟨rfl, rowP M T, l, many, rfl, hw, ?_⟩
    rw [rowP_len]
    exact ⟨q1, q2⟩
def wpPlanLay : WPr := fun ds Q R => ∃ (M T : List Int) (s : Nat) (many : Str), ds = [lI M, lI T, .str (sn s), .str many] ∧ M.length = T.length ∧ M.length ≤ 1000 ∧ (s = 0 ∨ s = 1) ∧ (M.length = 0 → R eTurn) ∧ (M.length ≠ 0 → ∀ g, goalIs (lvls M T s) (!decide (sn s = many)) g → ∃ a r, spotsOf M T s g = a :: r ∧ Q (.int a))
theorem ok_plan_lay (F : F_plan_lay K f fd) (Y : Fre mg) (Z : Xs P K mg) (k1 : Kn P w K mg base "side_levels" 4 wpLevels) (k2 : Kn P w K mg base "deck" 2 wpDeck) : FnOk P w K mg base (L2N.CX P w) 5 f fd p_plan_lay (spD K wpPlanLay) := by
  refine fn_ok F s_plan_lay (fun ds Q R h => ?_) fun X E hX O hp tk ds Q R h => ?_
  · obtain ⟨_, _, _, _, rfl, _⟩ := h; rfl
  · obtain ⟨M, T, s, many, rfl, hl, hM, hs, q1, q2⟩ := h
    obtain ⟨cdv, A, outer, sh, H, rfl⟩ := hX
    walk_at "st"
    refine ev_call O k1 (by decide) ?_
    walk_at "all"
    refine ⟨M, T, s, rfl, hl, hM, hs, ?_⟩
    refine st_cons (s_ifv (decide (M.length = 0)) ?_ (fun t => ?_) fun t => ?_)
    · walk_at "all"
      refine ⟨_, rfl, ?_⟩
      rw [List.length_map, lvls_len, decide_eq_decide]
      omega
    · obtain ⟨bmB, e1, e2⟩ := Z.oot
      exact st_one (s_raise0 (C := 0) O tk e2 e1 Z.goot Z.ootK Z.ootB Z.ootT (q1 (of_decide_eq_true t)))
    · have h0 := of_decide_eq_false t
      have hpos : 0 < (lvls M T s).length := by rw [lvls_len]; omega
      have hlen := ord_len M T
      have fin : ∀ g : Int, goalIs (lvls M T s) (!decide (sn s = many)) g → stm (body1 P w K mg base n_plan_lay "plan_lay" c_plan_lay f cdv A outer sh H E) K E [(match defBody (tp 43) with | [_, _, _, _, a, _] => a | _ => .Pass ⟨0, 0, 0, 0⟩), (match defBody (tp 43) with | [_, _, _, _, _, a] => a | _ => .Pass ⟨0, 0, 0, 0⟩)]
          [.va (lI M), .va (lI T), .va (.str (sn s)), .va (.str many), .va (lI (lvls M T s)), .va (.int g), .no, .no, .no] { nx := fun _ => Q .non, rt := Q } R := fun g hg => by
        obtain ⟨a, r, ha, q⟩ := q2 h0 g hg
        refine st_cons (s_c (α := Cd) (j := 6) [("owner", 7), ("index", 8)] ([7] ++ [8]) O (ev_call O k2 (by decide) ?_))
        walk_at "all"
        refine ⟨M, T, rfl, hM, by omega, ord M T, dK, fun c => decide (c.2.1 = s) && decide ((lvls M T s).getD c.2.2 0 = g), fun c => .int c.2.2, rfl, by omega, fun c hc => ?_, ?_⟩
        · have hm := cd_of hc
          have hcs := ord_side hc
          have hix : c.2.2 < M.length := by
            have := hm.2
            rcases hcs with h | h <;> rw [h] at this <;> simp [hd] at this <;> omega
          refine tg_tup2 (O.blk _) (tg_name (O.blk _) (tg_name (O.blk _) (evi_one (evt_w (evw_and ?_)))))
          walk_at "all"
          refine ⟨_, rfl, fun t1 => evw_and1 ?_, fun t1 => ⟨?_, fun z => nomatch z⟩⟩
          · have e1 : c.2.1 = s := (sn_inj hcs hs).mp (of_decide_eq_true t1)
            walk_at "all"
            refine i_listN (O.blk _) (iget (by rw [lvls_len]; exact hix)) ?_
            walk_at "all"
            refine ⟨_, rfl, ⟨?_, fun _ => ?_⟩⟩
            · show _ = (decide (c.2.1 = s) && _)
              rw [decide_eq_true e1]; rfl
            · walk_at "all"
              rfl
          · have e1 : c.2.1 ≠ s := fun z => of_decide_eq_false t1 ((sn_inj hcs hs).mpr z)
            show false = (decide (c.2.1 = s) && _)
            rw [decide_eq_false e1]; rfl
        · have e : List.map (fun c : Cd => D.int c.2.2) (List.filter (fun c : Cd => decide (c.2.1 = s) && decide ((lvls M T s).getD c.2.2 0 = g)) (ord M T)) = ((spotsOf M T s g).map fun (n : Nat) => D.int n) := by
            unfold spotsOf
            rw [List.map_map]
            rfl
          rw [e, ha]
          walk_at "st"
          walk_at "all"
          refine i_listN (j := 0) O rfl ?_
          exact q
      refine st_nil (st_cons (s_st (j := 5) O (ev_callB (id := "max") (hv := bo_max) O Y.max ?_)))
      walk_at "all"
      refine c_max O hpos fun g1 hg1 hg2 => ?_
      refine st_cons (s_ifv (decide (sn s = many)) ?_ (fun t => ?_) fun t => ?_)
      · walk_at "all"
        exact ⟨_, rfl, rfl⟩
      · refine st_cons (s_st (j := 5) O (ev_callB (id := "min") (hv := bo_min) O Y.min ?_))
        walk_at "all"
        refine c_min O hpos fun g hg hg' => ?_
        refine st_nil (fin g ⟨hg, fun y hy => ?_⟩)
        rw [t]
        exact hg' y hy
      · refine st_nil (fin g1 ⟨hg1, fun y hy => ?_⟩)
        rw [t]
        exact hg2 y hy
def wpPlanAnswer : WPr := fun ds Q R => ∃ (M T : List Int) (s m i a : Nat) (r : List Nat), ds = [lI M, lI T, .str (sn (1 - s)), .int i, .str (sn m)] ∧ M.length ≤ 1000 ∧ T.length ≤ 1000 ∧ (s = 0 ∨ s = 1) ∧ (m = 0 ∨ m = 1) ∧ i < (hd M T s).length ∧ arnd M T s i (decide (m = 0)) = a :: r ∧ Q (.int a)
theorem other_sn {s : Nat} (hs : s = 0 ∨ s = 1) : other (sn (1 - s)) = sn s := by rcases hs with rfl | rfl <;> decide +kernel
theorem ok_plan_answer (F : F_plan_answer K f fd) (k1 : Kn P w K mg base "next_up" 4 (wpNext false)) (k2 : Kn P w K mg base "next_down" 4 (wpNext true)) (k3 : Kn P w K mg base "other_side" 2 wpOther) : FnOk P w K mg base (L2N.CX P w) 5 f fd p_plan_answer (spD K wpPlanAnswer) := by
  refine fn_ok F s_plan_answer (fun ds Q R h => ?_) fun X E hX O hp tk ds Q R h => ?_
  · obtain ⟨_, _, _, _, _, _, _, rfl, _⟩ := h; rfl
  · obtain ⟨M, T, s, m, i, a, r, rfl, hM, hT, hs, hm, hi, ha, q⟩ := h
    obtain ⟨cdv, A, outer, sh, H, rfl⟩ := hX
    refine st_cons (s_ifv (decide (m = 1)) ?_ (fun t => ?_) fun t => ?_)
    · walk_at "all"
      refine ⟨_, rfl, ?_⟩
      rw [decide_eq_decide]
      exact sn_inj (t := 1) hm (.inr rfl)
    · refine st_one (s_ret (ev_call O k1 (by decide) ?_))
      walk_at "all"
      refine ev_call O k3 (by decide) ?_
      walk_at "all"
      refine ⟨_, rfl, ?_⟩
      rw [other_sn hs]
      walk_at "all"
      have e := of_decide_eq_true t
      subst e
      exact ⟨M, T, s, i, a, r, rfl, hM, hT, hs, hi, ha, q⟩
    · refine st_nil (st_one (s_ret (ev_call O k2 (by decide) ?_)))
      walk_at "all"
      refine ev_call O k3 (by decide) ?_
      walk_at "all"
      refine ⟨_, rfl, ?_⟩
      rw [other_sn hs]
      walk_at "all"
      have e : m = 0 := by
        have := of_decide_eq_false t
        omega
      subst e
      exact ⟨M, T, s, i, a, r, rfl, hM, hT, hs, hi, ha, q⟩
end
end CL
namespace CL
open PySem PySem.Spec PyProof.Rows L2 DL
/-- the heights ahead of their cards, as they come -/
def outs (L : List Cd) (n : Nat) : List Int := ((List.range n).filter fun k => decide ((L.getD k (0, 1, 0)).2.1 = 0)).map fun k => ht (L.take k)
theorem outs_snoc {L : List Cd} {n : Nat} {c : Cd} (h : L[n]? = some c) : outs L (n + 1) = outs L n ++ if c.2.1 = 0 then [ht (L.take n)] else [] := by
  unfold outs
  rw [List.range_succ, List.filter_append, List.map_append]
  have e : L.getD n (0, 1, 0) = c := by rw [List.getD_eq_getElem?_getD, h]; rfl
  congr 1
  by_cases q : c.2.1 = 0
  · rw [if_pos q, List.filter_cons, if_pos (by rw [e]; exact decide_eq_true q)]; rfl
  · rw [if_neg q, List.filter_cons, if_neg (by rw [e]; simpa using q)]; rfl
def rowL (M T : List Int) : List Int := srt (outs (ord M T) (ord M T).length)
theorem ls_dC {L : List Cd} {n : Nat} {x : D} (h : (L.map dC)[n]? = some x) : ∃ c, L[n]? = some c ∧ x = dC c := by
  rw [List.getElem?_map] at h
  cases e : L[n]? with
  | none => rw [e] at h; cases h
  | some c => rw [e] at h; cases h; exact ⟨c, rfl, rfl⟩
theorem own_of {s : Nat} (hs : s = 0 ∨ s = 1) : (if decide (sn s = ("mine" : Str)) then (1 : Int) else 0) = (s : Int) := by
  rcases hs with rfl | rfl
  · rw [if_neg (by decide +kernel)]; rfl
  · rw [if_pos (by decide +kernel)]; rfl
theorem own_of' {s : Nat} (hs : s = 0 ∨ s = 1) : (if decide (sn s = ("theirs" : Str)) then (1 : Int) else 0) = ((1 - s : Nat) : Int) := by
  rcases hs with rfl | rfl
  · rw [if_pos (by decide +kernel)]; rfl
  · rw [if_neg (by decide +kernel)]; rfl
section
variable {P : Program} {w : World} {K : PySem.W.Frag} {mg : Str → Option Value} {base : Heap} {f : Addr} {fd : FuncData}
def wpIsInt : WPr := fun ds Q R => ∃ i : Int, ds = [.int i] ∧ Q (.bl true)
theorem ok_is_int (F : F_q_is_int K f fd) (Y : Fre mg) : FnOk P w K mg base (L2N.CX P w) 2 f fd p_q_is_int (spD K wpIsInt) := by
  refine fn_ok F s_q_is_int (fun ds Q R h => ?_) fun X E hX O hp tk ds Q R h => ?_
  · obtain ⟨_, rfl, _⟩ := h; rfl
  · obtain ⟨i, rfl, q⟩ := h
    obtain ⟨cdv, A, outer, sh, H, rfl⟩ := hX
    refine st_one (s_ret (ev_and (ev_isi (T' := "int") O Y.isinstance Y.int (hvT := bo_int) ?_)))
    walk_at "all"
    refine ⟨_, _, .int i, kit_ii, true, rfl, fun _ => ev_one (ev_not (ev_isi (T' := "bool") O Y.isinstance Y.bool (hvT := bo_bool) ?_)), nofun⟩
    walk_at "all"
    exact ⟨_, _, .int i, kit_ib, false, rfl, q⟩
def wpIsLeft : WPr := fun ds Q R => ∃ (i : Int) (ns : List Nat), ds = [.int i, lN ns] ∧ Q (.bl (decide (i ∈ ns.map fun (n : Nat) => (n : Int))))
theorem ok_is_left (F : F_q_is_left K f fd) (k1 : Kn P w K mg base "_law_is_int" 2 wpIsInt) : FnOk P w K mg base (L2N.CX P w) 3 f fd p_q_is_left (spD K wpIsLeft) := by
  refine fn_ok F s_q_is_left (fun ds Q R h => ?_) fun X E hX O hp tk ds Q R h => ?_
  · obtain ⟨_, _, rfl, _⟩ := h; rfl
  · obtain ⟨i, ns, rfl, q⟩ := h
    obtain ⟨cdv, A, outer, sh, H, rfl⟩ := hX
    refine st_one (s_ret (ev_and (ev_call O k1 (by decide) ?_)))
    walk_at "all"
    refine ⟨i, rfl, true, rfl, fun _ => ev_one ?_, nofun⟩
    walk_at "all"
    rw [lN_eq]
    exact ⟨o_in O q⟩
def wpOrder : WPr := fun ds Q R => ∃ M T : List Int, ds = [lI M, lI T] ∧ M.length ≤ 1000 ∧ T.length ≤ 1000 ∧ Q (.lst ((ord M T).map dC))
theorem ok_order (F : F_q_order K f fd) (Y : Fre mg) : FnOk P w K mg base (L2N.CX P w) 2 f fd p_q_order (spD K wpOrder) := by
  refine fn_ok F s_q_order (fun ds Q R h => ?_) fun X E hX O hp tk ds Q R h => ?_
  · obtain ⟨_, _, rfl, _⟩ := h; rfl
  · obtain ⟨M, T, rfl, hM, hT, q⟩ := h
    obtain ⟨cdv, A, outer, sh, H, rfl⟩ := hX
    refine st_cons (s_r (j := 2) [("_law_k", 3)] [3] O Y.range ?_)
    walk_at "all"
    rw [List.length_map]
    refine ⟨T.length, fun _ => true, fun i => dC (T.getD i 0, 0, i), rfl, by omega, fun n hn => ?_, ?_⟩
    · refine tg_name (O.blk _) (evi_nil ⟨rfl, fun _ => ?_⟩)
      walk_at "all"
      refine i_listN (O.blk _) (iget hn) ?_
      walk_at "all"
      rfl
    · rw [rangeN]
      refine st_one (s_ret (ev_of_evn (evn_callB (id := "sorted") (hv := bo_sorted) O Y.sorted ?_)))
      walk_at "all"
      refine ev_of_evn (en_r [("_law_k", 3)] [3] O Y.range ?_)
      walk_at "all"
      rw [List.length_map]
      refine ⟨M.length, fun _ => true, fun i => dC (M.getD i 0, 1, i), rfl, by omega, fun n hn => ?_, ?_⟩
      · refine tg_name (O.blk _) (evi_nil ⟨rfl, fun _ => ?_⟩)
        walk_at "all"
        refine i_listN (O.blk _) (iget hn) ?_
        walk_at "all"
        rfl
      · rw [rangeN]
        refine b_cat (by rw [List.length_map, List.length_map, List.length_range, List.length_range, sizeLine_eq]; omega) ?_
        walk_at "all"
        have e : (((List.range T.length).map fun i => dC (T.getD i 0, 0, i)) ++ (List.range M.length).map fun i => dC (M.getD i 0, 1, i)) = (cards M T).map dC := by
          unfold cards
          rw [List.map_append, List.map_map, List.map_map]
          rfl
        rw [e]
        refine c_sort3 O fun ms hp hs => ?_
        rw [ord_uniq hp hs]
        exact q
def wpLRow : WPr := fun ds Q R => ∃ M T : List Int, ds = [lI M, lI T] ∧ M.length ≤ 1000 ∧ T.length ≤ 1000 ∧ Q (lI (rowL M T))
theorem ok_lrow (F : F_q_row K f fd) (Y : Fre mg) (k1 : Kn P w K mg base "_law_order" 2 wpOrder) : FnOk P w K mg base (L2N.CX P w) 3 f fd p_q_row (spD K wpLRow) := by
  refine fn_ok F s_q_row (fun ds Q R h => ?_) fun X E hX O hp tk ds Q R h => ?_
  · obtain ⟨_, _, rfl, _⟩ := h; rfl
  · obtain ⟨M, T, rfl, hM, hT, q⟩ := h
    obtain ⟨cdv, A, outer, sh, H, rfl⟩ := hX
    walk_at "st"
    walk_at "all"
    refine st_cons (s_so (j := 3) O (evn_lst (evs_nil ⟨by simp, ?_⟩)))
    refine st_cons (s_for (js := [4]) O hp (ev_call O k1 (by decide) ?_))
    walk_at "all"
    have hlen := ord_len M T
    refine ⟨M, T, rfl, hM, hT, _, rfl, fun n ρ' => ∃ s, ρ' = [.va (lI M), .va (lI T), .va (.int (ht ((ord M T).take n))), .ow ((outs (ord M T) n).map .int), s], ⟨_, rfl⟩, ?_, ?_⟩
    · rintro n x ρ' hx ⟨s, rfl⟩
      obtain ⟨c, hc, rfl⟩ := ls_dC hx
      have hn := (List.getElem?_eq_some_iff.mp hc).1
      have ho := outs_snoc hc
      have hlo : (outs (ord M T) n).length ≤ n := by
        unfold outs
        rw [List.length_map]
        refine Nat.le_trans (List.length_filter_le _ _) ?_
        rw [List.length_range]
        exact Nat.le_refl _
      refine tg_name O ?_
      have ez : ht ((ord M T).take n) + 1 - 2 * (c.2.1 : Int) = ht ((ord M T).take (n + 1)) := by
        rw [ht_snoc hc]
        rcases ord_side (List.mem_of_getElem? hc) with h | h <;> simp [stp, h] <;> omega
      refine st_cons (s_ifv (decide (c.2.1 = 0)) ?_ (fun t => ?_) fun t => ?_)
      · walk_at "all"
        refine i_tupN (j := 1) (d := .int c.2.1) O rfl ?_
        walk_at "all"
        refine ⟨_, rfl, ?_⟩
        rw [decide_eq_decide]
        omega
      · have e0 := of_decide_eq_true t
        refine st_one (s_app (j := 3) O rfl (by rw [List.length_map, sizeLine_eq]; omega) ?_)
        walk_at "all"
        walk_at "set"
        walk_at "all"
        refine i_tupN (j := 1) (d := .int c.2.1) O rfl ?_
        refine b_mul (by exact .inl ⟨by decide, by decide⟩) ?_
        walk_at "all"
        refine st_nil ⟨.va (dC c), ?_⟩
        rw [ez, ho, if_pos e0, List.map_append]
        rfl
      · have e0 := of_decide_eq_false t
        refine st_nil ?_
        walk_at "set"
        walk_at "all"
        refine i_tupN (j := 1) (d := .int c.2.1) O rfl ?_
        refine b_mul (by exact .inl ⟨by decide, by decide⟩) ?_
        walk_at "all"
        refine st_nil ⟨.va (dC c), ?_⟩
        rw [ez, ho, if_neg e0, List.append_nil]
        rfl
    · rintro ρ' ⟨s, rfl⟩
      rw [List.length_map]
      refine st_unown 3 rfl ?_
      refine st_one (s_ret (ev_of_evn (evn_callB (id := "sorted") (hv := bo_sorted) O Y.sorted ?_)))
      walk_at "all"
      refine c_sorted O fun ms hp hs => ?_
      rw [srt_uniq hp hs]
      exact q
def allOk (l : List Nat) : Prop := ∀ c ∈ l, okc c = true
theorem ok_counts : ∀ {l : List Nat}, allOk l → l.count 77 + l.count 84 = l.length
  | [], _ => rfl
  | c :: l, h => by
    have ih := ok_counts fun x hx => h x (List.mem_cons_of_mem _ hx)
    have hc := h c List.mem_cons_self
    unfold okc at hc
    simp only [Bool.or_eq_true, decide_eq_true_eq] at hc
    rw [List.count_cons, List.count_cons, List.length_cons]
    rcases hc with rfl | rfl <;> simp <;> omega
def wpLValue : WPr := fun ds Q R => ∃ (r : List Int) (l : List Nat) (many : Str), ds = [lI r, .str (tx l), .str many] ∧ l.length = r.length ∧ l.length ≤ 1000 ∧ allOk l ∧ Q (.int (valueV r l many))
theorem ok_lvalue (F : F_q_value K f fd) (Y : Fre mg) : FnOk P w K mg base (L2N.CX P w) 2 f fd p_q_value (spD K wpLValue) := by
  refine fn_ok F s_q_value (fun ds Q R h => ?_) fun X E hX O hp tk ds Q R h => ?_
  · obtain ⟨_, _, _, rfl, _⟩ := h; rfl
  · obtain ⟨r, l, many, rfl, he, hl, hok, q⟩ := h
    obtain ⟨cdv, A, outer, sh, H, rfl⟩ := hX
    have hsz : (tx l).length ≤ sizeLine := by rw [tx_len, sizeLine_eq]; omega
    have hsz2 : (tx l.dropLast).length ≤ sizeLine := by rw [tx_len, List.length_dropLast, sizeLine_eq]; omega
    refine st_cons (s_ifv (decide (r = [])) ?_ (fun t => ?_) fun t => ?_)
    · walk_at "all"
      refine ⟨_, rfl, ?_⟩
      rw [List.length_map, decide_eq_decide]
      cases r <;> simp <;> omega
    · have e := of_decide_eq_true t
      subst e
      walk_at "st"
      walk_at "all"
      have e2 : valueV [] l many = 0 := by unfold valueV entryV; simp
      rwa [e2] at q
    · have e := of_decide_eq_false t
      have hr : r.length ≠ 0 := by simpa using e
      refine st_nil (st_cons (s_st (j := 3) O (ev_slS ?_)))
      walk_at "all"
      refine ⟨_, rfl, hsz, evo_none (evo_some ?_)⟩
      walk_at "all"
      refine c_lenT O hsz ?_
      walk_at "all"
      refine ⟨_, rfl, ?_⟩
      have ec : cutS (tx l) none (some (((tx l).length : Int) - 1)) = tx l.dropLast := by
        have h1 : (((tx l).length : Int) - 1) = ((l.length - 1 : Nat) : Int) := by rw [tx_len]; omega
        rw [h1, cut_to, List.dropLast_eq_take]
      rw [ec]
      refine st_cons (s_st (j := 4) O (ev_callB (id := "len") (hv := bo_len) O Y.len (evs_cons (ev_of_evn (en_s [("_law_x", 5)] [5] O ?_)))))
      walk_at "all"
      refine ⟨l.dropLast, fun c => decide (c = 77), fun c => .str ⟨#[c]⟩, rfl, by rw [List.length_dropLast]; omega, fun c hc => ?_, ?_⟩
      · refine tg_name (O.blk _) (evi_one ?_)
        walk_at "all"
        refine ⟨_, rfl, ⟨?_, fun _ => ?_⟩⟩
        · rw [tx_M, decide_eq_decide]
          have := tx_inj (a := [c]) (b := [77])
          simpa using this
        · walk_at "all"
          rfl
      · walk_at "all"
        have e1 : (List.map (fun c : Nat => D.str ⟨#[c]⟩) (List.filter (fun c => decide (c = 77)) l.dropLast)).length = early l 77 := by
          rw [List.length_map, ← List.countP_eq_length_filter]
          unfold early List.count
          congr 1
        rw [e1]
        have hcnt : early l 77 + early l 84 = l.dropLast.length := ok_counts fun c hc => hok c (List.dropLast_subset l hc)
        rw [List.length_dropLast] at hcnt
        have h7 := early_lt he hr 77
        have h8 := early_lt he hr 84
        refine st_cons (s_ifv (decide (many = "mine")) ?_ (fun t => ?_) fun t => ?_)
        · walk_at "all"
          exact ⟨_, rfl, rfl⟩
        · walk_at "st"
          walk_at "all"
          refine c_lenT O hsz2 ?_
          walk_at "all"
          refine i_listN (j := early l 77) O (iget h7) ?_
          walk_at "all"
          unfold valueV at q
          rw [if_pos (of_decide_eq_true t), entryV, if_neg e] at q
          have ez : ((tx l.dropLast).length : Int) - (early l 77 : Int) + 1 + r.getD (early l 77) 0 = (early l 84 : Int) + 1 + r.getD (early l 77) 0 := by
            rw [tx_len, List.length_dropLast]; omega
          rw [ez]
          exact q
        · refine st_nil ?_
          walk_at "st"
          walk_at "all"
          refine c_lenT O hsz2 ?_
          walk_at "all"
          have ez : ((tx l.dropLast).length : Int) - (early l 77 : Int) = (early l 84 : Nat) := by
            rw [tx_len, List.length_dropLast]; omega
          rw [ez]
          refine i_listN (j := early l 84) O (iget h8) ?_
          walk_at "all"
          unfold valueV at q
          rw [if_neg (of_decide_eq_false t), entryV, if_neg e] at q
          exact q
end
end CL
namespace CL
open PySem PySem.Spec PyProof.Rows L2 DL
def dP (c : Cd) : D := .lst [.int c.2.1, .int c.2.2]
theorem lay_dP (c : Cd) : Lay (dP c) 1 := Lay.lst fun d hd => by
  rcases List.mem_cons.mp hd with rfl | hd
  · exact Lay.int _
  · rcases List.mem_cons.mp hd with rfl | hd
    · exact Lay.int _
    · cases hd
theorem eqv_dP (c : Cd) (s i : Nat) : PyData.eqv (pd (dP c)) (pd (.lst [.int s, .int i])) = (decide (c.2.1 = s) && decide (c.2.2 = i)) := by
  simp only [dP, pd, pds, PyData.eqv, PyData.eqvAll, Bool.and_true]
  rw [Bool.eq_iff_iff]
  simp
  omega
section
variable {P : Program} {w : World} {K : PySem.W.Frag} {mg : Str → Option Value} {base : Heap} {f : Addr} {fd : FuncData}
def wpUp : WPr := fun ds Q R => ∃ (M T : List Int) (s i : Nat), ds = [lI M, lI T, .str (sn s), .int i] ∧ M.length ≤ 1000 ∧ T.length ≤ 1000 ∧ (s = 0 ∨ s = 1) ∧ i < (hd M T s).length ∧ Q (lN (arnd M T s i false))
theorem ok_up (F : F_q_up K f fd) (Y : Fre mg) (k1 : Kn P w K mg base "_law_order" 2 wpOrder) : FnOk P w K mg base (L2N.CX P w) 3 f fd p_q_up (spD K wpUp) := by
  refine fn_ok F s_q_up (fun ds Q R h => ?_) fun X E hX O hp tk ds Q R h => ?_
  · obtain ⟨_, _, _, _, rfl, _⟩ := h; rfl
  · obtain ⟨M, T, s, i, rfl, hM, hT, hs, hi, q⟩ := h
    obtain ⟨cdv, A, outer, sh, H, rfl⟩ := hX
    have hlen := ord_len M T
    have hpl := plc_at hs hi
    have hplt := (List.getElem?_eq_some_iff.mp hpl).1
    walk_at "st"
    walk_at "all"
    rw [own_of hs]
    refine st_cons (s_c (α := Cd) (j := 5) [("_law_card", 7)] [7] O (ev_call O k1 (by decide) ?_))
    walk_at "all"
    refine ⟨M, T, rfl, hM, hT, ord M T, dC, fun _ => true, dP, rfl, by omega, fun c hc => ?_, ?_⟩
    · refine tg_name (O.blk _) (evi_nil ⟨rfl, fun _ => ?_⟩)
      walk_at "all"
      refine i_tupN (j := 1) (d := .int c.2.1) (O.blk _) rfl ?_
      walk_at "all"
      refine i_tupN (j := 2) (d := .int c.2.2) (O.blk _) rfl ?_
      walk_at "all"
      rfl
    rw [allL]
    walk_at "st"
    refine ev_bm O PySem.F.plainAttrs_list PySem.F.slot_list_index PySem.F.type_list_index ?_
    walk_at "all"
    refine ⟨.lst _, ?_⟩
    walk_at "all"
    refine m_indexD (n := 2) (m := 1) (j := plc (ord M T) s i) (z := dP (cd M T s i)) O (Lay.lst fun d hd => ?_) (Lay.lst fun d hd => ?_) (by rw [List.getElem?_map, hpl]; rfl) ?_ (fun j y hj hy => ?_) ?_
    · obtain ⟨c, hc, rfl⟩ := List.mem_map.mp hd
      exact lay_dP c
    · rcases List.mem_cons.mp hd with rfl | hd
      · exact Lay.int _
      · rcases List.mem_cons.mp hd with rfl | hd
        · exact Lay.int _
        · cases hd
    · rw [eqv_dP]
      rcases hs with rfl | rfl <;> simp [cd]
    · rw [List.getElem?_map] at hy
      have hjl : j < (ord M T).length := Nat.lt_trans hj hplt
      rw [List.getElem?_eq_getElem hjl] at hy
      cases hy
      rw [eqv_dP]
      exact List.not_of_lt_findIdx hj
    refine st_one (s_ret (ev_of_evn (en_c (α := Cd) [("_law_card", 7)] [7] O ?_)))
    walk_at "all"
    refine ev_slL O ?_
    walk_at "all"
    refine ⟨_, rfl, evo_some ?_⟩
    walk_at "all"
    refine ⟨_, rfl, evo_none ?_⟩
    have e1 : ((plc (ord M T) s i : Nat) : Int) + 1 = ((plc (ord M T) s i + 1 : Nat) : Int) := by omega
    rw [e1, cutD_from]
    refine ev_slL O ?_
    walk_at "all"
    refine ⟨_, rfl, evo_none (evo_some ?_)⟩
    walk_at "all"
    refine ⟨_, rfl, ?_⟩
    rw [cutD_to]
    refine b_cat (by rw [List.length_drop, List.length_take, List.length_map, sizeLine_eq]; omega) ?_
    rw [← List.map_drop, ← List.map_take, ← List.map_append]
    refine ⟨met (ord M T) (plc (ord M T) s i) false, dP, fun c => !decide (c.2.1 = s), fun c => .int c.2.2, rfl, ?_, fun c hc => ?_, ?_⟩
    · show ((ord M T).drop _ ++ (ord M T).take _).length < _
      rw [List.length_append, List.length_drop, List.length_take]; omega
    · refine tg_name (O.blk _) (evi_one ?_)
      walk_at "all"
      refine i_listN (j := 0) (d := .int c.2.1) (O.blk _) rfl ?_
      walk_at "all"
      refine ⟨_, rfl, ⟨?_, fun _ => ?_⟩⟩
      · congr 1
        rw [decide_eq_decide]
        omega
      · walk_at "all"
        exact i_listN (j := 1) (d := .int c.2.2) (O.blk _) rfl rfl
    · have e : List.map (fun c : Cd => D.int c.2.2) (List.filter (fun c : Cd => !decide (c.2.1 = s)) (met (ord M T) (plc (ord M T) s i) false)) = ((arnd M T s i false).map fun (n : Nat) => D.int n) := by
        unfold arnd
        rw [List.map_map]
        rfl
      rw [e]
      exact q
def wpLLevels : WPr := fun ds Q R => ∃ (M T : List Int), ds = [lI M, lI T] ∧ M.length = T.length ∧ M.length ≤ 1000 ∧ Q (.lst [lI (lvls M T 0), lI (lvls M T 1)])
def wpBest : WPr := fun ds Q R => ∃ (M T : List Int) (s : Nat) (many : Str), ds = [lI M, lI T, .str (sn s), .str many] ∧ M.length = T.length ∧ M.length ≠ 0 ∧ M.length ≤ 1000 ∧ (s = 0 ∨ s = 1) ∧ (∀ g, goalIs (lvls M T s) (!decide (sn s = many)) g → ∃ a r, spotsOf M T s g = a :: r ∧ Q (.int a))
theorem ok_best (F : F_q_best_lay K f fd) (Y : Fre mg) (k1 : Kn P w K mg base "_law_levels" 3 wpLLevels) (k2 : Kn P w K mg base "_law_order" 2 wpOrder) : FnOk P w K mg base (L2N.CX P w) 4 f fd p_q_best_lay (spD K wpBest) := by
  refine fn_ok F s_q_best_lay (fun ds Q R h => ?_) fun X E hX O hp tk ds Q R h => ?_
  · obtain ⟨_, _, _, _, rfl, _⟩ := h; rfl
  · obtain ⟨M, T, s, many, rfl, hl, h0, hM, hs, hq⟩ := h
    obtain ⟨cdv, A, outer, sh, H, rfl⟩ := hX
    have hlen := ord_len M T
    have hpos : 0 < (lvls M T s).length := by rw [lvls_len]; omega
    walk_at "st"
    walk_at "all"
    rw [own_of hs]
    walk_at "st"
    walk_at "all"
    refine ev_call O k1 (by decide) ?_
    walk_at "all"
    refine ⟨M, T, rfl, hl, hM, ?_⟩
    walk_at "all"
    refine i_listN (j := s) (d := lI (lvls M T s)) O (by rcases hs with rfl | rfl <;> rfl) ?_
    walk_at "st"
    walk_at "all"
    refine ev_callB (id := "max") (hv := bo_max) O Y.max ?_
    walk_at "all"
    refine c_max O hpos fun g1 hg1 hg2 => ?_
    walk_at "all"
    refine ev_callB (id := "min") (hv := bo_min) O Y.min ?_
    walk_at "all"
    refine c_min O hpos fun g0 hg3 hg4 => ?_
    walk_at "all"
    have eg : ∃ g, goalIs (lvls M T s) (!decide (sn s = many)) g ∧ L2.atI [D.int g1, D.int g0] (if decide (sn s = many) then (1 : Int) else 0) = some (.int g) := by
      by_cases e : sn s = many
      · refine ⟨g0, ⟨hg3, fun y hy => ?_⟩, ?_⟩
        · rw [decide_eq_true e]; exact hg4 y hy
        · rw [decide_eq_true e]; rfl
      · refine ⟨g1, ⟨hg1, fun y hy => ?_⟩, ?_⟩
        · rw [decide_eq_false e]; exact hg2 y hy
        · rw [decide_eq_false e]; rfl
    obtain ⟨g, hg, hat⟩ := eg
    obtain ⟨a, r, ha, q⟩ := hq g hg
    refine i_list O hat ?_
    refine st_one (s_ret ?_)
    walk_at "all"
    refine ev_of_evn (en_c (α := Cd) [("_law_card", 7)] [7] O (ev_call O k2 (by decide) ?_))
    walk_at "all"
    refine ⟨M, T, rfl, hM, by omega, ord M T, dC, fun c => decide (c.2.1 = s) && decide ((lvls M T s).getD c.2.2 0 = g), fun c => .int c.2.2, rfl, by omega, fun c hc => ?_, ?_⟩
    · have hm := cd_of hc
      have hcs := ord_side hc
      have hix : c.2.2 < M.length := by
        have := hm.2
        rcases hcs with h | h <;> rw [h] at this <;> simp [hd] at this <;> omega
      refine tg_name (O.blk _) (evi_one (evt_w (evw_and ?_)))
      walk_at "all"
      refine i_tupN (j := 1) (d := .int c.2.1) (O.blk _) rfl ?_
      walk_at "all"
      refine ⟨_, rfl, fun t1 => evw_and1 ?_, fun t1 => ⟨?_, fun z => nomatch z⟩⟩
      · have e1 : c.2.1 = s := by have := of_decide_eq_true t1; omega
        walk_at "all"
        refine i_tupN (j := 2) (d := .int c.2.2) (O.blk _) rfl ?_
        refine i_listN (O.blk _) (iget (by rw [lvls_len]; exact hix)) ?_
        walk_at "all"
        refine ⟨_, rfl, ⟨?_, fun _ => ?_⟩⟩
        · show _ = (decide (c.2.1 = s) && _)
          rw [decide_eq_true e1]; rfl
        · walk_at "all"
          exact i_tupN (j := 2) (d := .int c.2.2) (O.blk _) rfl rfl
      · have e1 : c.2.1 ≠ s := fun z => of_decide_eq_false t1 (by omega)
        show false = (decide (c.2.1 = s) && _)
        rw [decide_eq_false e1]; rfl
    · have e : List.map (fun c : Cd => D.int c.2.2) (List.filter (fun c : Cd => decide (c.2.1 = s) && decide ((lvls M T s).getD c.2.2 0 = g)) (ord M T)) = ((spotsOf M T s g).map fun (n : Nat) => D.int n) := by
        unfold spotsOf
        rw [List.map_map]
        rfl
      rw [e, ha]
      walk_at "all"
      refine i_listN (j := 0) O rfl ?_
      exact q
end
end CL
namespace CL
open PySem PySem.Spec PyProof.Rows L2 DL
section
variable {P : Program} {w : World} {K : PySem.W.Frag} {mg : Str → Option Value} {base : Heap} {f : Addr} {fd : FuncData}
def wpFoe : WPr := fun ds Q R => ∃ (M T : List Int) (s : Nat) (wish : Str) (laid : D) (a b : Int), ds = [.lst [lI M, lI T], .str (sn s), .str wish, laid, .lst [.int a, .int b]] ∧ M.length = T.length ∧ M.length ≠ 0 ∧ M.length ≤ 1000 ∧ (s = 0 ∨ s = 1) ∧ (laid = .non ∨ ∃ i : Nat, laid = .int i ∧ i < M.length) ∧ ∀ j : Nat, j < M.length → Q (.int j)
theorem ok_foe (F : F_q_foe K f fd) (Y : Fre mg) (k1 : Kn P w K mg base "_law_order" 2 wpOrder) (k2 : Kn P w K mg base "_law_best_lay" 4 wpBest) (k3 : Kn P w K mg base "_law_up" 3 wpUp) : FnOk P w K mg base (L2N.CX P w) 5 f fd p_q_foe (spD K wpFoe) := by
  refine fn_ok F s_q_foe (fun ds Q R h => ?_) fun X E hX O hp tk ds Q R h => ?_
  · obtain ⟨_, _, _, _, _, _, _, rfl, _⟩ := h; rfl
  · obtain ⟨M, T, s, wish, laid, a, b, rfl, hl, h0, hM, hs, hlaid, q⟩ := h
    obtain ⟨cdv, A, outer, sh, H, rfl⟩ := hX
    have hlen := ord_len M T
    have hh : ∀ t, t = 0 ∨ t = 1 → (hd M T t).length = M.length := fun t ht => by rcases ht with rfl | rfl <;> simp [hd, hl]
    have hside : (sideIx (ord M T) s).length = M.length := by rw [side_len hs, hh s hs]
    have hel : ∀ j, j < M.length → (sideIx (ord M T) s).getD j 0 < M.length := fun j hj => by
      have : (sideIx (ord M T) s).getD j 0 ∈ sideIx (ord M T) s := by
        rw [List.getD_eq_getElem?_getD, List.getElem?_eq_getElem (by rw [hside]; exact hj)]
        exact List.getElem_mem _
      have := side_mem this
      rwa [hh s hs] at this
    refine st_cons (s_c (α := Cd) (j := 5) [("_law_card", 8)] [8] O (ev_call O k1 (by decide) ?_))
    walk_at "all"
    refine i_listN (j := 0) O rfl ?_
    walk_at "all"
    refine i_listN (j := 1) O rfl ?_
    walk_at "all"
    refine ⟨M, T, rfl, hM, by omega, ord M T, dC, fun c => decide (c.2.1 = s), fun c => .int c.2.2, rfl, by omega, fun c hc => ?_, ?_⟩
    · refine tg_name (O.blk _) (evi_one ?_)
      walk_at "all"
      refine i_tupN (j := 1) (d := .int c.2.1) (O.blk _) rfl ?_
      refine ev_int1 (O.blk _) Y.int ?_
      walk_at "all"
      rw [own_of hs]
      walk_at "all"
      refine ⟨_, rfl, ⟨?_, fun _ => ?_⟩⟩
      · rw [decide_eq_decide]; omega
      · walk_at "all"
        exact i_tupN (j := 2) (d := .int c.2.2) (O.blk _) rfl rfl
    have e : List.map (fun c : Cd => D.int c.2.2) (List.filter (fun c : Cd => decide (c.2.1 = s)) (ord M T)) = ((sideIx (ord M T) s).map fun (n : Nat) => D.int n) := by
      unfold sideIx
      rw [List.map_map]
      rfl
    rw [e]
    walk_at "st"
    walk_at "all"
    refine i_listN (j := 0) O rfl ?_
    have rest : ∀ mode : Int, ∀ z : Rho, z = [.va (.lst [lI M, lI T]), .va (.str (sn s)), .va (.str wish), .va laid, .va (.lst [.int a, .int b]), .va (.lst ((sideIx (ord M T) s).map fun (n : Nat) => D.int n)), .va (.int mode), .no, .no] →
        stm (body1 P w K mg base n_q_foe "_law_foe" c_q_foe f cdv A outer sh H E) K E (match defBody (tp 60) with | _ :: _ :: _ :: l => l | _ => []) z { nx := fun _ => Q .non, rt := Q } R := fun mode z hz => by
      subst hz
      refine st_cons (s_ifv (decide (mode = 0)) ?_ (fun t => ?_) fun t => ?_)
      · walk_at "all"
        exact ⟨_, rfl, rfl⟩
      · walk_at "st"
        walk_at "all"
        refine i_listN (j := 1) O rfl ?_
        walk_at "all"
        rw [List.length_map, hside]
        refine b_mod (by omega) ?_
        have h1 : 0 ≤ b % (M.length : Int) := Int.emod_nonneg _ (by omega)
        have h2 : b % (M.length : Int) < M.length := Int.emod_lt_of_pos _ (by omega)
        have := q (b % (M.length : Int)).toNat (by omega)
        rwa [Int.toNat_of_nonneg h1] at this
      refine st_nil (st_cons (s_ifv (decide (mode = 2)) ?_ (fun t => ?_) fun t => ?_))
      · walk_at "all"
        exact ⟨_, rfl, rfl⟩
      · walk_at "st"
        walk_at "all"
        refine i_listN (j := 0) O (nget (by rw [hside]; omega)) ?_
        exact q _ (hel _ (by omega))
      refine st_nil (st_cons (s_ifv (decide (mode = 3)) ?_ (fun t => ?_) fun t => ?_))
      · walk_at "all"
        exact ⟨_, rfl, rfl⟩
      · walk_at "st"
        walk_at "all"
        rw [List.length_map, hside]
        have e1 : (M.length : Int) - 1 = ((M.length - 1 : Nat) : Int) := by omega
        rw [e1]
        refine i_listN (j := M.length - 1) O (nget (by rw [hside]; omega)) ?_
        exact q _ (hel _ (by omega))
      refine st_nil (st_cons (s_ifv laid.isN ?_ (fun t => ?_) fun t => ?_))
      · walk_at "all"
        exact ⟨_, rfl, rfl⟩
      · walk_at "st"
        refine ev_call O k2 (by decide) ?_
        walk_at "all"
        refine i_listN (j := 0) O rfl ?_
        walk_at "all"
        refine i_listN (j := 1) O rfl ?_
        walk_at "all"
        refine ⟨M, T, s, wish, rfl, hl, h0, hM, hs, fun g hg => ?_⟩
        obtain ⟨a', r, h1, h2⟩ := spots_ne hl hs hg
        exact ⟨a', r, h1, q a' h2⟩
      · obtain ⟨i, rfl, hi⟩ : ∃ i : Nat, laid = .int i ∧ i < M.length := by
          rcases hlaid with rfl | h
          · cases t
          · exact h
        have hs' : 1 - s = 0 ∨ 1 - s = 1 := by omega
        have h11 : 1 - (1 - s) = s := by omega
        have hmem : ∀ j, j ∈ arnd M T (1 - s) i false ↔ j < M.length := fun j => by
          rw [arnd_mem hs' (by rw [hh _ hs']; exact hi), h11, hh s hs]
        have hne : (arnd M T (1 - s) i false).length ≠ 0 := fun z => by
          have := (hmem 0).mpr (by omega)
          rw [List.eq_nil_of_length_eq_zero z] at this
          cases this
        have hget : ∀ j, j < (arnd M T (1 - s) i false).length → (arnd M T (1 - s) i false).getD j 0 < M.length := fun j hj => by
          refine (hmem _).mp ?_
          rw [List.getD_eq_getElem?_getD, List.getElem?_eq_getElem hj]
          exact List.getElem_mem _
        refine st_nil (st_cons (s_st (j := 7) O (ev_call O k3 (by decide) ?_)))
        walk_at "all"
        refine i_listN (j := 0) O rfl ?_
        walk_at "all"
        refine i_listN (j := 1) O rfl ?_
        walk_at "all"
        rw [own_of hs]
        refine i_listN (j := s) (d := .str (sn (1 - s))) O (by rcases hs with rfl | rfl <;> rfl) ?_
        walk_at "all"
        refine ⟨M, T, 1 - s, i, rfl, hM, by omega, hs', by rw [hh _ hs']; exact hi, ?_⟩
        walk_at "st"
        walk_at "all"
        rw [List.length_map]
        have e1 : ((arnd M T (1 - s) i false).length : Int) - 1 = (((arnd M T (1 - s) i false).length - 1 : Nat) : Int) := by omega
        rw [e1]
        refine i_listN (j := (arnd M T (1 - s) i false).length - 1) O (nget (by omega)) ?_
        walk_at "all"
        refine i_listN (j := 0) O (nget (by omega)) ?_
        walk_at "all"
        by_cases ew : wish = "mine"
        · rw [decide_eq_true ew]
          refine i_listN (j := 1) O rfl ?_
          exact q _ (hget _ (by omega))
        · rw [decide_eq_false ew]
          refine i_listN (j := 0) O rfl ?_
          exact q _ (hget _ (by omega))
    refine st_cons (s_ifv (decide (3 < a)) ?_ (fun t => ?_) fun t => ?_)
    · walk_at "all"
      exact ⟨_, rfl, rfl⟩
    · refine st_cons (s_st (j := 6) O ?_)
      walk_at "all"
      refine i_listN (j := 1) O rfl ?_
      walk_at "all"
      refine b_div ⟨by decide, by decide⟩ ?_
      walk_at "all"
      refine b_mod (by decide) ?_
      exact st_nil (rest _ _ rfl)
    · exact st_nil (rest _ _ rfl)
end
end CL
namespace CL
open PySem PySem.Spec PyProof.Rows L2 DL
/-- hand[i] for i in the indexes -/
def pick (hand : List Int) (is : List Nat) : List Int := is.map fun i => hand.getD i 0
theorem pick_len (hand : List Int) (is : List Nat) : (pick hand is).length = is.length := by simp [pick]
structure GOk (g : GS) : Prop where
  m : ∀ i ∈ g.ml, i < g.mine.length
  t : ∀ i ∈ g.tl, i < g.theirs.length
  nm : g.ml.Nodup
  nt : g.tl.Nodup
  l1 : g.ml.length ≤ 900
  eq : g.ml.length = g.tl.length
def lf (g : GS) (s : Nat) : List Nat := if s = 1 then g.ml else g.tl
def gM (g : GS) : List Int := pick g.mine g.ml
def gT (g : GS) : List Int := pick g.theirs g.tl
theorem sn_mine {s : Nat} (hs : s = 0 ∨ s = 1) : decide (sn s = ("mine" : Str)) = decide (s = 1) := by
  rw [decide_eq_decide]
  exact sn_inj (t := 1) hs (.inr rfl)
section
variable {P : Program} {w : World} {K : PySem.W.Frag} {mg : Str → Option Value} {base : Heap} {f : Addr} {fd : FuncData}
def wpWins : WPr := fun ds Q R => ∃ a b : Int, ds = [.int a, .int b] ∧ Q (.bl (decide (b ≤ a)))
theorem ok_wins (F : F_wins K f fd) : FnOk P w K mg base (L2N.CX P w) 2 f fd p_wins (spD K wpWins) := by
  refine fn_ok F s_wins (fun ds Q R h => ?_) fun X E hX O hp tk ds Q R h => ?_
  · obtain ⟨a, b, rfl, _⟩ := h; rfl
  · obtain ⟨a, b, rfl, q⟩ := h
    obtain ⟨cdv, A, outer, s, H, rfl⟩ := hX
    walk_at "st"
    walk_at "all"
    exact q
def wpChosen : WPr := fun ds Q R => ∃ (hand : List Int) (is : List Nat), ds = [lI hand, lN is] ∧ (∀ i ∈ is, i < hand.length) ∧ is.length < 1000 ∧ Q (lI (pick hand is))
theorem ok_chosen (F : F_chosen K f fd) : FnOk P w K mg base (L2N.CX P w) 2 f fd p_chosen (spD K wpChosen) := by
  refine fn_ok F s_chosen (fun ds Q R h => ?_) fun X E hX O hp tk ds Q R h => ?_
  · obtain ⟨a, b, rfl, _⟩ := h; rfl
  · obtain ⟨hand, is, rfl, hi, hl, q⟩ := h
    obtain ⟨cdv, A, outer, s, H, rfl⟩ := hX
    refine st_one (s_ret (ev_of_evn (en_c (α := Nat) [("index", 2)] [2] O ?_)))
    walk_at "all"
    refine ⟨is, fun (n : Nat) => .int n, fun _ => true, fun i => .int (hand.getD i 0), rfl, by omega, fun i h1 => ?_, ?_⟩
    · refine tg_name (O.blk _) (evi_nil ⟨rfl, fun _ => ?_⟩)
      walk_at "all"
      exact i_listN (O.blk _) (iget (hi i h1)) rfl
    · rw [allL]
      have e : (is.map fun i => D.int (hand.getD i 0)) = (pick hand is).map .int := by
        unfold pick
        rw [List.map_map]
        rfl
      rw [e]
      exact q
def wpNumbers : WPr := fun ds Q R => ∃ g : GS, ds = [.oh g] ∧ GOk g ∧ Q (.tup [lI (gM g), lI (gT g)])
theorem ok_numbers (F : F_m_OpenHands_numbers K f fd) (T : ObK K) (k1 : Kn P w K mg base "chosen" 2 wpChosen) : FnOk P w K mg base (L2N.CX P w) 3 f fd p_m_OpenHands_numbers (spD K wpNumbers) := by
  refine fn_ok F s_m_OpenHands_numbers (fun ds Q R h => ?_) fun X E hX O hp tk ds Q R h => ?_
  · obtain ⟨_, rfl, _⟩ := h; rfl
  · obtain ⟨g, rfl, ok, q⟩ := h
    obtain ⟨cdv, A, outer, s, H, rfl⟩ := hX
    walk_at "st"
    refine ev_tup (evs_cons (ev_call O k1 (by decide) (evs_cons (ev_fld O T ?_))))
    walk_at "all"
    refine ⟨_, .mine g, evs_cons (ev_fld O T ?_)⟩
    walk_at "all"
    refine ⟨_, .ml g, evs_nil ⟨_, _, rfl, ok.m, by have := ok.l1; omega, evs_cons (ev_call O k1 (by decide) (evs_cons (ev_fld O T ?_)))⟩⟩
    walk_at "all"
    refine ⟨_, .theirs g, evs_cons (ev_fld O T ?_)⟩
    walk_at "all"
    refine ⟨_, .tl g, evs_nil ⟨_, _, rfl, ok.t, by have := ok.l1; have := ok.eq; omega, evs_nil ⟨by simp, q⟩⟩⟩
def wpIndexes : WPr := fun ds Q R => ∃ (g : GS) (s : Nat), ds = [.oh g, .str (sn s)] ∧ (s = 0 ∨ s = 1) ∧ Q (lN (lf g s))
theorem ok_indexes (F : F_m_OpenHands_indexes K f fd) (Y : Fre mg) (T : ObK K) : FnOk P w K mg base (L2N.CX P w) 2 f fd p_m_OpenHands_indexes (spD K wpIndexes) := by
  refine fn_ok F s_m_OpenHands_indexes (fun ds Q R h => ?_) fun X E hX O hp tk ds Q R h => ?_
  · obtain ⟨_, _, rfl, _⟩ := h; rfl
  · obtain ⟨g, s, rfl, hs, q⟩ := h
    obtain ⟨cdv, A, outer, sh, H, rfl⟩ := hX
    refine st_cons (s_ifv (decide (s = 1)) ?_ (fun t => ?_) fun t => ?_)
    · walk_at "all"
      exact ⟨_, rfl, sn_mine hs⟩
    · refine st_one (s_ret (ev_of_evn (evn_callT (id := "list") (hv := bo_list) O Y.list (evs_cons (ev_fld O T ?_)))))
      walk_at "all"
      refine ⟨_, .ml g, evs_nil (c_list O ?_)⟩
      rw [lf, if_pos (of_decide_eq_true t)] at q
      exact q
    · refine st_nil (st_one (s_ret (ev_of_evn (evn_callT (id := "list") (hv := bo_list) O Y.list (evs_cons (ev_fld O T ?_))))))
      walk_at "all"
      refine ⟨_, .tl g, evs_nil (c_list O ?_)⟩
      rw [lf, if_neg (of_decide_eq_false t)] at q
      exact q
def castL (ns : List Nat) : List Int := ns.map fun (n : Nat) => (n : Int)
theorem mem_castL {ns : List Nat} {n : Nat} : (n : Int) ∈ castL ns ↔ n ∈ ns := by
  unfold castL
  rw [List.mem_map]
  constructor
  · rintro ⟨m, h, e⟩
    have : m = n := by omega
    rwa [← this]
  · exact fun h => ⟨n, h, rfl⟩
theorem lN_cast (ns : List Nat) : lN ns = lI (castL ns) := lN_eq ns
def wpSpot : WPr := fun ds Q R => ∃ (g : GS) (s : Nat) (i : Int), ds = [.oh g, .str (sn s), .int i] ∧ (s = 0 ∨ s = 1) ∧ (lf g s).Nodup ∧ (i ∉ castL (lf g s) → R (eCard (sn s) i)) ∧ (∀ p n : Nat, i = n → (lf g s)[p]? = some n → Q (.int p))
theorem ok_spot (F : F_m_OpenHands_spot K f fd) (Y : Fre mg) (Z : Xs P K mg) (T : ObK K) (k1 : MeK P w K mg base (CO K) "indexes" 2 wpIndexes) : FnOk P w K mg base (L2N.CX P w) 3 f fd p_m_OpenHands_spot (spD K wpSpot) := by
  refine fn_ok F s_m_OpenHands_spot (fun ds Q R h => ?_) fun X E hX O hp tk ds Q R h => ?_
  · obtain ⟨_, _, _, rfl, _⟩ := h; rfl
  · obtain ⟨g, s, i, rfl, hs, nd, q1, q2⟩ := h
    obtain ⟨cdv, A, outer, sh, H, rfl⟩ := hX
    refine st_cons (s_st (j := 3) O (ev_meth (fl := flO) O k1 (by decide) ?_ (by decide +kernel)))
    walk_at "all"
    refine ⟨.oh g, ?_⟩
    walk_at "all"
    refine ⟨g, s, rfl, hs, ?_⟩
    rw [lN_cast]
    refine st_cons (s_ifv (!decide (i ∈ castL (lf g s))) ?_ (fun t => ?_) fun t => ?_)
    · walk_at "all"
      exact ⟨o_notIn O ⟨_, rfl, rfl⟩⟩
    · refine st_one (s_raise O tk Z.bc Z.gbc (by decide) ?_)
      walk_at "all"
      exact ⟨_, .cons (.str _) (.cons (.int _) .nil), rfl, q1 (by simpa using t)⟩
    · have hin : i ∈ castL (lf g s) := by simpa using t
      obtain ⟨n, hn, rfl⟩ := List.mem_map.mp hin
      obtain ⟨p, hp', e⟩ := List.mem_iff_getElem.mp hn
      have hpe : (lf g s)[p]? = some n := by rw [List.getElem?_eq_getElem hp', e]
      refine st_nil ?_
      walk_at "st"
      refine ev_bm O PySem.F.plainAttrs_list PySem.F.slot_list_index PySem.F.type_list_index ?_
      walk_at "all"
      refine ⟨.lst _, ?_⟩
      walk_at "all"
      refine m_indexI (j := p) O (by unfold castL; rw [List.getElem?_map, hpe]; rfl) (fun m z hm hz hzi => ?_) (q2 p n rfl hpe)
      unfold castL at hz
      rw [List.getElem?_map] at hz
      cases e2 : (lf g s)[m]? with
      | none => rw [e2] at hz; cases hz
      | some z' =>
        rw [e2] at hz
        have h1 := Option.some.inj hz
        have h3 : z' = n := by
          have h1' : (z' : Int) = z := h1
          rw [hzi] at h1'
          omega
        subst h3
        obtain ⟨h4, h5⟩ := List.getElem?_eq_some_iff.mp e2
        have := (List.getElem_inj nd).mp (h5.trans e.symm)
        omega
theorem lf_len {g : GS} (ok : GOk g) (s : Nat) : (lf g s).length = g.ml.length := by
  unfold lf
  split
  · rfl
  · exact ok.eq.symm
theorem gM_len (g : GS) : (gM g).length = g.ml.length := pick_len _ _
theorem gT_len {g : GS} (ok : GOk g) : (gT g).length = g.ml.length := by unfold gT; rw [pick_len]; exact ok.eq.symm
def wpLay : WPr := fun ds Q R => ∃ (g : GS) (s : Nat), ds = [.gd g] ∧ GOk g ∧ (s = 0 ∨ s = 1) ∧ g.side = sn s ∧ (g.ml.length = 0 → R eTurn) ∧ (g.ml.length ≠ 0 → ∀ a, LayIs (gM g) (gT g) s (!decide (sn s = g.many)) a → Q (.int ((lf g s).getD a 0 : Nat)))
theorem ok_lay (F : F_m_Guide_lay K f fd) (T : ObK K) (k1 : MeK P w K mg base (CO K) "numbers" 3 wpNumbers) (k2 : MeK P w K mg base (CO K) "indexes" 2 wpIndexes) (k3 : Kn P w K mg base "plan_lay" 5 wpPlanLay) : FnOk P w K mg base (L2N.CX P w) 6 f fd p_m_Guide_lay (spD K wpLay) := by
  refine fn_ok F s_m_Guide_lay (fun ds Q R h => ?_) fun X E hX O hp tk ds Q R h => ?_
  · obtain ⟨_, _, rfl, _⟩ := h; rfl
  · obtain ⟨g, s, rfl, ok, hs, hsd, q1, q2⟩ := h
    obtain ⟨cdv, A, outer, sh, H, rfl⟩ := hX
    have hl : (gM g).length = (gT g).length := by rw [gM_len, gT_len ok]
    have hh : (hd (gM g) (gT g) s).length = g.ml.length := by rcases hs with rfl | rfl <;> simp [hd, gM_len, gT_len ok]
    have l1 := ok.l1
    refine st_cons (s_asg (js := [1] ++ [2]) (ev_meth0 (fl := flO) O k1 (by decide) (ev_fld O T ?_) (by decide +kernel)))
    walk_at "all"
    refine ⟨_, .hands g, .oh g, g, rfl, ok, tg_tup2 O (tg_name O (tg_name O ?_))⟩
    refine st_cons (s_st (j := 3) O (ev_call O k3 (by decide) ?_))
    walk_at "all"
    refine ev_fld O T ?_
    walk_at "all"
    refine ⟨_, .side g, evs_cons (ev_fld O T ?_)⟩
    walk_at "all"
    refine ⟨_, .many g, evs_nil ⟨gM g, gT g, s, g.many, by rw [hsd], hl, by rw [gM_len]; omega, hs, fun h => q1 (by rwa [gM_len] at h), fun h g0 hg => ?_⟩⟩
    rw [gM_len] at h
    obtain ⟨a, r, ha, hlt⟩ := spots_ne hl hs hg
    rw [gM_len] at hlt
    refine ⟨a, r, ha, ?_⟩
    refine st_one (s_ret (ev_sub (ev_meth (fl := flO) O k2 (by decide) (ev_fld O T ?_) (by decide +kernel))))
    walk_at "all"
    refine ⟨_, .hands g, .oh g, evs_cons (ev_fld O T ?_)⟩
    walk_at "all"
    refine ⟨_, .side g, evs_nil ⟨g, s, by rw [hsd], hs, ?_⟩⟩
    walk_at "all"
    refine i_listN O (nget (by rw [lf_len ok]; exact hlt)) ?_
    exact q2 h a ⟨g0, r, hg, ha⟩
def wpAnswer : WPr := fun ds Q R => ∃ (g : GS) (s m : Nat) (i : Int), ds = [.gd g, .int i] ∧ GOk g ∧ (s = 0 ∨ s = 1) ∧ (m = 0 ∨ m = 1) ∧ g.side = sn s ∧ g.many = sn m ∧ (i ∉ castL (lf g (1 - s)) → R (eCard (sn (1 - s)) i)) ∧
  (∀ p n : Nat, i = n → (lf g (1 - s))[p]? = some n → ∀ a r, arnd (gM g) (gT g) (1 - s) p (decide (m = 0)) = a :: r → Q (.int ((lf g s).getD a 0 : Nat)))
theorem ok_answer (F : F_m_Guide_answer K f fd) (T : ObK K) (k0 : Kn P w K mg base "other_side" 2 wpOther) (k4 : MeK P w K mg base (CO K) "spot" 3 wpSpot) (k1 : MeK P w K mg base (CO K) "numbers" 3 wpNumbers) (k2 : MeK P w K mg base (CO K) "indexes" 2 wpIndexes) (k3 : Kn P w K mg base "plan_answer" 5 wpPlanAnswer) :
    FnOk P w K mg base (L2N.CX P w) 6 f fd p_m_Guide_answer (spD K wpAnswer) := by
  refine fn_ok F s_m_Guide_answer (fun ds Q R h => ?_) fun X E hX O hp tk ds Q R h => ?_
  · obtain ⟨_, _, _, _, rfl, _⟩ := h; rfl
  · obtain ⟨g, s, m, i, rfl, ok, hs, hm, hsd, hmn, q1, q2⟩ := h
    obtain ⟨cdv, A, outer, sh, H, rfl⟩ := hX
    have hs' : 1 - s = 0 ∨ 1 - s = 1 := by omega
    have h11 : 1 - (1 - s) = s := by omega
    have hh : ∀ t, t = 0 ∨ t = 1 → (hd (gM g) (gT g) t).length = g.ml.length := fun t ht => by rcases ht with rfl | rfl <;> simp [hd, gM_len, gT_len ok]
    have l1 := ok.l1
    have eo : other g.side = sn (1 - s) := by rw [hsd]; rcases hs with rfl | rfl <;> decide +kernel
    refine st_cons (s_st (j := 2) O (ev_meth (fl := flO) O k4 (by decide) (ev_fld O T ?_) (by decide +kernel)))
    walk_at "all"
    refine ⟨_, .hands g, .oh g, evs_cons (ev_call O k0 (by decide) (evs_cons (ev_fld O T ?_)))⟩
    walk_at "all"
    refine ⟨_, .side g, evs_nil ⟨_, rfl, ?_⟩⟩
    rw [eo]
    walk_at "all"
    refine ⟨g, 1 - s, i, rfl, hs', ?_, q1, fun p n hi hp' => ?_⟩
    · unfold lf
      split
      · exact ok.nm
      · exact ok.nt
    have hplt : p < g.ml.length := by have := (List.getElem?_eq_some_iff.mp hp').1; rwa [lf_len ok] at this
    refine st_cons (s_asg (js := [3] ++ [4]) (ev_meth0 (fl := flO) O k1 (by decide) (ev_fld O T ?_) (by decide +kernel)))
    walk_at "all"
    refine ⟨_, .hands g, .oh g, g, rfl, ok, tg_tup2 O (tg_name O (tg_name O ?_))⟩
    refine st_cons (s_st (j := 5) O (ev_call O k3 (by decide) ?_))
    walk_at "all"
    refine ev_fld O T ?_
    walk_at "all"
    refine ⟨_, .side g, ?_⟩
    walk_at "all"
    refine ev_fld O T ?_
    walk_at "all"
    have hpl : p < (hd (gM g) (gT g) (1 - s)).length := by rw [hh _ hs']; exact hplt
    have hmem := fun j => arnd_mem (M := gM g) (T := gT g) (j := j) (down := decide (m = 0)) hs' hpl
    obtain ⟨a, r, har⟩ : ∃ a r, arnd (gM g) (gT g) (1 - s) p (decide (m = 0)) = a :: r := by
      cases e : arnd (gM g) (gT g) (1 - s) p (decide (m = 0)) with
      | nil =>
        have := (hmem 0).mpr (by rw [h11, hh s hs]; omega)
        rw [e] at this; cases this
      | cons a r => exact ⟨a, r, rfl⟩
    have halt : a < g.ml.length := by
      have := (hmem a).mp (by rw [har]; exact List.mem_cons_self)
      rwa [h11, hh s hs] at this
    refine ⟨_, .many g, evs_nil ⟨gM g, gT g, 1 - s, m, p, a, r, by rw [hsd, hmn, h11], by rw [gM_len]; omega, by rw [gT_len ok]; omega, hs', hm, hpl, har, ?_⟩⟩
    refine st_one (s_ret (ev_sub (ev_meth (fl := flO) O k2 (by decide) (ev_fld O T ?_) (by decide +kernel))))
    walk_at "all"
    refine ⟨_, .hands g, .oh g, evs_cons (ev_fld O T ?_)⟩
    walk_at "all"
    refine ⟨_, .side g, evs_nil ⟨g, s, by rw [hsd], hs, ?_⟩⟩
    walk_at "all"
    refine i_listN O (nget (by rw [lf_len ok]; exact halt)) ?_
    exact q2 p n hi hp' a r har
def wpPromise : WPr := fun ds Q R => ∃ (g : GS) (l : List Nat), ds = [.gd g, .str (tx l)] ∧ GOk g ∧ l.length ≤ 1000 ∧ (∀ p, wordErr l g.ml.length = some p → R (eWord p)) ∧ (wordErr l g.ml.length = none → Q (.int (g.won + valueV (rowP (gM g) (gT g)) l g.many)))
theorem ok_promise (F : F_m_Guide_promise K f fd) (T : ObK K) (k1 : MeK P w K mg base (CO K) "numbers" 3 wpNumbers) (k3 : KnK P w K mg base "value_of" 6 3 "many" wpValueOf) : FnOk P w K mg base (L2N.CX P w) 7 f fd p_m_Guide_promise (spD K wpPromise) := by
  refine fn_ok F s_m_Guide_promise (fun ds Q R h => ?_) fun X E hX O hp tk ds Q R h => ?_
  · obtain ⟨_, _, rfl, _⟩ := h; rfl
  · obtain ⟨g, l, rfl, ok, hw, q1, q2⟩ := h
    obtain ⟨cdv, A, outer, sh, H, rfl⟩ := hX
    have l1 := ok.l1
    refine st_cons (s_asg (js := [2] ++ [3]) (ev_meth0 (fl := flO) O k1 (by decide) (ev_fld O T ?_) (by decide +kernel)))
    walk_at "all"
    refine ⟨_, .hands g, .oh g, g, rfl, ok, tg_tup2 O (tg_name O (tg_name O ?_))⟩
    refine st_one (s_ret (ec_bin (ev_fld O T ?_)))
    walk_at "all"
    refine ⟨_, .won g, ev_callK O k3 (by decide) ?_⟩
    walk_at "all"
    refine ev_fld O T ?_
    walk_at "all"
    refine ⟨_, .many g, rfl, gM g, gT g, l, g.many, rfl, by rw [gM_len, gT_len ok], by rw [gM_len]; omega, hw, ?_⟩
    rw [gM_len]
    exact ⟨q1, fun hn => b_add (q2 hn)⟩
end
end CL
namespace CL
open PySem PySem.Spec PyProof.Rows L2 DL
section
variable {P : Program} {w : World} {K : PySem.W.Frag} {mg : Str → Option Value} {base : Heap} {f : Addr} {fd : FuncData}
/-- a comprehension that picks -/
theorem pickD (hand : List Int) (is : List Nat) : (is.map fun i => D.int (hand.getD i 0)) = (pick hand is).map .int := by
  unfold pick
  rw [List.map_map]
  rfl
def wpRowLeft : WPr := fun ds Q R => ∃ (A B : List Int) (ml tl : List Nat), ds = [.tup [lI A, lI B], .lst [lN ml, lN tl]] ∧ (∀ i ∈ ml, i < A.length) ∧ (∀ i ∈ tl, i < B.length) ∧ ml.length ≤ 900 ∧ tl.length ≤ 900 ∧ Q (lI (rowL (pick A ml) (pick B tl)))
theorem ok_row_left (F : F_q_row_left K f fd) (k1 : Kn P w K mg base "_law_row" 3 wpLRow) : FnOk P w K mg base (L2N.CX P w) 4 f fd p_q_row_left (spD K wpRowLeft) := by
  refine fn_ok F s_q_row_left (fun ds Q R h => ?_) fun X E hX O hp tk ds Q R h => ?_
  · obtain ⟨_, _, _, _, rfl, _⟩ := h; rfl
  · obtain ⟨A, B, ml, tl, rfl, hA, hB, l1, l2, q⟩ := h
    obtain ⟨cdv, A', outer, sh, H, rfl⟩ := hX
    refine st_one (s_ret (ev_call O k1 (by decide) (evs_cons (ev_of_evn (en_c (α := Nat) [("_law_k", 2)] [2] O ?_)))))
    walk_at "all"
    refine i_listN (j := 0) O rfl ?_
    refine ⟨ml, fun (n : Nat) => .int n, fun _ => true, fun i => .int (A.getD i 0), rfl, by omega, fun i hi => ?_, ?_⟩
    · refine tg_name (O.blk _) (evi_nil ⟨rfl, fun _ => ?_⟩)
      walk_at "all"
      refine i_tupN (j := 0) (O.blk _) rfl ?_
      walk_at "all"
      exact i_listN (O.blk _) (iget (hA i hi)) rfl
    rw [allL, pickD]
    refine evs_cons (ev_of_evn (en_c (α := Nat) [("_law_k", 2)] [2] O ?_))
    walk_at "all"
    refine i_listN (j := 1) O rfl ?_
    refine ⟨tl, fun (n : Nat) => .int n, fun _ => true, fun i => .int (B.getD i 0), rfl, by omega, fun i hi => ?_, ?_⟩
    · refine tg_name (O.blk _) (evi_nil ⟨rfl, fun _ => ?_⟩)
      walk_at "all"
      refine i_tupN (j := 1) (O.blk _) rfl ?_
      walk_at "all"
      exact i_listN (O.blk _) (iget (hB i hi)) rfl
    rw [allL, pickD]
    refine evs_nil ⟨pick A ml, pick B tl, rfl, by rw [pick_len]; omega, by rw [pick_len]; omega, q⟩
def wpNextLeft : WPr := fun ds Q R => ∃ (ml tl : List Nat) (m t : Nat), ds = [.lst [lN ml, lN tl], .tup [.int m, .int t]] ∧ ml.length ≤ 900 ∧ tl.length ≤ 900 ∧ Q (.lst [lN (ml.filter fun x => !decide (x = m)), lN (tl.filter fun x => !decide (x = t))])
theorem ok_next_left (F : F_q_next_left K f fd) : FnOk P w K mg base (L2N.CX P w) 2 f fd p_q_next_left (spD K wpNextLeft) := by
  refine fn_ok F s_q_next_left (fun ds Q R h => ?_) fun X E hX O hp tk ds Q R h => ?_
  · obtain ⟨_, _, _, _, rfl, _⟩ := h; rfl
  · obtain ⟨ml, tl, m, t, rfl, l1, l2, q⟩ := h
    obtain ⟨cdv, A', outer, sh, H, rfl⟩ := hX
    have key : ∀ n m : Nat, (!decide ((n : Int) = (m : Int))) = !decide (n = m) := fun n m => by
      congr 1
      rw [decide_eq_decide]
      omega
    refine st_one (s_ret (ev_lst (evs_cons (ev_of_evn (en_c (α := Nat) [("_law_x", 2)] [2] O ?_)))))
    walk_at "all"
    refine i_listN (j := 0) O rfl ?_
    refine ⟨ml, fun (n : Nat) => .int n, fun x => !decide (x = m), fun (n : Nat) => .int n, rfl, by omega, fun i hi => ?_, ?_⟩
    · refine tg_name (O.blk _) (evi_one ?_)
      walk_at "all"
      refine i_tupN (j := 0) (O.blk _) rfl ?_
      walk_at "all"
      refine ⟨_, rfl, ⟨key i m, fun _ => ?_⟩⟩
      walk_at "all"
      rfl
    refine evs_cons (ev_of_evn (en_c (α := Nat) [("_law_x", 2)] [2] O ?_))
    walk_at "all"
    refine i_listN (j := 1) O rfl ?_
    refine ⟨tl, fun (n : Nat) => .int n, fun x => !decide (x = t), fun (n : Nat) => .int n, rfl, by omega, fun i hi => ?_, ?_⟩
    · refine tg_name (O.blk _) (evi_one ?_)
      walk_at "all"
      refine i_tupN (j := 1) (O.blk _) rfl ?_
      walk_at "all"
      refine ⟨_, rfl, ⟨key i t, fun _ => ?_⟩⟩
      walk_at "all"
      rfl
    exact evs_nil ⟨by simp, q⟩
def kept (r : List Int) (st : Bool) : List Int := if st then r.drop 1 else (r.take (r.length - 1)).map (· + 1)
theorem kept_len (r : List Int) (st : Bool) : (kept r st).length = r.length - 1 := by
  unfold kept
  cases st <;> simp
def wpKeeps : WPr := fun ds Q R => ∃ (r b : List Int) (h : Int) (st : Bool), ds = [lI r, lI b, .int h, .bl st, .bl false] ∧ r.length ≠ 0 ∧ r.length ≤ 1000 ∧ b.length = r.length - 1 ∧ (∀ k, k < b.length → b.getD k 0 + h ≤ (kept r st).getD k 0) ∧ Q (.bl true)
theorem ok_keeps (F : F_q_keeps K f fd) (Y : Fre mg) : FnOk P w K mg base (L2N.CX P w) 2 f fd p_q_keeps (spD K wpKeeps) := by
  refine fn_ok F s_q_keeps (fun ds Q R h => ?_) fun X E hX O hp tk ds Q R h => ?_
  · obtain ⟨_, _, _, _, rfl, _⟩ := h; rfl
  · obtain ⟨r, b, h, st, rfl, h0, hr, hb, hle, q⟩ := h
    obtain ⟨cdv, A', outer, sh, H, rfl⟩ := hX
    have hkl := kept_len r st
    refine st_cons (s_st (j := 5) O (ev_of_evn (en_c (α := Int) [("_law_x", 7)] [7] O (ev_slL O ?_))))
    walk_at "all"
    refine ⟨_, rfl, evo_none (evo_some ?_)⟩
    walk_at "all"
    rw [List.length_map]
    have e1 : (r.length : Int) - 1 = ((r.length - 1 : Nat) : Int) := by omega
    rw [e1]
    refine ⟨_, rfl, ?_⟩
    rw [cutD_to, ← List.map_take]
    refine ⟨r.take (r.length - 1), .int, fun _ => true, fun x => .int (x + 1), rfl, by rw [List.length_take]; omega, fun x hx => ?_, ?_⟩
    · refine tg_name (O.blk _) (evi_nil ⟨rfl, fun _ => ?_⟩)
      walk_at "all"
      rfl
    rw [allL]
    have e2 : (r.take (r.length - 1)).map (fun x => D.int (x + 1)) = (kept r false).map .int := by
      unfold kept
      rw [if_neg (by decide), List.map_map]
      rfl
    rw [e2]
    have rest : ∀ z : Rho, z = [.va (lI r), .va (lI b), .va (.int h), .va (.bl st), .va (.bl false), .va (lI (kept r st)), .no, .no, .no] →
        stm (body1 P w K mg base n_q_keeps "_law_keeps" c_q_keeps f cdv A' outer sh H E) K E (match defBody (tp 70) with | _ :: _ :: l => l | _ => []) z { nx := fun _ => Q .non, rt := Q } R := fun z hz => by
      subst hz
      refine st_cons (s_r (j := 6) [("_law_k", 8)] [8] O Y.range ?_)
      walk_at "all"
      rw [List.length_map]
      refine ⟨(kept r st).length, fun _ => true, fun k => .int (b.getD k 0 + h - (kept r st).getD k 0), rfl, by omega, fun n hn => ?_, ?_⟩
      · refine tg_name (O.blk _) (evi_nil ⟨rfl, fun _ => ?_⟩)
        walk_at "all"
        refine i_listN (O.blk _) (iget (by omega)) ?_
        walk_at "all"
        refine i_listN (O.blk _) (iget hn) ?_
        walk_at "all"
        rfl
      rw [rangeN]
      refine st_one (s_ret (ev_callB (id := "all") (hv := bo_all) O Y.all (evs_cons (ev_of_evn (en_c (α := Nat) [("_law_x", 7)] [7] O ?_)))))
      walk_at "all"
      refine ⟨List.range (kept r st).length, fun k => .int (b.getD k 0 + h - (kept r st).getD k 0), fun _ => true, fun k => .bl (decide (b.getD k 0 + h - (kept r st).getD k 0 ≤ 0)), rfl, by rw [List.length_range]; omega, fun k hk => ?_, ?_⟩
      · refine tg_name (O.blk _) (evi_nil ⟨rfl, fun _ => ?_⟩)
        walk_at "all"
        refine ev_int1 (O.blk _) Y.int ?_
        walk_at "all"
        refine i_listN (j := 0) (O.blk _) rfl ?_
        rfl
      rw [allL]
      refine evs_nil ?_
      have e3 : ((List.range (kept r st).length).map fun k => D.bl (decide (b.getD k 0 + h - (kept r st).getD k 0 ≤ 0))) = (((List.range (kept r st).length).map fun k => decide (b.getD k 0 + h - (kept r st).getD k 0 ≤ 0))).map .bl := by
        rw [List.map_map]; rfl
      rw [e3]
      refine c_all O ?_
      have e4 : (((List.range (kept r st).length).map fun k => decide (b.getD k 0 + h - (kept r st).getD k 0 ≤ 0))).all id = true := by
        rw [List.all_map, List.all_eq_true]
        intro k hk
        have hk' := List.mem_range.mp hk
        have := hle k (by omega)
        exact decide_eq_true (by omega)
      rw [e4]
      exact q
    refine st_cons (s_ifv st (evt_val ?_) (fun t => ?_) fun t => ?_)
    · walk_at "all"
      exact ⟨_, rfl, rfl⟩
    · refine st_cons (s_st (j := 5) O (ev_slL O ?_))
      walk_at "all"
      refine ⟨_, rfl, evo_some ?_⟩
      walk_at "all"
      refine ⟨_, rfl, evo_none ?_⟩
      have e5 : (1 : Int) = ((1 : Nat) : Int) := rfl
      rw [e5, cutD_from, ← List.map_drop]
      refine st_nil (rest _ ?_)
      unfold kept
      rw [t]
      rfl
    · refine st_nil (rest _ ?_)
      rw [t]
      rfl
def wpShown : WPr := fun ds Q R => ∃ (g : GS), ds = [.gd g, .str g.side, .str g.many, .int g.won] ∧ Q (.bl true)
theorem ok_shown (F : F_q_shown K f fd) (Y : Fre mg) (T : ObK K) (k1 : Kn P w K mg base "_law_is_int" 2 wpIsInt) : FnOk P w K mg base (L2N.CX P w) 3 f fd p_q_shown (spD K wpShown) := by
  refine fn_ok F s_q_shown (fun ds Q R h => ?_) fun X E hX O hp tk ds Q R h => ?_
  · obtain ⟨_, rfl, _⟩ := h; rfl
  · obtain ⟨g, rfl, q⟩ := h
    obtain ⟨cdv, A', outer, sh, H, rfl⟩ := hX
    refine st_cons (s_ifv false (evt_w (evw_or (evt_not (evt_val (ev_isi (T' := "str") O Y.isinstance Y.str (hvT := bo_str) (ev_fld O T ?_)))))) (fun t => nomatch t) fun _ => ?_)
    · walk_at "all"
      refine ⟨_, .side g, _, _, .str _, kit_ss, true, rfl, ⟨fun z => absurd z (by decide), fun _ => ?_⟩⟩
      refine evw_or1 (evt_not (evt_val (ev_isi (T' := "str") O Y.isinstance Y.str (hvT := bo_str) (ev_fld O T ?_))))
      walk_at "all"
      exact ⟨_, .many g, _, _, .str _, kit_ss, true, rfl, rfl⟩
    · refine st_nil (st_one (s_ret (ev_and (ec_cmp (ev_fld O T ?_)))))
      walk_at "all"
      refine ⟨_, .side g, ?_⟩
      walk_at "all"
      refine ⟨true, by rw [decide_eq_true rfl], fun _ => ev_and (ec_cmp (ev_fld O T ?_)), nofun⟩
      walk_at "all"
      refine ⟨_, .many g, ?_⟩
      walk_at "all"
      refine ⟨true, by rw [decide_eq_true rfl], fun _ => ev_and (ev_call O k1 (by decide) (evs_cons (ev_fld O T ?_))), nofun⟩
      walk_at "all"
      refine ⟨_, .won g, evs_nil ⟨_, rfl, true, rfl, fun _ => ev_one (ec_cmp (ev_fld O T ?_)), nofun⟩⟩
      walk_at "all"
      refine ⟨_, .won g, ?_⟩
      walk_at "all"
      rw [decide_eq_true rfl]
      exact q
end
end CL
namespace CL
open PySem PySem.Spec PyProof.Rows L2 DL
theorem okc_none {l : List Nat} {n : Nat} (h : allOk l) (e : l.length = n) : wordErr l n = none := by
  unfold wordErr
  rw [find_none fun m c hc => h c (List.mem_of_getElem? hc)]
  simp only
  rw [if_neg (by omega), if_neg (by omega)]
def lets (n k c : Nat) : List Nat := List.replicate (n - 1 - k) 84 ++ List.replicate k 77 ++ [c]
theorem lets_ok {n k c : Nat} (h : okc c = true) : allOk (lets n k c) := by
  intro x hx
  unfold lets at hx
  rw [List.mem_append, List.mem_append] at hx
  rcases hx with (h1 | h1) | h1
  · rw [(List.mem_replicate.mp h1).2]; rfl
  · rw [(List.mem_replicate.mp h1).2]; rfl
  · rw [List.mem_singleton.mp h1]; exact h
theorem lets_len {n k c : Nat} (h : k < n) : (lets n k c).length = n := by
  unfold lets
  simp
  omega
theorem tx_app (a b : List Nat) : tx a ++ tx b = tx (a ++ b) := by
  show (⟨a.toArray ++ b.toArray⟩ : Str) = ⟨(a ++ b).toArray⟩
  simp
theorem arnd_rev (M T : List Int) (s i : Nat) : arnd M T s i true = (arnd M T s i false).reverse := by
  unfold arnd met
  simp only [if_true, Bool.false_eq_true, if_false]
  rw [List.filter_reverse, List.map_reverse]
section
variable {P : Program} {w : World} {K : PySem.W.Frag} {mg : Str → Option Value} {base : Heap} {f : Addr} {fd : FuncData}
def wpEvery : WPr := fun ds Q R => ∃ (g : GS), ds = [.gd g, lI (rowP (gM g) (gT g)), .str g.many, .int g.won] ∧ GOk g ∧ Q (.bl true)
theorem ok_every (F : F_q_every_word K f fd) (Y : Fre mg) (k1 : Kn P w K mg base "_law_is_int" 2 wpIsInt) (k2 : Kn P w K mg base "_law_value" 2 wpLValue) (k3 : MeK P w K mg base (CG K) "promise" 7 wpPromise) : FnOk P w K mg base (L2N.CX P w) 8 f fd p_q_every_word (spD K wpEvery) := by
  refine fn_ok F s_q_every_word (fun ds Q R h => ?_) fun X E hX O hp tk ds Q R h => ?_
  · obtain ⟨_, rfl, _⟩ := h; rfl
  · obtain ⟨g, rfl, ok, q⟩ := h
    obtain ⟨cdv, A', outer, sh, H, rfl⟩ := hX
    have l1 := ok.l1
    have hrl : (rowP (gM g) (gT g)).length = g.ml.length := by rw [rowP_len, gM_len]
    walk_at "st"
    walk_at "all"
    rw [List.length_map, hrl]
    refine st_cons (s_r (j := 5) [("_law_k", 10)] [10] O Y.range ?_)
    walk_at "all"
    refine ⟨g.ml.length, fun _ => true, fun k => .int k, rfl, by omega, fun n hn => ?_, ?_⟩
    · refine tg_name (O.blk _) (evi_nil ⟨rfl, fun _ => ?_⟩)
      walk_at "all"
      rfl
    rw [rangeN]
    have rest : ∀ cs : List Nat, (∀ k ∈ cs, k < g.ml.length) → ∀ z : Rho, z = [.va (.gd g), .va (lI (rowP (gM g) (gT g))), .va (.str g.many), .va (.int g.won), .va (.int g.ml.length), .va (lN cs), .no, .no, .no, .no, .no] →
        stm (body1 P w K mg base n_q_every_word "_law_every_word" c_q_every_word f cdv A' outer sh H E) K E (match defBody (tp 76) with | _ :: _ :: _ :: l => l | _ => []) z { nx := fun _ => Q .non, rt := Q } R := fun cs hcs z hz => by
      subst hz
      refine st_cons (s_for (js := [6]) O hp ?_)
      walk_at "all"
      refine ⟨_, rfl, fun n ρ' => ∃ a b c d, ρ' = [.va (.gd g), .va (lI (rowP (gM g) (gT g))), .va (.str g.many), .va (.int g.won), .va (.int g.ml.length), .va (lN cs), a, b, c, d, .no], ⟨_, _, _, _, rfl⟩, ?_, ?_⟩
      · rintro n x ρ' hx ⟨a, b, c, d, rfl⟩
        rw [List.getElem?_map] at hx
        cases hk : cs[n]? with
        | none => rw [hk] at hx; cases hx
        | some k =>
          rw [hk] at hx
          cases hx
          have hkl := hcs k (List.mem_of_getElem? hk)
          refine tg_name O (st_one (s_for (js := [7]) O hp (ev_lst ?_)))
          walk_at "all"
          refine ⟨_, rfl, fun n ρ' => ∃ a b c d, ρ' = [.va (.gd g), .va (lI (rowP (gM g) (gT g))), .va (.str g.many), .va (.int g.won), .va (.int g.ml.length), .va (lN cs), .va (.int k), b, c, d, .no], ⟨a, _, _, _, rfl⟩, ?_, ?_⟩
          · rintro m x ρ' hx ⟨a, b, c, d, rfl⟩
            obtain ⟨ch, hch, rfl⟩ : ∃ ch, okc ch = true ∧ x = .str (tx [ch]) := by
              match m, hx with
              | 0, hx => exact ⟨77, rfl, by rw [← tx_M]; exact (Option.some.inj hx).symm⟩
              | 1, hx => exact ⟨84, rfl, by rw [← tx_T]; exact (Option.some.inj hx).symm⟩
              | m + 2, hx => simp at hx
            refine tg_name O (st_cons (s_st (j := 8) O ?_))
            walk_at "all"
            have e1 : (g.ml.length : Int) - 1 - (k : Int) = ((g.ml.length - 1 - k : Nat) : Int) := by omega
            rw [e1, tx_T]
            refine b_mulT (by omega) ?_
            walk_at "all"
            rw [tx_M]
            refine b_mulT (by omega) ?_
            have es : ∀ a b : List Nat, a.length + b.length ≤ 5000 → (tx a).length + (tx b).length ≤ sizeLine := fun a b h => by rw [tx_len, tx_len, sizeLine_eq]; omega
            refine b_addS (es _ _ (by simp; omega)) ?_
            walk_at "all"
            rw [tx_app]
            refine b_addS (es _ _ (by simp; omega)) ?_
            rw [tx_app]
            have el : List.replicate (g.ml.length - 1 - k) 84 ++ List.replicate k 77 ++ [ch] = lets g.ml.length k ch := rfl
            rw [el]
            have hlen : (lets g.ml.length k ch).length = g.ml.length := lets_len hkl
            have hok := lets_ok (n := g.ml.length) (k := k) hch
            refine st_cons (s_st (j := 9) O (ev_meth (fl := flG) O k3 (by decide) ?_ (by decide +kernel)))
            walk_at "all"
            refine ⟨.gd g, ?_⟩
            walk_at "all"
            refine ⟨g, _, rfl, ok, by omega, fun p hp' => (by rw [okc_none hok hlen] at hp'; cases hp'), fun _ => ?_⟩
            refine st_cons (s_ifv false (evt_w (evw_or (evt_not (evt_val (ev_call O k1 (by decide) ?_))))) (fun t => nomatch t) fun _ => st_nil (st_nil ⟨a, _, _, _, rfl⟩))
            walk_at "all"
            refine ⟨_, rfl, true, rfl, ⟨fun z => absurd z (by decide), fun _ => ?_⟩⟩
            refine evw_or1 ?_
            walk_at "all"
            refine ev_call O k2 (by decide) ?_
            walk_at "all"
            refine ⟨rowP (gM g) (gT g), _, _, rfl, by rw [hlen, hrl], by omega, hok, ?_⟩
            walk_at "all"
            exact ⟨_, rfl, by simp⟩
          · rintro ρ' ⟨a, b, c, d, rfl⟩
            exact ⟨_, _, _, _, rfl⟩
      · rintro ρ' ⟨a, b, c, d, rfl⟩
        walk_at "st"
        walk_at "all"
        exact q
    refine st_cons (s_ifv (decide (9 < g.ml.length)) ?_ (fun t => ?_) fun t => ?_)
    · walk_at "all"
      refine ⟨_, rfl, ?_⟩
      rw [decide_eq_decide]
      omega
    · have hbig := of_decide_eq_true t
      refine st_cons (s_st (j := 5) O (ev_lst ?_))
      walk_at "all"
      refine b_div ⟨by decide, by decide⟩ ?_
      walk_at "all"
      refine st_nil (rest [0, 1, g.ml.length / 2, g.ml.length - 2, g.ml.length - 1] (fun k hk => ?_) _ ?_)
      · simp only [List.mem_cons, List.not_mem_nil, or_false] at hk
        rcases hk with rfl | rfl | rfl | rfl | rfl <;> omega
      · have e1 : (g.ml.length : Int) - 2 = ((g.ml.length - 2 : Nat) : Int) := by omega
        have e2 : (g.ml.length : Int) - 1 = ((g.ml.length - 1 : Nat) : Int) := by omega
        have e3 : (g.ml.length : Int) / 2 = ((g.ml.length / 2 : Nat) : Int) := by omega
        rw [e1, e2, e3]
        rfl
    · exact st_nil (rest (List.range g.ml.length) (fun k hk => List.mem_range.mp hk) _ rfl)
def wpApart : WPr := fun ds Q R => ∃ (g : GS) (l : List Nat), ds = [.gd g, .tup [lI g.theirs, lI g.mine], .str g.side, .str g.many, .str (tx l)] ∧ GOk g ∧ g.won = 0 ∧ gM g = g.mine ∧ gT g = g.theirs ∧ rowL g.mine g.theirs = rowP g.mine g.theirs ∧ l.length = g.ml.length ∧ allOk l ∧ Q (.bl true)
theorem ok_apart (F : F_q_apart K f fd) (k1 : Kn P w K mg base "_law_is_int" 2 wpIsInt) (k2 : Kn P w K mg base "_law_value" 2 wpLValue) (k3 : MeK P w K mg base (CG K) "promise" 7 wpPromise) (k4 : Kn P w K mg base "_law_shown" 3 wpShown) (k5 : Kn P w K mg base "_law_row" 3 wpLRow) : FnOk P w K mg base (L2N.CX P w) 8 f fd p_q_apart (spD K wpApart) := by
  refine fn_ok F s_q_apart (fun ds Q R h => ?_) fun X E hX O hp tk ds Q R h => ?_
  · obtain ⟨_, _, rfl, _⟩ := h; rfl
  · obtain ⟨g, l, rfl, ok, hw, hM, hT, hrow, hl, hok, q⟩ := h
    obtain ⟨cdv, A', outer, sh, H, rfl⟩ := hX
    have l1 := ok.l1
    have hm : g.mine.length = g.ml.length := by rw [← hM, gM_len]
    have ht : g.theirs.length = g.ml.length := by rw [← hT, gT_len ok]
    refine st_cons (s_st (j := 5) O (ev_meth (fl := flG) O k3 (by decide) ?_ (by decide +kernel)))
    walk_at "all"
    refine ⟨.gd g, ?_⟩
    walk_at "all"
    refine ⟨g, _, rfl, ok, by omega, fun p hp' => (by rw [okc_none hok hl] at hp'; cases hp'), fun _ => ?_⟩
    rw [hM, hT, hw]
    refine st_cons (s_ifv false (evt_w (evw_or (evt_not (evt_val (ev_call O k4 (by decide) ?_))))) (fun t => nomatch t) fun _ => st_nil ?_)
    · walk_at "all"
      refine ⟨g, by rw [hw], true, rfl, ⟨fun z => absurd z (by decide), fun _ => ?_⟩⟩
      refine evw_or1 (evt_not (evt_val (ev_call O k1 (by decide) ?_)))
      walk_at "all"
      exact ⟨_, rfl, true, rfl, rfl⟩
    · walk_at "st"
      walk_at "all"
      refine ev_call O k2 (by decide) (evs_cons (ev_call O k5 (by decide) ?_))
      walk_at "all"
      refine i_tupN (j := 1) O rfl ?_
      walk_at "all"
      refine i_tupN (j := 0) O rfl ?_
      walk_at "all"
      refine ⟨g.mine, g.theirs, rfl, by omega, by omega, ?_⟩
      rw [hrow]
      walk_at "all"
      refine ⟨rowP g.mine g.theirs, l, g.many, rfl, by rw [rowP_len]; omega, by omega, hok, ?_⟩
      walk_at "all"
      rw [Int.zero_add, decide_eq_true rfl]
      exact q
theorem hds_len {g : GS} (ok : GOk g) {t : Nat} (ht : t = 0 ∨ t = 1) : (hd (gM g) (gT g) t).length = g.ml.length := by
  rcases ht with rfl | rfl <;> simp [hd, gM_len, gT_len ok]
/-- the answer's place, as the law works it out -/
theorem up_place {g : GS} (ok : GOk g) {s p : Nat} (hs : s = 0 ∨ s = 1) (hp : p < g.ml.length) : ∃ a r, arnd (gM g) (gT g) (1 - s) p (decide (1 - s = 0)) = a :: r ∧ a < g.ml.length ∧
    (arnd (gM g) (gT g) (1 - s) p false).length ≠ 0 ∧ (if 1 - s = 1 then (arnd (gM g) (gT g) (1 - s) p false).getD 0 0 else (arnd (gM g) (gT g) (1 - s) p false).getD ((arnd (gM g) (gT g) (1 - s) p false).length - 1) 0) = a := by
  have hs' : 1 - s = 0 ∨ 1 - s = 1 := by omega
  have h11 : 1 - (1 - s) = s := by omega
  have hpl : p < (hd (gM g) (gT g) (1 - s)).length := by rw [hds_len ok hs']; exact hp
  have hmem := fun (dn : Bool) j => arnd_mem (M := gM g) (T := gT g) (j := j) (down := dn) hs' hpl
  have hne : ∀ dn, arnd (gM g) (gT g) (1 - s) p dn ≠ [] := fun dn e => by
    have := (hmem dn 0).mpr (by rw [h11, hds_len ok hs]; omega)
    rw [e] at this; cases this
  obtain ⟨a, r, har⟩ : ∃ a r, arnd (gM g) (gT g) (1 - s) p (decide (1 - s = 0)) = a :: r := by
    cases e : arnd (gM g) (gT g) (1 - s) p (decide (1 - s = 0)) with
    | nil => exact absurd e (hne _)
    | cons a r => exact ⟨a, r, rfl⟩
  refine ⟨a, r, har, ?_, fun e => hne false (List.eq_nil_of_length_eq_zero e), ?_⟩
  · have := (hmem _ a).mp (by rw [har]; exact List.mem_cons_self)
    rwa [h11, hds_len ok hs] at this
  · rcases hs' with e | e
    · rw [if_neg (by omega)]
      rw [e] at har ⊢
      have h2 : arnd (gM g) (gT g) 0 p true = a :: r := har
      rw [arnd_rev] at h2
      have h3 : arnd (gM g) (gT g) 0 p false = (a :: r).reverse := by rw [← h2, List.reverse_reverse]
      rw [h3]
      simp
    · rw [if_pos e]
      rw [e] at har ⊢
      have h2 : arnd (gM g) (gT g) 1 p false = a :: r := har
      rw [h2]
      rfl
end
end CL
end
section
open PySem PySem.Spec PyProof.Rows L2 DL CL
local macro_rules | `(tactic| walk_at "nm1") => `(tactic| refine nl 25 (by decide +kernel) rfl ?_)
local macro_rules | `(tactic| walk_at "nm1") => `(tactic| first | refine nl 24 (by decide +kernel) rfl ?_ | fail)
local macro_rules | `(tactic| walk_at "nm1") => `(tactic| first | refine nl 23 (by decide +kernel) rfl ?_ | fail)
local macro_rules | `(tactic| walk_at "nm1") => `(tactic| first | refine nl 22 (by decide +kernel) rfl ?_ | fail)
local macro_rules | `(tactic| walk_at "nm1") => `(tactic| first | refine nl 21 (by decide +kernel) rfl ?_ | fail)
local macro_rules | `(tactic| walk_at "nm1") => `(tactic| first | refine nl 20 (by decide +kernel) rfl ?_ | fail)
local macro_rules | `(tactic| walk_at "nm1") => `(tactic| first | refine nl 19 (by decide +kernel) rfl ?_ | fail)
local macro_rules | `(tactic| walk_at "nm1") => `(tactic| first | refine nl 18 (by decide +kernel) rfl ?_ | fail)
local macro_rules | `(tactic| walk_at "nm1") => `(tactic| first | refine nl 17 (by decide +kernel) rfl ?_ | fail)
local macro_rules | `(tactic| walk_at "nm1") => `(tactic| first | refine nl 16 (by decide +kernel) rfl ?_ | fail)
local macro_rules | `(tactic| walk_at "nm1") => `(tactic| first | refine nl 15 (by decide +kernel) rfl ?_ | fail)
local macro_rules | `(tactic| walk_at "nm1") => `(tactic| first | refine nl 14 (by decide +kernel) rfl ?_ | fail)
local macro_rules | `(tactic| walk_at "nm1") => `(tactic| first | refine nl 13 (by decide +kernel) rfl ?_ | fail)
local macro_rules | `(tactic| walk_at "nm1") => `(tactic| first | refine nl 12 (by decide +kernel) rfl ?_ | fail)
local macro_rules | `(tactic| walk_at "nm1") => `(tactic| first | refine nl 11 (by decide +kernel) rfl ?_ | fail)
local macro_rules | `(tactic| walk_at "nm1") => `(tactic| first | refine nl 10 (by decide +kernel) rfl ?_ | fail)
local macro_rules | `(tactic| walk_at "nm1") => `(tactic| first | refine nl 9 (by decide +kernel) rfl ?_ | fail)
local macro_rules | `(tactic| walk_at "nm1") => `(tactic| first | refine nl 8 (by decide +kernel) rfl ?_ | fail)
local macro_rules | `(tactic| walk_at "nm1") => `(tactic| first | refine nl 7 (by decide +kernel) rfl ?_ | fail)
local macro_rules | `(tactic| walk_at "nm1") => `(tactic| first | refine nl 6 (by decide +kernel) rfl ?_ | fail)
local macro_rules | `(tactic| walk_at "nm1") => `(tactic| first | refine nl 5 (by decide +kernel) rfl ?_ | fail)
local macro_rules | `(tactic| walk_at "nm1") => `(tactic| first | refine nl 4 (by decide +kernel) rfl ?_ | fail)
local macro_rules | `(tactic| walk_at "nm1") => `(tactic| first | refine nl 3 (by decide +kernel) rfl ?_ | fail)
local macro_rules | `(tactic| walk_at "nm1") => `(tactic| first | refine nl 2 (by decide +kernel) rfl ?_ | fail)
local macro_rules | `(tactic| walk_at "nm1") => `(tactic| first | refine nl 1 (by decide +kernel) rfl ?_ | fail)
local macro_rules | `(tactic| walk_at "nm1") => `(tactic| first | refine nl 0 (by decide +kernel) rfl ?_ | fail)
local macro_rules | `(tactic| walk_at "nm") => `(tactic| (refine nk ?_; walk_at "nm1"))
local macro_rules | `(tactic| walk_at "ex") => `(tactic| refine c_notN ?_)
local macro_rules | `(tactic| walk_at "ex") => `(tactic| first | refine c_isN ?_ | fail)
local macro_rules | `(tactic| walk_at "ex") => `(tactic| first | refine c_neS ?_ | fail)
local macro_rules | `(tactic| walk_at "ex") => `(tactic| first | refine c_eqS ?_ | fail)
local macro_rules | `(tactic| walk_at "ex") => `(tactic| first | refine c_neI ?_ | fail)
local macro_rules | `(tactic| walk_at "ex") => `(tactic| first | refine c_eqI ?_ | fail)
local macro_rules | `(tactic| walk_at "ex") => `(tactic| first | refine c_ge ?_ | fail)
local macro_rules | `(tactic| walk_at "ex") => `(tactic| first | refine c_gt ?_ | fail)
local macro_rules | `(tactic| walk_at "ex") => `(tactic| first | refine c_le ?_ | fail)
local macro_rules | `(tactic| walk_at "ex") => `(tactic| first | refine c_lt ?_ | fail)
local macro_rules | `(tactic| walk_at "ex") => `(tactic| first | refine b_sub ?_ | fail)
local macro_rules | `(tactic| walk_at "ex") => `(tactic| first | refine b_add ?_ | fail)
local macro_rules | `(tactic| walk_at "ex") => `(tactic| first | refine c_intB ?_ | fail)
local macro_rules | `(tactic| walk_at "ex") => `(tactic| first | refine c_int ?_ | fail)
local macro_rules | `(tactic| walk_at "ex") => `(tactic| first | refine c_len (by assumption) ?_ | fail)
local macro_rules | `(tactic| walk_at "ex") => `(tactic| first | refine ev_intC (by assumption) (Fre.int (by assumption)) (by decide +kernel) ?_ | fail)
local macro_rules | `(tactic| walk_at "ex") => `(tactic| first | refine ev_lenC (by assumption) (Fre.len (by assumption)) (by decide +kernel) ?_ | fail)
local macro_rules | `(tactic| walk_at "ex") => `(tactic| first | refine ev_neg ?_ | fail)
local macro_rules | `(tactic| walk_at "ex") => `(tactic| first | refine And.intro (show List.length _ ≤ 1000 by simp) ?_ | fail)
local macro_rules | `(tactic| walk_at "ex") => `(tactic| first | refine ev_lst ?_ | fail)
local macro_rules | `(tactic| walk_at "ex") => `(tactic| first | walk_at "nm" | fail)
local macro_rules | `(tactic| walk_at "ex") => `(tactic| first | refine ev_tup ?_ | fail)
local macro_rules | `(tactic| walk_at "ex") => `(tactic| first | refine evs_nil ?_ | fail)
local macro_rules | `(tactic| walk_at "ex") => `(tactic| first | refine evs_cons ?_ | fail)
local macro_rules | `(tactic| walk_at "ex") => `(tactic| first | refine ev_sub ?_ | fail)
local macro_rules | `(tactic| walk_at "ex") => `(tactic| first | refine ec_bin ?_ | fail)
local macro_rules | `(tactic| walk_at "ex") => `(tactic| first | refine ec_cmp ?_ | fail)
local macro_rules | `(tactic| walk_at "ex") => `(tactic| first | refine et_cmp ?_ | fail)
local macro_rules | `(tactic| walk_at "ex") => `(tactic| first | refine ev_non ?_ | fail)
local macro_rules | `(tactic| walk_at "ex") => `(tactic| first | refine ev_bl ?_ | fail)
local macro_rules | `(tactic| walk_at "ex") => `(tactic| first | refine ev_str ?_ | fail)
local macro_rules | `(tactic| walk_at "ex") => `(tactic| first | refine ev_int ?_ | fail)
local macro_rules | `(tactic| walk_at "all") => `(tactic| repeat walk_at "ex")
local macro_rules | `(tactic| walk_at "set1") => `(tactic| refine sl 25 (by assumption) (by decide +kernel) ?_)
local macro_rules | `(tactic| walk_at "set1") => `(tactic| first | refine sl 24 (by assumption) (by decide +kernel) ?_ | fail)
local macro_rules | `(tactic| walk_at "set1") => `(tactic| first | refine sl 23 (by assumption) (by decide +kernel) ?_ | fail)
local macro_rules | `(tactic| walk_at "set1") => `(tactic| first | refine sl 22 (by assumption) (by decide +kernel) ?_ | fail)
local macro_rules | `(tactic| walk_at "set1") => `(tactic| first | refine sl 21 (by assumption) (by decide +kernel) ?_ | fail)
local macro_rules | `(tactic| walk_at "set1") => `(tactic| first | refine sl 20 (by assumption) (by decide +kernel) ?_ | fail)
local macro_rules | `(tactic| walk_at "set1") => `(tactic| first | refine sl 19 (by assumption) (by decide +kernel) ?_ | fail)
local macro_rules | `(tactic| walk_at "set1") => `(tactic| first | refine sl 18 (by assumption) (by decide +kernel) ?_ | fail)
local macro_rules | `(tactic| walk_at "set1") => `(tactic| first | refine sl 17 (by assumption) (by decide +kernel) ?_ | fail)
local macro_rules | `(tactic| walk_at "set1") => `(tactic| first | refine sl 16 (by assumption) (by decide +kernel) ?_ | fail)
local macro_rules | `(tactic| walk_at "set1") => `(tactic| first | refine sl 15 (by assumption) (by decide +kernel) ?_ | fail)
local macro_rules | `(tactic| walk_at "set1") => `(tactic| first | refine sl 14 (by assumption) (by decide +kernel) ?_ | fail)
local macro_rules | `(tactic| walk_at "set1") => `(tactic| first | refine sl 13 (by assumption) (by decide +kernel) ?_ | fail)
local macro_rules | `(tactic| walk_at "set1") => `(tactic| first | refine sl 12 (by assumption) (by decide +kernel) ?_ | fail)
local macro_rules | `(tactic| walk_at "set1") => `(tactic| first | refine sl 11 (by assumption) (by decide +kernel) ?_ | fail)
local macro_rules | `(tactic| walk_at "set1") => `(tactic| first | refine sl 10 (by assumption) (by decide +kernel) ?_ | fail)
local macro_rules | `(tactic| walk_at "set1") => `(tactic| first | refine sl 9 (by assumption) (by decide +kernel) ?_ | fail)
local macro_rules | `(tactic| walk_at "set1") => `(tactic| first | refine sl 8 (by assumption) (by decide +kernel) ?_ | fail)
local macro_rules | `(tactic| walk_at "set1") => `(tactic| first | refine sl 7 (by assumption) (by decide +kernel) ?_ | fail)
local macro_rules | `(tactic| walk_at "set1") => `(tactic| first | refine sl 6 (by assumption) (by decide +kernel) ?_ | fail)
local macro_rules | `(tactic| walk_at "set1") => `(tactic| first | refine sl 5 (by assumption) (by decide +kernel) ?_ | fail)
local macro_rules | `(tactic| walk_at "set1") => `(tactic| first | refine sl 4 (by assumption) (by decide +kernel) ?_ | fail)
local macro_rules | `(tactic| walk_at "set1") => `(tactic| first | refine sl 3 (by assumption) (by decide +kernel) ?_ | fail)
local macro_rules | `(tactic| walk_at "set1") => `(tactic| first | refine sl 2 (by assumption) (by decide +kernel) ?_ | fail)
local macro_rules | `(tactic| walk_at "set1") => `(tactic| first | refine sl 1 (by assumption) (by decide +kernel) ?_ | fail)
local macro_rules | `(tactic| walk_at "set1") => `(tactic| first | refine sl 0 (by assumption) (by decide +kernel) ?_ | fail)
local macro_rules | `(tactic| walk_at "set") => `(tactic| (refine st_cons (sk ?_); walk_at "set1"))
local macro_rules | `(tactic| walk_at "st") => `(tactic| walk_at "set")
local macro_rules | `(tactic| walk_at "st") => `(tactic| first | refine st_cons (s_if ?_) | fail)
local macro_rules | `(tactic| walk_at "st") => `(tactic| first | refine st_cons (s_retN ?_) | fail)
local macro_rules | `(tactic| walk_at "st") => `(tactic| first | refine st_one (s_retN ?_) | fail)
local macro_rules | `(tactic| walk_at "st") => `(tactic| first | refine st_cons (s_ret ?_) | fail)
local macro_rules | `(tactic| walk_at "st") => `(tactic| first | refine st_one (s_ret ?_) | fail)
namespace CL
open PySem PySem.Spec PyProof.Rows L2 DL
/-- the lists of what is left, as the law keeps them: mine, then theirs -/
def lv2 (g : GS) : D := .lst [lN g.ml, lN g.tl]
def hd2 (g : GS) : D := .tup [lI g.mine, lI g.theirs]
def nb2 (g : GS) : D := .lst [lI (gM g), lI (gT g)]
theorem lv2_at (g : GS) {s : Nat} (hs : s = 0 ∨ s = 1) : ([lN g.ml, lN g.tl] : List D)[1 - s]? = some (lN (lf g s)) := by
  rcases hs with rfl | rfl <;> rfl
theorem foe_at {s : Nat} (hs : s = 0 ∨ s = 1) : ([.str "theirs", .str "mine"] : List D)[1 - s]? = some (.str (sn (1 - s))) := by
  rcases hs with rfl | rfl <;> rfl
theorem wish_if {s : Nat} (hs : s = 0 ∨ s = 1) : (if decide (sn s = ("mine" : Str)) then (1 : Int) else 0) = ((s : Nat) : Int) := own_of hs
section
variable {P : Program} {w : World} {K : PySem.W.Frag} {mg : Str → Option Value} {base : Heap} {f : Addr} {fd : FuncData}
def wpAll : WPr := fun ds Q R => ∃ (g : GS) (s : Nat), ds = [.gd g, hd2 g, lv2 g, .str g.side, .str g.many] ∧ GOk g ∧ (s = 0 ∨ s = 1) ∧ g.side = sn s ∧ g.many = sn (1 - s) ∧ Q (.bl true)
theorem ok_all (F : F_q_all_answers K f fd) (Y : Fre mg) (k1 : Kn P w K mg base "_law_is_int" 2 wpIsInt) (k2 : Kn P w K mg base "_law_up" 3 wpUp) (k3 : MeK P w K mg base (CG K) "answer" 6 wpAnswer) : FnOk P w K mg base (L2N.CX P w) 7 f fd p_q_all_answers (spD K wpAll) := by
  refine fn_ok F s_q_all_answers (fun ds Q R h => ?_) fun X E hX O hp tk ds Q R h => ?_
  · obtain ⟨_, _, rfl, _⟩ := h; rfl
  · obtain ⟨g, s, rfl, ok, hs, hsd, hmn, q⟩ := h
    obtain ⟨cdv, A', outer, sh, H, rfl⟩ := hX
    have l1 := ok.l1
    have leq := ok.eq
    have hs' : 1 - s = 0 ∨ 1 - s = 1 := by omega
    have h11 : 1 - (1 - s) = s := by omega
    walk_at "st"
    walk_at "all"
    rw [hsd, own_of' hs]
    walk_at "st"
    walk_at "all"
    refine i_listN (j := 1 - s) O (foe_at hs) ?_
    refine st_cons (s_st (j := 7) O (ev_lst (evs_cons (ev_of_evn (en_c (α := Nat) [("_law_k", 13)] [13] O ?_)))))
    walk_at "all"
    refine i_listN (j := 0) (d := lN g.ml) O rfl ?_
    refine ⟨g.ml, fun (n : Nat) => .int n, fun _ => true, fun i => .int (g.mine.getD i 0), rfl, by omega, fun i hi => ?_, ?_⟩
    · refine tg_name (O.blk _) (evi_nil ⟨rfl, fun _ => ?_⟩)
      walk_at "all"
      refine i_tupN (j := 0) (d := lI g.mine) (O.blk _) rfl ?_
      walk_at "all"
      exact i_listN (O.blk _) (iget (ok.m i hi)) rfl
    rw [allL, pickD]
    refine evs_cons (ev_of_evn (en_c (α := Nat) [("_law_k", 13)] [13] O ?_))
    walk_at "all"
    refine i_listN (j := 1) (d := lN g.tl) O rfl ?_
    refine ⟨g.tl, fun (n : Nat) => .int n, fun _ => true, fun i => .int (g.theirs.getD i 0), rfl, by omega, fun i hi => ?_, ?_⟩
    · refine tg_name (O.blk _) (evi_nil ⟨rfl, fun _ => ?_⟩)
      walk_at "all"
      refine i_tupN (j := 1) (d := lI g.theirs) (O.blk _) rfl ?_
      walk_at "all"
      exact i_listN (O.blk _) (iget (ok.t i hi)) rfl
    rw [allL, pickD]
    refine evs_nil ⟨by simp, ?_⟩
    refine st_cons (s_r (j := 8) [("_law_k", 13)] [13] O Y.range ?_)
    walk_at "all"
    refine i_listN (j := 0) (d := lN g.ml) O rfl ?_
    walk_at "all"
    rw [List.length_map]
    refine ⟨g.ml.length, fun _ => true, fun k => .int k, rfl, by omega, fun n hn => ?_, ?_⟩
    · refine tg_name (O.blk _) (evi_nil ⟨rfl, fun _ => ?_⟩)
      walk_at "all"
      rfl
    rw [rangeN]
    refine st_cons (s_for (js := [9]) O hp ?_)
    walk_at "all"
    refine b_cat (by rw [List.length_map, List.length_range, sizeLine_eq]; omega) ?_
    refine ⟨_, rfl, fun n ρ' => ∃ a b c d, ρ' = [.va (.gd g), .va (hd2 g), .va (lv2 g), .va (.str g.side), .va (.str g.many), .va (.int (1 - s : Nat)), .va (.str (sn (1 - s))), .va (nb2 g), .va (lN (List.range g.ml.length)), a, b, c, d, .no], ⟨.no, .no, .no, .no, by rw [hsd]; rfl⟩, ?_, ?_⟩
    · rintro n x ρ' hx ⟨a, b, c, d, rfl⟩
      obtain ⟨p, hp', rfl⟩ : ∃ p : Nat, p < g.ml.length ∧ x = .int p := by
        have hm := List.mem_of_getElem? hx
        have hm' : x ∈ (List.range g.ml.length).map fun (n : Nat) => D.int n := by
          rcases List.mem_append.mp hm with h | h <;> exact h
        obtain ⟨p, h1, h2⟩ := List.mem_map.mp hm'
        exact ⟨p, List.mem_range.mp h1, h2.symm⟩
      obtain ⟨ap, r, har, halt, hne, hpl⟩ := up_place ok hs hp'
      refine tg_name O (st_cons (s_st (j := 10) O (ev_call O k2 (by decide) ?_)))
      walk_at "all"
      refine i_listN (j := 0) (d := lI (gM g)) O rfl ?_
      walk_at "all"
      refine i_listN (j := 1) (d := lI (gT g)) O rfl ?_
      walk_at "all"
      refine ⟨gM g, gT g, 1 - s, p, rfl, by rw [gM_len]; omega, by rw [gT_len ok]; omega, hs', by rw [hds_len ok hs']; exact hp', ?_⟩
      refine st_cons (s_st (j := 11) O ?_)
      walk_at "all"
      refine i_listN (j := 1 - s) O (lv2_at g hs) ?_
      walk_at "all"
      rw [List.length_map]
      have e1 : ((arnd (gM g) (gT g) (1 - s) p false).length : Int) - 1 = (((arnd (gM g) (gT g) (1 - s) p false).length - 1 : Nat) : Int) := by omega
      rw [e1]
      refine i_listN (j := (arnd (gM g) (gT g) (1 - s) p false).length - 1) O (nget (by omega)) ?_
      walk_at "all"
      refine i_listN (j := 0) O (nget (by omega)) ?_
      walk_at "all"
      rw [hmn, own_of hs']
      refine i_listN (j := 1 - s) (d := .int (ap : Nat)) O ?_ ?_
      · rcases hs' with e | e
        · rw [e] at hpl ⊢
          rw [if_neg (by omega)] at hpl
          rw [hpl]; rfl
        · rw [e] at hpl ⊢
          rw [if_pos rfl] at hpl
          rw [hpl]; rfl
      walk_at "all"
      refine i_listN O (nget (by rw [lf_len ok]; exact halt)) ?_
      refine st_cons (s_st (j := 12) O (ev_meth (fl := flG) O k3 (by decide) ?_ (by decide +kernel)))
      walk_at "all"
      refine ⟨.gd g, ?_⟩
      walk_at "all"
      have e2 : (1 : Int) - ((1 - s : Nat) : Int) = ((1 - (1 - s) : Nat) : Int) := by omega
      rw [e2]
      refine i_listN (j := 1 - (1 - s)) (d := lN (lf g (1 - s))) O (lv2_at g hs') ?_
      walk_at "all"
      refine i_listN O (nget (by rw [lf_len ok]; exact hp')) ?_
      walk_at "all"
      have hget : (lf g (1 - s))[p]? = some ((lf g (1 - s)).getD p 0) := by
        have : p < (lf g (1 - s)).length := by rw [lf_len ok]; exact hp'
        rw [List.getElem?_eq_getElem this]; simp [this]
      refine ⟨g, s, 1 - s, _, rfl, ok, hs, hs', hsd, hmn, fun hno => ?_, fun p2 n2 hn2 hp2 a2 r2 har2 => ?_⟩
      · exact absurd (mem_castL.mpr (List.mem_of_getElem? hget)) hno
      · have hnd : (lf g (1 - s)).Nodup := by unfold lf; split; exact ok.nm; exact ok.nt
        have e3 : p2 = p := by
          have hn3 : (lf g (1 - s)).getD p 0 = n2 := by omega
          rw [hn3] at hget
          obtain ⟨h1, h2⟩ := List.getElem?_eq_some_iff.mp hget
          obtain ⟨h3, h4⟩ := List.getElem?_eq_some_iff.mp hp2
          exact (List.getElem_inj hnd).mp (h4.trans h2.symm)
        subst e3
        rw [har] at har2
        have e4 : ap = a2 := (List.cons.inj har2).1
        subst e4
        refine st_cons (s_ifv false (evt_w (evw_or (evt_not (evt_val (ev_call O k1 (by decide) ?_))))) (fun t => nomatch t) fun _ => st_nil (st_nil ⟨_, _, _, _, rfl⟩))
        walk_at "all"
        refine ⟨_, rfl, true, rfl, ⟨fun z => absurd z (by decide), fun _ => evw_or1 ?_⟩⟩
        walk_at "all"
        exact ⟨_, rfl, by simp⟩
    · rintro ρ' ⟨a, b, c, d, rfl⟩
      walk_at "st"
      walk_at "all"
      exact q
end
end CL
namespace CL
open PySem PySem.Spec PyProof.Rows L2 DL
/-- the round's pair, by places: p the guide's, o the other's -/
structure Rnd (g : GS) (s : Nat) (layer : Bool) (p o : Nat) : Prop where
  hp : p < g.ml.length
  ho : o < g.ml.length
  how : if layer = true then LayIs (gM g) (gT g) s true p else ∃ r, arnd (gM g) (gT g) (1 - s) o (decide (1 - s = 0)) = p :: r
def pairOf (g : GS) (s p o : Nat) : D := if s = 1 then .tup [.int (g.ml.getD p 0 : Nat), .int (g.tl.getD o 0 : Nat)] else .tup [.int (g.ml.getD o 0 : Nat), .int (g.tl.getD p 0 : Nat)]
section
variable {P : Program} {w : World} {K : PySem.W.Frag} {mg : Str → Option Value} {base : Heap} {f : Addr} {fd : FuncData}
def wpRound : WPr := fun ds Q R => ∃ (g : GS) (s l : Nat) (a b : Int) (tw : Bool), ds = [.gd g, hd2 g, lv2 g, .lst [.str (sn s), .str (sn (1 - s)), .str (sn l)], .lst [.int a, .int b], .bl tw] ∧ GOk g ∧ g.ml.length ≠ 0 ∧ (s = 0 ∨ s = 1) ∧ (l = 0 ∨ l = 1) ∧ g.side = sn s ∧ g.many = sn (1 - s) ∧ (∀ p o, Rnd g s (decide (l = s)) p o → Q (pairOf g s p o))
theorem getN {ns : List Nat} {p : Nat} (h : p < ns.length) : ns[p]? = some (ns.getD p 0) := by
  rw [List.getElem?_eq_getElem h]; simp [h]
theorem lf_nd {g : GS} (ok : GOk g) (s : Nat) : (lf g s).Nodup := by
  unfold lf
  split
  · exact ok.nm
  · exact ok.nt
theorem nd_place {ns : List Nat} (nd : ns.Nodup) {p q : Nat} (hp : p < ns.length) (h : ns[q]? = some (ns.getD p 0)) : q = p := by
  obtain ⟨h1, h2⟩ := List.getElem?_eq_some_iff.mp (getN hp)
  obtain ⟨h3, h4⟩ := List.getElem?_eq_some_iff.mp h
  exact (List.getElem_inj nd).mp (h4.trans h2.symm)
theorem idx_hno {ns : List Nat} (nd : ns.Nodup) {p : Nat} (hp : p < ns.length) : ∀ (m : Nat) z, m < p → (castL ns)[m]? = some z → z ≠ (ns.getD p 0 : Nat) := fun m z hm hz e => by
  unfold castL at hz
  rw [List.getElem?_map] at hz
  cases e2 : ns[m]? with
  | none => rw [e2] at hz; cases hz
  | some z' =>
    rw [e2] at hz
    have h1 : (z' : Int) = z := Option.some.inj hz
    have h3 : z' = ns.getD p 0 := by omega
    rw [h3] at e2
    have := nd_place nd hp e2
    omega
theorem castL_get {ns : List Nat} {p : Nat} (hp : p < ns.length) : (castL ns)[p]? = some ((ns.getD p 0 : Nat) : Int) := by
  unfold castL
  rw [List.getElem?_map, getN hp]; rfl
theorem pair_at {g : GS} {s p o : Nat} (hs : s = 0 ∨ s = 1) : ([.tup [.int ((lf g s).getD p 0 : Nat), .int ((lf g (1 - s)).getD o 0 : Nat)], .tup [.int ((lf g (1 - s)).getD o 0 : Nat), .int ((lf g s).getD p 0 : Nat)]] : List D)[1 - s]? = some (pairOf g s p o) := by
  rcases hs with rfl | rfl <;> rfl
theorem ok_round (F : F_q_round K f fd) (Y : Fre mg) (k1 : Kn P w K mg base "_law_is_left" 3 wpIsLeft) (k2 : Kn P w K mg base "_law_up" 3 wpUp) (k3 : MeK P w K mg base (CG K) "answer" 6 wpAnswer) (k4 : MeK P w K mg base (CG K) "lay" 6 wpLay) (k5 : Kn P w K mg base "_law_best_lay" 4 wpBest) (k6 : Kn P w K mg base "_law_foe" 5 wpFoe) :
    FnOk P w K mg base (L2N.CX P w) 7 f fd p_q_round (spD K wpRound) := by
  refine fn_ok F s_q_round (fun ds Q R h => ?_) fun X E hX O hp tk ds Q R h => ?_
  · obtain ⟨_, _, _, _, _, _, rfl, _⟩ := h; rfl
  · obtain ⟨g, s, l, a, b, tw, rfl, ok, h0, hs, hl, hsd, hmn, q⟩ := h
    obtain ⟨cdv, A', outer, sh, H, rfl⟩ := hX
    have l1 := ok.l1
    have leq := ok.eq
    have hs' : 1 - s = 0 ∨ 1 - s = 1 := by omega
    have h11 : 1 - (1 - s) = s := by omega
    have hlM : (gM g).length = (gT g).length := by rw [gM_len, gT_len ok]
    have hnw : decide (sn s = g.many) = false := by
      rw [hmn]
      refine decide_eq_false fun e => ?_
      have := (sn_inj hs hs').mp e
      omega
    walk_at "st"
    walk_at "all"
    refine i_listN (j := 0) (d := .str (sn s)) O rfl ?_
    walk_at "all"
    rw [own_of' hs]
    walk_at "st"
    walk_at "all"
    refine i_listN (j := 1 - s) O (foe_at hs) ?_
    refine st_cons (s_st (j := 8) O (ev_lst (evs_cons (ev_of_evn (en_c (α := Nat) [("_law_k", 14)] [14] O ?_)))))
    walk_at "all"
    refine i_listN (j := 0) (d := lN g.ml) O rfl ?_
    refine ⟨g.ml, fun (n : Nat) => .int n, fun _ => true, fun i => .int (g.mine.getD i 0), rfl, by omega, fun i hi => ?_, ?_⟩
    · refine tg_name (O.blk _) (evi_nil ⟨rfl, fun _ => ?_⟩)
      walk_at "all"
      refine i_tupN (j := 0) (d := lI g.mine) (O.blk _) rfl ?_
      walk_at "all"
      exact i_listN (O.blk _) (iget (ok.m i hi)) rfl
    rw [allL, pickD]
    refine evs_cons (ev_of_evn (en_c (α := Nat) [("_law_k", 14)] [14] O ?_))
    walk_at "all"
    refine i_listN (j := 1) (d := lN g.tl) O rfl ?_
    refine ⟨g.tl, fun (n : Nat) => .int n, fun _ => true, fun i => .int (g.theirs.getD i 0), rfl, by omega, fun i hi => ?_, ?_⟩
    · refine tg_name (O.blk _) (evi_nil ⟨rfl, fun _ => ?_⟩)
      walk_at "all"
      refine i_tupN (j := 1) (d := lI g.theirs) (O.blk _) rfl ?_
      walk_at "all"
      exact i_listN (O.blk _) (iget (ok.t i hi)) rfl
    rw [allL, pickD]
    refine evs_nil ⟨by simp, ?_⟩
    have e2 : (1 : Int) - ((1 - s : Nat) : Int) = ((1 - (1 - s) : Nat) : Int) := by omega
    have fin : ∀ p o : Nat, Rnd g s (decide (l = s)) p o → ∀ z : Rho, z[9]? = some (.va (.int ((lf g s).getD p 0 : Nat))) → z[11]? = some (.va (.int ((lf g (1 - s)).getD o 0 : Nat))) → z[6]? = some (.va (.int (1 - s : Nat))) →
        st1 (body1 P w K mg base n_q_round "_law_round" c_q_round f cdv A' outer sh H E) K E (match defBody (tp 62) with | [_, _, _, _, a] => a | _ => .Pass ⟨0, 0, 0, 0⟩) z { nx := fun _ => Q .non, rt := Q } R := fun p o hr z h9 h11 h6 => by
      refine s_ret (ev_sub (ev_lst (evs_cons (ev_tup (evs_cons (ev_nm (j := 9) h9 (evs_cons (ev_nm (j := 11) h11 (evs_nil ⟨by simp, ?_⟩)))))))))
      refine evs_cons (ev_tup (evs_cons (ev_nm (j := 11) h11 (evs_cons (ev_nm (j := 9) h9 (evs_nil ⟨by simp, ?_⟩))))))
      refine evs_nil ⟨by simp, ev_nm (j := 6) h6 ?_⟩
      exact i_listN (j := 1 - s) O (pair_at hs) (q p o hr)
    refine st_cons (s_ifv (decide (l = s)) ?_ (fun t => ?_) fun t => ?_)
    · walk_at "all"
      refine i_listN (j := 2) (d := .str (sn l)) O rfl ?_
      walk_at "all"
      refine i_listN (j := 0) (d := .str (sn s)) O rfl ?_
      walk_at "all"
      refine ⟨_, rfl, ?_⟩
      rw [decide_eq_decide]
      exact sn_inj hl hs
    · obtain ⟨p, hlay, hplt⟩ := lay_ex (M := gM g) (T := gT g) (s := s) true hlM (by rw [gM_len]; exact h0) hs
      rw [gM_len] at hplt
      have hpl : p < (lf g s).length := by rw [lf_len ok]; exact hplt
      have hin : ((lf g s).getD p 0 : Int) ∈ (lf g s).map fun (n : Nat) => (n : Int) := List.mem_map.mpr ⟨_, List.mem_of_getElem? (getN hpl), rfl⟩
      have layE : ∀ a', LayIs (gM g) (gT g) s (!decide (sn s = g.many)) a' → a' = p := fun a' ha' => by
        rw [hnw] at ha'
        exact lay_uniq ha' hlay
      refine st_cons (s_st (j := 9) O (ev_meth0 (fl := flG) O k4 (by decide) ?_ (by decide +kernel)))
      walk_at "all"
      refine ⟨.gd g, g, s, rfl, ok, hs, hsd, fun h => absurd h h0, fun _ a' ha' => ?_⟩
      have e9 := (layE a' ha').symm; subst e9
      refine st_cons (s_ifv false (evt_w (evw_or (evt_not (evt_val (ev_call O k1 (by decide) ?_))))) (fun t => nomatch t) fun _ => st_nil ?_)
      · walk_at "all"
        refine i_listN (j := 1 - s) O (lv2_at g hs) ?_
        walk_at "all"
        refine ⟨_, _, rfl, true, by rw [decide_eq_true hin], ⟨fun z => absurd z (by decide), fun _ => evw_or1 (evt_w (evw_and (evt_val ?_)))⟩⟩
        walk_at "all"
        refine ⟨tw, rfl, fun _ => evw_and1 (et_cmp (ev_meth0 (fl := flG) O k4 (by decide) ?_ (by decide +kernel))), fun _ => rfl⟩
        walk_at "all"
        refine ⟨.gd g, g, s, rfl, ok, hs, hsd, fun h => absurd h h0, fun _ a' ha' => ?_⟩
        have e9 := (layE a' ha').symm; subst e9
        walk_at "all"
        exact ⟨_, rfl, by simp⟩
      refine st_cons (s_st (j := 10) O (ev_bm O PySem.F.plainAttrs_list PySem.F.slot_list_index PySem.F.type_list_index ?_))
      walk_at "all"
      refine i_listN (j := 1 - s) O (lv2_at g hs) ?_
      rw [lN_cast]
      refine ⟨.lst _, ?_⟩
      walk_at "all"
      refine m_indexI (j := p) O (castL_get hpl) (idx_hno (lf_nd ok s) hpl) ?_
      refine st_cons (s_ifv false (et_cmp (ev_nm (j := 10) rfl (ev_call O k5 (by decide) ?_))) (fun t => nomatch t) fun _ => st_nil ?_)
      · walk_at "all"
        refine i_listN (j := 0) (d := lI (gM g)) O rfl ?_
        walk_at "all"
        refine i_listN (j := 1) (d := lI (gT g)) O rfl ?_
        walk_at "all"
        refine i_listN (j := 0) (d := .str (sn s)) O rfl ?_
        walk_at "all"
        refine i_listN (j := 1) (d := .str (sn (1 - s))) O rfl ?_
        walk_at "all"
        refine ⟨gM g, gT g, s, sn (1 - s), rfl, hlM, by rw [gM_len]; exact h0, by rw [gM_len]; omega, hs, fun g0 hg0 => ?_⟩
        obtain ⟨a', r', ha', _⟩ := spots_ne hlM hs hg0
        refine ⟨a', r', ha', ?_⟩
        have e5 : p = a' := lay_uniq hlay ⟨g0, r', by rw [← hmn, hnw] at hg0; exact hg0, ha'⟩
        subst e5
        walk_at "all"
        exact ⟨_, rfl, by simp⟩
      refine st_cons (s_st (j := 11) O ?_)
      walk_at "all"
      rw [e2]
      refine i_listN (j := 1 - (1 - s)) (d := lN (lf g (1 - s))) O (lv2_at g hs') ?_
      refine ev_call O k6 (by decide) ?_
      walk_at "all"
      refine i_listN (j := 1) (d := .str (sn (1 - s))) O rfl ?_
      walk_at "all"
      refine ⟨gM g, gT g, 1 - s, sn (1 - s), .int p, a, b, rfl, hlM, by rw [gM_len]; exact h0, by rw [gM_len]; omega, hs', .inr ⟨p, rfl, by rw [gM_len]; exact hplt⟩, fun o ho => ?_⟩
      rw [gM_len] at ho
      refine i_listN O (nget (by rw [lf_len ok]; exact ho)) ?_
      refine st_nil (st_one (fin p o ⟨hplt, ho, ?_⟩ _ rfl rfl rfl))
      rw [t]
      exact hlay
    · refine st_cons (s_st (j := 12) O (ev_call O k6 (by decide) ?_))
      walk_at "all"
      refine i_listN (j := 1) (d := .str (sn (1 - s))) O rfl ?_
      walk_at "all"
      refine ⟨gM g, gT g, 1 - s, sn (1 - s), .non, a, b, rfl, hlM, by rw [gM_len]; exact h0, by rw [gM_len]; omega, hs', .inl rfl, fun o ho => ?_⟩
      rw [gM_len] at ho
      obtain ⟨p, r, har, hplt, hne, hpl'⟩ := up_place ok hs ho
      have hpl : p < (lf g s).length := by rw [lf_len ok]; exact hplt
      have hol : o < (lf g (1 - s)).length := by rw [lf_len ok]; exact ho
      have hin : ((lf g s).getD p 0 : Int) ∈ (lf g s).map fun (n : Nat) => (n : Int) := List.mem_map.mpr ⟨_, List.mem_of_getElem? (getN hpl), rfl⟩
      have ansE : ∀ p2 n2 : Nat, (((lf g (1 - s)).getD o 0 : Nat) : Int) = n2 → (lf g (1 - s))[p2]? = some n2 → ∀ a2 r2, arnd (gM g) (gT g) (1 - s) p2 (decide (1 - s = 0)) = a2 :: r2 → a2 = p := fun p2 n2 hn2 hp2 a2 r2 har2 => by
        have hn3 : n2 = (lf g (1 - s)).getD o 0 := by omega
        subst hn3
        have e3 := nd_place (lf_nd ok (1 - s)) hol hp2
        subst e3
        rw [har] at har2
        exact (List.cons.inj har2).1.symm
      have inF : (((lf g (1 - s)).getD o 0 : Nat) : Int) ∉ castL (lf g (1 - s)) → R (eCard (sn (1 - s)) ((lf g (1 - s)).getD o 0 : Nat)) := fun hno => absurd (mem_castL.mpr (List.mem_of_getElem? (getN hol))) hno
      refine st_cons (s_st (j := 11) O ?_)
      walk_at "all"
      rw [e2]
      refine i_listN (j := 1 - (1 - s)) (d := lN (lf g (1 - s))) O (lv2_at g hs') ?_
      walk_at "all"
      refine i_listN O (nget hol) ?_
      refine st_cons (s_st (j := 9) O (ev_meth (fl := flG) O k3 (by decide) ?_ (by decide +kernel)))
      walk_at "all"
      refine ⟨.gd g, ?_⟩
      walk_at "all"
      refine ⟨g, s, 1 - s, _, rfl, ok, hs, hs', hsd, hmn, inF, fun p2 n2 hn2 hp2 a2 r2 har2 => ?_⟩
      have e9 := (ansE p2 n2 hn2 hp2 a2 r2 har2).symm; subst e9
      refine st_cons (s_ifv false (evt_w (evw_or (evt_not (evt_val (ev_call O k1 (by decide) ?_))))) (fun t => nomatch t) fun _ => st_nil ?_)
      · walk_at "all"
        refine i_listN (j := 1 - s) O (lv2_at g hs) ?_
        walk_at "all"
        refine ⟨_, _, rfl, true, by rw [decide_eq_true hin], ⟨fun z => absurd z (by decide), fun _ => evw_or1 (evt_w (evw_and (evt_val ?_)))⟩⟩
        walk_at "all"
        refine ⟨tw, rfl, fun _ => evw_and1 (et_cmp (ev_meth (fl := flG) O k3 (by decide) ?_ (by decide +kernel))), fun _ => rfl⟩
        walk_at "all"
        refine ⟨.gd g, ?_⟩
        walk_at "all"
        refine ⟨g, s, 1 - s, _, rfl, ok, hs, hs', hsd, hmn, inF, fun p2 n2 hn2 hp2 a2 r2 har2 => ?_⟩
        have e9 := (ansE p2 n2 hn2 hp2 a2 r2 har2).symm; subst e9
        walk_at "all"
        exact ⟨_, rfl, by simp⟩
      refine st_cons (s_st (j := 13) O (ev_call O k2 (by decide) ?_))
      walk_at "all"
      refine i_listN (j := 0) (d := lI (gM g)) O rfl ?_
      walk_at "all"
      refine i_listN (j := 1) (d := lI (gT g)) O rfl ?_
      walk_at "all"
      refine ⟨gM g, gT g, 1 - s, o, rfl, by rw [gM_len]; omega, by rw [gT_len ok]; omega, hs', by rw [hds_len ok hs']; exact ho, ?_⟩
      refine st_cons (s_ifv false (et_cmp (ev_bm O PySem.F.plainAttrs_list PySem.F.slot_list_index PySem.F.type_list_index ?_)) (fun t => nomatch t) fun _ => st_nil ?_)
      · walk_at "all"
        refine i_listN (j := 1 - s) O (lv2_at g hs) ?_
        rw [lN_cast]
        refine ⟨.lst _, ?_⟩
        walk_at "all"
        refine m_indexI (j := p) O (castL_get hpl) (idx_hno (lf_nd ok s) hpl) ?_
        walk_at "all"
        rw [List.length_map]
        have e1 : ((arnd (gM g) (gT g) (1 - s) o false).length : Int) - 1 = (((arnd (gM g) (gT g) (1 - s) o false).length - 1 : Nat) : Int) := by omega
        rw [e1]
        refine i_listN (j := (arnd (gM g) (gT g) (1 - s) o false).length - 1) O (nget (by omega)) ?_
        walk_at "all"
        refine i_listN (j := 0) O (nget (by omega)) ?_
        walk_at "all"
        refine i_listN (j := 1) (d := .str (sn (1 - s))) O rfl ?_
        walk_at "all"
        rw [own_of hs']
        refine i_listN (j := 1 - s) (d := .int (p : Nat)) O ?_ ?_
        · rcases hs' with e | e
          · rw [e] at hpl' ⊢
            rw [if_neg (by omega)] at hpl'
            rw [hpl']; rfl
          · rw [e] at hpl' ⊢
            rw [if_pos rfl] at hpl'
            rw [hpl']; rfl
        walk_at "all"
        exact ⟨_, rfl, by simp⟩
      refine st_nil (st_one (fin p o ⟨hplt, ho, ?_⟩ _ rfl rfl rfl))
      rw [t]
      exact ⟨r, har⟩
end
end CL
namespace CL
open PySem DL
/-! ### a round -/
theorem filter_erase {ns : List Nat} (nd : ns.Nodup) {m : Nat} (hm : m < ns.length) : (ns.filter fun x => !decide (x = ns.getD m 0)) = ns.eraseIdx m := by
  induction ns generalizing m with
  | nil => simp at hm
  | cons a l ih =>
    rw [List.nodup_cons] at nd
    cases m with
    | zero =>
      rw [List.eraseIdx_cons_zero, List.filter_cons, if_neg (by simp)]
      refine List.filter_eq_self.mpr fun x hx => ?_
      have : x ≠ a := fun e => nd.1 (e ▸ hx)
      simpa using this
    | succ m =>
      have hm' : m < l.length := by simpa using hm
      have hg : (a :: l).getD (m + 1) 0 = l.getD m 0 := by simp
      have hmem : l.getD m 0 ∈ l := by
        rw [List.getD_eq_getElem?_getD, List.getElem?_eq_getElem hm']; exact List.getElem_mem _
      rw [List.eraseIdx_cons_succ, hg, List.filter_cons, if_pos]
      · rw [ih nd.2 hm']
      · have : a ≠ l.getD m 0 := fun e => nd.1 (e ▸ hmem)
        simpa using this
theorem pick_erase (h : List Int) (ns : List Nat) (m : Nat) : pick h (ns.eraseIdx m) = (pick h ns).eraseIdx m := by
  unfold pick
  induction ns generalizing m with
  | nil => rfl
  | cons a l ih =>
    cases m with
    | zero => rfl
    | succ m => rw [List.eraseIdx_cons_succ, List.map_cons, List.map_cons, List.eraseIdx_cons_succ, ih]
/-- the guide behind a pair, by places -/
def gNext (g : GS) (m t : Nat) : GS := { g with ml := g.ml.eraseIdx m, tl := g.tl.eraseIdx t, won := g.won + hitOf (gM g) (gT g) m t }
theorem gNext_M (g : GS) (m t : Nat) : gM (gNext g m t) = (gM g).eraseIdx m := pick_erase _ _ _
theorem gNext_T (g : GS) (m t : Nat) : gT (gNext g m t) = (gT g).eraseIdx t := pick_erase _ _ _
theorem gNext_ok {g : GS} (ok : GOk g) {m t : Nat} (hm : m < g.ml.length) (ht : t < g.ml.length) : GOk (gNext g m t) := by
  have e := ok.eq
  have l1 := ok.l1
  have a : (g.ml.eraseIdx m).length = g.ml.length - 1 := List.length_eraseIdx_of_lt hm
  have b : (g.tl.eraseIdx t).length = g.tl.length - 1 := List.length_eraseIdx_of_lt (by omega)
  refine ⟨fun i hi => ok.m i (List.mem_of_mem_eraseIdx hi), fun i hi => ok.t i (List.mem_of_mem_eraseIdx hi), ok.nm.sublist (List.eraseIdx_sublist _ _), ok.nt.sublist (List.eraseIdx_sublist _ _), ?_, ?_⟩
  · show (g.ml.eraseIdx m).length ≤ 900
    omega
  · show (g.ml.eraseIdx m).length = (g.tl.eraseIdx t).length
    omega
theorem kept_get {r : List Int} {st : Bool} {k : Nat} (h : k < r.length - 1) : (kept r st).getD k 0 = if st = true then r.getD (k + 1) 0 else r.getD k 0 + 1 := by
  unfold kept
  cases st with
  | true =>
    rw [if_pos rfl, if_pos rfl, List.getD_eq_getElem?_getD, List.getElem?_drop, List.getD_eq_getElem?_getD]
    congr 2
    omega
  | false =>
    have h2 : k < r.length := by omega
    rw [if_neg (by decide), if_neg (by decide)]
    simp [List.getD_eq_getElem?_getD, List.getElem?_take, h, h2]
def rM (s p o : Nat) : Nat := if s = 1 then p else o
def rT (s p o : Nat) : Nat := if s = 1 then o else p
theorem rnd_keeps {g : GS} (ok : GOk g) {s p o : Nat} {layer : Bool} (hs : s = 0 ∨ s = 1) (R : Rnd g s layer p o) {k : Nat} (hk : k < g.ml.length - 1) :
    (rowP (gM (gNext g (rM s p o) (rT s p o))) (gT (gNext g (rM s p o) (rT s p o)))).getD k 0 + hitOf (gM g) (gT g) (rM s p o) (rT s p o) ≤ (kept (rowP (gM g) (gT g)) (!layer)).getD k 0 := by
  have hlM : (gM g).length = (gT g).length := by rw [gM_len, gT_len ok]
  have hp := R.hp
  have ho := R.ho
  have hm : rM s p o < (gM g).length := by rw [gM_len]; unfold rM; split <;> omega
  have ht : rT s p o < (gT g).length := by rw [gT_len ok]; unfold rT; split <;> omega
  have hown : own2 s (rM s p o) (rT s p o) = p := by rcases hs with rfl | rfl <;> rfl
  have hkM : k < (gM g).length - 1 := by rw [gM_len]; exact hk
  rw [gNext_M, gNext_T, kept_get (by rw [rowP_len]; exact hkM)]
  have how := R.how
  cases layer with
  | true =>
    rw [if_pos rfl] at how
    rw [if_neg (by decide)]
    exact row_lay hlM hm ht hs (by rw [hown]; exact how) hkM
  | false =>
    rw [if_neg (by decide)] at how
    obtain ⟨r, har⟩ := how
    rw [if_pos (by decide)]
    refine row_answer hlM hm ht hs (fun i hi hne => ?_) hkM
    rw [hown] at hne
    rcases hs with rfl | rfl
    · exact up_first hlM (by rw [gM_len]; exact ho) har i hi hne
    · exact down_first hlM (by rw [gT_len ok]; exact ho) har i hi hne
/-! ### the promise -/
def lw (s : Nat) : Nat := if s = 1 then 77 else 84
theorem valueV_lw {r : List Int} {l : List Nat} {s : Nat} (hs : s = 0 ∨ s = 1) : valueV r l (sn s) = entryV r (early l (lw s)) (early l (lw (1 - s))) := by
  unfold valueV
  rcases hs with rfl | rfl
  · rw [if_neg (by decide +kernel)]; rfl
  · rw [if_pos (by decide +kernel)]; rfl
theorem early_cons {c : Nat} {l : List Nat} (h : l ≠ []) (x : Nat) : early (c :: l) x = early l x + if c = x then 1 else 0 := by
  unfold early
  rw [List.dropLast_cons_of_ne_nil h, List.count_cons]
  simp
theorem val_step {row beh : List Int} {c : Nat} {l : List Nat} {hit : Int} {s : Nat} (hs : s = 0 ∨ s = 1) (hc : okc c = true) (hr : row.length = l.length + 1) (hb : beh.length = l.length)
    (hkeep : ∀ k, k < beh.length → beh.getD k 0 + hit ≤ (kept row (decide (c = lw s))).getD k 0) (h1 : l.length = 0 → hit ≤ 1 + row.getD 0 0) : hit + valueV beh l (sn s) ≤ valueV row (c :: l) (sn s) := by
  rw [valueV_lw hs, valueV_lw hs]
  have hrow : row ≠ [] := fun e => by rw [e] at hr; simp at hr
  by_cases hl : l = []
  · subst hl
    have e : beh = [] := List.eq_nil_of_length_eq_zero hb
    subst e
    have := h1 rfl
    unfold entryV early
    rw [if_pos rfl, if_neg hrow]
    simp
    simp at this
    omega
  · have hb0 : beh ≠ [] := fun e => by rw [e] at hb; exact hl (List.eq_nil_of_length_eq_zero hb.symm)
    have hl0 : l.length ≠ 0 := fun e => hl (List.eq_nil_of_length_eq_zero e)
    unfold entryV
    rw [if_neg hb0, if_neg hrow, early_cons hl, early_cons hl]
    have ha : early l (lw s) < beh.length := by rw [hb]; exact early_lt rfl hl0 _
    have hk := hkeep _ ha
    rw [kept_get (by omega)] at hk
    have hne : lw s ≠ lw (1 - s) := by rcases hs with rfl | rfl <;> decide
    by_cases e : c = lw s
    · rw [decide_eq_true e, if_pos rfl] at hk
      rw [if_pos e, if_neg (fun z => hne (e.symm.trans z))]
      omega
    · have e2 : c = lw (1 - s) := by
        unfold okc at hc
        simp only [Bool.or_eq_true, decide_eq_true_eq] at hc
        rcases hs with rfl | rfl <;> simp [lw] at e ⊢ <;> omega
      rw [decide_eq_false e, if_neg (by decide)] at hk
      rw [if_neg e, if_pos e2]
      simp only [Nat.add_zero]
      omega
/-- one card each -/
theorem row_one {M T : List Int} (h1 : M.length = 1) (h2 : T.length = 1) : hitOf M T 0 0 = 1 + (rowP M T).getD 0 0 := by
  have hl : M.length = T.length := by omega
  have e : lvls M T 1 = [lvlAt (ord M T) 1 0] := by unfold lvls; rw [h1]; rfl
  have e2 : rowP M T = [lvlAt (ord M T) 1 0] := by
    unfold rowP
    rw [e]
    have := srt_uniq (l := [lvlAt (ord M T) 1 0]) (m := [lvlAt (ord M T) 1 0]) (List.Perm.refl _) (by simp)
    exact this.symm
  have hh : 0 < (hd M T 1).length := by simp [hd]; omega
  rw [e2, hit_b2]
  show _ = 1 + lvlAt (ord M T) 1 0
  rw [lvlAt_lev (.inr rfl) hh]
  have ec : cards M T = [cd M T 0 0, cd M T 1 0] := by unfold cards; rw [h1, h2]; rfl
  unfold lev
  rw [ec]
  simp only [List.map_cons, List.map_nil, List.sum_cons, List.sum_nil, lt3_irr]
  have a : stp (cd M T 0 0) = 1 := rfl
  have b : ((cd M T 1 0).2.1 : Int) = 1 := rfl
  rw [a, b]
  unfold b2
  split <;> simp
/-- the promise goes not up where the guide plays -/
theorem promise_step {g : GS} (ok : GOk g) {s p o c : Nat} {l : List Nat} (hs : s = 0 ∨ s = 1) (hc : okc c = true) (hl : g.ml.length = l.length + 1) (R : Rnd g s (!decide (c = lw (1 - s))) p o) :
    (gNext g (rM s p o) (rT s p o)).won + valueV (rowP (gM (gNext g (rM s p o) (rT s p o))) (gT (gNext g (rM s p o) (rT s p o)))) l (sn (1 - s)) ≤ g.won + valueV (rowP (gM g) (gT g)) (c :: l) (sn (1 - s)) := by
  have hs' : 1 - s = 0 ∨ 1 - s = 1 := by omega
  have hp := R.hp
  have ho := R.ho
  have hm : rM s p o < g.ml.length := by unfold rM; split <;> omega
  have ht : rT s p o < g.ml.length := by unfold rT; split <;> omega
  have ea : (g.ml.eraseIdx (rM s p o)).length = g.ml.length - 1 := List.length_eraseIdx_of_lt hm
  have hbl : (rowP (gM (gNext g (rM s p o) (rT s p o))) (gT (gNext g (rM s p o) (rT s p o)))).length = l.length := by
    rw [rowP_len, gM_len]
    show (g.ml.eraseIdx (rM s p o)).length = _
    omega
  have := val_step (row := rowP (gM g) (gT g)) (beh := rowP (gM (gNext g (rM s p o) (rT s p o))) (gT (gNext g (rM s p o) (rT s p o)))) (c := c) (l := l) (hit := hitOf (gM g) (gT g) (rM s p o) (rT s p o)) hs' hc (by rw [rowP_len, gM_len]; exact hl) hbl (fun k hk => by
    have := rnd_keeps ok hs R (k := k) (by omega)
    rw [Bool.not_not] at this
    exact this) (fun hl0 => by
    have e1 : (gM g).length = 1 := by rw [gM_len]; omega
    have e2 : (gT g).length = 1 := by rw [gT_len ok]; omega
    have z1 : rM s p o = 0 := by omega
    have z2 : rT s p o = 0 := by omega
    rw [z1, z2, row_one e1 e2]
    exact Int.le_refl _)
  show g.won + hitOf (gM g) (gT g) (rM s p o) (rT s p o) + _ ≤ _
  omega
end CL
namespace CL
open PySem PySem.Spec PyProof.Rows L2 DL
section
variable {P : Program} {w : World} {K : PySem.W.Frag} {mg : Str → Option Value} {base : Heap} {f : Addr} {fd : FuncData}
theorem b_divW {ι : Type} {X : ι → Cx} {i j : Int} {Q : D → Prop} (hc : CDivW i j) (q : Q (.int (i / j))) : opb X K .FloorDiv (.int i) (.int j) Q := ⟨opd_sca (.int _) (.int _) (.int _) (fun _ => op_fdivW) (fun H Qv z => ⟨i, j, rfl, rfl, hc, z⟩) q⟩
def wpCell : WPr := fun ds Q R => ∃ (ns : List Int) (k : Nat), ds = [.scr ns, .int k] ∧ k ≤ 10 ∧ ∀ i : Int, Q (.int i)
theorem ok_cell (F : F_q_cell K f fd) (Y : Fre mg) : FnOk P w K mg base (L2N.CX P w) 2 f fd p_q_cell (spD K wpCell) := by
  refine fn_ok F s_q_cell (fun ds Q R h => ?_) fun X E hX O hp tk ds Q R h => ?_
  · obtain ⟨_, _, rfl, _⟩ := h; rfl
  · obtain ⟨ns, k, rfl, hk, q⟩ := h
    obtain ⟨cdv, A', outer, sh, H, rfl⟩ := hX
    refine st_cons (s_ifv (decide (k < ns.length)) ?_ (fun t => ?_) fun t => ?_)
    · walk_at "all"
      refine c_lenS O ?_
      walk_at "all"
      refine ⟨_, rfl, ?_⟩
      rw [decide_eq_decide]
      omega
    · walk_at "st"
      walk_at "all"
      refine i_scr O (List.getElem?_eq_getElem (of_decide_eq_true t)) ?_
      walk_at "all"
      exact q _
    · refine st_nil (st_cons (s_ifv (decide (0 < ns.length)) ?_ (fun t2 => ?_) fun t2 => ?_))
      · walk_at "all"
        refine c_lenS O ?_
        walk_at "all"
        refine ⟨_, rfl, ?_⟩
        rw [decide_eq_decide]
        omega
      · walk_at "st"
        walk_at "all"
        refine i_scr (j := 0) O (List.getElem?_eq_getElem (of_decide_eq_true t2)) ?_
        walk_at "all"
        refine b_mul (by exact .inl ⟨by decide, by decide⟩) ?_
        walk_at "all"
        exact q _
      · refine st_nil ?_
        walk_at "st"
        walk_at "all"
        refine b_mul (by exact .inl ⟨by decide, by decide⟩) ?_
        exact q _
structure Drawn (sz os : List Nat) : Prop where
  len : os.length = sz.length
  lt : ∀ j, j < sz.length → os.getD j 0 < sz.getD j 0
def wpDraws : WPr := fun ds Q R => ∃ (c : Int) (sz : List Nat), ds = [.int c, lN sz] ∧ sz.length ≤ 1000 ∧ (∀ x ∈ sz, 0 < x ∧ x < 2 ^ 60) ∧ ∀ os, Drawn sz os → Q (lN os)
theorem ok_draws (F : F_q_draws K f fd) (Y : Fre mg) : FnOk P w K mg base (L2N.CX P w) 2 f fd p_q_draws (spD K wpDraws) := by
  refine fn_ok F s_q_draws (fun ds Q R h => ?_) fun X E hX O hp tk ds Q R h => ?_
  · obtain ⟨_, _, rfl, _⟩ := h; rfl
  · obtain ⟨c, sz, rfl, hsl, hsz, q⟩ := h
    obtain ⟨cdv, A', outer, sh, H, rfl⟩ := hX
    refine st_cons (s_st (j := 2) O (ev_callB (id := "abs") (hv := bo_abs) O Y.abs ?_))
    walk_at "all"
    refine c_abs ?_
    generalize (if c < 0 then -c else c) = d0
    walk_at "st"
    walk_at "all"
    refine b_pow (by refine ⟨by decide, by decide, by decide⟩) ?_
    walk_at "all"
    generalize (decide ((10 : Int) ^ (18 : Int).toNat ≤ d0)) = gr
    walk_at "st"
    walk_at "all"
    refine st_cons (s_so (j := 5) O (evn_lst (evs_nil ⟨by simp, ?_⟩)))
    refine st_cons (s_forR (js := [6]) O hp Y.range ?_)
    walk_at "all"
    rw [List.length_map]
    refine ⟨sz.length, rfl, by omega, fun n ρ' => ∃ (d : Int) (os : List Nat) (a b : Sl), (os.length = n ∧ ∀ j, j < n → os.getD j 0 < sz.getD j 0) ∧ ρ' = [.va (.int c), .va (lN sz), .va (.int d), .va (.bl gr), .va (.int d0), .ow (os.map fun (n : Nat) => D.int n), a, b], ⟨d0, [], .no, .no, ⟨rfl, fun j h => absurd h (Nat.not_lt_zero _)⟩, rfl⟩, ?_, ?_⟩
    · rintro n ρ' hn ⟨d, os, a, b, ⟨h1, h2⟩, rfl⟩
      have hpos := hsz (sz.getD n 0) (by rw [List.getD_eq_getElem?_getD, List.getElem?_eq_getElem hn]; exact List.getElem_mem _)
      have hlog : ((sz.getD n 0 : Nat) : Int).natAbs.log2 < 9000 := by
        rw [Int.natAbs_natCast]
        have : (sz.getD n 0).log2 < 60 := (Nat.log2_lt (by omega)).mpr hpos.2
        omega
      have grow : ∀ x : Int, ((os.map fun (n : Nat) => D.int n) ++ [D.int (x % (sz.getD n 0 : Nat))]) = (os ++ [(x % (sz.getD n 0 : Nat)).toNat]).map fun (n : Nat) => D.int n := fun x => by
        have h0 : 0 ≤ x % ((sz.getD n 0 : Nat) : Int) := Int.emod_nonneg _ (by omega)
        rw [List.map_append, List.map_cons, List.map_nil, Int.toNat_of_nonneg h0]
      have bnd : ∀ x : Int, (os ++ [(x % (sz.getD n 0 : Nat)).toNat]).length = n + 1 ∧ ∀ j, j < n + 1 → (os ++ [(x % (sz.getD n 0 : Nat)).toNat]).getD j 0 < sz.getD j 0 := fun x => by
        refine ⟨by simp [h1], fun j hj => ?_⟩
        by_cases e : j < n
        · have := h2 j e
          rw [List.getD_eq_getElem?_getD, List.getElem?_append_left (by omega), ← List.getD_eq_getElem?_getD]
          exact this
        · have e2 : j = n := by omega
          subst e2
          rw [List.getD_eq_getElem?_getD, List.getElem?_append_right (by omega), h1]
          have h0 : 0 ≤ x % ((sz.getD j 0 : Nat) : Int) := Int.emod_nonneg _ (by omega)
          have h3 : x % ((sz.getD j 0 : Nat) : Int) < (sz.getD j 0 : Nat) := Int.emod_lt_of_pos _ (by omega)
          simp only [Nat.sub_self, List.getElem?_cons_zero, Option.getD_some]
          omega
      have hos : (os.map fun (n : Nat) => D.int n).length < sizeLine := by rw [List.length_map, sizeLine_eq]; omega
      refine tg_name O (st_one (s_ifv (gr && decide (0 < d)) (evt_w (evw_and (evt_val ?_))) (fun t => ?_) fun t => ?_))
      · walk_at "all"
        refine ⟨gr, rfl, fun e => evw_and1 ?_, fun e => by rw [e]; rfl⟩
        walk_at "all"
        exact ⟨_, rfl, by rw [e]; rfl⟩
      · refine st_cons (s_app (j := 5) O rfl hos ?_)
        walk_at "all"
        refine i_listN O (nget hn) ?_
        refine b_mod (by omega) ?_
        rw [grow]
        walk_at "st"
        walk_at "all"
        refine i_listN O (nget hn) ?_
        refine b_divW ⟨by omega, hlog⟩ ?_
        exact st_nil ⟨_, _, _, _, bnd d, rfl⟩
      · have modb : ∀ x m : Int, 0 < m → m < 2 ^ 40 → -(2 ^ 64) < x % m ∧ x % m < 2 ^ 64 := fun x m h9 h8 => by
          have a1 := Int.emod_nonneg x (show m ≠ 0 by omega)
          have a2 := Int.emod_lt_of_pos x h9
          omega
        walk_at "st"
        walk_at "all"
        refine b_mul (by exact .inl ⟨by decide, by decide⟩) ?_
        walk_at "all"
        refine b_mod (by decide) ?_
        have m1 := modb (d0 + 7919 * (n : Int) + 13) 2147483647 (by decide) (by decide)
        generalize (d0 + 7919 * (n : Int) + 13) % 2147483647 = x1 at m1 ⊢
        walk_at "st"
        walk_at "all"
        refine b_mul (by exact .inl m1) ?_
        walk_at "all"
        refine b_mod (by decide) ?_
        have m2 := modb (x1 * (x1 + 48271)) 2147483629 (by decide) (by decide)
        generalize (x1 * (x1 + 48271)) % 2147483629 = x2 at m2 ⊢
        walk_at "st"
        walk_at "all"
        refine b_mul (by exact .inl m2) ?_
        walk_at "all"
        refine b_mul (by exact .inl ⟨by decide, by decide⟩) ?_
        walk_at "all"
        refine b_mod (by decide) ?_
        generalize (x2 * (x2 + 69621) + 31 * (n : Int)) % 2147483647 = x3
        refine st_one (s_app (j := 5) O rfl hos ?_)
        walk_at "all"
        refine b_div ⟨by decide, by decide⟩ ?_
        walk_at "all"
        refine i_listN O (nget hn) ?_
        refine b_mod (by omega) ?_
        rw [grow]
        exact ⟨_, _, _, _, bnd _, rfl⟩
    · rintro ρ' ⟨d, os, a, b, ⟨h1, h2⟩, rfl⟩
      refine st_unown 5 rfl ?_
      walk_at "st"
      walk_at "all"
      exact q os ⟨h1, h2⟩
end
end CL
namespace CL
open PySem PySem.Spec PyProof.Rows L2 DL
section
variable {P : Program} {w : World} {K : PySem.W.Frag} {mg : Str → Option Value} {base : Heap} {f : Addr} {fd : FuncData}
theorem rep_list (z : Int) (n : Nat) (x : Nat) (h : z = x) : ((List.range n).map fun _ => D.int z) = (List.replicate n x).map fun (m : Nat) => D.int m := by
  subst h
  refine List.ext_getElem (by simp) fun i h1 h2 => ?_
  simp
def wpHand : WPr := fun ds Q R => ∃ (c k : Int) (n : Nat), ds = [.int c, .int n, .int k] ∧ n ≤ 900 ∧ ∀ ns : List Int, ns.length = n → Q (lI ns)
theorem ok_hand (F : F_q_hand K f fd) (Y : Fre mg) (k1 : Kn P w K mg base "_law_draws" 2 wpDraws) : FnOk P w K mg base (L2N.CX P w) 3 f fd p_q_hand (spD K wpHand) := by
  refine fn_ok F s_q_hand (fun ds Q R h => ?_) fun X E hX O hp tk ds Q R h => ?_
  · obtain ⟨_, _, _, rfl, _⟩ := h; rfl
  · obtain ⟨c, k, n, rfl, hn, q⟩ := h
    obtain ⟨cdv, A', outer, sh, H, rfl⟩ := hX
    have fin : ∀ (g : Nat → Int) (os : List Nat), os.length = n → Q (.lst (os.map fun x => D.int (g x))) := fun g os ho => by
      have := q (os.map g) (by rw [List.length_map]; exact ho)
      unfold lI at this
      rw [List.map_map] at this
      exact this
    have dr : ∀ (x : Nat) (Q' : D → Prop), 0 < x → x < 2 ^ 60 → (∀ os : List Nat, os.length = n → Q' (lN os)) → wpDraws [.int c, .lst ((List.replicate n x).map fun (m : Nat) => D.int m)] Q' R := fun x Q' h1 h2 hq =>
      ⟨c, List.replicate n x, rfl, by simp; omega, fun y hy => by rw [(List.mem_replicate.mp hy).2]; exact ⟨h1, h2⟩, fun os ho => hq os (by rw [ho.len]; simp)⟩
    refine st_cons (s_ifv (decide (k = 0)) ?_ (fun t => ?_) fun t => ?_)
    · walk_at "all"
      exact ⟨_, rfl, rfl⟩
    · refine st_one (s_ret (ev_of_evn (en_c (α := Nat) [("_law_x", 3)] [3] O (ev_call O k1 (by decide) ?_))))
      walk_at "all"
      refine ev_of_evn (en_r [("_law_k", 4)] [4] O Y.range ?_)
      walk_at "all"
      refine ⟨n, fun _ => true, fun _ => .int 3, rfl, by omega, fun m hm => ?_, ?_⟩
      · refine tg_name (O.blk _) (evi_nil ⟨rfl, fun _ => ?_⟩)
        walk_at "all"
        rfl
      rw [rangeN, rep_list 3 n 3 rfl]
      walk_at "all"
      refine dr 3 _ (by decide) (by decide) fun os ho => ⟨os, fun (m : Nat) => .int m, fun _ => true, fun x => .int ((x : Int) - 1), rfl, by omega, fun x hx => ?_, ?_⟩
      · refine tg_name (O.blk _) (evi_nil ⟨rfl, fun _ => ?_⟩)
        walk_at "all"
        rfl
      rw [allL]
      exact fin (fun x => (x : Int) - 1) os ho
    refine st_nil (st_cons (s_ifv (decide (k = 1)) ?_ (fun t => ?_) fun t => ?_))
    · walk_at "all"
      exact ⟨_, rfl, rfl⟩
    · refine st_one (s_ret (ev_of_evn (en_c (α := Nat) [("_law_x", 3)] [3] O (ev_call O k1 (by decide) ?_))))
      walk_at "all"
      refine ev_of_evn (en_r [("_law_k", 4)] [4] O Y.range ?_)
      walk_at "all"
      refine ⟨n, fun _ => true, fun _ => .int (2 * (n : Int) + 1), rfl, by omega, fun m hm => ?_, ?_⟩
      · refine tg_name (O.blk _) (evi_nil ⟨rfl, fun _ => ?_⟩)
        walk_at "all"
        refine b_mul (by exact .inl ⟨by decide, by decide⟩) ?_
        walk_at "all"
        rfl
      rw [rangeN, rep_list _ n (2 * n + 1) (by omega)]
      walk_at "all"
      refine dr (2 * n + 1) _ (by omega) (by omega) fun os ho => ⟨os, fun (m : Nat) => .int m, fun _ => true, fun x => .int ((x : Int) - n), rfl, by omega, fun x hx => ?_, ?_⟩
      · refine tg_name (O.blk _) (evi_nil ⟨rfl, fun _ => ?_⟩)
        walk_at "all"
        rfl
      rw [allL]
      exact fin (fun x => (x : Int) - n) os ho
    refine st_nil (st_cons (s_ifv (decide (k = 2)) ?_ (fun t => ?_) fun t => ?_))
    · walk_at "all"
      exact ⟨_, rfl, rfl⟩
    · refine st_one (s_ret (ev_of_evn (en_c (α := Nat) [("_law_x", 3)] [3] O (ev_call O k1 (by decide) ?_))))
      walk_at "all"
      refine ev_of_evn (en_r [("_law_k", 4)] [4] O Y.range ?_)
      walk_at "all"
      refine ⟨n, fun _ => true, fun _ => .int (2 * (10 : Int) ^ (15 : Int).toNat + 1), rfl, by omega, fun m hm => ?_, ?_⟩
      · refine tg_name (O.blk _) (evi_nil ⟨rfl, fun _ => ?_⟩)
        walk_at "all"
        refine b_pow (by refine ⟨by decide, by decide, by decide⟩) ?_
        refine b_mul (by exact .inl ⟨by decide, by decide⟩) ?_
        walk_at "all"
        rfl
      rw [rangeN, rep_list _ n (2 * 10 ^ 15 + 1) (by decide)]
      walk_at "all"
      refine dr (2 * 10 ^ 15 + 1) _ (by decide) (by decide) fun os ho => ⟨os, fun (m : Nat) => .int m, fun _ => true, fun x => .int ((x : Int) - (10 : Int) ^ (15 : Int).toNat), rfl, by omega, fun x hx => ?_, ?_⟩
      · refine tg_name (O.blk _) (evi_nil ⟨rfl, fun _ => ?_⟩)
        walk_at "all"
        refine b_pow (by refine ⟨by decide, by decide, by decide⟩) ?_
        walk_at "all"
        rfl
      rw [allL]
      exact fin (fun x => (x : Int) - (10 : Int) ^ (15 : Int).toNat) os ho
    · refine st_nil (st_one (s_ret (ev_of_evn (en_c (α := Nat) [("_law_x", 3)] [3] O (ev_call O k1 (by decide) ?_)))))
      walk_at "all"
      refine ev_of_evn (en_r [("_law_k", 4)] [4] O Y.range ?_)
      walk_at "all"
      refine ⟨n, fun _ => true, fun _ => .int ((n : Int) + 2), rfl, by omega, fun m hm => ?_, ?_⟩
      · refine tg_name (O.blk _) (evi_nil ⟨rfl, fun _ => ?_⟩)
        walk_at "all"
        rfl
      rw [rangeN, rep_list _ n (n + 2) (by omega)]
      walk_at "all"
      refine dr (n + 2) _ (by omega) (by omega) fun os ho => ⟨os, fun (m : Nat) => .int m, fun _ => true, fun x => .int (x : Int), rfl, by omega, fun x hx => ?_, ?_⟩
      · refine tg_name (O.blk _) (evi_nil ⟨rfl, fun _ => ?_⟩)
        walk_at "all"
        rfl
      rw [allL]
      exact fin (fun x => (x : Int)) os ho
theorem sum_ones : ∀ l : List Nat, (l.map fun _ => 1).sum = l.length
  | [] => rfl
  | a :: l => by rw [List.map_cons, List.sum_cons, sum_ones l, List.length_cons]; omega
theorem tx_app2 (a b : List Nat) : tx a ++ tx b = tx (a ++ b) := by
  show (⟨a.toArray ++ b.toArray⟩ : Str) = ⟨(a ++ b).toArray⟩
  simp
theorem join_signs : ∀ l : List Nat, Str.join (tx []) (l.map fun c => tx [c]) = tx l
  | [] => rfl
  | [c] => rfl
  | c :: d :: r => by
    have ih := join_signs (d :: r)
    show tx [c] ++ tx [] ++ Str.join (tx []) ((d :: r).map fun c => tx [c]) = _
    rw [ih, tx_app2, tx_app2]
    rfl
def wpWord : WPr := fun ds Q R => ∃ (c : Int) (n : Nat), ds = [.int c, .int n] ∧ n ≤ 900 ∧ ∀ l : List Nat, l.length = n → allOk l → Q (.str (tx l))
theorem ok_word (F : F_q_word K f fd) (Y : Fre mg) (k1 : Kn P w K mg base "_law_draws" 2 wpDraws) : FnOk P w K mg base (L2N.CX P w) 3 f fd p_q_word (spD K wpWord) := by
  refine fn_ok F s_q_word (fun ds Q R h => ?_) fun X E hX O hp tk ds Q R h => ?_
  · obtain ⟨_, _, rfl, _⟩ := h; rfl
  · obtain ⟨c, n, rfl, hn, q⟩ := h
    obtain ⟨cdv, A', outer, sh, H, rfl⟩ := hX
    refine st_one (s_ret (ev_bm O PySem.F.plainAttrs_str PySem.F.slot_str_join PySem.F.type_str_join ?_))
    walk_at "all"
    refine ⟨.str _, ?_⟩
    refine evs_cons (ev_of_evn (en_c (α := Nat) [("_law_x", 2)] [2] O (ev_call O k1 (by decide) ?_)))
    walk_at "all"
    refine ev_of_evn (en_r [("_law_k", 3)] [3] O Y.range ?_)
    walk_at "all"
    refine ⟨n, fun _ => true, fun _ => .int 2, rfl, by omega, fun m hm => ?_, ?_⟩
    · refine tg_name (O.blk _) (evi_nil ⟨rfl, fun _ => ?_⟩)
      walk_at "all"
      rfl
    rw [rangeN, rep_list 2 n 2 rfl]
    walk_at "all"
    refine ⟨c, List.replicate n 2, rfl, by simp; omega, fun y hy => by rw [(List.mem_replicate.mp hy).2]; decide, fun os ho => ?_⟩
    have hol : os.length = n := by rw [ho.len]; simp
    have hob : ∀ x ∈ os, x < 2 := fun x hx => by
      obtain ⟨j, hj, e⟩ := List.mem_iff_getElem.mp hx
      have := ho.lt j (by simp; omega)
      rw [List.getD_eq_getElem?_getD, List.getElem?_eq_getElem hj, e] at this
      simp at this
      have h2 : j < n := by omega
      simp [List.getElem?_replicate, h2] at this
      exact this
    refine ⟨os, fun (m : Nat) => .int m, fun _ => true, fun x => .str (tx [if x = 0 then 77 else 84]), rfl, by omega, fun x hx => ?_, ?_⟩
    · have hx2 := hob x hx
      have e : ("MT" : Str) = tx [77, 84] := by decide +kernel
      refine tg_name (O.blk _) (evi_nil ⟨rfl, fun _ => ?_⟩)
      walk_at "all"
      rw [e]
      refine i_str (c := if x = 0 then 77 else 84) (by rw [tx_len, sizeLine_eq]; decide) (atI_nat ?_) ?_
      · rcases (show x = 0 ∨ x = 1 by omega) with rfl | rfl <;> rfl
      · rfl
    rw [allL]
    have e3 : (os.map fun x => D.str (tx [if x = 0 then 77 else 84])) = ((os.map fun x => if x = 0 then 77 else 84).map fun c => tx [c]).map .str := by
      rw [List.map_map, List.map_map]; rfl
    rw [e3]
    have e4 : (Str.ofString "") = tx [] := by decide +kernel
    refine evs_nil ?_
    rw [e4]
    refine m_join O ?_ ?_
    · have h1 : (((os.map fun x => if x = 0 then 77 else 84).map fun c => tx [c]).map (·.length)).sum = os.length := by
        rw [List.map_map, List.map_map]
        have : (((fun x : Str => x.length) ∘ fun c => tx [c]) ∘ fun x : Nat => if x = 0 then 77 else 84) = fun _ => 1 := by funext x; rfl
        rw [this]
        exact sum_ones os
      rw [h1]
      simp [Str.length]
      omega
    · have e5 : Txt.join (tx []) ((os.map fun x => if x = 0 then 77 else 84).map fun c => tx [c]) = tx (os.map fun x => if x = 0 then 77 else 84) := by
        unfold Txt.join
        rw [StrLaws.glued_eq_join]
        exact join_signs _
      rw [e5]
      refine q _ (by rw [List.length_map]; exact hol) fun c hc => ?_
      obtain ⟨x, _, rfl⟩ := List.mem_map.mp hc
      split <;> rfl
def wpFlat : WPr := fun ds Q R => ∃ (A B : List Int) (b : Bool), ds = [.tup [lI A, lI B], .bl b] ∧ A.length ≤ 900 ∧ B.length = A.length ∧ ∀ A' B' : List Int, A'.length = A.length → B'.length = A.length → Q (.tup [lI A', lI B'])
theorem ok_flat (F : F_q_flat K f fd) : FnOk P w K mg base (L2N.CX P w) 2 f fd p_q_flat (spD K wpFlat) := by
  refine fn_ok F s_q_flat (fun ds Q R h => ?_) fun X E hX O hp tk ds Q R h => ?_
  · obtain ⟨_, _, _, rfl, _⟩ := h; rfl
  · obtain ⟨A, B, b, rfl, hA, hB, q⟩ := h
    obtain ⟨cdv, A', outer, sh, H, rfl⟩ := hX
    refine st_cons (s_ifv b (evt_val ?_) (fun t => ?_) fun t => ?_)
    · walk_at "all"
      exact ⟨_, rfl, rfl⟩
    · refine st_one (s_ret (ev_tup (evs_cons (ev_of_evn (en_c (α := Int) [("_law_x", 2)] [2] O ?_)))))
      walk_at "all"
      refine i_tupN (j := 0) (d := lI A) O rfl ?_
      refine ⟨A, .int, fun _ => true, fun _ => .int (A.getD 0 0), rfl, by omega, fun x hx => ?_, ?_⟩
      · refine tg_name (O.blk _) (evi_nil ⟨rfl, fun _ => ?_⟩)
        walk_at "all"
        refine i_tupN (j := 0) (d := lI A) (O.blk _) rfl ?_
        walk_at "all"
        exact i_listN (j := 0) (O.blk _) (iget (List.length_pos_of_mem hx)) rfl
      rw [allL]
      refine evs_cons (ev_of_evn (en_c (α := Int) [("_law_x", 2)] [2] O ?_))
      walk_at "all"
      refine i_tupN (j := 1) (d := lI B) O rfl ?_
      refine ⟨B, .int, fun _ => true, fun _ => .int (B.getD 0 0), rfl, by omega, fun x hx => ?_, ?_⟩
      · refine tg_name (O.blk _) (evi_nil ⟨rfl, fun _ => ?_⟩)
        walk_at "all"
        refine i_tupN (j := 1) (d := lI B) (O.blk _) rfl ?_
        walk_at "all"
        exact i_listN (j := 0) (O.blk _) (iget (List.length_pos_of_mem hx)) rfl
      rw [allL]
      refine evs_nil ⟨by simp, ?_⟩
      have := q (A.map fun _ => A.getD 0 0) (B.map fun _ => B.getD 0 0) (by simp) (by simp [hB])
      unfold lI at this
      rw [List.map_map, List.map_map] at this
      exact this
    · refine st_nil ?_
      walk_at "st"
      walk_at "all"
      exact q A B rfl hB
end
end CL
namespace DL
open PySem PySem.Spec PyProof.Rows L2
/-- x[e], x a list of one's own -/
theorem ev_subO {ι : Type} {X : ι → Cx} {P : Program} {w : World} {K : PySem.W.Frag} {mg : Str → Option Value} {base : Heap} {k : Nat} {E : XK} {ρ : Rho} {R : Er → Prop} {pos p : Pos} {N : List Str} {sc : Scope} [cn : Cn X N sc] {x : Str} {j : Nat} {ds : List D} {b : Expr} {Q : D → Prop} (O : Ok X P w K mg base k E) (hj : ρ[j]? = some (.ow ds)) (hx : nokB N sc x j = true)
    (h : ev X K E b ρ (fun y => ∃ (n : Nat) (d : D), y = .int n ∧ ds[n]? = some d ∧ Q d) R) (hs : PlainIx b := by exact fun _ _ => rfl) : ev X K E (.Subscript (.Name x p) b pos) ρ Q R := ⟨fun B G H σ eB eG c w Qv kk => by
  have a1 := Bool.and_eq_true_iff.mp hx
  have a2 := Bool.and_eq_true_iff.mp a1.2
  have hd := Bool.or_eq_false_iff.mp (show (x == ("__debug__" : Str) || x == ("__classdict__" : Str)) = false by simpa using a2.2)
  have hv : ∀ i, Vis (X i).env.scope x := fun i => by
    rw [cn.hS i]
    have hv := a2.1
    unfold visB at hv
    simp only [Bool.or_eq_true, decide_eq_true_eq] at hv
    rcases hv with (h | h) | h
    · exact .inl h
    · exact .inr (.inl h)
    · exact .inr (.inr h)
  obtain ⟨l, vs, h1, h2, h3, h4, h5⟩ := c.ow j ds hj
  refine ⟨_, fun i => pe_ix (wx_ok i) (pe_var (by rw [cn.hN i]; exact of_decide_eq_true a1.1) (hv i) hd.1 hd.2) (we_ok i) hs, .ref l, h1, h.run B G H σ eB eG c w _ fun y vy G1 H1 ⟨n, d, hy, hg, q⟩ s1 r1 => ?_⟩
  subst hy
  obtain ⟨v, hv2, rv⟩ := h5.get hg
  rw [Rep.int_iff.mp r1]
  exact ⟨rIxL K, fun i => by have := ix_list (X := X i); rw [O.K i] at this; exact this, l, vs, n, v, rfl, rfl, SqL.of (s1.h _ _ h4), atI_nat hv2, kk d v G1 H1 q s1 (rv.mono s1.g)⟩⟩
end DL
namespace CL
open PySem PySem.Spec PyProof.Rows L2 DL
section
variable {P : Program} {w : World} {K : PySem.W.Frag} {mg : Str → Option Value} {base : Heap} {f : Addr} {fd : FuncData}
def wpHands : WPr := fun ds Q R => ∃ (ns : List Int) (a n : Nat), ds = [.scr ns, .int a, .int n] ∧ a ≤ 5 ∧ n ≤ 900 ∧ ∀ A B : List Int, A.length = n → B.length = n → Q (.tup [lI A, lI B])
theorem ok_hands (F : F_q_hands K f fd) (Y : Fre mg) (k0 : Kn P w K mg base "_law_cell" 2 wpCell) (k1 : Kn P w K mg base "_law_draws" 2 wpDraws) (k2 : Kn P w K mg base "_law_hand" 3 wpHand) : FnOk P w K mg base (L2N.CX P w) 4 f fd p_q_hands (spD K wpHands) := by
  refine fn_ok F s_q_hands (fun ds Q R h => ?_) fun X E hX O hp tk ds Q R h => ?_
  · obtain ⟨_, _, _, rfl, _⟩ := h; rfl
  · obtain ⟨ns, a, n, rfl, ha, hn, q⟩ := h
    obtain ⟨cdv, A', outer, sh, H, rfl⟩ := hX
    refine st_cons (s_st (j := 3) O (ev_call O k1 (by decide) (evs_cons (ev_call O k0 (by decide) ?_))))
    walk_at "all"
    refine ⟨ns, a, rfl, by omega, fun c0 => ?_⟩
    walk_at "all"
    refine ⟨c0, [6, 4, 3, 40], rfl, by simp, by intro x hx; simp at hx; rcases hx with rfl | rfl | rfl | rfl <;> decide, fun os ho => ?_⟩
    have hol : os.length = 4 := ho.len
    have sh0 : ∀ j, j < 4 → (os.map fun (m : Nat) => D.int m)[j]? = some (.int (os.getD j 0 : Nat)) := fun j hj => nget (by omega)
    have e1 : (a : Int) + 1 = ((a + 1 : Nat) : Int) := by omega
    have e2 : (a : Int) + 2 = ((a + 2 : Nat) : Int) := by omega
    refine st_cons (s_st (j := 4) O (ev_call O k2 (by decide) (evs_cons (ev_call O k0 (by decide) ?_))))
    walk_at "all"
    rw [e1]
    refine ⟨ns, a + 1, rfl, by omega, fun c1 => ?_⟩
    walk_at "all"
    refine i_listN (j := 0) O (sh0 0 (by decide)) ?_
    walk_at "all"
    refine b_mod (by decide) ?_
    walk_at "all"
    refine ⟨c1, _, n, rfl, hn, fun M hM => ?_⟩
    refine st_cons (s_st (j := 5) O (ev_call O k2 (by decide) (evs_cons (ev_call O k0 (by decide) ?_))))
    walk_at "all"
    rw [e2]
    refine ⟨ns, a + 2, rfl, by omega, fun c2 => ?_⟩
    walk_at "all"
    refine i_listN (j := 0) O (sh0 0 (by decide)) ?_
    walk_at "all"
    refine b_mod (by decide) ?_
    walk_at "all"
    refine ⟨c2, _, n, rfl, hn, fun T hT => ?_⟩
    have fin : ∀ T : List Int, T.length = n → ∀ z : Rho, z = [.va (.scr ns), .va (.int a), .va (.int n), .va (.lst (os.map fun (m : Nat) => D.int m)), .va (lI M), .va (lI T), .no] →
        stm (body1 P w K mg base n_q_hands "_law_hands" c_q_hands f cdv A' outer sh H E) K E (match defBody (tp 51) with | [_, _, _, _, a, b] => [a, b] | _ => []) z { nx := fun _ => Q .non, rt := Q } R := fun T hT z hz => by
      subst hz
      refine st_cons (s_ifv (decide (os.getD 0 0 = 5) && decide (0 < os.getD 2 0)) (evt_w (evw_and ?_)) (fun t => ?_) fun t => ?_)
      · walk_at "all"
        refine i_listN (j := 0) O (sh0 0 (by decide)) ?_
        walk_at "all"
        have ez : decide (((os.getD 0 0 : Nat) : Int) = 5) = decide (os.getD 0 0 = 5) := by rw [decide_eq_decide]; omega
        rw [ez]
        refine ⟨_, rfl, fun e => evw_and1 ?_, fun e => by rw [e]; rfl⟩
        walk_at "all"
        refine i_listN (j := 2) O (sh0 2 (by decide)) ?_
        walk_at "all"
        refine ⟨_, rfl, ?_⟩
        rw [e, Bool.true_and, decide_eq_decide]
        omega
      · refine st_cons (s_c (α := Int) (j := 5) [("_law_x", 6)] [6] O ?_)
        walk_at "all"
        refine ⟨M, .int, fun _ => true, fun x => .int (x + 3 - 2 * (os.getD 1 0 : Nat)), rfl, by omega, fun x hx => ?_, ?_⟩
        · refine tg_name (O.blk _) (evi_nil ⟨rfl, fun _ => ?_⟩)
          walk_at "all"
          refine i_listN (j := 1) (O.blk _) (sh0 1 (by decide)) ?_
          refine b_mul (by exact .inl ⟨by decide, by decide⟩) ?_
          walk_at "all"
          rfl
        rw [allL]
        refine st_nil ?_
        walk_at "st"
        walk_at "all"
        have := q M (M.map fun x => x + 3 - 2 * (os.getD 1 0 : Nat)) hM (by rw [List.length_map]; exact hM)
        unfold lI at this
        rw [List.map_map] at this
        exact this
      · refine st_nil ?_
        walk_at "st"
        walk_at "all"
        exact q M T hM hT
    refine st_cons (s_ifv (decide (os.getD 0 0 = 4)) ?_ (fun t => ?_) fun t => ?_)
    · walk_at "all"
      refine i_listN (j := 0) O (sh0 0 (by decide)) ?_
      walk_at "all"
      refine ⟨_, rfl, ?_⟩
      rw [decide_eq_decide]
      omega
    · refine st_cons (s_so (j := 5) O (evn_callT (id := "list") (hv := bo_list) O Y.list ?_))
      walk_at "all"
      refine c_list O ?_
      refine st_cons (s_ifv (decide (0 < n) && decide (0 < os.getD 1 0)) (evt_w (evw_and ?_)) (fun t2 => ?_) fun t2 => ?_)
      · walk_at "all"
        have ez : decide ((0 : Int) < (n : Int)) = decide (0 < n) := by rw [decide_eq_decide]; omega
        rw [ez]
        refine ⟨_, rfl, fun e => evw_and1 ?_, fun e => by rw [e]; rfl⟩
        walk_at "all"
        refine i_listN (j := 1) O (sh0 1 (by decide)) ?_
        walk_at "all"
        refine ⟨_, rfl, ?_⟩
        rw [e, Bool.true_and, decide_eq_decide]
        omega
      · have hn0 : 0 < n := of_decide_eq_true (Bool.and_eq_true_iff.mp t2).1
        have hmod : ((os.getD 3 0 : Nat) : Int) % (n : Int) = ((os.getD 3 0 % n : Nat) : Int) := by omega
        have hlt : os.getD 3 0 % n < M.length := by rw [hM]; exact Nat.mod_lt _ hn0
        refine st_cons (s_put (j := 5) O rfl (ec_bin (ec_bin (ev_subO (j := 5) O rfl (by decide +kernel) ?_))))
        walk_at "all"
        refine i_listN (j := 3) O (sh0 3 (by decide)) ?_
        walk_at "all"
        refine b_mod (by omega) ?_
        rw [hmod]
        refine ⟨_, _, rfl, iget hlt, ?_⟩
        walk_at "all"
        refine i_listN (j := 1) O (sh0 1 (by decide)) ?_
        walk_at "all"
        refine i_listN (j := 3) O (sh0 3 (by decide)) ?_
        walk_at "all"
        refine b_mod (by omega) ?_
        rw [hmod]
        refine ⟨_, rfl, by rw [List.length_map]; exact hlt, ?_⟩
        rw [← List.map_set]
        refine st_nil (st_nil (st_unown 5 rfl ?_))
        exact fin (M.set (os.getD 3 0 % n) _) (by rw [List.length_set]; exact hM) _ rfl
      · refine st_nil (st_nil (st_unown 5 rfl ?_))
        exact fin M hM _ rfl
    · exact st_nil (fin T hT _ rfl)
end
end CL
namespace DL
open PySem PySem.Spec PyProof.Rows L2
/-- data G grows beside an object at a that is being made -/
structure Wk (G H : Hp) (a : Addr) (G' H' : Hp) : Prop where
  g : Ex G G'
  i : Ex G' H'
  n : ∀ b, G' b ≠ none → G b ≠ none ∨ H b = none
  k : ∀ b o, b ≠ a → H b = some o → H' b = some o
  na : G' a = none
  ha : H a ≠ none
theorem Wk.zero {G H : Hp} {a : Addr} (e : Ex G H) (na : G a = none) (ha : H a ≠ none) : Wk G H a G H := ⟨Ex.refl _, e, fun _ h => .inl h, fun _ _ _ h => h, na, ha⟩
theorem Wk.step {G H G1 H1 G2 H2 : Hp} {a : Addr} {o : HO} (w : Wk G H a G1 H1) (s : Stp G1 H1 G2 H2) (hb : H1 a ≠ none) : Wk G H a G2 (upd H2 a o) := by
  have na := s.out w.na hb
  refine ⟨w.g.trans s.g, fun b u e => ?_, fun b h => ?_, fun b u ne e => ?_, na, w.ha⟩
  · rw [upd_ne (fun z => by rw [z, na] at e; cases e)]
    exact s.i b u e
  · rcases s.n b h with h | h
    · exact w.n b h
    · refine .inr ?_
      by_cases ne : b = a
      · rw [ne] at h; exact absurd h hb
      · cases q : H b with
        | none => rfl
        | some u => rw [w.k b u ne q] at h; cases h
  · rw [upd_ne ne]
    exact s.h b u (w.k b u ne e)
section
variable {ι : Type} {X : ι → Cx}
theorem wb_cons {a : Stmt} {as : List Stmt} {Dv : Ends} {σ : L2.St} {H : Hp} (h : WS X a { Dv with nx := fun σ' H' => WB X as Dv σ' H' } σ H) : WB X (a :: as) Dv σ H := ⟨_, fun i => pss_cons (ws_ok i) (wb_ok i), h⟩
theorem wb_nil {Dv : Ends} {σ : L2.St} {H : Hp} (h : Dv.nx σ H) : WB X [] Dv σ H := ⟨_, fun i => pss_nil, h⟩
/-- self.f = e, e gives a new list: it is new data -/
theorem fld_readN {P : Program} {w : World} {K : PySem.W.Frag} {mg : Str → Option Value} {base : Heap} {k : Nat} {E : XK} {ρ : Rho} {R : Er → Prop} {pos : Pos} {x f : Str} {j : Nat} {e : Expr} {p0 p1 : Pos} {N : List Str} {sc : Scope} [cn : Cn X N sc] (O : Ok X P w K mg base k E) (hx : nokB N sc x j = true) {B G H : Hp} {σ : L2.St} {Dv : Ends} {a C dx : Addr} {fs : List (Str × V)} {z : List D} (h : evn X K E e ρ (fun d => d = z) R)
    (eB : Ex B H) (eG : Ex G H) (c : EnvR K B G H σ ρ) (wi : Wish K B E R) (hσ : σ[j]? = some (some (.ref a))) (ha : H a = some (.ins C dx fs)) (cl : Cls K C) (na : NoAttr K C f) (hl : fs.length < 1000)
    (kk : ∀ l G' H', H l = none → Stp G H G' H' → Rep K G' (.lst z) (.ref l) → Dv.nx σ (upd H' a (.ins C dx (putF f (.ref l) fs)))) (hs : ∀ i, swapsWith e (some (.Attribute (.Name x p0) f p1)) pos.line (X i).env = pure false := by intro _; rfl) :
    WS X (.Assign [.Attribute (.Name x p0) f p1] e pos) Dv σ H := by
  have a1 := Bool.and_eq_true_iff.mp hx
  have a2 := Bool.and_eq_true_iff.mp a1.2
  have hd := Bool.or_eq_false_iff.mp (show (x == ("__debug__" : Str) || x == ("__classdict__" : Str)) = false by simpa using a2.2)
  have hv : ∀ i, Vis (X i).env.scope x := fun i => by
    rw [cn.hS i]
    have hv := a2.1
    unfold visB at hv
    simp only [Bool.or_eq_true, decide_eq_true_eq] at hv
    rcases hv with (h | h) | h
    · exact .inl h
    · exact .inr (.inl h)
    · exact .inr (.inr h)
  refine ⟨sFld K (tVar j) (WE X e) f, fun i => by
    have z := ps_fld (X := X i) (f := f) (pos := pos) (pos' := p1) (pe_var (pos := p0) (by rw [cn.hN i]; exact of_decide_eq_true a1.1) (hv i) hd.1 hd.2) (we_ok (e := e) i) (hs i)
    rw [O.K i] at z
    exact z, h.run B G H σ eB eG c wi _ fun ds l vs G' H' hq s h1 h2 h3 r => ?_⟩
  subst hq
  obtain ⟨t1, t2⟩ := own_data s h1 h2 h3 r
  exact ⟨.ref a, hσ, a, C, dx, fs, rfl, s.h _ _ ha, cl, na, hl, kk l _ H' h1 t1 t2⟩
end
end DL
namespace CL
open PySem PySem.Spec PyProof.Rows L2 DL
section
variable {P : Program} {w : World} {K : PySem.W.Frag} {mg : Str → Option Value} {base : Heap} {f : Addr} {fd : FuncData}
def gNew (side many : Str) (M T : List Int) : GS := ⟨side, many, 0, M, T, List.range M.length, List.range T.length⟩
/-- OpenHands.__init__: self at a -/
def spOI (K : PySem.W.Frag) : Sp := fun vs H Qv _ => ∃ G a dx vM vT M T, vs = [.ref a, vM, vT] ∧ H a = some (.ins (CO K) dx []) ∧ Ex G H ∧ G a = none ∧ Rep K G (lI M) vM ∧ Rep K G (lI T) vT ∧ M.length ≤ 1000 ∧ T.length ≤ 1000 ∧
  ∀ G' H' a1 a2 a3 a4, Wk G H a G' H' → H' a = some (.ins (CO K) dx (ohF a1 a2 a3 a4)) → G' a1 = some (.lst (M.map .int)) → G' a2 = some (.lst (T.map .int)) → G' a3 = some (.lst ((List.range M.length).map fun (n : Nat) => .int n)) → G' a4 = some (.lst ((List.range T.length).map fun (n : Nat) => .int n)) → (H a1 = none ∧ H a2 = none ∧ H a3 = none ∧ H a4 = none) → Qv .non H'
theorem natV {G : Hp} {ns : List Nat} {v : V} (r : Rep K G (lN ns) v) : ∃ a, v = .ref a ∧ G a = some (.lst (ns.map fun (n : Nat) => .int n)) := by
  obtain ⟨a, vs, rfl, ha, hr⟩ := Rep.lst_iff.mp r
  have e : vs = ns.map fun (n : Nat) => V.int n := Reps.scas (sca_map (fun (n : Nat) => D.int n) (fun (n : Nat) => V.int n) (fun n => Sca.int n) ns) hr
  subst e
  exact ⟨a, rfl, ha⟩
theorem no_slots3 {d e : D} : (∀ (i : Nat) ds, ([.no, .va d, .va e] : Rho)[i]? ≠ some (.ow ds)) ∧ ∀ (i : Nat) g, ([.no, .va d, .va e] : Rho)[i]? ≠ some (.gu g) := by
  constructor <;> intro i z h <;> match i, h with
    | 0, h => cases h
    | 1, h => cases h
    | 2, h => cases h
    | n + 3, h => cases h
theorem ok_oinit (F : F_m_OpenHands_init K f fd) (Y : Fre mg) (T : ObK K) : FnOk P w K mg base (L2N.CX P w) 2 f fd p_m_OpenHands_init (spOI K) := by
  refine FunD.ok F s_m_OpenHands_init (fun vs H Qv E h => ?_) fun cdv A outer sh H vs Qv E hr h => ?_
  · obtain ⟨G, a, dx, vM, vT, M, T, rfl, _⟩ := h; rfl
  · obtain ⟨G, a, dx, vM, vT, M, T', rfl, ha, eG, na, rM, rT, hM, hT, kk⟩ := h
    have O : Ok (body1 P w K mg base n_m_OpenHands_init "OpenHands.__init__" c_m_OpenHands_init f cdv A outer sh H E) P w K mg base 1 E := ⟨fun _ => rfl, fun _ => rfl, fun _ => rfl, fun _ => rfl, fun _ => rfl, fun _ => rfl, fun _ => s_m_OpenHands_init.nd, fun _ => hr, fun _ => L2N.passes_call (L2N.takes_of rfl rfl rfl rfl) fun _ _ _ _ h => h⟩
    refine ⟨_, wb_ok (X := body1 P w K mg base n_m_OpenHands_init "OpenHands.__init__" c_m_OpenHands_init f cdv A outer sh H E) (), ?_⟩
    have e0 : EnvR K (fun b => if b = a then none else H b) G H (start n_m_OpenHands_init [.ref a, vM, vT]) [.no, .va (lI M), .va (lI T')] := by
      refine ⟨rfl, fun i d h => ?_, fun i ds h => absurd h (no_slots3.1 i ds), fun i _ ds _ _ h _ => absurd h (no_slots3.1 i ds), ⟨fun _ => (default, default), fun i g h => absurd h (no_slots3.2 i g), fun i _ g _ _ h _ => absurd h (no_slots3.2 i g)⟩⟩
      match i, h with
      | 1, h => cases h; exact ⟨vM, rfl, rM⟩
      | 2, h => cases h; exact ⟨vT, rfl, rT⟩
      | 0, h => cases h
      | n + 3, h => cases h
    have eB : ∀ {G1 H1 : Hp}, Wk G H a G1 H1 → Ex (fun b => if b = a then none else H b) H1 := fun wk b o e => by
      by_cases q : b = a
      · simp only [if_pos q] at e; cases e
      · simp only [if_neg q] at e; exact wk.k b o q e
    have env : ∀ {G1 H1 : Hp}, Wk G H a G1 H1 → EnvR K (fun b => if b = a then none else H b) G1 H1 (start n_m_OpenHands_init [.ref a, vM, vT]) [.no, .va (lI M), .va (lI T')] := fun {G1 H1} wk => by
      refine ⟨e0.len, fun i d h => ?_, fun i ds h => absurd h (no_slots3.1 i ds), fun i _ ds _ _ h _ => absurd h (no_slots3.1 i ds), ⟨fun _ => (default, default), fun i g h => absurd h (no_slots3.2 i g), fun i _ g _ _ h _ => absurd h (no_slots3.2 i g)⟩⟩
      obtain ⟨v, h1, h2⟩ := e0.va i d h
      exact ⟨v, h1, h2.mono wk.g⟩
    have w0 : Wk G H a G H := Wk.zero eG na (by rw [ha]; exact nofun)
    refine wb_cons (fld_readN (R := fun _ => False) (ρ := [.no, .va (lI M), .va (lI T')]) (j := 0) (z := M.map .int) O (by decide +kernel) (evn_callT (id := "list") (hv := bo_list) O Y.list ?_) (eB w0) w0.i (env w0) Wish.none rfl ha T.clO (T.naO _ (by simp [flO])) (by decide) fun a1 G1 H1 f1 s1 r1 => ?_)
    · walk_at "all"
      exact c_list O rfl
    obtain ⟨a1', e1, h1⟩ := Rep.intL r1
    cases e1
    have w1 := w0.step (o := .ins (CO K) dx (putF "mine" (.ref a1) [])) s1 (by rw [ha]; exact nofun)
    refine wb_cons (fld_readN (R := fun _ => False) (ρ := [.no, .va (lI M), .va (lI T')]) (j := 0) (z := T'.map .int) O (by decide +kernel) (evn_callT (id := "list") (hv := bo_list) O Y.list ?_) (eB w1) w1.i (env w1) Wish.none rfl upd_same T.clO (T.naO _ (by simp [flO])) (by exact (by decide : 1 < 1000)) fun a2 G2 H2 f2 s2 r2 => ?_)
    · walk_at "all"
      exact c_list O rfl
    obtain ⟨a2', e2, h2⟩ := Rep.intL r2
    cases e2
    have w2 := w1.step (o := .ins (CO K) dx (putF "theirs" (.ref a2) (putF "mine" (.ref a1) []))) s2 (by rw [upd_same]; exact nofun)
    refine wb_cons (fld_readN (R := fun _ => False) (ρ := [.no, .va (lI M), .va (lI T')]) (j := 0) (z := (List.range M.length).map fun (n : Nat) => .int n) O (by decide +kernel) (evn_lrg O Y.list Y.range ?_) (eB w2) w2.i (env w2) Wish.none rfl upd_same T.clO (T.naO _ (by simp [flO])) (by exact (by decide : 2 < 1000)) fun a3 G3 H3 f3 s3 r3 => ?_)
    · walk_at "all"
      rw [List.length_map]
      exact ⟨M.length, rfl, by omega, rfl⟩
    obtain ⟨a3', e3, h3⟩ := natV r3
    cases e3
    have w3 := w2.step (o := .ins (CO K) dx (putF "my_left" (.ref a3) (putF "theirs" (.ref a2) (putF "mine" (.ref a1) [])))) s3 (by rw [upd_same]; exact nofun)
    refine wb_cons (fld_readN (R := fun _ => False) (ρ := [.no, .va (lI M), .va (lI T')]) (j := 0) (z := (List.range T'.length).map fun (n : Nat) => .int n) O (by decide +kernel) (evn_lrg O Y.list Y.range ?_) (eB w3) w3.i (env w3) Wish.none rfl upd_same T.clO (T.naO _ (by simp [flO])) (by exact (by decide : 3 < 1000)) fun a4 G4 H4 f4 s4 r4 => ?_)
    · walk_at "all"
      rw [List.length_map]
      exact ⟨T'.length, rfl, by omega, rfl⟩
    obtain ⟨a4', e4, h4⟩ := natV r4
    cases e4
    have w4 := w3.step (o := .ins (CO K) dx (putF "their_left" (.ref a4) (putF "my_left" (.ref a3) (putF "theirs" (.ref a2) (putF "mine" (.ref a1) []))))) s4 (by rw [upd_same]; exact nofun)
    refine wb_nil ?_
    have old : ∀ {G5 H5 : Hp} {l : Addr}, Wk G H a G5 H5 → H5 a ≠ none → H5 l = none → H l = none := fun {G5 H5 l} w hn hl => by
      cases q : H l with
      | none => rfl
      | some o =>
        by_cases ne : l = a
        · rw [ne] at hl; exact absurd hl hn
        · rw [w.k l o ne q] at hl; cases hl
    exact kk G4 _ a1 a2 a3 a4 w4 (by rw [upd_same]; rfl) (s4.g _ _ (s3.g _ _ (s2.g _ _ h1))) (s4.g _ _ (s3.g _ _ h2)) (s4.g _ _ h3) h4
      ⟨f1, old w1 (by rw [upd_same]; exact nofun) f2, old w2 (by rw [upd_same]; exact nofun) f3, old w3 (by rw [upd_same]; exact nofun) f4⟩
end
end CL
namespace DL
open PySem PySem.Spec PyProof.Rows L2
theorem Wk.call {G H G1 H1 G2 H2 : Hp} {a x dx : Addr} {o o' o2 : HO} (w : Wk G H a G1 H1) (hb : H1 a ≠ none) (hx : H1 x = none) (hd : H1 dx = none) (w2 : Wk G1 (upd (upd H1 dx o2) x o) x G2 H2) : Wk G H a G2 (upd H2 a o') := by
  have nax : a ≠ x := fun z => hb (z ▸ hx)
  have nad : a ≠ dx := fun z => hb (z ▸ hd)
  have h5 : ∀ b, b ≠ x → b ≠ dx → (upd (upd H1 dx o2) x o) b = H1 b := fun b h1 h2 => by rw [upd_ne h1, upd_ne h2]
  have na : G2 a = none := by
    cases q : G2 a with
    | none => rfl
    | some u =>
      rcases w2.n a (by rw [q]; exact nofun) with z | z
      · exact absurd w.na z
      · rw [h5 a nax nad] at z; exact absurd z hb
  refine ⟨w.g.trans w2.g, fun b u e => ?_, fun b h => ?_, fun b u ne e => ?_, na, w.ha⟩
  · rw [upd_ne (fun z => by rw [z, na] at e; cases e)]
    exact w2.i b u e
  · rcases w2.n b h with h | h
    · exact w.n b h
    · refine .inr ?_
      have h1 : b ≠ x := fun z => by rw [z, upd_same] at h; cases h
      have h2 : b ≠ dx := fun z => by rw [z, upd_ne (fun q => h1 (z.trans q)), upd_same] at h; cases h
      rw [h5 b h1 h2] at h
      by_cases ne : b = a
      · rw [ne] at h; exact absurd h hb
      · cases q : H b with
        | none => rfl
        | some u => rw [w.k b u ne q] at h; cases h
  · rw [upd_ne ne]
    have e1 := w.k b u ne e
    have h1 : b ≠ x := fun z => by rw [z, hx] at e1; cases e1
    have h2 : b ≠ dx := fun z => by rw [z, hd] at e1; cases e1
    exact w2.k b u h1 (by rw [h5 b h1 h2]; exact e1)
end DL
namespace CL
open PySem PySem.Spec PyProof.Rows L2 DL
section
variable {P : Program} {w : World} {K : PySem.W.Frag} {mg : Str → Option Value} {base : Heap} {f : Addr} {fd : FuncData}
/-- Guide.__init__: self at a -/
def spGI (K : PySem.W.Frag) : Sp := fun vs H Qv E => ∃ G a dx vM vT M T side many, vs = [.ref a, vM, vT, .str side, .str many] ∧ H a = some (.ins (CG K) dx []) ∧ Ex G H ∧ G a = none ∧ Rep K G (lI M) vM ∧ Rep K G (lI T) vT ∧ M.length ≤ 1000 ∧ T.length ≤ 1000 ∧
  (M.length ≠ T.length → ∀ cls dd H', Ex H H' → ErrAt K H' (eHands M.length T.length) cls dd → E cls dd H') ∧
  (M.length = T.length → ∀ G' H' h dy a1 a2 a3 a4, Wk G H a G' H' → H' a = some (.ins (CG K) dx (gdF (gNew side many M T) h)) → H' h = some (.ins (CO K) dy (ohF a1 a2 a3 a4)) → H h = none → G' h = none → h ≠ a →
    G' a1 = some (.lst (M.map .int)) → G' a2 = some (.lst (T.map .int)) → G' a3 = some (.lst ((List.range M.length).map fun (n : Nat) => .int n)) → G' a4 = some (.lst ((List.range T.length).map fun (n : Nat) => .int n)) → (H a1 = none ∧ H a2 = none ∧ H a3 = none ∧ H a4 = none) → Qv .non H')
theorem no_slots5 {a b c d : D} : (∀ (i : Nat) ds, ([.no, .va a, .va b, .va c, .va d] : Rho)[i]? ≠ some (.ow ds)) ∧ ∀ (i : Nat) g, ([.no, .va a, .va b, .va c, .va d] : Rho)[i]? ≠ some (.gu g) := by
  constructor <;> intro i z h <;> match i, h with
    | 0, h => cases h
    | 1, h => cases h
    | 2, h => cases h
    | 3, h => cases h
    | 4, h => cases h
    | n + 5, h => cases h
theorem ok_ginit (F : F_m_Guide_init K f fd) (T0 : ObK K) (k1 : Kn P w K mg base "check_hands" 2 wpCheckHands) {fO : Addr} {fdO : FuncData} (FO : FnOk P w K mg base (L2N.CX P w) 2 fO fdO p_m_OpenHands_init (spOI K)) (MO : Mk K (CO K) fO) (bO : Binds K fdO p_m_OpenHands_init []) (gO : mg "OpenHands" = some (.ref (CO K))) :
    FnOk P w K mg base (L2N.CX P w) 4 f fd p_m_Guide_init (spGI K) := by
  refine FunD.ok F s_m_Guide_init (fun vs H Qv E h => ?_) fun cdv A outer sh H vs Qv E hr h => ?_
  · obtain ⟨G, a, dx, vM, vT, M, T, side, many, rfl, _⟩ := h; rfl
  · obtain ⟨G, a, dx, vM, vT, M, T, side, many, rfl, ha, eG, na, rM, rT, hM, hT, ke, kk⟩ := h
    have O : Ok (body1 P w K mg base n_m_Guide_init "Guide.__init__" c_m_Guide_init f cdv A outer sh H E) P w K mg base 3 E := ⟨fun _ => rfl, fun _ => rfl, fun _ => rfl, fun _ => rfl, fun _ => rfl, fun _ => rfl, fun _ => s_m_Guide_init.nd, fun _ => hr, fun _ => L2N.passes_call (L2N.takes_of rfl rfl rfl rfl) fun _ _ _ _ h => h⟩
    refine ⟨_, wb_ok (X := body1 P w K mg base n_m_Guide_init "Guide.__init__" c_m_Guide_init f cdv A outer sh H E) (), ?_⟩
    have envB : ∀ {B G1 H1 : Hp}, Ex G G1 → EnvR K B G1 H1 (start n_m_Guide_init [.ref a, vM, vT, .str side, .str many]) [.no, .va (lI M), .va (lI T), .va (.str side), .va (.str many)] := fun {B G1 H1} e => by
      refine ⟨rfl, fun i d h => ?_, fun i ds h => absurd h (no_slots5.1 i ds), fun i _ ds _ _ h _ => absurd h (no_slots5.1 i ds), ⟨fun _ => (default, default), fun i g h => absurd h (no_slots5.2 i g), fun i _ g _ _ h _ => absurd h (no_slots5.2 i g)⟩⟩
      match i, h with
      | 1, h => cases h; exact ⟨vM, rfl, rM.mono e⟩
      | 2, h => cases h; exact ⟨vT, rfl, rT.mono e⟩
      | 3, h => cases h; exact ⟨_, rfl, (Sca.str _).rep⟩
      | 4, h => cases h; exact ⟨_, rfl, (Sca.str _).rep⟩
      | 0, h => cases h
      | n + 5, h => cases h
    have eB : ∀ {G1 H1 : Hp}, Wk G H a G1 H1 → Ex (fun b => if b = a then none else H b) H1 := fun wk b o e => by
      by_cases q : b = a
      · simp only [if_pos q] at e; cases e
      · simp only [if_neg q] at e; exact wk.k b o q e
    have w0 : Wk G H a G H := Wk.zero eG na (by rw [ha]; exact nofun)
    have fst : ev (body1 P w K mg base n_m_Guide_init "Guide.__init__" c_m_Guide_init f cdv A outer sh H E) K E (match defBody (mp 46 0) with | .Expr e _ :: _ => e | _ => .Constant .none 0 ⟨0, 0, 0, 0⟩) [.no, .va (lI M), .va (lI T), .va (.str side), .va (.str many)] (fun _ => M.length = T.length) (fun er => er = eHands M.length T.length ∧ M.length ≠ T.length) := by
      refine ev_call O k1 (by decide) ?_
      walk_at "all"
      exact ⟨M, T, rfl, fun e => e, fun e => ⟨rfl, e⟩⟩
    refine wb_cons ⟨_, fun i => ps_expr (we_ok i) rfl, fst.run H G H _ (Ex.refl _) eG (envB (Ex.refl _)) (fun er cls dd H' ⟨e1, e2⟩ ex hat => by subst e1; exact ke e2 cls dd H' ex hat) _ fun d v G1 H1 hl s1 _ => ?_⟩
    have naG1 : G1 a = none := s1.out na (by rw [ha]; exact nofun)
    have w1 : Wk G H a G1 H1 := ⟨s1.g, s1.i, s1.n, fun b o _ e => s1.h b o e, naG1, by rw [ha]; exact nofun⟩
    have ha1 := s1.h _ _ ha
    refine wb_cons (fld_read (R := fun _ => False) (ρ := [.no, .va (lI M), .va (lI T), .va (.str side), .va (.str many)]) (j := 0) (Q := fun d => d = .str side) O (by decide +kernel) ?_ (eB w1) w1.i (envB w1.g) Wish.none rfl ha1 T0.clG (T0.naG _ (by simp [flG])) (by decide) fun d v G2 H2 hd s2 r2 => ?_)
    · walk_at "all"
      rfl
    subst hd
    rw [Rep.str_iff.mp r2]
    have w2 := w1.step (o := .ins (CG K) dx (putF "side" (.str side) [])) s2 (by rw [ha1]; exact nofun)
    refine wb_cons (fld_read (R := fun _ => False) (ρ := [.no, .va (lI M), .va (lI T), .va (.str side), .va (.str many)]) (j := 0) (Q := fun d => d = .str many) O (by decide +kernel) ?_ (eB w2) w2.i (envB w2.g) Wish.none rfl upd_same T0.clG (T0.naG _ (by simp [flG])) (by exact (by decide : 1 < 1000)) fun d v G3 H3 hd s3 r3 => ?_)
    · walk_at "all"
      rfl
    subst hd
    rw [Rep.str_iff.mp r3]
    have w3 := w2.step (o := .ins (CG K) dx (putF "many" (.str many) (putF "side" (.str side) []))) s3 (by rw [upd_same]; exact nofun)
    refine wb_cons (fld_read (R := fun _ => False) (ρ := [.no, .va (lI M), .va (lI T), .va (.str side), .va (.str many)]) (j := 0) (Q := fun d => d = .int 0) O (by decide +kernel) ?_ (eB w3) w3.i (envB w3.g) Wish.none rfl upd_same T0.clG (T0.naG _ (by simp [flG])) (by exact (by decide : 2 < 1000)) fun d v G4 H4 hd s4 r4 => ?_)
    · walk_at "all"
      rfl
    subst hd
    rw [Rep.int_iff.mp r4]
    have w4 := w3.step (o := .ins (CG K) dx (putF "won" (.int 0) (putF "many" (.str many) (putF "side" (.str side) [])))) s4 (by rw [upd_same]; exact nofun)
    have args : evs (body1 P w K mg base n_m_Guide_init "Guide.__init__" c_m_Guide_init f cdv A outer sh H E) K E (match defBody (mp 46 0) with | [_, _, _, _, .Assign _ (.Call _ es _ _) _] => es | _ => []) [.no, .va (lI M), .va (lI T), .va (.str side), .va (.str many)] (fun ds => ds = [lI M, lI T]) (fun _ => False) := by
      walk_at "all"
      rfl
    refine wb_cons ⟨sFld K (tVar 0) (tMake (CO K) (spOI K) [] E (WA (body1 P w K mg base n_m_Guide_init "Guide.__init__" c_m_Guide_init f cdv A outer sh H E) (match defBody (mp 46 0) with | [_, _, _, _, .Assign _ (.Call _ es _ _) _] => es | _ => []))) "hands", fun i => ps_fld (pe_var (i := 0) rfl (Or.inl rfl) (by decide) (by decide)) (pe_make (X := body1 P w K mg base n_m_Guide_init "Guide.__init__" c_m_Guide_init f cdv A outer sh H E i) (E := E) (x := "OpenHands") MO FO (((O.room i)).mono (by decide)) rfl gO bO .nil (O.pass i) (wa_ok i) (by decide) rfl rfl) rfl, ?_⟩
    refine args.run _ _ _ _ (eB w4) w4.i (envB w4.g) Wish.none _ fun ds vs G5 H5 hds s5 r5 => ?_
    subst hds
    obtain ⟨v1, t1, rfl, q1, q2⟩ := r5.inv
    obtain ⟨v2, rfl, q3⟩ := q2.one
    have w5 : Wk G H a G5 H5 := ⟨w4.g.trans s5.g, s5.i, fun b h => (s5.n b h).elim (w4.n b) fun z => .inr (by
      cases q : H b with
      | none => rfl
      | some u =>
        by_cases ne : b = a
        · rw [ne, upd_same] at z; cases z
        · rw [w4.k b u ne q] at z; cases z), fun b o ne e => s5.h b o (w4.k b o ne e), s5.out w4.na (by rw [upd_same]; exact nofun), w4.ha⟩
    have ha5 : H5 a = some (.ins (CG K) dx (putF "won" (.int 0) (putF "many" (.str many) (putF "side" (.str side) [])))) := s5.h _ _ upd_same
    have hb5 : H5 a ≠ none := by rw [ha5]; exact nofun
    intro x dy hx hdy hne
    have nax : a ≠ x := fun z => hb5 (z ▸ hx)
    have nad : a ≠ dy := fun z => hb5 (z ▸ hdy)
    have gx : G5 x = none := w5.i.free hx
    have i5 : Ex G5 (upd (upd H5 dy (.own x)) x (.ins (CO K) dy [])) := fun b u e => by
      rw [upd_ne (fun z => by rw [z, gx] at e; cases e), upd_ne (fun z => by rw [z, w5.i.free hdy] at e; cases e)]
      exact w5.i b u e
    refine ⟨G5, x, dy, v1, v2, M, T, rfl, upd_same, i5, gx, q1, q3, hM, hT, fun G6 H6 a1 a2 a3 a4 w6 h6 g1 g2 g3 g4 fr => ⟨rfl, ?_⟩⟩
    have w7 := w5.call (o' := .ins (CG K) dx (putF "hands" (.ref x) (putF "won" (.int 0) (putF "many" (.str many) (putF "side" (.str side) []))))) hb5 hx hdy w6
    have ha6 : H6 a = some (.ins (CG K) dx (putF "won" (.int 0) (putF "many" (.str many) (putF "side" (.str side) [])))) := w6.k a _ nax (by rw [upd_ne nax, upd_ne nad]; exact ha5)
    refine ⟨.ref a, rfl, a, CG K, dx, _, rfl, ha6, T0.clG, T0.naG _ (by simp [flG]), (by exact (by decide : 3 < 1000)), wb_nil ?_⟩
    have frs : ∀ {l : Addr}, (upd (upd H5 dy (.own x)) x (.ins (CO K) dy [])) l = none → H l = none := fun {l} z => by
      have n1 : l ≠ x := fun q => by rw [q, upd_same] at z; cases z
      have n2 : l ≠ dy := fun q => by rw [q, upd_ne hne, upd_same] at z; cases z
      rw [upd_ne n1, upd_ne n2] at z
      cases q : H l with
      | none => rfl
      | some o =>
        by_cases ne : l = a
        · rw [ne] at z; exact absurd z hb5
        · rw [w5.k l o ne q] at z; cases z
    refine kk hl G6 _ x dy a1 a2 a3 a4 w7 (by rw [upd_same]; rfl) (by rw [upd_ne (Ne.symm nax)]; exact h6) ?_ w6.na (Ne.symm nax) g1 g2 g3 g4 ⟨frs fr.1, frs fr.2.1, frs fr.2.2.1, frs fr.2.2.2⟩
    cases q : H x with
    | none => rfl
    | some u => rw [w5.k x u (Ne.symm nax) q] at hx; cases hx
end
end CL
namespace CL
open PySem PySem.Spec PyProof.Rows L2 DL
section
variable {P : Program} {w : World} {K : PySem.W.Frag} {mg : Str → Option Value} {base : Heap} {f : Addr} {fd : FuncData}
def PairBad (g : GS) (m t : Int) (R : Er → Prop) : Prop := (m ∉ castL g.ml ∧ R (eCard "mine" m)) ∨ (m ∈ castL g.ml ∧ t ∉ castL g.tl ∧ R (eCard "theirs" t))
def wpRemBad : WPr := fun ds Q R => ∃ (g : GS) (m t : Int), ds = [.oh g, .int m, .int t] ∧ PairBad g m t R
theorem ok_rem_bad (F : F_m_OpenHands_remove_pair K f fd) (Z : Xs P K mg) (T : ObK K) : FnOk P w K mg base (L2N.CX P w) 3 f fd p_m_OpenHands_remove_pair (spD K wpRemBad) := by
  refine fn_ok F s_m_OpenHands_remove_pair (fun ds Q R h => ?_) fun X E hX O hp tk ds Q R h => ?_
  · obtain ⟨_, _, _, rfl, _⟩ := h; rfl
  · obtain ⟨g, m, t, rfl, hb⟩ := h
    obtain ⟨cdv, A, outer, sh, H, rfl⟩ := hX
    refine st_cons (s_ifv (!decide (m ∈ castL g.ml)) (et_cmp ?_) (fun e => ?_) fun e => ?_)
    · walk_at "all"
      refine ev_fld O T ?_
      walk_at "all"
      refine ⟨_, .ml g, ?_⟩
      rw [lN_cast]
      exact ⟨o_notIn O ⟨_, rfl, rfl⟩⟩
    · have hno : m ∉ castL g.ml := by simpa using e
      refine st_one (s_raise O tk Z.bc Z.gbc (by decide) ?_)
      walk_at "all"
      refine ⟨_, .cons (.str _) (.cons (.int _) .nil), rfl, ?_⟩
      rcases hb with h | h
      · exact h.2
      · exact absurd h.1 hno
    · have hin : m ∈ castL g.ml := by simpa using e
      obtain ⟨_, hno, hR⟩ : m ∈ castL g.ml ∧ t ∉ castL g.tl ∧ R (eCard "theirs" t) := by
        rcases hb with h | h
        · exact absurd hin h.1
        · exact h
      refine st_nil (st_cons (s_ifv true (et_cmp ?_) (fun _ => ?_) fun e => nomatch e))
      · walk_at "all"
        refine ev_fld O T ?_
        walk_at "all"
        refine ⟨_, .tl g, ?_⟩
        rw [lN_cast]
        exact ⟨o_notIn O ⟨_, rfl, by simpa using hno⟩⟩
      · refine st_one (s_raise O tk Z.bc Z.gbc (by decide) ?_)
        walk_at "all"
        exact ⟨_, .cons (.str _) (.cons (.int _) .nil), rfl, hR⟩
def wpSawBad : WPr := fun ds Q R => ∃ (g : GS) (m t : Int), ds = [.gd g, .int m, .int t] ∧ PairBad g m t R
theorem ok_saw_bad (F : F_m_Guide_saw K f fd) (T : ObK K) (k1 : MeK P w K mg base (CO K) "remove_pair" 3 wpRemBad) : FnOk P w K mg base (L2N.CX P w) 4 f fd p_m_Guide_saw (spD K wpSawBad) := by
  refine fn_ok F s_m_Guide_saw (fun ds Q R h => ?_) fun X E hX O hp tk ds Q R h => ?_
  · obtain ⟨_, _, _, rfl, _⟩ := h; rfl
  · obtain ⟨g, m, t, rfl, hb⟩ := h
    obtain ⟨cdv, A, outer, sh, H, rfl⟩ := hX
    refine st_one (s_if (evt_val (ev_meth (fl := flO) O k1 (by decide) (ev_fld O T ?_) (by decide +kernel))))
    walk_at "all"
    refine ⟨_, .hands g, .oh g, ?_⟩
    walk_at "all"
    exact ⟨g, m, t, rfl, hb⟩
/-- what _law_call lets out -/
inductive CallBad (g : GS) : Str → D → D → Er → Prop
  | lay (a b : D) (h : g.ml.length = 0) : CallBad g "lay" a b eTurn
  | answer (s : Nat) (i : Int) (b : D) (hs : s = 0 ∨ s = 1) (hd : g.side = sn s) (hm : g.many = sn (1 - s)) (h : i ∉ castL (lf g (1 - s))) : CallBad g "answer" (.int i) b (eCard (sn (1 - s)) i)
  | saw (m t : Int) (e : Er) (h : PairBad g m t (fun x => x = e)) : CallBad g "saw" (.int m) (.int t) e
  | promise (l : List Nat) (b : D) (p : Nat) (hl : l.length ≤ 1000) (h : wordErr l g.ml.length = some p) : CallBad g "promise" (.str (tx l)) b (eWord p)
def wpCallBad : WPr := fun ds Q R => ∃ (g : GS) (wh : Str) (a b : D) (e : Er) (s : Nat), ds = [.gd g, .str wh, a, b] ∧ GOk g ∧ (s = 0 ∨ s = 1) ∧ g.side = sn s ∧ CallBad g wh a b e ∧ R e
theorem ok_call_bad (F : F_q_call K f fd) (k1 : MeK P w K mg base (CG K) "lay" 6 wpLay) (k2 : MeK P w K mg base (CG K) "answer" 6 wpAnswer) (k3 : MeK P w K mg base (CG K) "saw" 4 wpSawBad) (k4 : MeK P w K mg base (CG K) "promise" 7 wpPromise) : FnOk P w K mg base (L2N.CX P w) 8 f fd p_q_call (spD K wpCallBad) := by
  refine fn_ok F s_q_call (fun ds Q R h => ?_) fun X E hX O hp tk ds Q R h => ?_
  · obtain ⟨_, _, _, _, _, _, rfl, _⟩ := h; rfl
  · obtain ⟨g, wh, a, b, e, s, rfl, ok, hs, hsd, hb, hR⟩ := h
    obtain ⟨cdv, A, outer, sh, H, rfl⟩ := hX
    refine st_cons (s_ifv (decide (wh = "lay")) ?_ (fun c => ?_) fun c => ?_)
    · walk_at "all"
      exact ⟨_, rfl, rfl⟩
    · have hw := of_decide_eq_true c
      refine st_one (s_ret (ev_meth0 (fl := flG) O k1 (by decide) ?_ (by decide +kernel)))
      walk_at "all"
      refine ⟨.gd g, g, s, rfl, ok, hs, hsd, fun _ => ?_, fun hne => ?_⟩
      · cases hb with
        | lay _ _ h => exact hR
        | answer => exact absurd hw (by decide +kernel)
        | saw => exact absurd hw (by decide +kernel)
        | promise => exact absurd hw (by decide +kernel)
      · cases hb with
        | lay _ _ h => exact absurd h hne
        | answer => exact absurd hw (by decide +kernel)
        | saw => exact absurd hw (by decide +kernel)
        | promise => exact absurd hw (by decide +kernel)
    refine st_nil (st_cons (s_ifv (decide (wh = "answer")) ?_ (fun c2 => ?_) fun c2 => ?_))
    · walk_at "all"
      exact ⟨_, rfl, rfl⟩
    · have hw := of_decide_eq_true c2
      refine st_one (s_ret (ev_meth (fl := flG) O k2 (by decide) ?_ (by decide +kernel)))
      walk_at "all"
      refine ⟨.gd g, ?_⟩
      walk_at "all"
      cases hb with
      | lay => exact absurd hw (by decide +kernel)
      | saw => exact absurd hw (by decide +kernel)
      | promise => exact absurd hw (by decide +kernel)
      | answer s' i _ hs' hd' hm h =>
        have es : s' = s := (sn_inj hs' hs).mp (by rw [← hd', hsd])
        subst es
        refine ⟨g, s', 1 - s', i, rfl, ok, hs', by omega, hd', hm, fun _ => hR, fun p n hi hp2 => ?_⟩
        exfalso
        apply h
        rw [hi]
        exact mem_castL.mpr (List.mem_of_getElem? hp2)
    refine st_nil (st_cons (s_ifv (decide (wh = "saw")) ?_ (fun c3 => ?_) fun c3 => ?_))
    · walk_at "all"
      exact ⟨_, rfl, rfl⟩
    · have hw := of_decide_eq_true c3
      refine st_one (s_ret (ev_meth (fl := flG) O k3 (by decide) ?_ (by decide +kernel)))
      walk_at "all"
      refine ⟨.gd g, ?_⟩
      walk_at "all"
      cases hb with
      | lay => exact absurd hw (by decide +kernel)
      | answer => exact absurd hw (by decide +kernel)
      | promise => exact absurd hw (by decide +kernel)
      | saw m t _ h =>
        refine ⟨g, m, t, rfl, ?_⟩
        rcases h with ⟨h1, h2⟩ | ⟨h1, h2, h3⟩
        · exact .inl ⟨h1, by rw [h2]; exact hR⟩
        · exact .inr ⟨h1, h2, by rw [h3]; exact hR⟩
    · refine st_nil (st_one (s_ret (ev_meth (fl := flG) O k4 (by decide) ?_ (by decide +kernel))))
      walk_at "all"
      refine ⟨.gd g, ?_⟩
      walk_at "all"
      cases hb with
      | lay => exact absurd rfl (of_decide_eq_false c)
      | answer => exact absurd rfl (of_decide_eq_false c2)
      | saw => exact absurd rfl (of_decide_eq_false c3)
      | promise l _ p hl h =>
        refine ⟨g, l, rfl, ok, hl, fun p' hp' => ?_, fun hn => ?_⟩
        · rw [h] at hp'
          cases hp'
          exact hR
        · rw [h] at hn; cases hn
end
end CL
namespace CL
open PySem PySem.Spec PyProof.Rows L2 DL
section
variable {P : Program} {w : World} {K : PySem.W.Frag} {mg : Str → Option Value} {base : Heap} {f : Addr} {fd : FuncData}
def wpUnlike : WPr := fun ds Q R => ∃ (M T : List Int) (side wish : Str), ds = [lI M, lI T, .str side, .str wish] ∧ M.length ≤ 1000 ∧ T.length ≤ 1000 ∧ M.length ≠ T.length ∧ Q (.bl true)
def wpUnlikes : WPr := fun ds Q R => ∃ (M T : List Int) (side wish : Str), ds = [.tup [lI M, lI T], .str side, .str wish] ∧ M.length ≤ 900 ∧ M.length = T.length ∧ Q (.bl true)
theorem ok_unlikes (F : F_q_unlikes K f fd) (k1 : Kn P w K mg base "_law_unlike" 6 wpUnlike) : FnOk P w K mg base (L2N.CX P w) 7 f fd p_q_unlikes (spD K wpUnlikes) := by
  refine fn_ok F s_q_unlikes (fun ds Q R h => ?_) fun X E hX O hp tk ds Q R h => ?_
  · obtain ⟨_, _, _, _, rfl, _⟩ := h; rfl
  · obtain ⟨M, T, side, wish, rfl, hM, hl, q⟩ := h
    obtain ⟨cdv, A, outer, sh, H, rfl⟩ := hX
    have a1 : (M.map D.int) ++ [D.int 0] = (M ++ [0]).map .int := by rw [List.map_append]; rfl
    have a2 : (T.map D.int) ++ [D.int 0, D.int 0] = (T ++ [0, 0]).map .int := by rw [List.map_append]; rfl
    refine st_cons (s_ifv false (evt_not (evt_val (ev_call O k1 (by decide) (evs_cons (ec_bin ?_))))) (fun t => nomatch t) fun _ => st_nil ?_)
    · walk_at "all"
      refine i_tupN (j := 0) (d := lI M) O rfl ?_
      walk_at "all"
      refine b_cat (by simp; rw [sizeLine_eq]; omega) ?_
      rw [a1]
      walk_at "all"
      refine i_tupN (j := 1) (d := lI T) O rfl ?_
      walk_at "all"
      exact ⟨M ++ [0], T, side, wish, rfl, by simp; omega, by omega, by simp; omega, true, rfl, rfl⟩
    · refine st_one (s_ret (ev_call O k1 (by decide) ?_))
      walk_at "all"
      refine i_tupN (j := 0) (d := lI M) O rfl ?_
      walk_at "all"
      refine i_tupN (j := 1) (d := lI T) O rfl ?_
      walk_at "all"
      refine b_cat (by simp; rw [sizeLine_eq]; omega) ?_
      rw [a2]
      walk_at "all"
      exact ⟨M, T ++ [0, 0], side, wish, rfl, by omega, by simp; omega, by simp; omega, q⟩
/-- an error as _law_try tells it -/
inductive ErD : Er → D → Prop
  | turn : ErD eTurn (.tup [.str "OutOfTurn"])
  | card (s : Str) (i : Int) : ErD (eCard s i) (.tup [.str "BadCard", .str s, .int i])
  | word (i : Int) : ErD (eWord i) (.tup [.str "BadWord", .int i])
def wpTry : WPr := fun ds Q R => ∃ (g : GS) (wh : Str) (a b : D) (e : Er) (s : Nat) (d : D), ds = [.gd g, .str wh, a, b] ∧ GOk g ∧ (s = 0 ∨ s = 1) ∧ g.side = sn s ∧ CallBad g wh a b e ∧ ErD e d ∧ Q d
end
end CL
namespace CL
open PySem PySem.Spec PyProof.Rows L2 DL
section
variable {P : Program} {w : World} {K : PySem.W.Frag} {mg : Str → Option Value} {base : Heap} {f : Addr} {fd : FuncData}
theorem ok_BC : PyData.strOk ("BadCard" : Str) = true := by decide +kernel
theorem ok_BW : PyData.strOk ("BadWord" : Str) = true := by decide +kernel
theorem ok_OT : PyData.strOk ("OutOfTurn" : Str) = true := by decide +kernel
theorem lay_card (s : Str) (i : Int) (h : PyData.strOk s = true) : Lay (.tup [.str "BadCard", .str s, .int i]) 1 := Lay.tup fun d hd => by
  simp only [List.mem_cons, List.not_mem_nil, or_false] at hd
  rcases hd with rfl | rfl | rfl
  · exact Lay.str _ ok_BC
  · exact Lay.str _ h
  · exact Lay.int _
theorem lay_word (i : Int) : Lay (.tup [.str "BadWord", .int i]) 1 := Lay.tup fun d hd => by
  simp only [List.mem_cons, List.not_mem_nil, or_false] at hd
  rcases hd with rfl | rfl
  · exact Lay.str _ ok_BW
  · exact Lay.int _
theorem lay_turn : Lay (.tup [.str "OutOfTurn"]) 1 := Lay.tup fun d hd => by
  simp only [List.mem_cons, List.not_mem_nil, or_false] at hd
  subst hd
  exact Lay.str _ ok_OT
theorem eqv_card (s : Str) (i : Int) : PyData.eqv (pd (.tup [.str "BadCard", .str s, .int i])) (pd (.tup [.str "BadCard", .str s, .int i])) = true := by
  simp [pd, pds, PyData.eqv, PyData.eqvAll]
theorem eqv_word (i : Int) : PyData.eqv (pd (.tup [.str "BadWord", .int i])) (pd (.tup [.str "BadWord", .int i])) = true := by
  simp [pd, pds, PyData.eqv, PyData.eqvAll]
theorem eqv_turn : PyData.eqv (pd (.tup [.str "OutOfTurn"])) (pd (.tup [.str "OutOfTurn"])) = true := by
  simp [pd, pds, PyData.eqv, PyData.eqvAll]
/-- a refused call is told as it is due: the test `_law_try(..) != due` comes to false -/
theorem et_due {ι : Type} {X : ι → Cx} {k : Nat} {E : XK} {ρ : Rho} {R : Er → Prop} {pos : Pos} {a b : Expr} {d : D} (O : Ok X P w K mg base k E) (l : Lay d 1) (he : PyData.eqv (pd d) (pd d) = true) (ha : ev X K E a ρ (fun x => x = d) R) (hb : ev X K E b ρ (fun x => x = d) R) (hm : behindInMarks .NotEq b = false := by first | exact nomark _ | rfl) :
    evt X K E (.Compare a [.NotEq] [b] pos) ρ (fun z => z = false) R :=
  et_cmp (h := ⟨fun B G H σ eB eG e w Qv kk => ha.run B G H σ eB eG e w Qv fun x v G1 H1 hx s r => kk x v G1 H1 ⟨fun B G H σ eB eG e w Qv kk => hb.run B G H σ eB eG e w Qv fun y v G1 H1 hy s r => kk y v G1 H1 (by subst hx hy; exact ⟨o_neD O l l ⟨_, rfl, by rw [he]; rfl⟩⟩) s r⟩ s r⟩) hm
end
end CL
namespace CL
open PySem PySem.Spec PyProof.Rows L2 DL
theorem find_app_bad {l : List Nat} {c : Nat} {r : List Nat} (h : allOk l) (hc : okc c = false) (n : Nat) : wordErr (l ++ c :: r) n = some l.length := by
  unfold wordErr
  rw [find_some (n := l.length) (c := c) (by simp) hc fun m c' hm hg => h c' (by
    rw [List.getElem?_append_left hm] at hg
    exact List.mem_of_getElem? hg)]
theorem word_long {l : List Nat} {n : Nat} (h : allOk l) (hl : n < l.length) : wordErr l n = some n := by
  unfold wordErr
  rw [find_none fun m c hc => h c (List.mem_of_getElem? hc)]
  simp only
  rw [if_pos hl]
theorem word_short {l : List Nat} {n : Nat} (h : allOk l) (hl : l.length < n) : wordErr l n = some l.length := by
  unfold wordErr
  rw [find_none fun m c hc => h c (List.mem_of_getElem? hc)]
  simp only
  rw [if_neg (by omega), if_pos hl]
def askD (l : List Nat) (p : Nat) : D := .lst [.str "promise", .str (tx l), .int p]
def AskOk (g : GS) (d : D) : Prop := ∃ l p, d = askD l p ∧ l.length ≤ 1000 ∧ wordErr l g.ml.length = some p
def goneL (ns : List Nat) (n : Nat) : List Int := (((List.range n).filter fun k => !decide (k ∈ ns)).map fun (k : Nat) => (k : Int)) ++ [-1, (n : Int), (10 : Int) ^ (15 : Int).toNat]
theorem gone_not {ns : List Nat} {n : Nat} (h : ∀ i ∈ ns, i < n) (hn : n ≤ 900) {x : Int} (hx : x ∈ goneL ns n) : x ∉ castL ns := by
  intro hc
  obtain ⟨m, hm, e⟩ := List.mem_map.mp hc
  have hlt := h m hm
  unfold goneL at hx
  rcases List.mem_append.mp hx with h1 | h1
  · obtain ⟨k, hk, e2⟩ := List.mem_map.mp h1
    obtain ⟨_, h3⟩ := List.mem_filter.mp hk
    have : k = m := by have : (k : Int) = m := by rw [e2, ← e]; 
                       omega
    subst this
    simp [hm] at h3
  · simp only [List.mem_cons, List.not_mem_nil, or_false] at h1
    have e3 : (10 : Int) ^ (15 : Int).toNat = 1000000000000000 := by decide
    rcases h1 with h1 | h1 | h1 <;> omega
section
variable {P : Program} {w : World} {K : PySem.W.Frag} {mg : Str → Option Value} {base : Heap} {f : Addr} {fd : FuncData}
def wpRefused : WPr := fun ds Q R => ∃ (g : GS) (s n : Nat) (l : List Nat), ds = [.gd g, .str (sn (1 - s)), lv2 g, .int n, .str (tx l)] ∧ GOk g ∧ (s = 0 ∨ s = 1) ∧ g.side = sn s ∧ g.many = sn (1 - s) ∧ l.length = g.ml.length ∧ allOk l ∧ n ≤ 900 ∧ (∀ i ∈ g.ml, i < n) ∧ (∀ i ∈ g.tl, i < n) ∧ Q (.bl true)
theorem ok_refused (F : F_q_refused K f fd) (Y : Fre mg) (k1 : Kn P w K mg base "_law_try" 10 wpTry) : FnOk P w K mg base (L2N.CX P w) 11 f fd p_q_refused (spD K wpRefused) := by
  refine fn_ok F s_q_refused (fun ds Q R h => ?_) fun X E hX O hp tk ds Q R h => ?_
  · obtain ⟨_, _, _, _, rfl, _⟩ := h; rfl
  · obtain ⟨g, s, n, l, rfl, ok, hs, hsd, hmn, hl, hal, hn, hml, htl, q⟩ := h
    obtain ⟨cdv, A, outer, sh, H, rfl⟩ := hX
    have l1 := ok.l1
    have leq := ok.eq
    have hs' : 1 - s = 0 ∨ 1 - s = 1 := by omega
    have hsz : (tx l).length ≤ sizeLine := by rw [tx_len, sizeLine_eq]; omega
    have es : ∀ a b : List Nat, a.length + b.length ≤ 5000 → (tx a).length + (tx b).length ≤ sizeLine := fun a b h => by rw [tx_len, tx_len, sizeLine_eq]; omega
    have xM : ("Mx" : Str) = tx [77, 120] := by decide +kernel
    have xt : ("t" : Str) = tx [116] := by decide +kernel
    refine st_cons (s_st (j := 5) O ?_)
    walk_at "all"
    refine c_lenT O hsz ?_
    rw [tx_len, hl]
    refine st_cons (s_so (j := 6) O (evn_lst ?_))
    walk_at "all"
    rw [tx_M]
    refine b_addS (es _ _ (by simp; omega)) ?_
    rw [tx_app]
    walk_at "all"
    rw [xt]
    refine b_addS (es _ _ (by simp; omega)) ?_
    rw [tx_app]
    walk_at "all"
    rw [xM]
    refine b_addS (es _ _ (by simp; omega)) ?_
    rw [tx_app]
    walk_at "all"
    have allM : allOk (l ++ [77]) := fun c hc => (List.mem_append.mp hc).elim (hal c) fun h => by rw [List.mem_singleton.mp h]; rfl
    have q1 : AskOk g (askD (l ++ [77]) g.ml.length) := ⟨_, _, rfl, by simp; omega, word_long allM (by simp; omega)⟩
    have q2 : AskOk g (askD ([116] ++ l) 0) := ⟨_, _, rfl, by simp; omega, by
      have := find_app_bad (l := []) (c := 116) (r := l) (fun c hc => nomatch hc) rfl g.ml.length
      exact this⟩
    have q3 : AskOk g (askD (l ++ [77, 120]) (g.ml.length + 1)) := ⟨_, _, rfl, by simp; omega, by
      have := find_app_bad (l := l ++ [77]) (c := 120) (r := []) allM rfl g.ml.length
      rw [List.append_assoc] at this
      rw [List.length_append, hl] at this
      exact this⟩
    have rest : ∀ asked : List D, (∀ d ∈ asked, AskOk g d) → ∀ z : Rho, z = [.va (.gd g), .va (.str (sn (1 - s))), .va (lv2 g), .va (.int n), .va (.str (tx l)), .va (.int g.ml.length), .va (.lst asked), .no, .no, .no, .no, .no, .no] →
        stm (body1 P w K mg base n_q_refused "_law_refused" c_q_refused f cdv A outer sh H E) K E (match defBody (tp 65) with | _ :: _ :: _ :: r => r | _ => []) z { nx := fun _ => Q .non, rt := Q } R := fun asked hask z hz => by
      subst hz
      refine st_cons (s_for (js := [7]) O hp ?_)
      walk_at "all"
      refine ⟨_, rfl, fun m ρ' => ∃ a, ρ' = [.va (.gd g), .va (.str (sn (1 - s))), .va (lv2 g), .va (.int n), .va (.str (tx l)), .va (.int g.ml.length), .va (.lst asked), a, .no, .no, .no, .no, .no], ⟨_, rfl⟩, ?_, ?_⟩
      · rintro m x ρ' hx ⟨a, rfl⟩
        obtain ⟨lw', p, rfl, hw1, hw2⟩ := hask x (List.mem_of_getElem? hx)
        refine tg_name O (st_cons (s_ifv false (et_due (d := .tup [.str "BadWord", .int p]) O (lay_word _) (eqv_word _) ?_ ?_) (fun t => nomatch t) fun _ => st_nil (st_nil ⟨_, rfl⟩)))
        · refine ev_call O k1 (by decide) ?_
          walk_at "all"
          refine i_listN (j := 0) (d := .str "promise") O rfl ?_
          walk_at "all"
          refine i_listN (j := 1) (d := .str (tx lw')) O rfl ?_
          walk_at "all"
          exact ⟨g, "promise", _, _, eWord p, s, _, rfl, ok, hs, hsd, .promise lw' _ p hw1 hw2, .word _, rfl⟩
        · walk_at "all"
          refine i_listN (j := 2) (d := .int p) O rfl ?_
          walk_at "all"
          rfl
      rintro ρ' ⟨a, rfl⟩
      refine st_cons (s_ifv false (evt_w (evw_and ?_)) (fun t => nomatch t) fun _ => st_nil ?_)
      · walk_at "all"
        refine ⟨_, rfl, fun e => evw_and1 ?_, fun e => rfl⟩
        have hz : g.ml.length = 0 := by have := of_decide_eq_true e; omega
        refine et_due (d := .tup [.str "OutOfTurn"]) O lay_turn eqv_turn ?_ ?_
        · refine ev_call O k1 (by decide) ?_
          walk_at "all"
          exact ⟨g, "lay", _, _, eTurn, s, _, rfl, ok, hs, hsd, .lay _ _ hz, .turn, rfl⟩
        · walk_at "all"
          rfl
      have cl : ∀ ns : List Nat, (List.map (fun (k : Nat) => D.int k) ((List.range n).filter fun (k : Nat) => !decide ((k : Int) ∈ castL ns)) ++ [D.int (-1), D.int n, D.int ((10 : Int) ^ (15 : Int).toNat)]) = (goneL ns n).map D.int := fun ns => by
        unfold goneL
        rw [List.map_append, List.map_map]
        congr 1
        have : ((List.range n).filter fun (k : Nat) => !decide ((k : Int) ∈ castL ns)) = (List.range n).filter fun (k : Nat) => !decide (k ∈ ns) := List.filter_congr fun k _ => by
          congr 1
          rw [decide_eq_decide]
          exact mem_castL
        rw [this]
        rfl
      have cz : ∀ ns : List Nat, (List.map (fun (k : Nat) => D.int k) ((List.range n).filter fun (k : Nat) => !decide ((k : Int) ∈ castL ns))).length + 3 ≤ sizeLine := fun ns => by
        rw [List.length_map, sizeLine_eq]
        have := List.length_filter_le (fun (k : Nat) => !decide ((k : Int) ∈ castL ns)) (List.range n)
        rw [List.length_range] at this
        omega
      refine st_cons (s_so (j := 8) O (evn_lst (evs_cons (ec_bin (ev_of_evn (en_r [("_law_k", 12)] [12] O Y.range ?_))))))
      walk_at "all"
      refine ⟨n, fun k => !decide ((k : Int) ∈ castL g.ml), fun (k : Nat) => .int k, rfl, by omega, fun k hk => ?_, ?_⟩
      · refine tg_name (O.blk _) (evi_one (et_cmp ?_))
        walk_at "all"
        refine i_listN (j := 0) (d := lN g.ml) (O.blk _) rfl ?_
        rw [lN_cast]
        refine ⟨o_notIn (O.blk _) ⟨_, rfl, rfl, fun _ => ?_⟩⟩
        walk_at "all"
        rfl
      walk_at "all"
      refine ⟨_, rfl, ?_⟩
      walk_at "all"
      refine b_pow (by refine ⟨by decide, by decide, by decide⟩) ?_
      walk_at "all"
      refine b_cat (cz _) ?_
      rw [cl]
      walk_at "all"
      refine st_cons (s_put (j := 8) O rfl (ec_bin (ev_of_evn (en_r [("_law_k", 12)] [12] O Y.range ?_))))
      walk_at "all"
      refine ⟨n, fun k => !decide ((k : Int) ∈ castL g.tl), fun (k : Nat) => .int k, rfl, by omega, fun k hk => ?_, ?_⟩
      · refine tg_name (O.blk _) (evi_one (et_cmp ?_))
        walk_at "all"
        refine i_listN (j := 1) (d := lN g.tl) (O.blk _) rfl ?_
        rw [lN_cast]
        refine ⟨o_notIn (O.blk _) ⟨_, rfl, rfl, fun _ => ?_⟩⟩
        walk_at "all"
        rfl
      walk_at "all"
      refine ⟨_, rfl, ?_⟩
      walk_at "all"
      refine b_pow (by refine ⟨by decide, by decide, by decide⟩) ?_
      walk_at "all"
      refine b_cat (cz _) ?_
      rw [cl]
      walk_at "all"
      refine ⟨1, rfl, by simp, ?_⟩
      refine st_unown 8 rfl ?_
      have gl : ∀ t, t = 0 ∨ t = 1 → ([lI (goneL g.ml n), lI (goneL g.tl n)] : List D)[t]? = some (lI (goneL (lf g (1 - t)) n)) := fun t ht => by rcases ht with rfl | rfl <;> rfl
      have lfn : ∀ t, ∀ i ∈ lf g t, i < n := fun t => by
        unfold lf
        split
        · exact hml
        · exact htl
      have item : ∀ {ns : List Int} {m : Nat} {x : D}, (ns.map D.int)[m]? = some x → ∃ i, i ∈ ns ∧ x = .int i := fun {ns m x} h => by
        obtain ⟨i, h1, h2⟩ := List.mem_map.mp (List.mem_of_getElem? h)
        exact ⟨i, h1, h2.symm⟩
      refine st_cons (s_for (js := [9]) O hp ?_)
      walk_at "all"
      rw [own_of' hs', show 1 - (1 - s) = s by omega]
      refine i_listN (j := s) O (gl s hs) ?_
      refine ⟨_, rfl, fun m ρ' => ∃ b, ρ' = [.va (.gd g), .va (.str (sn (1 - s))), .va (lv2 g), .va (.int n), .va (.str (tx l)), .va (.int g.ml.length), .va (.lst asked), a, .va (.lst [lI (goneL g.ml n), lI (goneL g.tl n)]), b, .no, .no, .no], ⟨_, rfl⟩, ?_, ?_⟩
      · rintro m x ρ' hx ⟨b, rfl⟩
        obtain ⟨i, hi, rfl⟩ := item hx
        refine tg_name O (st_cons (s_ifv false (et_due (d := .tup [.str "BadCard", .str (sn (1 - s)), .int i]) O (lay_card _ _ (ok_sn hs')) (eqv_card _ _) ?_ ?_) (fun t => nomatch t) fun _ => st_nil (st_nil ⟨_, rfl⟩)))
        · refine ev_call O k1 (by decide) ?_
          walk_at "all"
          exact ⟨g, "answer", _, _, _, s, _, rfl, ok, hs, hsd, .answer s i _ hs hsd hmn (gone_not (lfn _) hn hi), .card _ _, rfl⟩
        · walk_at "all"
          rfl
      rintro ρ' ⟨b, rfl⟩
      have hd0 : ∃ v : Int, ((g.tl.map fun (k : Nat) => D.int k) ++ [D.int (-1)])[0]? = some (.int v) := by
        cases g.tl with
        | nil => exact ⟨-1, rfl⟩
        | cons x r => exact ⟨x, rfl⟩
      obtain ⟨v0, hv0⟩ := hd0
      have sawD : ∀ (i t : Int), i ∈ goneL g.ml n → CallBad g "saw" (.int i) (.int t) (eCard "mine" i) := fun i t hi => .saw i t _ (.inl ⟨gone_not hml hn hi, rfl⟩)
      refine st_cons (s_for (js := [10]) O hp ?_)
      walk_at "all"
      refine i_listN (j := 0) (d := lI (goneL g.ml n)) O rfl ?_
      refine ⟨_, rfl, fun m ρ' => ∃ c, ρ' = [.va (.gd g), .va (.str (sn (1 - s))), .va (lv2 g), .va (.int n), .va (.str (tx l)), .va (.int g.ml.length), .va (.lst asked), a, .va (.lst [lI (goneL g.ml n), lI (goneL g.tl n)]), b, c, .no, .no], ⟨_, rfl⟩, ?_, ?_⟩
      · rintro m x ρ' hx ⟨c, rfl⟩
        obtain ⟨i, hi, rfl⟩ := item hx
        refine tg_name O (st_cons (s_ifv false (et_due (d := .tup [.str "BadCard", .str "mine", .int i]) O (lay_card _ _ (ok_sn (s := 1) (.inr rfl))) (eqv_card _ _) ?_ ?_) (fun t => nomatch t) fun _ => st_nil ?_))
        · refine ev_call O k1 (by decide) ?_
          walk_at "all"
          refine i_listN (j := 1) (d := lN g.tl) O rfl ?_
          walk_at "all"
          refine ⟨_, rfl, ?_⟩
          walk_at "all"
          refine b_cat (by rw [List.length_map, sizeLine_eq]; simp; omega) ?_
          walk_at "all"
          refine i_listN (j := 0) O hv0 ?_
          walk_at "all"
          exact ⟨g, "saw", _, _, _, s, _, rfl, ok, hs, hsd, sawD i v0 hi, .card _ _, rfl⟩
        · walk_at "all"
          rfl
        refine st_cons (s_ifv false (et_due (d := .tup [.str "BadCard", .str "mine", .int i]) O (lay_card _ _ (ok_sn (s := 1) (.inr rfl))) (eqv_card _ _) ?_ ?_) (fun t => nomatch t) fun _ => st_nil (st_nil ⟨_, rfl⟩))
        · refine ev_call O k1 (by decide) ?_
          walk_at "all"
          refine ⟨_, rfl, ?_⟩
          walk_at "all"
          exact ⟨g, "saw", _, _, _, s, _, rfl, ok, hs, hsd, sawD i (-1) hi, .card _ _, rfl⟩
        · walk_at "all"
          rfl
      rintro ρ' ⟨c, rfl⟩
      refine st_cons (s_for (js := [11]) O hp ?_)
      walk_at "all"
      refine i_listN (j := 1) (d := lI (goneL g.tl n)) O rfl ?_
      refine ⟨_, rfl, fun m ρ' => ∃ d, ρ' = [.va (.gd g), .va (.str (sn (1 - s))), .va (lv2 g), .va (.int n), .va (.str (tx l)), .va (.int g.ml.length), .va (.lst asked), a, .va (.lst [lI (goneL g.ml n), lI (goneL g.tl n)]), b, c, d, .no], ⟨_, rfl⟩, ?_, ?_⟩
      · rintro m x ρ' hx ⟨d, rfl⟩
        obtain ⟨i, hi, rfl⟩ := item hx
        refine tg_name O (st_cons (s_ifv false (evt_w (evw_and ?_)) (fun t => nomatch t) fun _ => st_nil (st_nil ⟨_, rfl⟩)))
        walk_at "all"
        refine ⟨_, rfl, fun e => evw_and1 ?_, fun e => rfl⟩
        have hpos : 0 < g.ml.length := by have := of_decide_eq_true e; omega
        refine et_due (d := .tup [.str "BadCard", .str "theirs", .int i]) O (lay_card _ _ (ok_sn (s := 0) (.inl rfl))) (eqv_card _ _) ?_ ?_
        · refine ev_call O k1 (by decide) ?_
          walk_at "all"
          refine i_listN (j := 0) (d := lN g.ml) O rfl ?_
          walk_at "all"
          refine i_listN (j := 0) O (nget hpos) ?_
          walk_at "all"
          have hin : ((g.ml.getD 0 0 : Nat) : Int) ∈ castL g.ml := mem_castL.mpr (by rw [List.getD_eq_getElem?_getD, List.getElem?_eq_getElem hpos]; exact List.getElem_mem _)
          exact ⟨g, "saw", _, _, eCard "theirs" i, s, _, rfl, ok, hs, hsd, .saw _ _ _ (.inr ⟨hin, gone_not htl hn hi, rfl⟩), .card _ _, rfl⟩
        · walk_at "all"
          rfl
      rintro ρ' ⟨d, rfl⟩
      walk_at "st"
      walk_at "all"
      exact q
    have a0 : ∀ d ∈ [askD (l ++ [77]) g.ml.length, askD ([116] ++ l) 0, askD (l ++ [77, 120]) (g.ml.length + 1)], AskOk g d := fun d hd => by
      simp only [List.mem_cons, List.not_mem_nil, or_false] at hd
      rcases hd with rfl | rfl | rfl
      · exact q1
      · exact q2
      · exact q3
    refine st_cons (s_ifv (decide (0 < g.ml.length)) ?_ (fun t => ?_) fun t => ?_)
    · walk_at "all"
      refine ⟨_, rfl, ?_⟩
      rw [decide_eq_decide]
      omega
    · have hpos := of_decide_eq_true t
      refine st_one (s_app (j := 6) O rfl (by rw [sizeLine_eq]; simp) (ev_lst ?_))
      walk_at "all"
      refine ev_slS ?_
      walk_at "all"
      refine ⟨_, rfl, hsz, evo_some ?_⟩
      walk_at "all"
      refine ⟨_, rfl, evo_none ?_⟩
      have e5 : cutS (tx l) (some 1) none = tx (l.drop 1) := cut_from l 1
      rw [e5]
      walk_at "all"
      have e6 : (g.ml.length : Int) - 1 = ((g.ml.length - 1 : Nat) : Int) := by omega
      rw [e6]
      have q4 : AskOk g (askD (l.drop 1) (g.ml.length - 1)) := ⟨_, _, rfl, by rw [List.length_drop]; omega, by
        have := word_short (l := l.drop 1) (n := g.ml.length) (fun c hc => hal c (List.mem_of_mem_drop hc)) (by rw [List.length_drop]; omega)
        rw [List.length_drop, hl] at this
        exact this⟩
      refine st_unown 6 rfl ?_
      refine rest [askD (l ++ [77]) g.ml.length, askD ([116] ++ l) 0, askD (l ++ [77, 120]) (g.ml.length + 1), askD (l.drop 1) (g.ml.length - 1)] (fun d hd => ?_) _ rfl
      simp only [List.mem_cons, List.not_mem_nil, or_false] at hd
      rcases hd with rfl | rfl | rfl | rfl
      · exact q1
      · exact q2
      · exact q3
      · exact q4
    · refine st_nil (st_unown 6 rfl ?_)
      exact rest _ a0 _ rfl
end
end CL
namespace DL
open PySem PySem.Spec PyProof.Rows L2
/-- two heaps of data that agree on all but instances -/
def SameD (G G' : Hp) : Prop := ∀ a o, G a = some o → (∀ C dx fs, o ≠ .ins C dx fs) → G' a = some o
mutual
theorem Rep.same {K : PySem.W.Frag} {G G' : Hp} (e : SameD G G') : ∀ (d : D) {v : V}, pln d = true → Rep K G d v → Rep K G' d v
  | .non, _, _, r => by rw [Rep.non_iff.mp r]; exact Sca.non.rep
  | .bl b, _, _, r => by rw [Rep.bl_iff.mp r]; exact (Sca.bl b).rep
  | .int i, _, _, r => by rw [Rep.int_iff.mp r]; exact (Sca.int i).rep
  | .str x, _, _, r => by rw [Rep.str_iff.mp r]; exact (Sca.str x).rep
  | .lst xs, _, p, r => by
    obtain ⟨a, vs, rfl, h1, h2⟩ := Rep.lst_iff.mp r
    exact Rep.lst_iff.mpr ⟨a, vs, rfl, e _ _ h1 (fun _ _ _ => nofun), Reps.same e xs (by simpa only [pln] using p) h2⟩
  | .tup xs, _, p, r => by
    obtain ⟨a, vs, rfl, h1, h2⟩ := Rep.tup_iff.mp r
    refine Rep.tup_iff.mpr ⟨a, vs, rfl, ?_, Reps.same e xs (by simpa only [pln] using p) h2⟩
    rcases h1 with (h | ⟨o, h⟩) | h
    · exact .inl (.inl (e _ _ h (fun _ _ _ => nofun)))
    · exact .inl (.inr ⟨o, e _ _ h (fun _ _ _ => nofun)⟩)
    · exact .inr h
  | .scr ns, _, _, r => by
    obtain ⟨a, rfl, h⟩ := Rep.scr_iff.mp r
    refine Rep.scr_iff.mpr ⟨a, rfl, ?_⟩
    rcases h with (h | ⟨o, h⟩) | h
    · exact .inl (.inl (e _ _ h (fun _ _ _ => nofun)))
    · exact .inl (.inr ⟨o, e _ _ h (fun _ _ _ => nofun)⟩)
    · exact .inr h
  | .oh _, _, p, _ => by simp [pln] at p
  | .gd _, _, p, _ => by simp [pln] at p
theorem Reps.same {K : PySem.W.Frag} {G G' : Hp} (e : SameD G G') : ∀ (ds : List D) {vs : List V}, plns ds = true → Reps K G ds vs → Reps K G' ds vs
  | [], _, _, r => by rw [Reps.nil_iff.mp r]; exact Reps.nil
  | d :: ds, _, p, r => by
    obtain ⟨v, us, rfl, h1, h2⟩ := r.inv
    have p' : pln d = true ∧ plns ds = true := by simpa [plns, Bool.and_eq_true] using p
    exact Reps.cons (Rep.same e d p'.1 h1) (Reps.same e ds p'.2 h2)
end
/-- the guide's two objects beside the data -/
theorem GuAt.data {K : PySem.W.Frag} {B G H : Hp} {g : GS} {a h : Addr} (x : GuAt K B G H g a h) (eG : Ex G H) : ∃ G2 : Hp, Ex G G2 ∧ Ex G2 H ∧ GdAt K G2 g a ∧ (∀ b, b ≠ a → b ≠ h → G2 b = G b) ∧ (∃ C dx fs, G2 a = some (.ins C dx fs)) ∧ (∃ C dx fs, G2 h = some (.ins C dx fs)) := by
  obtain ⟨dx, dy, a1, a2, a3, a4, z0, z1, z2, z3, z4, z5⟩ := x.at_
  have nah : a ≠ h := fun e => by
    rw [e, z1] at z0
    have q := (HO.ins.inj (Option.some.inj z0)).2.2
    have q2 : ("mine" : Str) = ("side" : Str) := congrArg Prod.fst (List.cons.inj q).1
    exact absurd q2 (by decide +kernel)
  refine ⟨upd (upd G a (.ins (CG K) dx (gdF g h))) h (.ins (CO K) dy (ohF a1 a2 a3 a4)), fun b o e => ?_, fun b o e => ?_, ?_, fun b h1 h2 => by rw [upd_ne h2, upd_ne h1], ⟨_, _, _, by rw [upd_ne nah, upd_same]⟩, ⟨_, _, _, upd_same⟩⟩
  · rw [upd_ne (fun q => by rw [q, x.gh] at e; cases e), upd_ne (fun q => by rw [q, x.ga] at e; cases e)]
    exact e
  · by_cases q : b = h
    · rw [q, upd_same] at e; cases e; rw [q]; exact z1
    · rw [upd_ne q] at e
      by_cases q2 : b = a
      · rw [q2, upd_same] at e; cases e; rw [q2]; exact z0
      · rw [upd_ne q2] at e; exact eG _ _ e
  · have old : ∀ b o, G b = some o → (upd (upd G a (.ins (CG K) dx (gdF g h))) h (.ins (CO K) dy (ohF a1 a2 a3 a4))) b = some o := fun b o e => by
      rw [upd_ne (fun q => by rw [q, x.gh] at e; cases e), upd_ne (fun q => by rw [q, x.ga] at e; cases e)]
      exact e
    exact ⟨⟨dx, h, by rw [upd_ne nah, upd_same], ⟨⟨dy, a1, a2, a3, a4, upd_same, old _ _ z2, old _ _ z3, old _ _ z4, old _ _ z5⟩⟩⟩⟩
/-- .. and away again -/
theorem take_away {K : PySem.W.Frag} {G H G2 G' H' : Hp} {a h : Addr} {d : D} {v : V} (e1 : Ex G G2) (ga : G a = none) (gh : G h = none) (same : ∀ b, b ≠ a → b ≠ h → G2 b = G b) (ia : ∃ C dx fs, G2 a = some (.ins C dx fs)) (ih : ∃ C dx fs, G2 h = some (.ins C dx fs)) (s : Stp G2 H G' H') (p : pln d = true) (r : Rep K G' d v) :
    ∃ G3 : Hp, Stp G H G3 H' ∧ Rep K G3 d v := by
  refine ⟨fun b => if b = a ∨ b = h then none else G' b, ⟨fun b o e => ?_, s.h, fun b o e => ?_, fun b e => ?_⟩, Rep.same (fun b o e ni => ?_) d p r⟩
  · have n1 : ¬ (b = a ∨ b = h) := by
      rintro (q | q)
      · rw [q, ga] at e; cases e
      · rw [q, gh] at e; cases e
    show (if b = a ∨ b = h then none else G' b) = some o
    rw [if_neg n1]
    exact s.g b o (e1 b o e)
  · by_cases q : b = a ∨ b = h
    · simp only [if_pos q] at e; cases e
    · simp only [if_neg q] at e; exact s.i b o e
  · by_cases q : b = a ∨ b = h
    · simp only [if_pos q] at e; exact absurd rfl e
    · simp only [if_neg q] at e
      have q' := not_or.mp q
      rcases s.n b e with z | z
      · rw [same b q'.1 q'.2] at z; exact .inl z
      · exact .inr z
  · have n1 : ¬ (b = a ∨ b = h) := by
      rintro (q | q)
      · obtain ⟨C, dx, fs, z⟩ := ia
        rw [q, s.g _ _ z] at e
        exact ni C dx fs (Option.some.inj e).symm
      · obtain ⟨C, dx, fs, z⟩ := ih
        rw [q, s.g _ _ z] at e
        exact ni C dx fs (Option.some.inj e).symm
    show (if b = a ∨ b = h then none else G' b) = some o
    rw [if_neg n1]
    exact e
section
variable {ι : Type} {X : ι → Cx} {P : Program} {w : World} {K : PySem.W.Frag} {mg : Str → Option Value} {base : Heap} {k : Nat} {E : XK} {ρ : Rho} {R : Er → Prop} {pos : Pos} {N : List Str} {sc : Scope}
theorem vis_of [cn : Cn X N sc] {x : Str} {j : Nat} (hx : nokB N sc x j = true) : (∀ i, (X i).N[j]? = some x) ∧ (∀ i, Vis (X i).env.scope x) ∧ (x == ("__debug__" : Str)) = false ∧ (x == ("__classdict__" : Str)) = false := by
  have a1 := Bool.and_eq_true_iff.mp hx
  have a2 := Bool.and_eq_true_iff.mp a1.2
  have hd := Bool.or_eq_false_iff.mp (show (x == ("__debug__" : Str) || x == ("__classdict__" : Str)) = false by simpa using a2.2)
  refine ⟨fun i => by rw [cn.hN i]; exact of_decide_eq_true a1.1, fun i => ?_, hd.1, hd.2⟩
  rw [cn.hS i]
  have hv := a2.1
  unfold visB at hv
  simp only [Bool.or_eq_true, decide_eq_true_eq] at hv
  rcases hv with (h | h) | h
  · exact .inl h
  · exact .inr (.inl h)
  · exact .inr (.inr h)
/-- f(guide, ..), guide a slot of one's own -/
theorem ev_callG [cn : Cn X N sc] {x gx : Str} {j kx : Nat} {wp : WPr} {g : GS} {es : List Expr} {p pg : Pos} {Q : D → Prop} (O : Ok X P w K mg base k E) (F : Kn P w K mg base x kx wp) (hk : kx ≤ k) (hj : ρ[j]? = some (.gu g)) (hx : nokB N sc gx j = true)
    (h : evs X K E es ρ (fun ds => wp (.gd g :: ds) (fun d => pln d = true ∧ Q d) R) R) (hg : ∀ i, Gl (X i) x := by intro _; rfl) (hdb : (x == ("__debug__" : Str)) = false := by decide)
    (he : ∀ i, starEach (.Name gx pg :: es) (X i).env = (false, eval (.Name gx pg) (X i).env) :: starEach es (X i).env := by intro _; rfl) (hpl : ∀ i, (backTo pos (starEach es (X i).env)).any (·.1) = false := by intro _; rfl) : ev X K E (.Call (.Name x p) (.Name gx pg :: es) [] pos) ρ Q R := ⟨fun B G H σ eB eG c wi Qv kk => by
  obtain ⟨f, fd, ps, F, hm, hkp, hb⟩ := F.ex
  obtain ⟨ga, g1, g2⟩ := c.gus
  obtain ⟨hσ, gu⟩ := g1 j g hj
  have vs := vis_of (X := X) hx
  refine ⟨tCall (spD K wp) [] E (tCons (tVar j) (WA X es)), fun i => ?_, ?_⟩
  · have F' : FnOk (X i).prog (X i).w (X i).K (X i).mg (X i).base (L2N.CX (X i).prog (X i).w) kx f fd ps (spD K wp) := by rw [O.p i, O.w i, O.K i, O.mg i, O.base i]; exact F
    exact pe_call F' ((O.room i).mono hk) (hg i) (by rw [O.mg i]; exact hm) (by rw [O.K i]; exact hkp) (by rw [O.K i]; exact hb) .nil (O.pass i) (pa_cons (pe_var (vs.1 i) (vs.2.1 i) vs.2.2.1 vs.2.2.2) (wa_ok i) (he i)) hdb (he i) (hpl i)
  · refine ⟨.ref (ga j).1, hσ, h.run B G H σ eB eG c wi _ fun ds us G1 H1 hw s1 r1 => ?_⟩
    show spD K wp ((V.ref (ga j).1 :: us) ++ []) H1 Qv E
    rw [List.append_nil]
    have gu1 := gu.mono s1
    obtain ⟨G2, e1, e2, gd, same, ia, ih⟩ := gu1.data s1.i
    refine ⟨G2, .gd g :: ds, _, R, e2, Reps.cons (Rep.gd_iff.mpr ⟨_, rfl, gd⟩) (r1.mono e1), hw, wi.mono (eB.trans s1.h), fun d v G' H' ⟨pl, q⟩ s2 r2 => ?_⟩
    obtain ⟨G3, s3, r3⟩ := take_away e1 gu1.ga gu1.gh same ia ih s2 pl r2
    exact kk d v G3 H' q (s1.trans s3) r3⟩
/-- guide.m(e, ..), guide a slot of one's own -/
theorem ev_methG [cn : Cn X N sc] {m gx : Str} {j km : Nat} {wp : WPr} {g : GS} {e : Expr} {es : List Expr} {apos pg : Pos} {Q : D → Prop} (O : Ok X P w K mg base k E) (M : MeK P w K mg base (CG K) m km wp) (hk : km ≤ k) (hj : ρ[j]? = some (.gu g)) (hx : nokB N sc gx j = true)
    (h : evs X K E (e :: es) ρ (fun ds => wp (.gd g :: ds) (fun d => pln d = true ∧ Q d) R) R) (hno : m ∉ flG)
    (hst : ∀ i, starEach (e :: es) (X i).env = (false, eval e (X i).env) :: starEach es (X i).env := by intro _; rfl) (hpl : ∀ i, (backTo pos (starEach es (X i).env)).any (·.1) = false := by intro _; rfl)
    (ht : ∀ i, ∃ pl : Sem Bool, eval (.Call (.Attribute (.Name gx pg) m apos) (e :: es) [] pos) (X i).env = (do
      let ov ← eval (.Name gx pg) (X i).env
      standAt apos.atName
      let (f, first) ← holding [ov] (getMethod ov m pl)
      callWith pos f first (backTo pos (starEach (e :: es) (X i).env)) (backToKw pos (keywordEach [] (X i).env))) := by intro _; exact ⟨_, rfl⟩) :
    ev X K E (.Call (.Attribute (.Name gx pg) m apos) (e :: es) [] pos) ρ Q R := ⟨fun B G H σ eB eG c wi Qv kk => by
  obtain ⟨f, fd, ps, F, hm, hb⟩ := M.ex
  obtain ⟨ga, g1, g2⟩ := c.gus
  obtain ⟨hσ, gu⟩ := g1 j g hj
  have vs := vis_of (X := X) hx
  refine ⟨tMeth (CG K) m (spD K wp) [] E (tVar j) (WA X (e :: es)), fun i => ?_, ?_⟩
  · have F' : FnOk (X i).prog (X i).w (X i).K (X i).mg (X i).base (L2N.CX (X i).prog (X i).w) km f fd ps (spD K wp) := by rw [O.p i, O.w i, O.K i, O.mg i, O.base i]; exact F
    obtain ⟨pl, h1⟩ := ht i
    exact pe_meth (pe_var (vs.1 i) (vs.2.1 i) vs.2.2.1 vs.2.2.2) (by rw [O.K i]; exact M.cl) (by rw [O.K i]; exact hm) F' ((O.room i).mono hk) (by rw [O.K i]; exact hb) .nil (O.pass i) (wa_ok i) (hst i) (hpl i) h1
  · obtain ⟨dx, dy, a1, a2, a3, a4, z0, z1, _⟩ := gu.at_
    refine ⟨.ref (ga j).1, hσ, (ga j).1, dx, _, rfl, z0, keys_none _ m (by exact hno), h.run B G H σ eB eG c wi _ fun ds us G1 H1 hw s1 r1 => ?_⟩
    show spD K wp ((V.ref (ga j).1 :: us) ++ []) H1 Qv E
    rw [List.append_nil]
    have gu1 := gu.mono s1
    obtain ⟨G2, e1, e2, gd, same, ia, ih⟩ := gu1.data s1.i
    refine ⟨G2, .gd g :: ds, _, R, e2, Reps.cons (Rep.gd_iff.mpr ⟨_, rfl, gd⟩) (r1.mono e1), hw, wi.mono (eB.trans s1.h), fun d v G' H' ⟨pl, q⟩ s2 r2 => ?_⟩
    obtain ⟨G3, s3, r3⟩ := take_away e1 gu1.ga gu1.gh same ia ih s2 pl r2
    exact kk d v G3 H' q (s1.trans s3) r3⟩
end
end DL
namespace DL
open PySem PySem.Spec PyProof.Rows L2
/-! ### try .. except: the contexts of the body, of the suite -/
def Trf {ι : Type} (X : ι → Cx) (W : L2.WX) : {q : ι × List (Addr × Obj) × (Value → Shared → Prop) // L2N.Takes ((X q.1).tr q.2.1 q.2.2) W ∧ PassesOwn (model (X q.1).prog (X q.1).w) (X q.1).A (X q.1).env q.2.2} → Cx := fun q => (X q.1.1).tr q.1.2.1 q.1.2.2
def Sui {ι : Type} (X : ι → Cx) (a : Addr) (cls : Value) (d : Option Addr) : ι × {p : Obj × List (Addr × Obj) // L2N.Zn cls d p.1 ∧ ∃ vs, p.1.data = .fields vs} → Cx := fun q => (X q.1).suite a ((a, q.2.1.1) :: q.2.1.2)
instance cn_tr {ι : Type} {X : ι → Cx} {W : L2.WX} {N : List Str} {sc : Scope} [c : Cn X N sc] : Cn (Trf X W) N sc := ⟨fun q => c.hN q.1.1, fun q => c.hS q.1.1⟩
instance cn_sui {ι : Type} {X : ι → Cx} {a : Addr} {cls : Value} {d : Option Addr} {N : List Str} {sc : Scope} [c : Cn X N sc] : Cn (Sui X a cls d) N sc := ⟨fun q => c.hN q.1, fun q => c.hS q.1⟩
def NoX : L2.WX := fun _ _ _ _ => False
theorem takesNo {X : Cx} : L2N.Takes X NoX := fun _ _ h => by
  obtain ⟨_, _, _, _, _, _, _, _, _, _, _, _, _, _, _, _, z⟩ := h
  exact z.elim
/-- what is wished of an error of the body -/
def Caught {ι : Type} (X : ι → Cx) (K : PySem.W.Frag) (c : Value) (i : Nat) (suite : List Stmt) (D : Ends) : L2.WX := wAs K c i (fun a cls d => WB (Sui X a cls d) suite) NoX D
section
variable {ι : Type} {X : ι → Cx} {P : Program} {w : World} {K : PySem.W.Frag} {mg : Str → Option Value} {base : Heap} {k : Nat} {E : XK} {N : List Str} {sc : Scope} {pos p p0 p1 : Pos} {σ : L2.St} {H : Hp}
theorem ws_try {x n : Str} {c : Value} {i : Nat} {body suite : List Stmt} {b0 : Stmt} {np pos' : Pos} {Dv : Ends} (hK : ∀ j, (X j).K = K) (hc : ∀ j, Names (X j) x c) (nd : ∀ j, (X j).N.Nodup)
    (hi : ∀ j, (X j).N[i]? = some n) (hs : ∀ j, (X j).stack = (X j).env :: (X j).outer) (hf : ∀ j, (X j).env.frame = some (X j).env.locals) (hln : ∀ j, (X j).env.kindOf n = some .local)
    (h : WB (Trf X (Caught X K c i (b0 :: suite) Dv)) body Dv σ H) : WS X (.Try body [.ExceptHandler (some (.Name x np)) (some n) (b0 :: suite) pos'] [] [] pos) Dv σ H :=
  ⟨fun D σ H => WB (Trf X (Caught X K c i (b0 :: suite) D)) body D σ H, fun j => by
    have z := L2N.ps_try_as (X := X j) (tb := fun W => WB (Trf X W) body) (ts := fun a cls d => WB (Sui X a cls d) (b0 :: suite)) (Wout := NoX) (np := np) (pos := pos) (pos' := pos') (hs j) (hf j) (nd j) (hi j) (hln j) (hc j) takesNo
      (fun W pn xe tk po => wb_ok (X := Trf X W) ⟨(j, pn, xe), tk, po⟩) (fun a oe cls d pn hz hf => wb_ok (X := Sui X a cls d) (j, ⟨(oe, pn), hz, hf⟩))
    rw [hK j] at z
    exact z, h⟩
theorem caught {c : Value} {i : Nat} {suite : List Stmt} {D : Ends} {cls : Value} {d : Option Addr} (he : PySem.W.exmOne K cls c = some true)
    (h : ∀ a, H a = none → WB (Sui X a cls d) suite { nx := fun σ' H' => D.nx (σ'.set i none) H', rt := D.rt, bk := fun σ' H' => D.bk (σ'.set i none) H', ct := fun σ' H' => D.ct (σ'.set i none) H' } (σ.set i (some (.ref a))) H) : Caught X K c i suite D cls d σ H :=
  ⟨true, he, fun _ => h, fun z => nomatch z⟩
/-! ### readings by hand -/
theorem we_mono {e : Expr} {Q0 Q : VK} (h : WE X e σ H Q0) (m : ∀ v H', Q0 v H' → Q v H') : WE X e σ H Q := by
  obtain ⟨t, h1, h2⟩ := h
  refine ⟨fun σ H Q => ∃ Q0 : VK, (∀ v H', Q0 v H' → Q v H') ∧ t σ H Q0, fun i => ⟨fun pins s σ H Q I ⟨Q0, hq, h⟩ => ?_⟩, Q0, m, h2⟩
  exact wpAny_mono ((h1 i).run pins s σ H Q0 I h) (fun u s' ⟨v, H', I', r, q⟩ => ⟨v, H', I', r, hq _ _ q⟩) fun _ _ z => z
theorem we_var [cn : Cn X N sc] {x : Str} {j : Nat} {v : V} {Q : VK} (hx : nokB N sc x j = true) (h : σ[j]? = some (some v)) (q : Q v H) : WE X (.Name x pos) σ H Q := by
  have vs := vis_of (X := X) hx
  exact ⟨_, fun i => pe_var (vs.1 i) (vs.2.1 i) vs.2.2.1 vs.2.2.2, v, h, q⟩
theorem we_str {x : Str} {j} {Q : VK} (q : Q (.str x) H) : WE X (.Constant (.str x) j pos) σ H Q := ⟨_, fun i => pe_str, q⟩
theorem we_bl {x : Bool} {j} {Q : VK} (q : Q (.bl x) H) : WE X (.Constant (.bool x) j pos) σ H Q := ⟨_, fun i => pe_bl, q⟩
theorem wa_nil {Q : List V → Hp → Prop} (q : Q [] H) : WA X [] σ H Q := ⟨_, fun i => pa_nil, q⟩
theorem wa_cons {e : Expr} {es : List Expr} {Q : List V → Hp → Prop} (h : WE X e σ H fun v H1 => WA X es σ H1 fun vs H2 => Q (v :: vs) H2) (hs : ∀ i, starEach (e :: es) (X i).env = (false, eval e (X i).env) :: starEach es (X i).env := by intro _; rfl) : WA X (e :: es) σ H Q :=
  ⟨_, fun i => pa_cons (we_ok i) (wa_ok i) (hs i), h⟩
theorem we_tup {es : List Expr} {x1} {Q : VK} (h : WA X es σ H fun vs H1 => vs.length ≤ sizeLine ∧ ∀ t, H1 t = none → Q (.ref t) (upd H1 t (.tup vs))) : WE X (.Tuple es x1 pos) σ H Q := ⟨_, fun i => pe_tup (wa_ok i), h⟩
theorem we_lst {es : List Expr} {Q : VK} (h : WA X es σ H fun vs H1 => vs.length ≤ sizeLine ∧ ∀ t, H1 t = none → Q (.ref t) (upd H1 t (.lst vs))) : WE X (.List es pos) σ H Q := ⟨_, fun i => pe_lst (wa_ok i), h⟩
theorem we_glob {x : Str} {C : Addr} {Q : VK} (hm : ∀ i, (X i).mg x = some (.ref C)) (q : Q (.ref C) H) (hg : ∀ i, Gl (X i) x := by intro _; rfl) (hd : (x == ("__debug__" : Str)) = false := by decide +kernel) : WE X (.Name x pos) σ H Q := ⟨_, fun i => pe_glob (v := .ref C) (hg i) (hm i) rfl hd, q⟩
theorem we_ve {Q : VK} (hm : ∀ i, (X i).mg "ValueError" = none) (q : Q (.ty "ValueError") H) (hg : ∀ i, Gl (X i) "ValueError" := by intro _; rfl) : WE X (.Name "ValueError" pos) σ H Q := ⟨_, fun i => pe_bltn (v := .ty "ValueError") (u := .type "ValueError") (hg i) (hm i) (by decide +kernel) rfl, q⟩
theorem we_cmp {a b : Expr} {op : CmpOp} {Q : VK} (h : WE X a σ H fun x H1 => WE X b σ H1 fun y H2 => WO X (compareOp op) x y H2 Q) (hm : behindInMarks op b = false := by first | exact nomark _ | rfl) : WE X (.Compare a [op] [b] pos) σ H Q :=
  ⟨_, fun i => pe_cmpR (wo_ok i) (we_ok i) (we_ok i) hm, h⟩
theorem wt_val {e : Expr} {Q : Bool → Hp → Prop} (h : WE X e σ H fun v H1 => ∃ b, v = .bl b ∧ Q b H1) (he : ∀ i whole, isTrue e (X i).env whole = (do let v ← whole; standAt e.pos; holding [v] (truthy v)) := by intro _ _; rfl) : WT X e σ H Q :=
  ⟨_, fun i => pt_val (we_ok i) (he i), h⟩
theorem wt_not {e : Expr} {Q : Bool → Hp → Prop} (h : WT X e σ H fun b H1 => Q (!b) H1) : WT X (.UnaryOp .Not e pos) σ H Q := ⟨_, fun i => pt_not (wt_ok i), h⟩
theorem wt_w {e : Expr} {Q : Bool → Hp → Prop} (h : WW X e σ H Q) : WT X e σ H Q := ⟨_, fun i => (ww_ok i).pt, h⟩
theorem ww_or1 {a : Expr} {Q : Bool → Hp → Prop} (h : WT X a σ H Q) : WW X (.BoolOp .Or [a] pos) σ H Q := ⟨_, fun i => pw_or1 (wt_ok i), h⟩
theorem ww_and1 {a : Expr} {Q : Bool → Hp → Prop} (h : WT X a σ H Q) : WW X (.BoolOp .And [a] pos) σ H Q := ⟨_, fun i => pw_and1 (wt_ok i), h⟩
theorem ww_or {a b : Expr} {r : List Expr} {Q : Bool → Hp → Prop} (h : WT X a σ H fun c H1 => if c = true then Q true H1 else WW X (.BoolOp .Or (b :: r) pos) σ H1 Q) : WW X (.BoolOp .Or (a :: b :: r) pos) σ H Q := ⟨_, fun i => pw_or (wt_ok i) (ww_ok i), h⟩
theorem ww_and {a b : Expr} {r : List Expr} {Q : Bool → Hp → Prop} (h : WT X a σ H fun c H1 => if c = true then WW X (.BoolOp .And (b :: r) pos) σ H1 Q else Q false H1) : WW X (.BoolOp .And (a :: b :: r) pos) σ H Q := ⟨_, fun i => pw_and (wt_ok i) (ww_ok i), h⟩
theorem we_and {a b : Expr} {r : List Expr} {Q : VK} (h : WE X a σ H fun x H1 => ∃ c, x = .bl c ∧ if c = true then WE X (.BoolOp .And (b :: r) pos) σ H1 Q else Q (.bl false) H1) : WE X (.BoolOp .And (a :: b :: r) pos) σ H Q := ⟨_, fun i => pe_and (we_ok i) (we_ok i), h⟩
theorem we_one {op} {a : Expr} {Q : VK} (h : WE X a σ H Q) : WE X (.BoolOp op [a] pos) σ H Q := ⟨_, fun i => pe_one (we_ok i), h⟩
theorem ws_if {c : Expr} {a b : List Stmt} {Dv : Ends} (h : WT X c σ H fun t H1 => if t = true then WB X a Dv σ H1 else WB X b Dv σ H1) : WS X (.If c a b pos) Dv σ H := ⟨_, fun i => ps_if (wt_ok i) (wb_ok i) (wb_ok i), h⟩
theorem ws_ret {e : Expr} {Dv : Ends} (h : WE X e σ H Dv.rt) : WS X (.Return (some e) pos) Dv σ H := ⟨_, fun i => ps_ret (we_ok i), h⟩
theorem ws_set [cn : Cn X N sc] {j : Nat} {x : Str} {e : Expr} {Dv : Ends} {pos' : Pos} (nd : N.Nodup) (hx : sokB N sc x j = true) (h : WE X e σ H fun v H1 => Dv.nx (σ.set j (some v)) H1) (hs : ∀ i, swapsWith e (some (.Name x pos')) pos.line (X i).env = pure false := by intro _; rfl)
    (hf : ∀ i, (X i).fn x = true := by intro _; rfl) : WS X (.Assign [.Name x pos'] e pos) Dv σ H := by
  have h1 := Bool.and_eq_true_iff.mp hx
  refine ⟨_, fun i => ps_set (by rw [cn.hN i]; exact nd) (by rw [cn.hN i]; exact of_decide_eq_true h1.1) ?_ (we_ok i) (hs i) (.inl (hf i)), h⟩
  have hv := h1.2
  rw [cn.hS i]
  rcases Bool.or_eq_true_iff.mp hv with h | h
  · exact .inl (by simpa [locB] using h)
  · exact .inr (by simpa [celB] using h)
theorem wo_of {op : CmpOp} {x y : D} {vx vy : V} {Q : VK} {z : D} (o : opd X K (compareOp op) x y (fun d => d = z)) {G : Hp} (eG : Ex G H) (rx : Rep K G x vx) (ry : Rep K G y vy) (q : ∀ v G' H', Stp G H G' H' → Rep K G' z v → Q v H') : WO X (compareOp op) vx vy H Q :=
  o.run G H vx vy eG rx ry Q fun d v G' H' hd s r => q v G' H' s (hd ▸ r)
theorem o_eqX {x y : D} {n m : Nat} {Q : D → Prop} (hK : ∀ i, (X i).K = K) (hu : ∀ i, (X i).A.units + 64 < cLine) (lx : Lay x n) (ly : Lay y m) (q : Q (.bl (PyData.eqv (pd x) (pd y)))) (hn : n ≤ 64 := by decide) (hm : m ≤ 64 := by decide) : opd X K (compareOp .Eq) x y Q := ⟨fun G H vx vy eG rx ry Qv kk =>
  ⟨rEqD K, fun i => by have z := op_eqD (X := X i) (hu i); rw [hK i] at z; exact z, _, _, (Rep.mono eG _ rx).dp _ lx.p, (Rep.mono eG _ ry).dp _ ly.p, lx.sh hn, ly.sh hm, kk _ _ G H q (Stp.refl eG) (Sca.bl _).rep⟩⟩
theorem we_lenL {e : Expr} {Q : VK} (hK : ∀ i, (X i).K = K) (hm : ∀ i, (X i).mg "len" = none) (h : WE X e σ H fun v H1 => ∃ l us, v = .ref l ∧ H1 l = some (.lst us) ∧ Q (.int us.length) H1) (hg : ∀ i, Gl (X i) "len" := by intro _; rfl)
    (he : ∀ i, starEach [e] (X i).env = (false, eval e (X i).env) :: starEach [] (X i).env := by intro _; rfl) (hpl : ∀ i, (backTo pos (starEach [] (X i).env)).any (·.1) = false := by intro _; rfl) : WE X (.Call (.Name "len" p) [e] [] pos) σ H Q := by
  refine ⟨_, fun i => pe_callB (X := X i) (r := fun xs H Q => ∃ x n, xs = [x] ∧ LenV K x H n ∧ Q (.int n) H) (p := p) (pos := pos) (by have z := call_len (X := X i); rw [hK i] at z; exact z) (hg i) (hm i) (by decide +kernel) (pa_cons (we_ok (e := e) i) pa_nil (he i)) (by decide) (by decide) (he i) (hpl i), ?_⟩
  exact we_mono h fun v H1 ⟨l, us, e1, e2, q⟩ => ⟨v, us.length, rfl, by subst e1; exact .inl ⟨us, SqL.of e2, rfl⟩, q⟩
/-! ### the caught error -/
/-- what its class must say -/
structure ExD (K : PySem.W.Frag) (C : Addr) : Prop where
  cl : (PySem.W.clsIn K C).isSome = true
  ga : PySem.W.findIn K (.ref C) "__getattribute__" = some (some (.builtin "BaseException.__getattribute__"))
  gt : PySem.W.findIn K (.ref C) "__getattr__" = some none
  sb : PySem.W.subIn K (.ref C) (.type "BaseException") = some true
  ca : PySem.W.findIn K (.ref C) "__class__" = some (some (.builtin "object.__class__"))
  gs : PySem.W.specialIn K (.builtin "object.__class__") "__get__" = some (some (.builtin "getset_descriptor.__get__"))
  tk : PySem.W.takesIn K (.builtin "object.__class__") = some true
  mr : PySem.W.mroIn K C (.type "object") = some true
def DOk (d : Option Addr) (H : Hp) : Prop := d = none ∨ ∃ dd fs, d = some dd ∧ H dd = some (.xd fs)
theorem DOk.mono {d : Option Addr} {H H' : Hp} (h : DOk d H) (e : Ex H H') : DOk d H' := by
  rcases h with h | ⟨dd, fs, h1, h2⟩
  · exact .inl h
  · exact .inr ⟨dd, fs, h1, e _ _ h2⟩
def rIsX (K : PySem.W.Frag) (a C : Addr) (d : Option Addr) : List V → Hp → VK → Prop := fun xs H Q => ∃ (c : V) (b : Bool), xs = [.ref a, c] ∧ DOk d H ∧
  ((∃ u, ClsV c u ∧ PySem.W.kitOne K (.ref C) u = some b) ∨ ∃ tp cs us, c = .ref tp ∧ H tp = some (.tup cs) ∧ Paired ClsV cs us ∧ PySem.W.kitAny K (.ref C) us = some b) ∧ Q (.bl b) H
theorem call_isX {Y : Cx} {a C : Addr} {d : Option Addr} {oe : Obj} {pn : List (Addr × Obj)} (T : ExD Y.K C) (hz : L2N.Zn (.ref C) d oe) (hf : ∃ vs, oe.data = .fields vs) : CallR (Y.suite a ((a, oe) :: pn)) (.builtin "isinstance") (rIsX Y.K a C d) := by
  rintro pins s σ H xs us Q I r ⟨c, b, rfl, hd, hc, q⟩
  obtain ⟨w1, w2, rfl, r1, r2⟩ := vals2 r
  have ew : w1 = Value.ref a := r1
  subst ew
  have there := (I.pin (a, oe) (List.mem_append_left _ List.mem_cons_self)).1
  obtain ⟨fv, hv⟩ := hf
  have nc : PySem.W.notCls oe = true := by unfold PySem.W.notCls; rw [hv] <;> rfl
  have inst : ∃ od, PySem.W.InstAt s.heap a oe C od := by
    rcases hd with hd | ⟨dd, fs, hd, hx⟩
    · exact ⟨none, there, hz.1, nc, by rw [hz.2.1, hd]; trivial⟩
    · obtain ⟨mA, hns, _⟩ := (show ObjOk Y.prog Y.w H s.heap dd (.xd fs) from I.hok dd _ hx)
      obtain ⟨od, ho, _⟩ := lookIn_ns hns
      exact ⟨some od, there, hz.1, nc, by rw [hz.2.1, hd]; exact ho⟩
  obtain ⟨od, J⟩ := inst
  have Z := PySem.W.kitx_exc (x := a) (od := od) (ox := oe) T.cl T.ga T.gt T.sb T.ca T.gs T.tk T.mr
  rcases hc with ⟨u, kc, e⟩ | ⟨tp, cs, ws, rfl, hT, kc, e⟩
  · rw [kc.eq r2]
    exact PySem.W.kia_one Z I.kIn J e (fun z => nomatch z) fun tk => ⟨.bl b, H, I.tok tk, rfl, q⟩
  · have ew2 : w2 = Value.ref tp := r2
    subst ew2
    obtain ⟨_, its, rv, o, g1, g2, n, g3⟩ := (show ObjOk Y.prog Y.w H s.heap tp (.tup cs) from I.hok tp _ hT)
    rw [ClsV.all kc rv] at g3
    obtain ⟨oc, od', dt, sl⟩ := o
    dsimp only at g2 g3
    rw [g2, g3] at g1
    exact PySem.W.kia_tup Z I.kIn J g1 e (fun z => nomatch z) fun tk => ⟨.bl b, H, I.tok tk, rfl, q⟩
/-- isinstance(e, c) -/
theorem we_is [cn : Cn X N sc] {n : Str} {a C : Addr} {d : Option Addr} {j : Nat} {c : Expr} {Q : VK} (hK : ∀ i, (X i).K = K) (hm : ∀ i, (X i).mg "isinstance" = none) (T : ExD K C) (hx : nokB N sc n j = true) (hσ : σ[j]? = some (some (.ref a)))
    (h : WE (Sui X a (.ref C) d) c σ H fun v H1 => DOk d H1 ∧ ∃ b, ((∃ u, ClsV v u ∧ PySem.W.kitOne K (.ref C) u = some b) ∨ ∃ tp cs us, v = .ref tp ∧ H1 tp = some (.tup cs) ∧ Paired ClsV cs us ∧ PySem.W.kitAny K (.ref C) us = some b) ∧ Q (.bl b) H1)
    (hg : ∀ i, Gl (X i) "isinstance" := by intro _; rfl) (hs : ∀ i, starEach [.Name n p1, c] (Sui X a (.ref C) d i).env = (false, eval (.Name n p1) (Sui X a (.ref C) d i).env) :: starEach [c] (Sui X a (.ref C) d i).env := by intro _; rfl)
    (hs2 : ∀ i, starEach [c] (Sui X a (.ref C) d i).env = (false, eval c (Sui X a (.ref C) d i).env) :: starEach [] (Sui X a (.ref C) d i).env := by intro _; rfl) (hpl : ∀ i, (backTo pos (starEach [c] (Sui X a (.ref C) d i).env)).any (·.1) = false := by intro _; rfl) :
    WE (Sui X a (.ref C) d) (.Call (.Name "isinstance" p) [.Name n p1, c] [] pos) σ H Q := by
  have vs := vis_of (X := Sui X a (.ref C) d) hx
  refine ⟨tCB (rIsX K a C d) (tCons (tVar j) (tCons (WE (Sui X a (.ref C) d) c) tNil)), fun i => ?_, .ref a, hσ, ?_⟩
  · have z := call_isX (Y := X i.1) (a := a) (d := d) (pn := i.2.1.2) (by rw [hK i.1]; exact T) i.2.2.1 i.2.2.2
    rw [hK i.1] at z
    exact pe_callB (X := Sui X a (.ref C) d i) (p := p) (pos := pos) z (hg i.1) (hm i.1) (by decide +kernel) (pa_cons (pe_var (vs.1 i) (vs.2.1 i) vs.2.2.1 vs.2.2.2) (pa_cons (we_ok (e := c) i) pa_nil (hs2 i)) (hs i)) (by decide) (by decide) (hs i) (hpl i)
  · exact we_mono h fun v H1 ⟨h1, b, h2, q⟩ => ⟨v, b, rfl, h1, h2, q⟩
/-- e.f -/
theorem we_xf [cn : Cn X N sc] {n f : Str} {a C : Addr} {d : Option Addr} {j : Nat} {Q : VK} {dd : Addr} {fs : List (Str × V)} {v : V} (hK : ∀ i, (X i).K = K) (T : XfC K C) (hno : PySem.W.findIn K (.ref C) f = some none) (hx : nokB N sc n j = true) (hσ : σ[j]? = some (some (.ref a)))
    (hd : d = some dd) (hH : H dd = some (.xd fs)) (hl : fs.lookup f = some v) (q : Q v H) (hb : ∀ i, attributeBase (.Name n p) f (X i).env (eval (.Name n p) (X i).env) = eval (.Name n p) (X i).env := by intro _; rfl) :
    WE (Sui X a (.ref C) d) (.Attribute (.Name n p) f pos) σ H Q := by
  have vs := vis_of (X := Sui X a (.ref C) d) hx
  refine ⟨tXf a (.ref C) d C f (tVar j), fun i => ?_, .ref a, hσ, rfl, rfl, dd, fs, v, hd, hH, hl, q⟩
  exact pe_xf (X := X i.1) (pos := pos) (by rw [hK i.1]; exact T) (by rw [hK i.1]; exact hno) i.2.2.1.zc i.2.2.2 (pe_var (X := Sui X a (.ref C) d i) (vs.1 i) (vs.2.1 i) vs.2.2.1 vs.2.2.2) (hb i.1)
theorem hot_at {a : Addr} {cls : Value} {d : Option Addr} (i) : L2H.HotC (Sui X a cls d i) := by
  obtain ⟨vs, hv⟩ := i.2.2.2
  exact ⟨(a, i.2.1.1), ⟨rfl, vs, hv, i.2.2.1.2.2 vs hv⟩, List.mem_cons_self⟩
/-- f(e, ..) within the suite -/
theorem we_hot {f : Addr} {x : Str} {kx : Nat} {fd : FuncData} {ps : List Str} {wp : WPr} {e : Expr} {es : List Expr} {a : Addr} {cls : Value} {d : Option Addr} {Q : VK} (hP : ∀ i, (X i).prog = P) (hw : ∀ i, (X i).w = w) (hK : ∀ i, (X i).K = K) (hb : ∀ i, (X i).base = base) (hm : ∀ i, (X i).mg = mg) (hr : ∀ i, Room kx (X i).A)
    (F : L2H.FnH P w K mg base (L2N.CX P w) kx f fd ps (spD K wp)) (gm : mg x = some (.ref f)) (kp : PySem.W.keepIn K (.ref f) = true) (bd : Binds K fd ps [])
    (h : WA (Sui X a cls d) (e :: es) σ H fun vs H1 => spD K wp vs H1 Q E0) (hg : ∀ i, Gl (X i) x := by intro _; rfl) (hdb : (x == ("__debug__" : Str)) = false := by decide)
    (he : ∀ i, starEach (e :: es) (Sui X a cls d i).env = (false, eval e (Sui X a cls d i).env) :: starEach es (Sui X a cls d i).env := by intro _; rfl) (hpl : ∀ i, (backTo pos (starEach es (Sui X a cls d i).env)).any (·.1) = false := by intro _; rfl) :
    WE (Sui X a cls d) (.Call (.Name x p) (e :: es) [] pos) σ H Q :=
  ⟨_, fun i => L2H.pe_callH (X := Sui X a cls d i) (CX := L2N.CX P w) (E := fun _ => E0) (sp := spD K wp) (fd := fd) (ps := ps) (k := kx) (by
      show L2H.FnH (X i.1).prog (X i.1).w (X i.1).K (X i.1).mg (X i.1).base _ _ _ _ _ _
      rw [hP i.1, hw i.1, hK i.1, hb i.1, hm i.1]; exact F) (let r := L2H.roomH_of (hr i.1); ⟨r.dp, r.un⟩) (hot_at i) (hg i.1) (by show (X i.1).mg x = _; rw [hm i.1]; exact gm) (by show PySem.W.keepIn (X i.1).K _ = _; rw [hK i.1]; exact kp) (by show Binds (X i.1).K _ _ _; rw [hK i.1]; exact bd)
      (fun σ pins H s u s' I c => by
        obtain ⟨_, _, _, _, _, _, _, _, _, _, _, _, z⟩ := c
        exact z.elim) (wa_ok i) hdb (he i) (hpl i), h⟩
end
end DL
namespace DL
open PySem PySem.Spec PyProof.Rows L2
/-- an object is made, its __init__'s errors wished with the slots as they stand -/
def tMkS (C : Addr) (n m : Nat) (sp : Sp) (gV : List V → List V → List V) (W : L2.WX) (ta tk : TA) : TE := fun σ H Q => ta σ H fun vs H1 => tk σ H1 fun zs H2 => vs.length = n ∧ zs.length = m ∧
  ∀ o do_, H2 o = none → H2 do_ = none → do_ ≠ o → sp (gV (.ref o :: vs) zs) (upd (upd H2 do_ (.own o)) o (.ins C do_ [])) (fun v H3 => v = .non ∧ Q (.ref o) H3) fun cls d H' => W cls d σ H'
theorem pe_mkS {Y : Cx} {W : L2.WX} {k n : Nat} {f C : Addr} {fd : FuncData} {ps ks : List Str} {sp : Sp} {x : Str} {p pos : Pos} {e : Expr} {es : List Expr} {kws : List Keyword} {ta tk : TA} {g : List Value → List Value → List Value} {gV : List V → List V → List V}
    (M : Mk Y.K C f) (F : FnOk Y.prog Y.w Y.K Y.mg Y.base (L2N.CX Y.prog Y.w) k f fd ps sp) (room : Room (k + 1) Y.A) (gl : Gl Y x) (gm : Y.mg x = some (.ref C)) (kb : KBn Y.K fd ps (n + 1) ks g gV) (tkW : L2N.Takes Y W) (args : PA Y (e :: es) ta) (kwa : PK Y kws tk)
    (k1 : (backToKw pos (keywordEach kws Y.env)).all (·.1.isSome) = true) (k2 : (backToKw pos (keywordEach kws Y.env)).filterMap (·.1) = ks) (k3 : (x == ("__debug__" : Str)) = false)
    (k4 : starEach (e :: es) Y.env = (false, eval e Y.env) :: starEach es Y.env) (k5 : ((backTo pos (starEach (e :: es) Y.env)).any (·.1) || (backToKw pos (keywordEach kws Y.env)).any (·.1.isNone)) = false) :
    PE Y (.Call (.Name x p) (e :: es) kws pos) (tMkS C n ks.length sp gV W ta tk) := by
  constructor
  intro pins s σ H Q I wish
  refine wpAny_Call_Name_kw (ld_glob I gl gm ?_ k3)
  refine PySem.W.callWith_KW (h₀ := Y.base) I.ok.mod.kin M.kp k1 (thn (args.run pos pins s σ H _ I wish) fun us sa ⟨vs, Ha, Ia, ra, qa⟩ => ?_) k5 k4
  refine thn (kwa.run pos pins sa σ Ha _ Ia qa) fun ws sb ⟨zs, Hb, Ib, rb, lv, lz, qb⟩ => ⟨Ib.kIn, ?_⟩
  rw [k2]
  have mde := Inv.made (C := C) Ib
  have hq := qb (sb.heap.objs.size + 1) sb.heap.objs.size (Ib.hok.fresh (Nat.le_succ _)) (Ib.hok.fresh (Nat.le_refl _)) (Nat.ne_of_lt (Nat.lt_succ_self _))
  have rl : Vals (V.ref (sb.heap.objs.size + 1) :: vs) (Value.ref (sb.heap.objs.size + 1) :: us) := .cons rfl ra
  have len1 : (Value.ref (sb.heap.objs.size + 1) :: us).length = n + 1 := (congrArg (· + 1) (ra.length.symm.trans lv))
  have toCall := F.run _ Y.stack _ _ ⟨Value.ref (sb.heap.objs.size + 1) :: us, ks.zip ws⟩ (g (Value.ref (sb.heap.objs.size + 1) :: us) ws) _ _ _ (room.make C us (ks.zip ws)) (mde.env0.make C us (ks.zip ws)) (kb.to _ _ ws mde.kIn len1 (rb.length.symm.trans lz)) (kb.rel rl rb) hq
  refine wpAny_call (make_map (f := f) Ib.kIn M.makes M.init (beq_iff_eq.mp M.fn) (codeAny_mono toCall fun res s' end_ => ?_))
  cases res with
  | error u => exact tkW u s' (L2N.XE.of_call mde (fun _ _ _ h => h) end_)
  | ok fl =>
    cases fl with
    | next => exact end_.elim
    | brk => exact end_.elim
    | cont => exact end_.elim
    | ret u =>
      obtain ⟨v, Hc, Ic, rc, ev, qc⟩ := mde.after end_
      cases ev
      exact ⟨rc, V.ref (sb.heap.objs.size + 1), Hc, Ic, rfl, qc⟩
section
variable {ι : Type} {X : ι → Cx} {P : Program} {w : World} {K : PySem.W.Frag} {mg : Str → Option Value} {base : Heap} {k : Nat} {E : XK} {N : List Str} {sc : Scope} {pos p p0 p1 : Pos} {σ : L2.St} {H : Hp}
theorem we_isi {e : Expr} {T : Str} {T' : String} {b : Bool} {p2 : Pos} {Q : VK} (hK : ∀ i, (X i).K = K) (hm : ∀ i, (X i).mg "isinstance" = none) (hT : ∀ i, (X i).mg T = none) (hk : PySem.W.kitOne K (.type "int") (.type T') = some b) (h : WE X e σ H fun v H1 => ∃ i, v = .int i ∧ Q (.bl b) H1)
    (hvT : bootBuiltins T = some (.type T')) (hgT : ∀ i, Gl (X i) T := by intro _; rfl) (hnT : T ≠ "__name__" := by decide) (hdT : (T == ("__debug__" : Str)) = false := by decide)
    (hg : ∀ i, Gl (X i) "isinstance" := by intro _; rfl) (hs : ∀ i, starEach [e, .Name T p2] (X i).env = (false, eval e (X i).env) :: starEach [.Name T p2] (X i).env := by intro _; rfl) (hs2 : ∀ i, starEach [.Name T p2] (X i).env = (false, eval (.Name T p2) (X i).env) :: starEach [] (X i).env := by intro _; rfl) (hpl : ∀ i, (backTo pos (starEach [.Name T p2] (X i).env)).any (·.1) = false := by intro _; rfl) :
    WE X (.Call (.Name "isinstance" p) [e, .Name T p2] [] pos) σ H Q := by
  refine ⟨_, fun i => pe_callB (X := X i) (r := rIsi K) (p := p) (pos := pos) (by have z := call_isi (X := X i); rw [hK i] at z; exact z) (hg i) (hm i) (by decide +kernel) (pa_cons (we_ok (e := e) i) (pa_cons (pe_bltn (pos := p2) (v := .ty T') (hgT i) (hT i) hvT rfl hnT hdT) pa_nil (hs2 i)) (hs i)) (by decide) (by decide) (hs i) (hpl i), ?_⟩
  exact we_mono h fun v H1 ⟨i, e1, q⟩ => ⟨v, .ty T', .type "int", .type T', b, rfl, .ty T', by subst e1; exact (Sca.int i).tyx, hk, q⟩
theorem we_notV {e : Expr} {Q : VK} (h : WE X e σ H fun v H1 => ∃ c, v = .bl c ∧ Q (.bl (!c)) H1) : WE X (.UnaryOp .Not e pos) σ H Q := ⟨_, fun i => pe_not (we_ok i), h⟩
end
end DL
namespace CL
open PySem PySem.Spec PyProof.Rows L2 DL
section
variable {P : Program} {w : World} {K : PySem.W.Frag} {mg : Str → Option Value} {base : Heap} {f : Addr} {fd : FuncData}
/-- _law_is_int, called while an error is handled -/
theorem ok_is_intH (F : F_q_is_int K f fd) (Y : Fre mg) : L2H.FnH P w K mg base (L2N.CX P w) 2 f fd p_q_is_int (spD K wpIsInt) := by
  obtain ⟨oc, od, dV, kV, doc, pm, an, cdv, ct, osl, rfl, lk, hcd, _, _⟩ := F.ex
  refine L2H.fn_ofH lk hcd s_q_is_int (fun vs H Q E h => ?_) fun A outer s H vs Q E p hot hr h => ?_
  · obtain ⟨G, ds, Q, R, _, r, ⟨i, rfl, _⟩, _⟩ := h
    rw [r.len]; rfl
  · obtain ⟨G, ds, Qd, R, eG, r, ⟨i, rfl, q⟩, wi, kk⟩ := h
    obtain ⟨v, rfl, rv⟩ := r.one
    rw [Rep.int_iff.mp rv]
    refine ⟨_, wb_ok (X := fun (_ : Unit) => L2H.cxH (L2N.CX P w) P w K mg base n_q_is_int "_law_is_int" c_q_is_int f cdv A outer s H E p) (), ?_⟩
    refine wb_cons (ws_ret (we_and (we_isi (T' := "int") (fun _ => rfl) (fun _ => Y.isinstance) (fun _ => Y.int) kit_ii ⟨_, fun _ => pe_var (i := 0) rfl (Or.inl rfl) (by decide +kernel) (by decide +kernel), .int i, rfl, i, rfl, true, rfl, ?_⟩ bo_int)))
    rw [if_pos rfl]
    refine we_one (we_notV (we_isi (T' := "bool") (fun _ => rfl) (fun _ => Y.isinstance) (fun _ => Y.bool) kit_ib ⟨_, fun _ => pe_var (i := 0) rfl (Or.inl rfl) (by decide +kernel) (by decide +kernel), .int i, rfl, i, rfl, false, rfl, ?_⟩ bo_bool))
    exact kk _ _ G H q (Stp.refl eG) (Sca.bl _).rep
end
end CL
namespace DL
open PySem PySem.Spec PyProof.Rows L2
def exCs : List Str := ["BadBounds", "BadHands", "BadPairing", "BadPlace", "BadSchedule", "BadText", "Unsteady", "Contradiction", "DuplicateName", "Unreachable", "UnknownName", "BadCard", "BadWord", "OutOfTurn", "ClimbrowError"]
/-- the classes of errors -/
structure Xk (K : PySem.W.Frag) (mg : Str → Option Value) : Prop where
  g : ∀ y ∈ exCs, mg y = some (.ref (He.ga K y))
  d : ∀ x ∈ (["BadHands", "BadCard", "BadWord", "OutOfTurn"] : List Str), ExD K (He.ga K x) ∧ XfC K (He.ga K x)
  k : ∀ x ∈ (["BadHands", "BadCard", "BadWord", "OutOfTurn"] : List Str), ∀ y ∈ exCs, PySem.W.kitOne K (.ref (He.ga K x)) (.ref (He.ga K y)) = some (decide (x = y) || decide (y = "ClimbrowError"))
  kv : ∀ x ∈ (["BadHands", "BadCard", "BadWord", "OutOfTurn"] : List Str), PySem.W.kitOne K (.ref (He.ga K x)) (.type "ValueError") = some true
  ex : ∀ x ∈ (["BadHands", "BadCard", "BadWord", "OutOfTurn"] : List Str), PySem.W.exmOne K (.ref (He.ga K x)) (.ref (He.ga K "ClimbrowError")) = some true
  exh : PySem.W.exmOne K (.ref (He.ga K "BadHands")) (.ref (He.ga K "BadHands")) = some true
  n1 : PySem.W.findIn K (.ref (He.ga K "BadHands")) "mine_count" = some none
  n2 : PySem.W.findIn K (.ref (He.ga K "BadHands")) "theirs_count" = some none
  n3 : PySem.W.findIn K (.ref (He.ga K "BadCard")) "side" = some none
  n4 : PySem.W.findIn K (.ref (He.ga K "BadCard")) "index" = some none
  n5 : PySem.W.findIn K (.ref (He.ga K "BadWord")) "position" = some none
theorem kit_none {K : PySem.W.Frag} {t : Value} : ∀ {us : List Value}, (∀ u ∈ us, PySem.W.kitOne K t u = some false) → PySem.W.kitAny K t us = some false
  | [], _ => rfl
  | u :: us, h => kitAny_cons (h u List.mem_cons_self) (fun _ => kit_none fun x hx => h x (List.mem_cons_of_mem _ hx)) nofun
theorem clsV_map {K : PySem.W.Frag} : ∀ ys : List Str, Paired ClsV (ys.map fun y => V.ref (He.ga K y)) (ys.map fun y => Value.ref (He.ga K y))
  | [] => .nil
  | y :: ys => .cons (.own _) (clsV_map ys)
theorem Ok.tr {ι : Type} {X : ι → Cx} {P : Program} {w : World} {K : PySem.W.Frag} {mg : Str → Option Value} {base : Heap} {k : Nat} {E : XK} (O : Ok X P w K mg base k E) (W : L2.WX) : Ok (Trf X W) P w K mg base k E0 :=
  ⟨fun q => O.p q.1.1, fun q => O.w q.1.1, fun q => O.K q.1.1, fun q => O.mg q.1.1, fun q => O.base q.1.1, fun q => O.calm q.1.1, fun q => O.nd q.1.1, fun q => O.room q.1.1, fun _ => passN⟩
section
variable {ι : Type} {X : ι → Cx} {P : Program} {w : World} {K : PySem.W.Frag} {mg : Str → Option Value} {base : Heap} {k : Nat} {E : XK} {N : List Str} {sc : Scope} {pos p p0 p1 p2 : Pos} {σ : L2.St} {H : Hp}
theorem wa_cls {y : Str} {es : List Expr} {Q : List V → Hp → Prop} (hmg : ∀ i, (X i).mg = mg) (G : ∀ y ∈ exCs, mg y = some (.ref (He.ga K y))) (hy : y ∈ exCs) (h : WA X es σ H fun vs H' => Q (.ref (He.ga K y) :: vs) H') (hg : ∀ i, Gl (X i) y := by intro _; rfl) (hd : (y == ("__debug__" : Str)) = false := by decide +kernel)
    (hs : ∀ i, starEach (.Name y p :: es) (X i).env = (false, eval (.Name y p) (X i).env) :: starEach es (X i).env := by intro _; rfl) : WA X (.Name y p :: es) σ H Q :=
  wa_cons (we_glob (fun i => by rw [hmg i]; exact G y hy) h hg hd) hs
/-- isinstance(e, (..)), none of them -/
theorem we_isT [cn : Cn X N sc] {n : Str} {a C : Addr} {d : Option Addr} {j : Nat} {es : List Expr} {x1} {ys : List Str} {Q : VK} (O : Ok X P w K mg base k E) (hm : mg "isinstance" = none) (T : ExD K C) (hx : nokB N sc n j = true) (hσ : σ[j]? = some (some (.ref a))) (hd : DOk d H) (hl : ys.length ≤ 100)
    (hk : ∀ y ∈ ys, PySem.W.kitOne K (.ref C) (.ref (He.ga K y)) = some false) (h : ∀ (Q' : List V → Hp → Prop) H', Q' (ys.map fun y => V.ref (He.ga K y)) H' → WA (Sui X a (.ref C) d) es σ H' Q') (q : ∀ H', Ex H H' → Q (.bl false) H')
    (hg : ∀ i, Gl (X i) "isinstance" := by intro _; rfl) (hs : ∀ i, starEach [.Name n p1, .Tuple es x1 p2] (Sui X a (.ref C) d i).env = (false, eval (.Name n p1) (Sui X a (.ref C) d i).env) :: starEach [.Tuple es x1 p2] (Sui X a (.ref C) d i).env := by intro _; rfl)
    (hs2 : ∀ i, starEach [.Tuple es x1 p2] (Sui X a (.ref C) d i).env = (false, eval (.Tuple es x1 p2) (Sui X a (.ref C) d i).env) :: starEach [] (Sui X a (.ref C) d i).env := by intro _; rfl) (hpl : ∀ i, (backTo pos (starEach [.Tuple es x1 p2] (Sui X a (.ref C) d i).env)).any (·.1) = false := by intro _; rfl) :
    WE (Sui X a (.ref C) d) (.Call (.Name "isinstance" p) [.Name n p1, .Tuple es x1 p2] [] pos) σ H Q := by
  refine we_is O.K (fun i => by rw [O.mg i]; exact hm) T hx hσ (we_tup (h _ H ⟨?_, fun t ht => ?_⟩)) hg hs hs2 hpl
  · rw [List.length_map, sizeLine_eq]; omega
  · refine ⟨hd.mono (Ex.upd ht), false, .inr ⟨t, _, _, rfl, upd_same, clsV_map ys, kit_none fun u hu => ?_⟩, q _ (Ex.upd ht)⟩
    obtain ⟨y, hy, rfl⟩ := List.mem_map.mp hu
    exact hk y hy
/-- isinstance(e, C') -/
theorem we_isC [cn : Cn X N sc] {n : Str} {a C : Addr} {d : Option Addr} {j : Nat} {y : Str} {b : Bool} {Q : VK} (O : Ok X P w K mg base k E) (hm : mg "isinstance" = none) (T : ExD K C) (hx : nokB N sc n j = true) (hσ : σ[j]? = some (some (.ref a))) (hd : DOk d H)
    (hy : mg y = some (.ref (He.ga K y))) (hk : PySem.W.kitOne K (.ref C) (.ref (He.ga K y)) = some b) (q : Q (.bl b) H) (hgy : ∀ i, Gl (X i) y := by intro _; rfl) (hdy : (y == ("__debug__" : Str)) = false := by decide +kernel)
    (hg : ∀ i, Gl (X i) "isinstance" := by intro _; rfl) (hs : ∀ i, starEach [.Name n p1, .Name y p2] (Sui X a (.ref C) d i).env = (false, eval (.Name n p1) (Sui X a (.ref C) d i).env) :: starEach [.Name y p2] (Sui X a (.ref C) d i).env := by intro _; rfl)
    (hs2 : ∀ i, starEach [.Name y p2] (Sui X a (.ref C) d i).env = (false, eval (.Name y p2) (Sui X a (.ref C) d i).env) :: starEach [] (Sui X a (.ref C) d i).env := by intro _; rfl) (hpl : ∀ i, (backTo pos (starEach [.Name y p2] (Sui X a (.ref C) d i).env)).any (·.1) = false := by intro _; rfl) :
    WE (Sui X a (.ref C) d) (.Call (.Name "isinstance" p) [.Name n p1, .Name y p2] [] pos) σ H Q := by
  exact we_is O.K (fun i => by rw [O.mg i]; exact hm) T hx hσ (we_glob (fun i => by show (X i.1).mg y = _; rw [O.mg i.1]; exact hy) ⟨hd, b, .inl ⟨_, .own _, hk⟩, q⟩ (fun i => hgy i.1) hdy) hg hs hs2 hpl
theorem we_isV [cn : Cn X N sc] {n : Str} {a C : Addr} {d : Option Addr} {j : Nat} {Q : VK} (O : Ok X P w K mg base k E) (hm : mg "isinstance" = none) (hv : mg "ValueError" = none) (T : ExD K C) (hx : nokB N sc n j = true) (hσ : σ[j]? = some (some (.ref a))) (hd : DOk d H)
    (hk : PySem.W.kitOne K (.ref C) (.type "ValueError") = some true) (q : Q (.bl true) H) (hgy : ∀ i, Gl (X i) "ValueError" := by intro _; rfl)
    (hg : ∀ i, Gl (X i) "isinstance" := by intro _; rfl) (hs : ∀ i, starEach [.Name n p1, .Name "ValueError" p2] (Sui X a (.ref C) d i).env = (false, eval (.Name n p1) (Sui X a (.ref C) d i).env) :: starEach [.Name "ValueError" p2] (Sui X a (.ref C) d i).env := by intro _; rfl)
    (hs2 : ∀ i, starEach [.Name "ValueError" p2] (Sui X a (.ref C) d i).env = (false, eval (.Name "ValueError" p2) (Sui X a (.ref C) d i).env) :: starEach [] (Sui X a (.ref C) d i).env := by intro _; rfl) (hpl : ∀ i, (backTo pos (starEach [.Name "ValueError" p2] (Sui X a (.ref C) d i).env)).any (·.1) = false := by intro _; rfl) :
    WE (Sui X a (.ref C) d) (.Call (.Name "isinstance" p) [.Name n p1, .Name "ValueError" p2] [] pos) σ H Q := by
  exact we_is O.K (fun i => by rw [O.mg i]; exact hm) T hx hσ (we_ve (fun i => by show (X i.1).mg _ = _; rw [O.mg i.1]; exact hv) ⟨hd, true, .inl ⟨_, .ty _, hk⟩, q⟩ (fun i => hgy i.1)) hg hs hs2 hpl
theorem wt_cmp {a b : Expr} {op : CmpOp} {Q : Bool → Hp → Prop} (h : WE X a σ H fun x H1 => WE X b σ H1 fun y H2 => WO X (compareOp op) x y H2 fun v H3 => ∃ c, v = .bl c ∧ Q c H3) (hm : behindInMarks op b = false := by first | exact nomark _ | rfl) : WT X (.Compare a [op] [b] pos) σ H Q :=
  ⟨_, fun i => pt_cmpR (wo_ok i) (we_ok i) (we_ok i) hm, h⟩
/-- _law_is_int(e.f), the field an int -/
theorem we_isF [cn : Cn X N sc] {n fl x : Str} {f a C : Addr} {d : Option Addr} {j : Nat} {fd : FuncData} {ps : List Str} {Q : VK} {dd : Addr} {fs : List (Str × V)} {i0 : Int} (O : Ok X P w K mg base k E) (hk : 2 ≤ k) (F : L2H.FnH P w K mg base (L2N.CX P w) 2 f fd ps (spD K CL.wpIsInt)) (gm : mg x = some (.ref f)) (kp : PySem.W.keepIn K (.ref f) = true) (bd : Binds K fd ps [])
    (T : XfC K C) (hno : PySem.W.findIn K (.ref C) fl = some none) (hx : nokB N sc n j = true) (hσ : σ[j]? = some (some (.ref a))) (hd : d = some dd) (hH : H dd = some (.xd fs)) (hl : fs.lookup fl = some (.int i0)) (q : ∀ H', Ex H H' → Q (.bl true) H')
    (hb : ∀ i, attributeBase (.Name n p1) fl (X i).env (eval (.Name n p1) (X i).env) = eval (.Name n p1) (X i).env := by intro _; rfl) (hg : ∀ i, Gl (X i) x := by intro _; rfl) (hdb : (x == ("__debug__" : Str)) = false := by decide +kernel)
    (he : ∀ i, starEach [.Attribute (.Name n p1) fl p2] (Sui X a (.ref C) d i).env = (false, eval (.Attribute (.Name n p1) fl p2) (Sui X a (.ref C) d i).env) :: starEach [] (Sui X a (.ref C) d i).env := by intro _; rfl) (hpl : ∀ i, (backTo pos (starEach [] (Sui X a (.ref C) d i).env)).any (·.1) = false := by intro _; rfl) :
    WE (Sui X a (.ref C) d) (.Call (.Name x p) [.Attribute (.Name n p1) fl p2] [] pos) σ H Q := by
  refine we_hot O.p O.w O.K O.base O.mg (fun i => (O.room i).mono hk) F gm kp bd (wa_cons (we_xf O.K T hno hx hσ hd hH hl (wa_nil ?_) hb) he) hg hdb he hpl
  exact ⟨H, [.int i0], fun z => z = .bl true, fun _ => False, Ex.refl _, Reps.cons (Sca.int _).rep Reps.nil, ⟨i0, rfl, rfl⟩, Wish.none, fun z v G' H' hz s r => by subst hz; rw [Rep.bl_iff.mp r]; exact q _ s.h⟩
end
end DL
namespace CL
open PySem PySem.Spec PyProof.Rows L2 DL
/-- _law_is_int in a suite -/
structure KnH (P : Program) (w : World) (K : PySem.W.Frag) (mg : Str → Option Value) (base : Heap) : Prop where
  ex : ∃ f fd, L2H.FnH P w K mg base (L2N.CX P w) 2 f fd p_q_is_int (spD K wpIsInt) ∧ mg "_law_is_int" = some (.ref f) ∧ PySem.W.keepIn K (.ref f) = true ∧ Binds K fd p_q_is_int []
/-- how a guide is made -/
structure GMk (P : Program) (w : World) (K : PySem.W.Frag) (mg : Str → Option Value) (base : Heap) : Prop where
  ex : ∃ f fd g gV ds, FnOk P w K mg base (L2N.CX P w) 4 f fd p_m_Guide_init (spGI K) ∧ Mk K (CG K) f ∧ KBn K fd p_m_Guide_init 4 ["many"] g gV ∧ (∀ vs zs : List V, vs.length = 4 → zs.length = 1 → gV vs zs = vs ++ zs) ∧ Binds K fd p_m_Guide_init ds ∧ Vals [.str "mine"] ds
  gm : mg "Guide" = some (.ref (CG K))
local macro_rules | `(tactic| walk_at "cls") => `(tactic| (intro Q' H' q'; repeat refine wa_cls (fun i => by show (_ : Cx).mg = _; rfl) (by assumption) (by decide +kernel) ?_; exact wa_nil q'))
section
variable {P : Program} {w : World} {K : PySem.W.Frag} {mg : Str → Option Value} {base : Heap} {f : Addr} {fd : FuncData}
end
end CL
namespace DL
open PySem PySem.Spec PyProof.Rows L2
section
variable {ι : Type} {X : ι → Cx} {P : Program} {w : World} {K : PySem.W.Frag} {mg : Str → Option Value} {base : Heap} {k : Nat} {E : XK} {N : List Str} {sc : Scope} {pos p p0 p1 p2 : Pos} {σ : L2.St} {H : Hp}
theorem ws_for {tg e : Expr} {body : List Stmt} {Dv : Ends} (O : Ok X P w K mg base k E) (hp : ∀ i, PassesOwn (model (X i).prog (X i).w) (X i).A (X i).env (X i).xe)
    (h : WE X e σ H fun v H1 => ∃ a vs, v = .ref a ∧ SqL K H1 a vs ∧ ∃ I : Nat → L2.St → Hp → Prop, I 0 σ H1 ∧ (∀ n σ' H', I n σ' H' → SqL K H' a vs) ∧
      (∀ n x σ' H', vs[n]? = some x → I n σ' H' → WG X tg x σ' H' fun σ2 H2 => WB X body { Dv with nx := I (n + 1), ct := I (n + 1), bk := Dv.nx } σ2 H2) ∧ ∀ σ' H', I vs.length σ' H' → Dv.nx σ' H')
    (hs : ∀ i x, foldedSetIterable e (X i).env x = pure x := by intro _ _; rfl) : WS X (.For tg e body [] pos) Dv σ H :=
  ⟨tFor (iList K (WE X e)) (WG X tg) (WB X body), fun i => by have z := ps_for (pos := pos) (hp i) (O.calm i) (pi_list (X := X i) (tg := tg) (we_ok (e := e) i)) (wg_ok (e := tg) i) (wb_ok (e := body) i) (hs i); rw [O.K i] at z; exact z,
    we_mono h fun v H1 ⟨a, vs, e1, sq, I, i0, hsq, hstep, hend⟩ => ⟨a, e1, ⟨vs, sq⟩, for_list (K := K) (a := a) (xs := vs) I i0 (fun n σ' H' _ z => hsq n σ' H' z) (fun n x σ' H' hx z => hstep n x σ' H' hx z) fun σ' H' z => hend σ' H' z⟩⟩
/-- x[i], x a list at l -/
theorem we_subL [cn : Cn X N sc] {x : Str} {j : Nat} {b : Expr} {Q : VK} (O : Ok X P w K mg base k E) (hx : nokB N sc x j = true) {l : Addr} (hσ : σ[j]? = some (some (.ref l)))
    (h : WE X b σ H fun y H1 => ∃ (vs : List V) (n : Nat) (v : V), y = .int n ∧ H1 l = some (.lst vs) ∧ vs[n]? = some v ∧ Q v H1) (hs : PlainIx b := by exact fun _ _ => rfl) : WE X (.Subscript (.Name x p) b pos) σ H Q := by
  have vs := vis_of (X := X) hx
  exact ⟨_, fun i => pe_ix (wx_ok i) (pe_var (vs.1 i) (vs.2.1 i) vs.2.2.1 vs.2.2.2) (we_ok i) hs, .ref l, hσ, we_mono h fun y H1 ⟨us, n, v, e1, e2, e3, q⟩ => ⟨rIxL K, fun i => by have z := ix_list (X := X i); rw [O.K i] at z; exact z, l, us, n, v, rfl, e1, SqL.of e2, atI_nat e3, q⟩⟩
/-- x[i] = e, x a list at l -/
theorem ws_putL [cn : Cn X N sc] {x : Str} {j : Nat} {e ei : Expr} {Dv : Ends} (hx : nokB N sc x j = true) {l : Addr} (hσ : σ[j]? = some (some (.ref l)))
    (h : WE X e σ H fun u H1 => WE X ei σ H1 fun y H2 => ∃ (vs : List V) (n : Nat), y = .int n ∧ H2 l = some (.lst vs) ∧ n < vs.length ∧ Dv.nx σ (upd H2 l (.lst (vs.set n u))))
    (ha : ∀ i v, assign (.Subscript (.Name x p1) ei p2) (X i).env v = (do
      let ov ← holding [v] (eval (.Name x p1) (X i).env)
      let iv ← holding [v, ov] (eval ei (X i).env)
      standAt p2
      holding [v, ov, iv] (setItem ov iv v)
      release [v, ov, iv] []) := by intro _ _; rfl)
    (hs : ∀ i, swapsWithSole [.Subscript (.Name x p1) ei p2] e pos.line (X i).env = pure false := by intro _; rfl) (hw : ∀ i, swappedStores [.Subscript (.Name x p1) ei p2] e (X i).env = pure none := by intro _; rfl)
    (h1 : ∀ i, (assignEach [.Subscript (.Name x p1) ei p2] (X i).env).map (·.2) = [assign (.Subscript (.Name x p1) ei p2) (X i).env] := by intro _; rfl) : WS X (.Assign [.Subscript (.Name x p1) ei p2] e pos) Dv σ H := by
  have vs := vis_of (X := X) hx
  refine ⟨_, fun i => ps_asg (we_ok i) (pg_sub (pe_var (vs.1 i) (vs.2.1 i) vs.2.2.1 vs.2.2.2) (we_ok i) set_list (ha i)) (hs i) (hw i) (h1 i), we_mono h fun u H1 h2 => ⟨.ref l, hσ, we_mono h2 fun y H2 ⟨us, n, e1, e2, e3, q⟩ => ⟨l, us, (n : Int), n, rfl, e1, e2, ?_, q⟩⟩⟩
  unfold ixN
  rw [if_pos (Int.natCast_nonneg n), if_pos (Int.ofNat_lt.mpr e3), Int.toNat_natCast]
end
end DL
namespace DL
open PySem PySem.Spec PyProof.Rows L2
section
variable {ι : Type} {X : ι → Cx} {P : Program} {w : World} {K : PySem.W.Frag} {mg : Str → Option Value} {base : Heap} {k : Nat} {E : XK} {ρ : Rho} {N : List Str} {sc : Scope} {pos p p0 p1 p2 : Pos} {σ : L2.St} {H : Hp}
theorem wg_name [cn : Cn X N sc] {x : Str} {j : Nat} {v : V} {Q : L2.St → Hp → Prop} (O : Ok X P w K mg base k E) (hx : sokB N sc x j = true) (q : Q (σ.set j (some v)) H) (hf : ∀ i, (X i).fn x = true := by intro _; rfl) : WG X (.Name x pos) v σ H Q := by
  have h1 := Bool.and_eq_true_iff.mp hx
  refine ⟨_, fun i => pg_name (O.nd i) (by rw [cn.hN i]; exact of_decide_eq_true h1.1) ?_ (.inl (hf i)), q⟩
  have hv := h1.2
  rw [cn.hS i]
  rcases Bool.or_eq_true_iff.mp hv with h | h
  · exact .inl (by simpa [locB] using h)
  · exact .inr (by simpa [celB] using h)
theorem we_ev {e : Expr} {z : D} {B G : Hp} {Q : VK} (h : ev X K E e ρ (fun d => d = z) (fun _ => False)) (eB : Ex B H) (eG : Ex G H) (c : EnvR K B G H σ ρ) (q : ∀ v G' H', Stp G H G' H' → Rep K G' z v → Q v H') : WE X e σ H Q :=
  h.run B G H σ eB eG c Wish.none _ fun d v G' H' hd s r => q v G' H' s (hd ▸ r)
theorem wt_ev {e : Expr} {b : Bool} {B G : Hp} {Q : Bool → Hp → Prop} (h : evt X K E e ρ (fun c => c = b) (fun _ => False)) (eB : Ex B H) (eG : Ex G H) (c : EnvR K B G H σ ρ) (q : ∀ G' H', Stp G H G' H' → Q b H') : WT X e σ H Q :=
  h.run B G H σ eB eG c Wish.none _ fun d G' H' hd s => hd ▸ q G' H' s
theorem we_evn {e : Expr} {z : List D} {B G : Hp} {Q : VK} (h : evn X K E e ρ (fun d => d = z) (fun _ => False)) (eB : Ex B H) (eG : Ex G H) (c : EnvR K B G H σ ρ) (q : ∀ t vs G' H', Stp G H G' H' → H t = none → G' t = none → H' t = some (.lst vs) → Reps K G' z vs → Q (.ref t) H') : WE X e σ H Q :=
  h.run B G H σ eB eG c Wish.none _ fun d t vs G' H' hd s h1 h2 h3 r => q t vs G' H' s h1 h2 h3 (hd ▸ r)
theorem wa_ev {e : List Expr} {z : List D} {B G : Hp} {Q : List V → Hp → Prop} (h : evs X K E e ρ (fun d => d = z) (fun _ => False)) (eB : Ex B H) (eG : Ex G H) (c : EnvR K B G H σ ρ) (q : ∀ v G' H', Stp G H G' H' → Reps K G' z v → Q v H') : WA X e σ H Q :=
  h.run B G H σ eB eG c Wish.none _ fun d v G' H' hd s r => q v G' H' s (hd ▸ r)
end
theorem Stp.wrote {G0 B G H : Hp} {l : Addr} {o : HO} (s : Stp G0 B G H) (b : B l = none) (g : G l = none) : Stp G0 B G (upd H l o) :=
  ⟨s.g, fun a u e => by rw [upd_ne (ne_of_none e b)]; exact s.h a u e, fun a u e => by rw [upd_ne (ne_of_none e g)]; exact s.i a u e, s.n⟩
end DL
namespace CL
open PySem PySem.Spec PyProof.Rows L2 DL
def oS : Option D → Sl
  | none => .no
  | some d => .va d
def rhoL (M T : List Int) (h : Int) (c : Option D) : Rho := [.va (lI M), .va (lI T), .va (.int h), .no, oS c, .no, .no]
theorem rhoL_no {M T : List Int} {h : Int} {c : Option D} : (∀ (i : Nat) ds, (rhoL M T h c)[i]? ≠ some (.ow ds)) ∧ ∀ (i : Nat) g, (rhoL M T h c)[i]? ≠ some (.gu g) := by
  constructor <;> intro i z q <;> cases c <;> match i, q with
    | 0, q => cases q
    | 1, q => cases q
    | 2, q => cases q
    | 3, q => cases q
    | 4, q => cases q
    | 5, q => cases q
    | 6, q => cases q
    | n + 7, q => cases q
/-- the two rows that are being filled -/
structure LvS (K : PySem.W.Frag) (B G H : Hp) (σ : L2.St) (M T : List Int) (pf l0 l1 : Addr) (h : Int) (xs0 xs1 : List Int) (c : Option D) : Prop where
  env : EnvR K B G H σ (rhoL M T h c)
  s3 : σ[3]? = some (some (.ref pf))
  hf : H pf = some (.lst [.ref l0, .ref l1])
  h0 : H l0 = some (.lst (xs0.map .int))
  h1 : H l1 = some (.lst (xs1.map .int))
  gf : G pf = none
  g0 : G l0 = none
  g1 : G l1 = none
  bf : B pf = none
  b0 : B l0 = none
  b1 : B l1 = none
  n01 : l0 ≠ l1
  nf0 : pf ≠ l0
  nf1 : pf ≠ l1
section
variable {K : PySem.W.Frag} {B G H G' H' : Hp} {σ σ' : L2.St} {M T : List Int} {pf l0 l1 : Addr} {h h' : Int} {xs0 xs1 ys : List Int} {c c' : Option D}
theorem LvS.step (x : LvS K B G H σ M T pf l0 l1 h xs0 xs1 c) (s : Stp G H G' H') : LvS K B G' H' σ M T pf l0 l1 h xs0 xs1 c :=
  ⟨x.env.mono s, x.s3, s.h _ _ x.hf, s.h _ _ x.h0, s.h _ _ x.h1, s.out x.gf (by rw [x.hf]; exact nofun), s.out x.g0 (by rw [x.h0]; exact nofun), s.out x.g1 (by rw [x.h1]; exact nofun), x.bf, x.b0, x.b1, x.n01, x.nf0, x.nf1⟩
theorem LvS.slots (x : LvS K B G H σ M T pf l0 l1 h xs0 xs1 c) (e : EnvR K B G H σ' (rhoL M T h' c')) (s3 : σ'[3]? = some (some (.ref pf))) : LvS K B G H σ' M T pf l0 l1 h' xs0 xs1 c' :=
  ⟨e, s3, x.hf, x.h0, x.h1, x.gf, x.g0, x.g1, x.bf, x.b0, x.b1, x.n01, x.nf0, x.nf1⟩
theorem LvS.put0 (x : LvS K B G H σ M T pf l0 l1 h xs0 xs1 c) : LvS K B G (upd H l0 (.lst (ys.map .int))) σ M T pf l0 l1 h ys xs1 c :=
  ⟨x.env.plain rhoL_no.1 rhoL_no.2, x.s3, by rw [upd_ne x.nf0]; exact x.hf, upd_same, by rw [upd_ne (Ne.symm x.n01)]; exact x.h1, x.gf, x.g0, x.g1, x.bf, x.b0, x.b1, x.n01, x.nf0, x.nf1⟩
theorem LvS.put1 (x : LvS K B G H σ M T pf l0 l1 h xs0 xs1 c) : LvS K B G (upd H l1 (.lst (ys.map .int))) σ M T pf l0 l1 h xs0 ys c :=
  ⟨x.env.plain rhoL_no.1 rhoL_no.2, x.s3, by rw [upd_ne x.nf1]; exact x.hf, by rw [upd_ne x.n01]; exact x.h0, upd_same, x.gf, x.g0, x.g1, x.bf, x.b0, x.b1, x.n01, x.nf0, x.nf1⟩
/-- in the end it is data -/
theorem LvS.out (x : LvS K B G H σ M T pf l0 l1 h xs0 xs1 c) {G0 : Hp} (s : Stp G0 B G H) : ∃ G' : Hp, Stp G0 B G' H ∧ Rep K G' (.lst [lI xs0, lI xs1]) (.ref pf) := by
  have e0 : Ex G (upd G l0 (.lst (xs0.map .int))) := Ex.upd x.g0
  have q1 : (upd G l0 (.lst (xs0.map .int))) l1 = none := by rw [upd_ne (Ne.symm x.n01)]; exact x.g1
  have q2 : (upd (upd G l0 (.lst (xs0.map .int))) l1 (.lst (xs1.map .int))) pf = none := by rw [upd_ne x.nf1, upd_ne x.nf0]; exact x.gf
  have e1 := Ex.upd (o := .lst (xs1.map .int)) q1
  have e2 := Ex.upd (o := .lst [.ref l0, .ref l1]) q2
  refine ⟨_, ⟨s.g.trans (e0.trans (e1.trans e2)), s.h, fun a o e => ?_, fun a e => ?_⟩, Rep.lst_iff.mpr ⟨pf, _, rfl, upd_same, Reps.cons (Rep.lst_iff.mpr ⟨l0, _, rfl, e2 _ _ (e1 _ _ upd_same), Reps.of_ints _⟩) (Reps.cons (Rep.lst_iff.mpr ⟨l1, _, rfl, e2 _ _ upd_same, Reps.of_ints _⟩) Reps.nil)⟩⟩
  · by_cases z2 : a = pf
    · rw [z2, upd_same] at e; cases e; rw [z2]; exact x.hf
    · rw [upd_ne z2] at e
      by_cases z1 : a = l1
      · rw [z1, upd_same] at e; cases e; rw [z1]; exact x.h1
      · rw [upd_ne z1] at e
        by_cases z0 : a = l0
        · rw [z0, upd_same] at e; cases e; rw [z0]; exact x.h0
        · rw [upd_ne z0] at e; exact s.i a o e
  · by_cases z2 : a = pf
    · rw [z2]; exact .inr x.bf
    · rw [upd_ne z2] at e
      by_cases z1 : a = l1
      · rw [z1]; exact .inr x.b1
      · rw [upd_ne z1] at e
        by_cases z0 : a = l0
        · rw [z0]; exact .inr x.b0
        · rw [upd_ne z0] at e; exact s.n a e
end
section
variable {P : Program} {w : World} {K : PySem.W.Frag} {mg : Str → Option Value} {base : Heap} {f : Addr} {fd : FuncData}
theorem ok_llevels (F : F_q_levels K f fd) (Y : Fre mg) (k1 : Kn P w K mg base "_law_order" 2 wpOrder) : FnOk P w K mg base (L2N.CX P w) 3 f fd p_q_levels (spD K wpLLevels) := by
  refine fn_ok F s_q_levels (fun ds Q R h => ?_) fun X E hX O hp tk ds Q R h => ?_
  · obtain ⟨_, _, rfl, _⟩ := h; rfl
  · obtain ⟨M, T, rfl, hl, hM, q⟩ := h
    obtain ⟨cdv, A, outer, sh, H, rfl⟩ := hX
    have hlen := ord_len M T
    have nd : (n_q_levels).Nodup := s_q_levels.nd
    walk_at "st"
    walk_at "all"
    refine ⟨fun G0 B G H1 σ Dv s c wi m => ?_⟩
    have c : EnvR K B G H1 σ (rhoL M T 0 none) := c
    have zr : ∀ N : List Int, List.map (fun _ => D.int 0) N = (List.replicate N.length (0 : Int)).map D.int := fun N => by
      rw [List.map_replicate, List.map_const']
    refine wb_cons (ws_set (j := 3) nd (by decide +kernel) (we_lst (wa_cons (we_evn (E := E) (z := (List.replicate T.length (0 : Int)).map D.int) (en_c (α := Int) [("_law_x", 6)] [6] O ?_) s.h s.i c fun l0 vs0 G2 H2 s2 f0 g0 h0 r0 => ?_))))
    · walk_at "all"
      refine ⟨T, .int, fun _ => true, fun _ => .int 0, rfl, by omega, fun x hx => ?_, ?_⟩
      · refine tg_name (O.blk _) (evi_nil ⟨rfl, fun _ => ?_⟩)
        walk_at "all"
        rfl
      rw [allL]
      exact zr T
    have st2 := s.trans s2
    refine wa_cons (we_evn (E := E) (z := (List.replicate M.length (0 : Int)).map D.int) (en_c (α := Int) [("_law_x", 6)] [6] O ?_) st2.h st2.i (c.mono s2) fun l1 vs1 G3 H3 s3 f1 g1 h1 r1 => wa_nil ⟨by exact (by decide +kernel : 2 ≤ sizeLine), fun pf hpf => ?_⟩)
    · walk_at "all"
      refine ⟨M, .int, fun _ => true, fun _ => .int 0, rfl, by omega, fun x hx => ?_, ?_⟩
      · refine tg_name (O.blk _) (evi_nil ⟨rfl, fun _ => ?_⟩)
        walk_at "all"
        rfl
      rw [allL]
      exact zr M
    have st3 := st2.trans s3
    rw [r0.ints_of] at h0
    rw [r1.ints_of] at h1
    have gpf := st3.i.free hpf
    have bpf := st3.h.free hpf
    have h0' := s3.h _ _ h0
    have n01 : l0 ≠ l1 := fun z => by rw [z, f1] at h0; cases h0
    have nf0 : pf ≠ l0 := fun z => by rw [z, h0'] at hpf; cases hpf
    have nf1 : pf ≠ l1 := fun z => by rw [z, h1] at hpf; cases hpf
    have st4 : Stp G0 B G3 (upd H3 pf (.lst [.ref l0, .ref l1])) := st3.wrote bpf gpf
    have c4 : EnvR K B G3 (upd H3 pf (.lst [.ref l0, .ref l1])) (σ.set 3 (some (.ref pf))) (rhoL M T 0 none) := (((c.mono s2).mono s3).setNo 3 (some (.ref pf))).plain rhoL_no.1 rhoL_no.2
    have hl3 : 3 < σ.length := by rw [c.len]; exact (by decide : 3 < 7)
    have L0 : LvS K B G3 (upd H3 pf (.lst [.ref l0, .ref l1])) (σ.set 3 (some (.ref pf))) M T pf l0 l1 0 (List.replicate T.length 0) (List.replicate M.length 0) none :=
      ⟨c4, List.getElem?_set_self hl3, upd_same, by rw [upd_ne (Ne.symm nf0)]; exact h0', by rw [upd_ne (Ne.symm nf1)]; exact h1, gpf, s3.out g0 (by rw [h0]; exact nofun), g1, bpf, s.h.free f0, st2.h.free f1, n01, nf0, nf1⟩
    refine wb_cons (ws_for O hp (we_ev (E := E) (z := .lst ((ord M T).map dC)) (ev_call O k1 (by decide) ?_) st4.h st4.i L0.env fun v G5 H5 s5 r5 => ?_))
    · walk_at "all"
      exact ⟨M, T, rfl, hM, by omega, rfl⟩
    obtain ⟨a, vs, rfl, ha, ra⟩ := Rep.lst_iff.mp r5
    refine ⟨a, vs, rfl, SqL.of (s5.i _ _ ha), fun n σ' H' => ∃ G' xs0 xs1 o, Stp G0 B G' H' ∧ Ex G5 G' ∧ LvS K B G' H' σ' M T pf l0 l1 (ht ((ord M T).take n)) xs0 xs1 o ∧ Fnd M T 0 n xs0 ∧ Fnd M T 1 n xs1,
      ⟨G5, _, _, none, st4.trans s5, Ex.refl _, L0.step s5, hl ▸ Fnd.zero M T 0, Fnd.zero M T 1⟩, fun n σ' H' ⟨G', _, _, _, st, eg, _⟩ => SqL.of (st.i _ _ (eg _ _ ha)), ?_, ?_⟩
    · rintro n x σ' H' hx ⟨G', xs0, xs1, o, st, eg, L, F0, F1⟩
      have hnl : n < ((ord M T).map dC).length := by rw [← ra.len]; exact (List.getElem?_eq_some_iff.mp hx).1
      have hn : n < (ord M T).length := by rwa [List.length_map] at hnl
      obtain ⟨cc, hc⟩ : ∃ cc, (ord M T)[n]? = some cc := ⟨_, List.getElem?_eq_getElem hn⟩
      obtain ⟨x', hx', rx⟩ := ra.get (d := dC cc) (i := n) (by rw [List.getElem?_map, hc]; rfl)
      rw [hx] at hx'
      cases hx'
      have hm := cd_of (List.mem_of_getElem? hc)
      have hcs := ord_side (List.mem_of_getElem? hc)
      have hix : cc.2.2 < M.length := by
        have := hm.2
        rcases hcs with h | h <;> rw [h] at this <;> simp [hd] at this <;> omega
      have lσ : σ'.length = 7 := L.env.len
      refine wg_name (j := 4) O (by decide +kernel) ?_
      have L1 : LvS K B G' H' (σ'.set 4 (some x)) M T pf l0 l1 (ht ((ord M T).take n)) xs0 xs1 (some (dC cc)) := L.slots (by have z := L.env.set 4 (rx.mono eg); cases o <;> exact z) (by rw [List.getElem?_set_ne (by decide)]; exact L.s3)
      refine wb_cons (ws_set (j := 5) nd (by decide +kernel) (we_subL (j := 3) O (by decide +kernel) L1.s3 (we_ev (E := E) (z := .int cc.2.1) ?_ st.h st.i L1.env fun v6 G6 H6 s6 r6 => ?_)))
      · walk_at "all"
        exact i_tupN (j := 1) (d := .int cc.2.1) O rfl rfl
      rw [Rep.int_iff.mp r6]
      have L6 := L1.step s6
      have st6 := st.trans s6
      refine ⟨[.ref l0, .ref l1], cc.2.1, .ref (if cc.2.1 = 0 then l0 else l1), rfl, L6.hf, ?_, ?_⟩
      · rcases hcs with e | e <;> rw [e] <;> rfl
      have L7 : LvS K B G6 H6 ((σ'.set 4 (some x)).set 5 (some (.ref (if cc.2.1 = 0 then l0 else l1)))) M T pf l0 l1 (ht ((ord M T).take n)) xs0 xs1 (some (dC cc)) := L6.slots (L6.env.setNo 5 _) (by rw [List.getElem?_set_ne (by decide)]; exact L6.s3)
      have s5' : ((σ'.set 4 (some x)).set 5 (some (V.ref (if cc.2.1 = 0 then l0 else l1))))[5]? = some (some (.ref (if cc.2.1 = 0 then l0 else l1))) := List.getElem?_set_self (by rw [List.length_set, lσ]; decide)
      have eh := ht_snoc hc
      refine wb_cons (ws_if (wt_ev (E := E) (b := decide (cc.2.1 = 0)) (et_cmp ?_) st6.h st6.i L7.env fun G7 H7 s7 => ?_))
      · walk_at "all"
        refine i_tupN (j := 1) (d := .int cc.2.1) O rfl ?_
        walk_at "all"
        refine ⟨_, rfl, ?_⟩
        rw [decide_eq_decide]
        omega
      have L8 := L7.step s7
      have st8 := st6.trans s7
      rcases hcs with e0 | e0
      · rw [if_pos (decide_eq_true e0)]
        rw [if_pos e0] at s5' L8 ⊢
        refine wb_cons (ws_putL (j := 5) (by decide +kernel) s5' (we_ev (E := E) (z := .int (ht ((ord M T).take n))) ?_ st8.h st8.i L8.env fun v9 G9 H9 s9 r9 => we_ev (E := E) (z := .int cc.2.2) ?_ (st8.trans s9).h (st8.trans s9).i (L8.step s9).env fun va Ga Ha sa ra' => ?_))
        · walk_at "all"
          rfl
        · walk_at "all"
          exact i_tupN (j := 2) (d := .int cc.2.2) O rfl rfl
        have La := (L8.step s9).step sa
        have sta := (st8.trans s9).trans sa
        refine ⟨_, cc.2.2, Rep.int_iff.mp ra', La.h0, by rw [List.length_map, F0.len]; exact hix, ?_⟩
        rw [Rep.int_iff.mp r9, ← List.map_set]
        have Lb := La.put0 (ys := xs0.set cc.2.2 (ht ((ord M T).take n)))
        have stb := sta.wrote (o := .lst ((xs0.set cc.2.2 (ht ((ord M T).take n))).map V.int)) La.b0 La.g0
        refine wb_cons (ws_set (j := 2) nd (by decide +kernel) (we_ev (E := E) (z := .int (ht ((ord M T).take (n + 1)))) ?_ stb.h stb.i Lb.env fun vc Gc Hc sc rc => wb_nil (wb_nil ?_)))
        · walk_at "all"
          rw [eh]
          simp [stp, e0]
        have Lc := Lb.step sc
        exact ⟨Gc, _, _, some (dC cc), stb.trans sc, eg.trans (s6.g.trans (s7.g.trans (s9.g.trans (sa.g.trans sc.g)))), Lc.slots (Lc.env.set 2 rc) (by rw [List.getElem?_set_ne (by decide)]; exact Lc.s3), F0.put hl hc e0, F1.skip hl (.inr rfl) hc (by omega)⟩
      · have e1 : ¬ cc.2.1 = 0 := by omega
        rw [if_neg (by rw [decide_eq_false e1]; exact Bool.false_ne_true)]
        rw [if_neg e1] at s5' L8 ⊢
        refine wb_cons (ws_set (j := 2) nd (by decide +kernel) (we_ev (E := E) (z := .int (ht ((ord M T).take (n + 1)))) ?_ st8.h st8.i L8.env fun vc Gc Hc sc rc => ?_))
        · walk_at "all"
          rw [eh]
          simp [stp, e0]
          omega
        have Lc := L8.step sc
        have Ld : LvS K B Gc Hc (List.set _ 2 (some vc)) M T pf l0 l1 (ht ((ord M T).take (n + 1))) xs0 xs1 (some (dC cc)) := Lc.slots (Lc.env.set 2 rc) (by rw [List.getElem?_set_ne (by decide)]; exact Lc.s3)
        have std := st8.trans sc
        have s5d := (List.getElem?_set_ne (by decide : 2 ≠ 5) (a := some vc)).trans s5'
        refine wb_cons (ws_putL (j := 5) (by decide +kernel) s5d (we_ev (E := E) (z := .int (ht ((ord M T).take (n + 1)))) ?_ std.h std.i Ld.env fun v9 G9 H9 s9 r9 => we_ev (E := E) (z := .int cc.2.2) ?_ (std.trans s9).h (std.trans s9).i (Ld.step s9).env fun va Ga Ha sa ra' => ?_))
        · walk_at "all"
          rfl
        · walk_at "all"
          exact i_tupN (j := 2) (d := .int cc.2.2) O rfl rfl
        have La := (Ld.step s9).step sa
        have sta := (std.trans s9).trans sa
        refine ⟨_, cc.2.2, Rep.int_iff.mp ra', La.h1, by rw [List.length_map, F1.len]; exact hix, ?_⟩
        rw [Rep.int_iff.mp r9, ← List.map_set]
        have Lb := La.put1 (ys := xs1.set cc.2.2 (ht ((ord M T).take (n + 1))))
        have stb := sta.wrote (o := .lst ((xs1.set cc.2.2 (ht ((ord M T).take (n + 1)))).map V.int)) La.b1 La.g1
        exact wb_nil (wb_nil ⟨Ga, _, _, some (dC cc), stb, eg.trans (s6.g.trans (s7.g.trans (sc.g.trans (s9.g.trans sa.g)))), Lb, F0.skip hl (.inl rfl) hc (by omega), F1.put hl hc e0⟩)
    · rintro σ' H' ⟨G', xs0, xs1, o, st, eg, L, F0, F1⟩
      rw [ra.len, List.length_map] at F0 F1
      rw [F0.done hl (.inl rfl), F1.done hl (.inr rfl)] at L
      obtain ⟨G9, st9, r9⟩ := L.out st
      exact wb_cons (ws_ret (we_var (j := 3) (by decide +kernel) L.s3 (m.rt _ _ G9 _ q st9 r9)))
end
end CL
namespace CL
open PySem PySem.Spec PyProof.Rows L2 DL
local macro_rules | `(tactic| walk_at "cls") => `(tactic| (intro Q0 H0 q0; (repeat refine wa_cls (fun _ => rfl) (by assumption) (by decide +kernel) ?_); exact wa_nil q0))
section
variable {P : Program} {w : World} {K : PySem.W.Frag} {mg : Str → Option Value} {base : Heap} {f : Addr} {fd : FuncData}
theorem kitsF (Z : Xk K mg) {x : Str} (hx : x ∈ (["BadHands", "BadCard", "BadWord", "OutOfTurn"] : List Str)) {ys : List Str} (h : ys.all (fun y => decide (y ∈ exCs) && !(decide (x = y) || decide (y = "ClimbrowError"))) = true) : ∀ y ∈ ys, PySem.W.kitOne K (.ref (He.ga K x)) (.ref (He.ga K y)) = some false := fun y hy => by
  have h1 := List.all_eq_true.mp h y hy
  obtain ⟨h2, h3⟩ := Bool.and_eq_true_iff.mp h1
  rw [Z.k x hx y (of_decide_eq_true h2)]
  congr 1
  simpa using h3
theorem kitT (Z : Xk K mg) {x : Str} (hx : x ∈ (["BadHands", "BadCard", "BadWord", "OutOfTurn"] : List Str)) {y : Str} {b : Bool} (h : y ∈ exCs) (hb : (decide (x = y) || decide (y = "ClimbrowError")) = b) : PySem.W.kitOne K (.ref (He.ga K x)) (.ref (He.ga K y)) = some b := by
  rw [Z.k x hx y h, hb]
theorem _root_.DL.Stp.later {G0 B G H H' : Hp} (s : Stp G0 B G H) (e : Ex H H') : Stp G0 B G H' := ⟨s.g, s.h.trans e, s.i.trans e, s.n⟩
theorem ok_unlike (F : F_q_unlike K f fd) (Y : Fre mg) (Z : Xk K mg) (gm : GMk P w K mg base) (kh : KnH P w K mg base) : FnOk P w K mg base (L2N.CX P w) 6 f fd p_q_unlike (spD K wpUnlike) := by
  refine fn_ok F s_q_unlike (fun ds Q R h => ?_) fun X E hX O hp tk ds Q R h => ?_
  · obtain ⟨_, _, _, _, rfl, _⟩ := h; rfl
  · obtain ⟨M, T, side, wish, rfl, hM, hT, hne, q⟩ := h
    obtain ⟨cdv, A, outer, sh, H, rfl⟩ := hX
    obtain ⟨fG, fdG, g, gV, dsG, FG, MG, kb, hgV, _, _⟩ := gm.ex
    obtain ⟨fI, fdI, FI, gI, kI, bI⟩ := kh.ex
    have nd : (n_q_unlike).Nodup := s_q_unlike.nd
    have Zg := Z.g
    refine ⟨fun G0 B G H1 σ Dv s c wi m => ?_⟩
    have c : EnvR K B G H1 σ [.va (lI M), .va (lI T), .va (.str side), .va (.str wish), .no] := c
    have lσ : σ.length = 5 := c.len
    refine wb_cons (ws_try (i := 4) (c := .ref (He.ga K "BadHands")) (fun _ => rfl) (fun _ => ⟨rfl, by decide +kernel, .inl (Z.g _ (by decide +kernel))⟩) (fun _ => nd) (fun _ => rfl) (fun _ => rfl) (fun _ => rfl) (fun _ => rfl) ?_)
    refine wb_cons ⟨_, fun i => ps_expr (we_ok i) rfl, ?_⟩
    generalize hW : Caught _ K _ 4 _ _ = W
    refine ⟨tMkS (CG K) 3 1 (spGI K) gV W _ _, fun i => pe_mkS (Y := Trf _ W i) (ks := ["many"]) (n := 3) MG FG ((O.room ()).mono (by decide)) rfl gm.gm kb i.2.1 (wa_ok i) (pk_cons (we_ok i) pk_nil) rfl rfl (by decide +kernel) rfl rfl, ?_⟩
    have O' := O.tr W
    refine wa_ev (E := E0) (z := [lI M, lI T, .str side]) (evs_cons (ev_of_evn (evn_callT (id := "list") (hv := bo_list) O' Y.list ?_))) s.h s.i c fun vs G2 H2 s2 r2 => ?_
    · walk_at "all"
      refine c_list O' (evs_cons (ev_of_evn (evn_callT (id := "list") (hv := bo_list) O' Y.list ?_)))
      walk_at "all"
      refine c_list O' ?_
      walk_at "all"
      rfl
    have st2 := s.trans s2
    refine we_ev (E := E0) (z := .str wish) ?_ st2.h st2.i (c.mono s2) fun v3 G3 H3 s3 r3 => ?_
    · walk_at "all"
      rfl
    have st3 := st2.trans s3
    have lv : vs.length = 3 := r2.len
    refine ⟨lv, rfl, fun o dx ho hdx hne' => ?_⟩
    rw [hgV (.ref o :: vs) [v3] (by rw [List.length_cons, lv]) rfl]
    obtain ⟨v1, t1, rfl, q1, r2⟩ := r2.inv
    obtain ⟨v2, t2, rfl, q2, r2⟩ := r2.inv
    obtain ⟨v4, rfl, q4⟩ := r2.one
    rw [Rep.str_iff.mp q4, Rep.str_iff.mp r3]
    have eo : Ex H3 (upd (upd H3 dx (.own o)) o (.ins (CG K) dx [])) := (Ex.upd hdx).trans (Ex.upd (by rw [upd_ne (Ne.symm hne')]; exact ho))
    refine ⟨G3, o, dx, v1, v2, M, T, side, wish, rfl, upd_same, st3.i.trans eo, st3.i.free ho, q1.mono s3.g, q2.mono s3.g, hM, hT, fun _ cls dd H4 ex er => ?_, fun he => absurd he hne⟩
    subst hW
    obtain ⟨rfl, hdd⟩ := er
    have hdd : ∃ d, dd = some d ∧ H4 d = some (.xd (eHands M.length T.length).fs) := by
      rcases hdd with ⟨h, _⟩ | h
      · cases h
      · exact h
    obtain ⟨d, rfl, hx⟩ := hdd
    have e4 : Ex H3 H4 := eo.trans ex
    obtain ⟨u0, hu0, ru0⟩ := c.va 0 _ rfl
    obtain ⟨l0, rfl, hl0⟩ := ru0.intL
    obtain ⟨u1, hu1, ru1⟩ := c.va 1 _ rfl
    obtain ⟨l1, rfl, hl1⟩ := ru1.intL
    refine caught Z.exh fun a ha => ?_
    have hσ : (σ.set 4 (some (.ref a)))[4]? = some (some (.ref a)) := List.getElem?_set_self (by rw [lσ]; decide)
    have h0 : (σ.set 4 (some (.ref a)))[0]? = some (some (.ref l0)) := by rw [List.getElem?_set_ne (by decide)]; exact hu0
    have h1 : (σ.set 4 (some (.ref a)))[1]? = some (some (.ref l1)) := by rw [List.getElem?_set_ne (by decide)]; exact hu1
    have dok : DOk (some d) H4 := .inr ⟨d, _, rfl, hx⟩
    have hB : ("BadHands" : Str) ∈ (["BadHands", "BadCard", "BadWord", "OutOfTurn"] : List Str) := by decide +kernel
    have xD := (Z.d _ hB).1
    have xF := (Z.d _ hB).2
    refine wb_cons (ws_if (wt_val (we_isT (j := 4) (ys := ["BadBounds", "BadCard", "BadPairing", "BadPlace", "BadSchedule", "BadText", "BadWord", "OutOfTurn"]) O Y.isinstance xD (by decide +kernel) hσ dok (by decide) (kitsF Z hB (by decide +kernel)) (by walk_at "cls") fun H5 e5 => ⟨false, rfl, ?_⟩)))
    rw [if_neg Bool.false_ne_true]
    refine wb_nil (wb_cons (ws_if (wt_w (ww_or (wt_val (we_isT (j := 4) (ys := ["Contradiction", "DuplicateName", "Unreachable", "UnknownName"]) O Y.isinstance xD (by decide +kernel) hσ (dok.mono e5) (by decide) (kitsF Z hB (by decide +kernel)) (by walk_at "cls") fun H6 e6 => ⟨false, rfl, ?_⟩))))))
    rw [if_neg Bool.false_ne_true]
    refine ww_or1 (wt_not (wt_val (we_isV (j := 4) O Y.isinstance Y.valueError xD (by decide +kernel) hσ ((dok.mono e5).mono e6) (Z.kv _ hB) ⟨true, rfl, ?_⟩)))
    rw [if_neg (by decide)]
    have e46 := e5.trans e6
    refine wb_nil (wb_cons (ws_if (wt_w (ww_or (wt_not (wt_val (we_isC (j := 4) O Y.isinstance xD (by decide +kernel) hσ (dok.mono e46) (Z.g _ (by decide +kernel)) (kitT Z hB (by decide +kernel) (b := true) (by decide +kernel)) ⟨true, rfl, ?_⟩)))))))
    rw [if_neg (by decide)]
    refine ww_or (wt_not (wt_val (we_isF (j := 4) (i0 := (M.length : Int)) O (by decide) FI gI kI bI xF Z.n1 (by decide +kernel) hσ rfl (e46 _ _ hx) rfl fun H7 e7 => ⟨true, rfl, ?_⟩)))
    rw [if_neg (by decide)]
    have e47 := e46.trans e7
    refine ww_or1 (wt_not (wt_val (we_isF (j := 4) (i0 := (T.length : Int)) O (by decide) FI gI kI bI xF Z.n2 (by decide +kernel) hσ rfl (e47 _ _ hx) rfl fun H8 e8 => ⟨true, rfl, ?_⟩)))
    rw [if_neg (by decide)]
    have e48 := e47.trans e8
    have old : ∀ {l : Addr} {o : HO}, G l = some o → H8 l = some o := fun h => e48 _ _ (e4 _ _ (st3.i _ _ (s3.g _ _ (s2.g _ _ h))))
    refine wb_nil (wb_cons (ws_ret (we_and (we_cmp (we_xf (j := 4) (v := .int M.length) (fun _ => rfl) xF Z.n1 (by decide +kernel) hσ rfl (e48 _ _ hx) rfl (we_lenL (fun _ => rfl) (fun _ => Y.len) (we_var (j := 0) (by decide +kernel) h0 ⟨l0, _, rfl, old hl0, ?_⟩)))))))
    rw [List.length_map]
    refine wo_of (z := .bl true) (K := K) (o_eqI (i := (M.length : Int)) (j := (M.length : Int)) (by rw [decide_eq_true rfl])) (Ex.refl _) (Sca.int _).rep (Sca.int _).rep fun v G9 H9 s9 r9 => ⟨true, Rep.bl_iff.mp r9, ?_⟩
    rw [if_pos rfl]
    have e49 := e48.trans s9.h
    refine we_one (we_cmp (we_xf (j := 4) (v := .int T.length) (fun _ => rfl) xF Z.n2 (by decide +kernel) hσ rfl (e49 _ _ hx) rfl (we_lenL (fun _ => rfl) (fun _ => Y.len) (we_var (j := 1) (by decide +kernel) h1 ⟨l1, _, rfl, s9.h _ _ (old hl1), ?_⟩))))
    rw [List.length_map]
    refine wo_of (z := .bl true) (K := K) (o_eqI (i := (T.length : Int)) (j := (T.length : Int)) (by rw [decide_eq_true rfl])) (Ex.refl _) (Sca.int _).rep (Sca.int _).rep fun v Ga Ha sa ra => ?_
    rw [Rep.bl_iff.mp ra]
    exact m.rt _ _ G3 Ha q (st3.later (e4.trans (e49.trans sa.h))) (Sca.bl _).rep
end
end CL
namespace CL
open PySem PySem.Spec PyProof.Rows L2 DL
local macro_rules | `(tactic| walk_at "cls") => `(tactic| (intro Q0 H0 q0; (repeat refine wa_cls (fun _ => rfl) (by assumption) (by decide +kernel) ?_); exact wa_nil q0))
section
variable {ι : Type} {X : ι → Cx} {P : Program} {w : World} {K : PySem.W.Frag} {mg : Str → Option Value} {base : Heap} {k : Nat} {E : XK} {N : List Str} {sc : Scope} {pos p p0 p1 p2 p3 p4 p5 : Pos} {σ : L2.St} {H : Hp} {f : Addr} {fd : FuncData}
theorem bls_lay (a b c : Bool) : Lay (.lst [.bl a, .bl b, .bl c]) 1 := Lay.lst fun d hd => by
  simp only [List.mem_cons, List.not_mem_nil, or_false] at hd
  rcases hd with rfl | rfl | rfl <;> exact Lay.bl _
theorem bls_eqv (a b c x y z : Bool) : PyData.eqv (pd (.lst [.bl a, .bl b, .bl c])) (pd (.lst [.bl x, .bl y, .bl z])) = (a == x && (b == y && c == z)) := by
  cases a <;> cases b <;> cases c <;> cases x <;> cases y <;> cases z <;> rfl
theorem wt_kinds [cn : Cn X N sc] {x : Str} {j : Nat} {a1 a2 a3 b1 b2 b3 : Bool} {t : Addr} {k1 k2 k3} {Q : Bool → Hp → Prop} (hK : ∀ i, (X i).K = K) (hu : ∀ i, (X i).A.units + 64 < cLine) (hx : nokB N sc x j = true) (hσ : σ[j]? = some (some (.ref t))) (ht : H t = some (.lst [.bl a1, .bl a2, .bl a3]))
    (q : ∀ H', Ex H H' → Q (a1 == b1 && (a2 == b2 && a3 == b3)) H') (h1 : ∀ i, starEach [.Constant (.bool b1) k1 p1, .Constant (.bool b2) k2 p2, .Constant (.bool b3) k3 p3] (X i).env = (false, eval (.Constant (.bool b1) k1 p1) (X i).env) :: starEach [.Constant (.bool b2) k2 p2, .Constant (.bool b3) k3 p3] (X i).env := by intro _; rfl)
    (h2 : ∀ i, starEach [.Constant (.bool b2) k2 p2, .Constant (.bool b3) k3 p3] (X i).env = (false, eval (.Constant (.bool b2) k2 p2) (X i).env) :: starEach [.Constant (.bool b3) k3 p3] (X i).env := by intro _; rfl) (h3 : ∀ i, starEach [.Constant (.bool b3) k3 p3] (X i).env = (false, eval (.Constant (.bool b3) k3 p3) (X i).env) :: starEach [] (X i).env := by intro _; rfl) :
    WT X (.Compare (.Name x p) [.Eq] [.List [.Constant (.bool b1) k1 p1, .Constant (.bool b2) k2 p2, .Constant (.bool b3) k3 p3] p4] pos) σ H Q := by
  refine wt_cmp (we_var hx hσ (we_lst (wa_cons (we_bl (wa_cons (we_bl (wa_cons (we_bl (wa_nil ⟨by exact (by decide +kernel : 3 ≤ sizeLine), fun t2 ht2 => ?_⟩)) h3)) h2)) h1)))
  have e := Ex.upd (o := HO.lst [.bl b1, .bl b2, .bl b3]) ht2
  refine wo_of (K := K) (z := .bl (a1 == b1 && (a2 == b2 && a3 == b3))) (o_eqX (K := K) hK hu (bls_lay a1 a2 a3) (bls_lay b1 b2 b3) (by rw [bls_eqv])) (Ex.refl _) (Rep.lst_iff.mpr ⟨t, _, rfl, e _ _ ht, Reps.of_scas (.cons (.bl _) (.cons (.bl _) (.cons (.bl _) .nil)))⟩) (Rep.lst_iff.mpr ⟨t2, _, rfl, upd_same, Reps.of_scas (.cons (.bl _) (.cons (.bl _) (.cons (.bl _) .nil)))⟩) fun v G' H' s r => ⟨_, Rep.bl_iff.mp r, q H' (e.trans s.h)⟩
def suT : List Stmt := match defBody (tp 64) with
  | .Try _ [.ExceptHandler _ _ s _] _ _ _ :: _ => s
  | _ => []
theorem try_head {x : Str} {a : Addr} {d : Option Addr} {Dv : Ends} {b1 b2 b3 : Bool} {cdv : Value} {A : Around} {outer : List Env} {sh : Shared} {H9 : Hp} {E : XK} (O : Ok (body1 P w K mg base n_q_try "_law_try" c_q_try f cdv A outer sh H9 E) P w K mg base k E) (Y : Fre mg) (Z : Xk K mg) (hx : x ∈ (["BadHands", "BadCard", "BadWord", "OutOfTurn"] : List Str))
    (h7 : (["BadBounds", "BadHands", "BadPairing", "BadPlace", "BadSchedule", "BadText", "Unsteady"] : List Str).all (fun y => decide (y ∈ exCs) && !(decide (x = y) || decide (y = "ClimbrowError"))) = true) (h4 : (["Contradiction", "DuplicateName", "Unreachable", "UnknownName"] : List Str).all (fun y => decide (y ∈ exCs) && !(decide (x = y) || decide (y = "ClimbrowError"))) = true)
    (e1 : (decide (x = "BadCard") || decide (("BadCard" : Str) = "ClimbrowError")) = b1) (e2 : (decide (x = "BadWord") || decide (("BadWord" : Str) = "ClimbrowError")) = b2) (e3 : (decide (x = "OutOfTurn") || decide (("OutOfTurn" : Str) = "ClimbrowError")) = b3)
    (hσ : σ[4]? = some (some (.ref a))) (dok : DOk d H) (q : ∀ H5 t, Ex H H5 → H5 t = some (.lst [.bl b1, .bl b2, .bl b3]) → WB (Sui (body1 P w K mg base n_q_try "_law_try" c_q_try f cdv A outer sh H9 E) a (.ref (He.ga K x)) d) (suT.drop 3) Dv (σ.set 5 (some (.ref t))) H5) :
    WB (Sui (body1 P w K mg base n_q_try "_law_try" c_q_try f cdv A outer sh H9 E) a (.ref (He.ga K x)) d) suT Dv σ H := by
  have Zg := Z.g
  have xD := (Z.d _ hx).1
  refine wb_cons (ws_if (wt_val (we_isT (j := 4) (ys := ["BadBounds", "BadHands", "BadPairing", "BadPlace", "BadSchedule", "BadText", "Unsteady"]) O Y.isinstance xD (by decide +kernel) hσ dok (by decide) (kitsF Z hx h7) (by walk_at "cls") fun H5 e5 => ⟨false, rfl, ?_⟩)))
  rw [if_neg Bool.false_ne_true]
  refine wb_nil (wb_cons (ws_if (wt_w (ww_or (wt_val (we_isT (j := 4) (ys := ["Contradiction", "DuplicateName", "Unreachable", "UnknownName"]) O Y.isinstance xD (by decide +kernel) hσ (dok.mono e5) (by decide) (kitsF Z hx h4) (by walk_at "cls") fun H6 e6 => ⟨false, rfl, ?_⟩))))))
  rw [if_neg Bool.false_ne_true]
  have e46 := e5.trans e6
  refine ww_or1 (wt_not (wt_val (we_isV (j := 4) O Y.isinstance Y.valueError xD (by decide +kernel) hσ (dok.mono e46) (Z.kv _ hx) ⟨true, rfl, ?_⟩)))
  rw [if_neg (by decide)]
  refine wb_nil (wb_cons (ws_set (j := 5) s_q_try.nd (by decide +kernel) (we_lst (wa_cons (we_isC (j := 4) O Y.isinstance xD (by decide +kernel) hσ (dok.mono e46) (Z.g _ (by decide +kernel)) (kitT Z hx (by decide +kernel) e1)
    (wa_cons (we_isC (j := 4) O Y.isinstance xD (by decide +kernel) hσ (dok.mono e46) (Z.g _ (by decide +kernel)) (kitT Z hx (by decide +kernel) e2)
    (wa_cons (we_isC (j := 4) O Y.isinstance xD (by decide +kernel) hσ (dok.mono e46) (Z.g _ (by decide +kernel)) (kitT Z hx (by decide +kernel) e3) (wa_nil ⟨by exact (by decide +kernel : 3 ≤ sizeLine), fun t ht => ?_⟩))))))))))
  exact q _ t (e46.trans (Ex.upd ht)) upd_same
theorem ok_try (F : F_q_try K f fd) (Y : Fre mg) (Z : Xk K mg) (kh : KnH P w K mg base) (kc : Kn P w K mg base "_law_call" 8 wpCallBad) : FnOk P w K mg base (L2N.CX P w) 10 f fd p_q_try (spD K wpTry) := by
  refine fn_ok F s_q_try (fun ds Q R h => ?_) fun X E hX O hp tk ds Q R h => ?_
  · obtain ⟨_, _, _, _, _, _, _, rfl, _⟩ := h; rfl
  · obtain ⟨g, wh, da, db, e, s0, d0, rfl, ok, hs, hsd, hb, he, q⟩ := h
    obtain ⟨cdv, A, outer, sh, H, rfl⟩ := hX
    obtain ⟨fC, fdC, psC, FC, gC, kC, bC⟩ := kc.ex
    obtain ⟨fI, fdI, FI, gI, kI, bI⟩ := kh.ex
    have nd : (n_q_try).Nodup := s_q_try.nd
    have Zg := Z.g
    refine ⟨fun G0 B G H1 σ Dv s c wi m => ?_⟩
    have c : EnvR K B G H1 σ [.va (.gd g), .va (.str wh), .va da, .va db, .no, .no] := c
    have lσ : σ.length = 6 := c.len
    refine wb_cons (ws_try (i := 4) (c := .ref (He.ga K "ClimbrowError")) (fun _ => rfl) (fun _ => ⟨rfl, by decide +kernel, .inl (Z.g _ (by decide +kernel))⟩) (fun _ => nd) (fun _ => rfl) (fun _ => rfl) (fun _ => rfl) (fun _ => rfl) ?_)
    refine wb_cons ⟨_, fun i => ps_expr (we_ok i) rfl, ?_⟩
    generalize hW : Caught _ K _ 4 _ _ = W
    refine ⟨tCallS (spD K wpCallBad) (L2.WE W) _, fun i => pe_callS (CX := L2N.CX P w) (X := Trf _ W i) (k := 8) FC ((O.room ()).mono (by decide)) rfl gC kC bC (fun σ => L2N.passAt i.2.1 σ) (wa_ok i) (by decide +kernel) rfl rfl, ?_⟩
    have O' := O.tr W
    refine wa_ev (E := E0) (z := [.gd g, .str wh, da, db]) ?_ s.h s.i c fun vs G2 H2 s2 r2 => ?_
    · walk_at "all"
      rfl
    have st2 := s.trans s2
    refine ⟨G2, _, fun _ => False, fun er => er = e, st2.i, r2, ⟨g, wh, da, db, e, s0, rfl, ok, hs, hsd, hb, rfl⟩, fun er cls dd H4 hR ex er' => ?_, fun _ _ _ _ z => z.elim⟩
    subst hR
    subst hW
    obtain ⟨rfl, hdd⟩ := er'
    have hun : ∀ (a : Addr) (cls : Value) (d : Option Addr) i, (Sui (body1 P w K mg base n_q_try "_law_try" c_q_try f cdv A outer sh H E) a cls d i).A.units + 64 < cLine := fun a cls d i => O.un i.1
    have end_ : ∀ {H8 : Hp} {vs : List V} {ds : List D} {t : Addr}, Ex H4 H8 → H8 t = none → Paired Sca ds vs → Q (.tup ds) → Dv.rt (.ref t) (upd H8 t (.tup vs)) := fun {H8 vs ds t} e8 ht sc hq => by
      have st8 := st2.later (ex.trans e8)
      exact m.rt (.tup ds) _ _ _ hq (st8.trans (Stp.new st8.i ht)) (Rep.tup_iff.mpr ⟨t, _, rfl, SqT.of upd_same, Reps.of_scas sc⟩)
    cases he with
    | turn =>
      have dok : DOk dd H4 := by
        rcases hdd with ⟨_, h⟩ | ⟨d, h, hx⟩
        · exact .inl h
        · exact .inr ⟨d, _, h, hx⟩
      have hB : ("OutOfTurn" : Str) ∈ (["BadHands", "BadCard", "BadWord", "OutOfTurn"] : List Str) := by decide +kernel
      refine caught (Z.ex _ hB) fun a ha => ?_
      have hσ : (σ.set 4 (some (.ref a)))[4]? = some (some (.ref a)) := List.getElem?_set_self (by rw [lσ]; decide)
      refine try_head (x := "OutOfTurn") (b1 := false) (b2 := false) (b3 := true) O Y Z hB (by decide +kernel) (by decide +kernel) (by decide +kernel) (by decide +kernel) (by decide +kernel) hσ dok fun H5 t e5 ht => ?_
      have h5 : ((σ.set 4 (some (.ref a))).set 5 (some (.ref t)))[5]? = some (some (.ref t)) := List.getElem?_set_self (by rw [List.length_set, lσ]; decide)
      refine wb_cons (ws_if (wt_w (ww_and (wt_kinds (j := 5) (fun _ => rfl) (hun _ _ _) (by decide +kernel) h5 ht fun H6 e6 => ?_))))
      rw [if_neg (by decide), if_neg Bool.false_ne_true]
      refine wb_nil (wb_cons (ws_if (wt_w (ww_and (wt_kinds (j := 5) (fun _ => rfl) (hun _ _ _) (by decide +kernel) h5 (e6 _ _ ht) fun H7 e7 => ?_)))))
      rw [if_neg (by decide), if_neg Bool.false_ne_true]
      refine wb_nil (wb_cons (ws_if (wt_kinds (j := 5) (fun _ => rfl) (hun _ _ _) (by decide +kernel) h5 (e7 _ _ (e6 _ _ ht)) fun H8 e8 => ?_)))
      rw [if_pos (by decide)]
      exact wb_cons (ws_ret (we_tup (wa_cons (we_str (wa_nil ⟨by exact (by decide +kernel : 1 ≤ sizeLine), fun t ht => end_ (((e5.trans e6).trans e7).trans e8) ht (.cons (.str _) .nil) q⟩)))))
    | card sd i =>
      have hdd : ∃ d, dd = some d ∧ H4 d = some (.xd (eCard sd i).fs) := by
        rcases hdd with ⟨h, _⟩ | h
        · cases h
        · exact h
      obtain ⟨d, rfl, hx⟩ := hdd
      have hB : ("BadCard" : Str) ∈ (["BadHands", "BadCard", "BadWord", "OutOfTurn"] : List Str) := by decide +kernel
      have xF := (Z.d _ hB).2
      refine caught (Z.ex _ hB) fun a ha => ?_
      have hσ : (σ.set 4 (some (.ref a)))[4]? = some (some (.ref a)) := List.getElem?_set_self (by rw [lσ]; decide)
      refine try_head (x := "BadCard") (b1 := true) (b2 := false) (b3 := false) O Y Z hB (by decide +kernel) (by decide +kernel) (by decide +kernel) (by decide +kernel) (by decide +kernel) hσ (.inr ⟨d, _, rfl, hx⟩) fun H5 t e5 ht => ?_
      have h5 : ((σ.set 4 (some (.ref a))).set 5 (some (.ref t)))[5]? = some (some (.ref t)) := List.getElem?_set_self (by rw [List.length_set, lσ]; decide)
      have h4 : ((σ.set 4 (some (.ref a))).set 5 (some (.ref t)))[4]? = some (some (.ref a)) := by rw [List.getElem?_set_ne (by decide)]; exact hσ
      refine wb_cons (ws_if (wt_w (ww_and (wt_kinds (j := 5) (fun _ => rfl) (hun _ _ _) (by decide +kernel) h5 ht fun H6 e6 => ?_))))
      rw [if_pos (by decide)]
      refine ww_and1 (wt_val (we_isF (j := 4) (i0 := i) O (by decide) FI gI kI bI xF Z.n4 (by decide +kernel) h4 rfl ((e5.trans e6) _ _ hx) rfl fun H7 e7 => ⟨true, rfl, ?_⟩))
      rw [if_pos rfl]
      have e47 := (e5.trans e6).trans e7
      exact wb_cons (ws_ret (we_tup (wa_cons (we_str (wa_cons (we_xf (j := 4) (v := .str sd) (fun _ => rfl) xF Z.n3 (by decide +kernel) h4 rfl (e47 _ _ hx) rfl (wa_cons (we_xf (j := 4) (v := .int i) (fun _ => rfl) xF Z.n4 (by decide +kernel) h4 rfl (e47 _ _ hx) rfl (wa_nil ⟨by exact (by decide +kernel : 3 ≤ sizeLine), fun t ht => end_ e47 ht (.cons (.str _) (.cons (.str _) (.cons (.int _) .nil))) q⟩)))))))))
    | word i =>
      have hdd : ∃ d, dd = some d ∧ H4 d = some (.xd (eWord i).fs) := by
        rcases hdd with ⟨h, _⟩ | h
        · cases h
        · exact h
      obtain ⟨d, rfl, hx⟩ := hdd
      have hB : ("BadWord" : Str) ∈ (["BadHands", "BadCard", "BadWord", "OutOfTurn"] : List Str) := by decide +kernel
      have xF := (Z.d _ hB).2
      refine caught (Z.ex _ hB) fun a ha => ?_
      have hσ : (σ.set 4 (some (.ref a)))[4]? = some (some (.ref a)) := List.getElem?_set_self (by rw [lσ]; decide)
      refine try_head (x := "BadWord") (b1 := false) (b2 := true) (b3 := false) O Y Z hB (by decide +kernel) (by decide +kernel) (by decide +kernel) (by decide +kernel) (by decide +kernel) hσ (.inr ⟨d, _, rfl, hx⟩) fun H5 t e5 ht => ?_
      have h5 : ((σ.set 4 (some (.ref a))).set 5 (some (.ref t)))[5]? = some (some (.ref t)) := List.getElem?_set_self (by rw [List.length_set, lσ]; decide)
      have h4 : ((σ.set 4 (some (.ref a))).set 5 (some (.ref t)))[4]? = some (some (.ref a)) := by rw [List.getElem?_set_ne (by decide)]; exact hσ
      refine wb_cons (ws_if (wt_w (ww_and (wt_kinds (j := 5) (fun _ => rfl) (hun _ _ _) (by decide +kernel) h5 ht fun H6 e6 => ?_))))
      rw [if_neg (by decide), if_neg Bool.false_ne_true]
      refine wb_nil (wb_cons (ws_if (wt_w (ww_and (wt_kinds (j := 5) (fun _ => rfl) (hun _ _ _) (by decide +kernel) h5 (e6 _ _ ht) fun H7 e7 => ?_)))))
      rw [if_pos (by decide)]
      refine ww_and1 (wt_val (we_isF (j := 4) (i0 := i) O (by decide) FI gI kI bI xF Z.n5 (by decide +kernel) h4 rfl (((e5.trans e6).trans e7) _ _ hx) rfl fun H8 e8 => ⟨true, rfl, ?_⟩))
      rw [if_pos rfl]
      have e48 := ((e5.trans e6).trans e7).trans e8
      exact wb_cons (ws_ret (we_tup (wa_cons (we_str (wa_cons (we_xf (j := 4) (v := .int i) (fun _ => rfl) xF Z.n5 (by decide +kernel) h4 rfl (e48 _ _ hx) rfl (wa_nil ⟨by exact (by decide +kernel : 2 ≤ sizeLine), fun t ht => end_ e48 ht (.cons (.str _) (.cons (.int _) .nil)) q⟩)))))))
end
end CL
namespace DL
open PySem PySem.Spec PyProof.Rows L2
theorem Wk.more {G0 H0 G H G' H' : Hp} {a : Addr} (w : Wk G0 H0 a G H) (hb : H a ≠ none) (s : Stp G H G' H') : Wk G0 H0 a G' H' := by
  refine ⟨w.g.trans s.g, s.i, fun b h => ?_, fun b o ne e => s.h b o (w.k b o ne e), s.out w.na hb, w.ha⟩
  rcases s.n b h with h | h
  · exact w.n b h
  · refine .inr ?_
    by_cases ne : b = a
    · rw [ne] at h; exact absurd h hb
    · cases q : H0 b with
      | none => rfl
      | some u => rw [w.k b u ne q] at h; cases h
/-- an OpenHands that is not data, its lists are -/
structure RmS (K : PySem.W.Frag) (G0 H0 : Hp) (h dy : Addr) (G H : Hp) (g : GS) (a1 a2 a3 a4 : Addr) : Prop where
  w : Wk G0 H0 h G H
  ho : H h = some (.ins (CO K) dy (ohF a1 a2 a3 a4))
  l1 : G a1 = some (.lst (g.mine.map .int))
  l2 : G a2 = some (.lst (g.theirs.map .int))
  l3 : G a3 = some (.lst (g.ml.map fun (n : Nat) => .int n))
  l4 : G a4 = some (.lst (g.tl.map fun (n : Nat) => .int n))
section
variable {K : PySem.W.Frag} {G0 H0 G H G' H' : Hp} {h dy a1 a2 a3 a4 : Addr} {g : GS}
abbrev oO (K : PySem.W.Frag) (dy a1 a2 a3 a4 : Addr) : HO := .ins (CO K) dy (ohF a1 a2 a3 a4)
theorem RmS.ne (x : RmS K G0 H0 h dy G H g a1 a2 a3 a4) {a : Addr} {o : HO} (e : G a = some o) : a ≠ h := fun z => by rw [z, x.w.na] at e; cases e
theorem RmS.old (x : RmS K G0 H0 h dy G H g a1 a2 a3 a4) : Ex G (upd G h (oO K dy a1 a2 a3 a4)) := Ex.upd x.w.na
theorem RmS.inH (x : RmS K G0 H0 h dy G H g a1 a2 a3 a4) : Ex (upd G h (oO K dy a1 a2 a3 a4)) H := fun b o e => by
  by_cases q : b = h
  · rw [q, upd_same] at e; cases e; rw [q]; exact x.ho
  · rw [upd_ne q] at e; exact x.w.i b o e
theorem RmS.oh (x : RmS K G0 H0 h dy G H g a1 a2 a3 a4) : Rep K (upd G h (oO K dy a1 a2 a3 a4)) (.oh g) (.ref h) :=
  Rep.oh_iff.mpr ⟨h, rfl, ⟨⟨dy, a1, a2, a3, a4, upd_same, x.old _ _ x.l1, x.old _ _ x.l2, x.old _ _ x.l3, x.old _ _ x.l4⟩⟩⟩
theorem RmS.step (x : RmS K G0 H0 h dy G H g a1 a2 a3 a4) (s : Stp (upd G h (oO K dy a1 a2 a3 a4)) H G' H') {z : D} {v : V} (p : pln z = true) (r : Rep K G' z v) : ∃ G3, RmS K G0 H0 h dy G3 H' g a1 a2 a3 a4 ∧ Rep K G3 z v ∧ Stp G H G3 H' := by
  obtain ⟨G3, s3, r3⟩ := take_away (a := h) (h := h) x.old x.w.na x.w.na (fun b q _ => upd_ne q) ⟨_, _, _, upd_same⟩ ⟨_, _, _, upd_same⟩ s p r
  exact ⟨G3, ⟨x.w.more (by rw [x.ho]; exact nofun) s3, s3.h _ _ x.ho, s3.g _ _ x.l1, s3.g _ _ x.l2, s3.g _ _ x.l3, s3.g _ _ x.l4⟩, r3, s3⟩
theorem RmS.set3 (x : RmS K G0 H0 h dy G H g a1 a2 a3 a4) {ys : List Nat} {b3 : Addr} (e : G b3 = some (.lst (ys.map fun (n : Nat) => .int n))) : RmS K G0 H0 h dy G (upd H h (oO K dy a1 a2 b3 a4)) { g with ml := ys } a1 a2 b3 a4 :=
  ⟨x.w.step (Stp.refl x.w.i) (by rw [x.ho]; exact nofun), upd_same, x.l1, x.l2, e, x.l4⟩
theorem RmS.set4 (x : RmS K G0 H0 h dy G H g a1 a2 a3 a4) {ys : List Nat} {b4 : Addr} (e : G b4 = some (.lst (ys.map fun (n : Nat) => .int n))) : RmS K G0 H0 h dy G (upd H h (oO K dy a1 a2 a3 b4)) { g with tl := ys } a1 a2 a3 b4 :=
  ⟨x.w.step (Stp.refl x.w.i) (by rw [x.ho]; exact nofun), upd_same, x.l1, x.l2, x.l3, e⟩
end
end DL
namespace CL
open PySem PySem.Spec PyProof.Rows L2 DL
theorem no_slotsV3 {a b c : D} : (∀ (i : Nat) ds, ([.va a, .va b, .va c] : Rho)[i]? ≠ some (.ow ds)) ∧ ∀ (i : Nat) g, ([.va a, .va b, .va c] : Rho)[i]? ≠ some (.gu g) := by
  constructor <;> intro i z h <;> match i, h with
    | 0, h => cases h
    | 1, h => cases h
    | 2, h => cases h
    | n + 3, h => cases h
theorem env3 {K : PySem.W.Frag} {B G H : Hp} {u v x : V} {a b c : D} (r1 : Rep K G a u) (r2 : Rep K G b v) (r3 : Rep K G c x) : EnvR K B G H [some u, some v, some x] [.va a, .va b, .va c] := by
  refine ⟨rfl, fun i d h => ?_, fun i ds h => absurd h (no_slotsV3.1 i ds), fun i _ ds _ _ h _ => absurd h (no_slotsV3.1 i ds), ⟨fun _ => (default, default), fun i g h => absurd h (no_slotsV3.2 i g), fun i _ g _ _ h _ => absurd h (no_slotsV3.2 i g)⟩⟩
  match i, h with
  | 0, h => cases h; exact ⟨u, rfl, r1⟩
  | 1, h => cases h; exact ⟨v, rfl, r2⟩
  | 2, h => cases h; exact ⟨x, rfl, r3⟩
  | n + 3, h => cases h
section
variable {P : Program} {w : World} {K : PySem.W.Frag} {mg : Str → Option Value} {base : Heap} {f : Addr} {fd : FuncData}
theorem pick_getD {h : List Int} {ns : List Nat} {m : Nat} (hm : m < ns.length) : (pick h ns).getD m 0 = h.getD (ns.getD m 0) 0 := by
  unfold pick
  rw [List.getD_eq_getElem?_getD, List.getElem?_map, getN hm]
  rfl
theorem castL_erase : ∀ {ns : List Nat} {m : Nat}, ns.Nodup → m < ns.length → (castL ns).erase ((ns.getD m 0 : Nat) : Int) = castL (ns.eraseIdx m)
  | [], m, _, h => absurd h (Nat.not_lt_zero _)
  | a :: l, 0, _, _ => by simp [castL]
  | a :: l, m + 1, nd, h => by
    have nd' := List.nodup_cons.mp nd
    have hm : m < l.length := by simpa using h
    have ne : a ≠ l.getD m 0 := fun z => nd'.1 (z ▸ List.mem_of_getElem? (getN hm))
    have ih := castL_erase nd'.2 hm
    unfold castL at ih ⊢
    rw [List.eraseIdx_cons_succ, List.map_cons, List.map_cons, List.getD_cons_succ, List.erase_cons_tail (by simpa using fun z : (a : Int) = _ => ne (by exact_mod_cast z)), ih]
theorem Rep.natL {K : PySem.W.Frag} {G : Hp} {ns : List Nat} {v : V} (r : Rep K G (lN ns) v) : ∃ a, v = .ref a ∧ G a = some (.lst (ns.map fun (n : Nat) => .int n)) := by
  rw [lN_cast] at r
  obtain ⟨a, e, h⟩ := r.intL
  refine ⟨a, e, ?_⟩
  unfold castL at h
  rw [List.map_map] at h
  exact h
/-- remove_pair of cards that are left -/
def spRem (K : PySem.W.Frag) : Sp := fun vs H Qv E => ∃ G g h dy a1 a2 a3 a4 m t, vs = [.ref h, .int (g.ml.getD m 0 : Nat), .int (g.tl.getD t 0 : Nat)] ∧ GOk g ∧ m < g.ml.length ∧ t < g.ml.length ∧ Ex G H ∧ G h = none ∧ RmS K G H h dy G H g a1 a2 a3 a4 ∧
  ∀ G' H' b3 b4, RmS K G H h dy G' H' { g with ml := g.ml.eraseIdx m, tl := g.tl.eraseIdx t } a1 a2 b3 b4 → Qv (.bl (decide ((gT g).getD t 0 ≤ (gM g).getD m 0))) H'
theorem ok_rem (F : F_m_OpenHands_remove_pair K f fd) (T : ObK K) (k1 : Kn P w K mg base "without" 2 wpWithout) (k2 : Kn P w K mg base "wins" 2 wpWins) : FnOk P w K mg base (L2N.CX P w) 3 f fd p_m_OpenHands_remove_pair (spRem K) := by
  refine FunD.ok F s_m_OpenHands_remove_pair (fun vs H Qv E h => ?_) fun cdv A outer sh H vs Qv E hr h => ?_
  · obtain ⟨G, g, h, dy, a1, a2, a3, a4, m, t, rfl, _⟩ := h; rfl
  · obtain ⟨G, g, h, dy, a1, a2, a3, a4, m, t, rfl, ok, hm, ht, eG, gh, S0, kk⟩ := h
    have O : Ok (body1 P w K mg base n_m_OpenHands_remove_pair "OpenHands.remove_pair" c_m_OpenHands_remove_pair f cdv A outer sh H E) P w K mg base 2 E := ⟨fun _ => rfl, fun _ => rfl, fun _ => rfl, fun _ => rfl, fun _ => rfl, fun _ => rfl, fun _ => s_m_OpenHands_remove_pair.nd, fun _ => hr, fun _ => L2N.passes_call (L2N.takes_of rfl rfl rfl rfl) fun _ _ _ _ h => h⟩
    refine ⟨_, wb_ok (X := body1 P w K mg base n_m_OpenHands_remove_pair "OpenHands.remove_pair" c_m_OpenHands_remove_pair f cdv A outer sh H E) (), ?_⟩
    have htl : t < g.tl.length := by have := ok.eq; omega
    have nm := ok.nm
    have nt := ok.nt
    have nB : ∀ H : Hp, Ex (fun _ => none) H := fun _ _ _ e => nomatch e
    have env : ∀ {G H : Hp} {g' : GS} {a3 a4 : Addr} {G0 H0 : Hp}, RmS K G0 H0 h dy G H g' a1 a2 a3 a4 → EnvR K (fun _ => none) (upd G h (oO K dy a1 a2 a3 a4)) H (start n_m_OpenHands_remove_pair [.ref h, .int (g.ml.getD m 0 : Nat), .int (g.tl.getD t 0 : Nat)]) [.va (.oh g'), .va (.int (g.ml.getD m 0 : Nat)), .va (.int (g.tl.getD t 0 : Nat))] :=
      fun S => env3 S.oh (Sca.int _).rep (Sca.int _).rep
    have inM : ((g.ml.getD m 0 : Nat) : Int) ∈ castL g.ml := mem_castL.mpr (List.mem_of_getElem? (getN hm))
    have inT : ((g.tl.getD t 0 : Nat) : Int) ∈ castL g.tl := mem_castL.mpr (List.mem_of_getElem? (getN htl))
    refine wb_cons (ws_if (wt_ev (E := E) (b := false) (et_cmp ?_) (nB _) S0.inH (env S0) fun G1 H1 s1 => ?_))
    · walk_at "all"
      refine ev_fld O T ?_
      walk_at "all"
      refine ⟨_, .ml g, ?_⟩
      rw [lN_cast]
      exact ⟨o_notIn O ⟨_, rfl, by simpa using inM⟩⟩
    obtain ⟨G1', S1, _, _⟩ := S0.step s1 (z := .non) rfl Sca.non.rep
    rw [if_neg Bool.false_ne_true]
    refine wb_nil (wb_cons (ws_if (wt_ev (E := E) (b := false) (et_cmp ?_) (nB _) S1.inH (env S1) fun G2 H2 s2 => ?_)))
    · walk_at "all"
      refine ev_fld O T ?_
      walk_at "all"
      refine ⟨_, .tl g, ?_⟩
      rw [lN_cast]
      exact ⟨o_notIn O ⟨_, rfl, by simpa using inT⟩⟩
    obtain ⟨G2', S2, _, _⟩ := S1.step s2 (z := .non) rfl Sca.non.rep
    rw [if_neg Bool.false_ne_true]
    refine wb_nil (wb_cons (fld_read (R := fun _ => False) (ρ := [.va (.oh g), .va (.int (g.ml.getD m 0 : Nat)), .va (.int (g.tl.getD t 0 : Nat))]) (j := 0) (Q := fun d => d = lN (g.ml.eraseIdx m)) O (by decide +kernel) ?_ (nB _) S2.inH (env S2) Wish.none rfl S2.ho T.clO (T.naO _ (by simp [flO])) (by exact (by decide : 4 < 1000)) fun d v G3 H3 hd s3 r3 => ?_))
    · refine ev_call O k1 (by decide) ?_
      walk_at "all"
      refine ev_fld O T ?_
      walk_at "all"
      refine ⟨_, .ml g, ?_⟩
      rw [lN_cast]
      walk_at "all"
      refine ⟨_, _, rfl, by have := ok.l1; unfold castL; rw [List.length_map]; omega, ?_⟩
      rw [castL_erase nm hm, ← lN_cast]
    subst hd
    obtain ⟨G3', S3, r3', _⟩ := S2.step s3 (Lay.lN _).p r3
    obtain ⟨b3, rfl, hb3⟩ := Rep.natL r3'
    have S3b := S3.set3 hb3
    show WB _ _ _ _ (upd H3 h (oO K dy a1 a2 b3 a4))
    refine wb_cons (fld_read (R := fun _ => False) (ρ := [.va (.oh { g with ml := g.ml.eraseIdx m }), .va (.int (g.ml.getD m 0 : Nat)), .va (.int (g.tl.getD t 0 : Nat))]) (j := 0) (Q := fun d => d = lN (g.tl.eraseIdx t)) O (by decide +kernel) ?_ (nB _) S3b.inH (env S3b) Wish.none rfl S3b.ho T.clO (T.naO _ (by simp [flO])) (by exact (by decide : 4 < 1000)) fun d v G4 H4 hd s4 r4 => ?_)
    · refine ev_call O k1 (by decide) ?_
      walk_at "all"
      refine ev_fld O T ?_
      walk_at "all"
      refine ⟨_, .tl _, ?_⟩
      rw [lN_cast]
      walk_at "all"
      refine ⟨_, _, rfl, by have := ok.l1; have := ok.eq; unfold castL; rw [List.length_map]; show g.tl.length ≤ _; omega, ?_⟩
      rw [castL_erase nt htl, ← lN_cast]
    subst hd
    obtain ⟨G4', S4, r4', _⟩ := S3b.step s4 (Lay.lN _).p r4
    obtain ⟨b4, rfl, hb4⟩ := Rep.natL r4'
    have S4b := S4.set4 hb4
    show WB _ _ _ _ (upd H4 h (oO K dy a1 a2 b3 b4))
    refine wb_cons (ws_ret (we_ev (E := E) (z := .bl (decide ((gT g).getD t 0 ≤ (gM g).getD m 0))) (ev_call O k2 (by decide) ?_) (nB _) S4b.inH (env S4b) fun v G5 H5 s5 r5 => ?_))
    · walk_at "all"
      refine ev_fld O T ?_
      walk_at "all"
      refine ⟨_, .mine _, ?_⟩
      walk_at "all"
      refine i_listN O (iget (ok.m _ (List.mem_of_getElem? (getN hm)))) ?_
      walk_at "all"
      refine ev_fld O T ?_
      walk_at "all"
      refine ⟨_, .theirs _, ?_⟩
      walk_at "all"
      refine i_listN O (iget (ok.t _ (List.mem_of_getElem? (getN htl)))) ?_
      walk_at "all"
      refine ⟨_, _, rfl, ?_⟩
      unfold gT gM
      rw [pick_getD hm, pick_getD htl]
    obtain ⟨G5', S5, _, _⟩ := S4b.step s5 rfl r5
    rw [Rep.bl_iff.mp r5]
    exact kk G5' H5 b3 b4 S5
end
end CL
namespace DL
open PySem PySem.Spec PyProof.Rows L2
/-- data grows, two objects change -/
structure Wk2 (G H : Hp) (a h : Addr) (G' H' : Hp) : Prop where
  g : Ex G G'
  i : Ex G' H'
  n : ∀ b, G' b ≠ none → G b ≠ none ∨ H b = none
  k : ∀ b o, b ≠ a → b ≠ h → H b = some o → H' b = some o
end DL
namespace CL
open PySem PySem.Spec PyProof.Rows L2 DL
section
variable {P : Program} {w : World} {K : PySem.W.Frag} {mg : Str → Option Value} {base : Heap} {f : Addr} {fd : FuncData}
/-- saw of cards that are left; the guide is not data -/
def spSaw (K : PySem.W.Frag) : Sp := fun vs H Qv E => ∃ G g a h m t, vs = [.ref a, .int (g.ml.getD m 0 : Nat), .int (g.tl.getD t 0 : Nat)] ∧ GOk g ∧ m < g.ml.length ∧ t < g.ml.length ∧ Ex G H ∧ GuAt K (fun _ => none) G H g a h ∧
  ∀ G' H', Wk2 G H a h G' H' → GuAt K (fun _ => none) G' H' (gNext g m t) a h → Qv .non H'
theorem ne_gu {K : PySem.W.Frag} {H : Hp} {g : GS} {a h dx dy a1 a2 a3 a4 : Addr} (z0 : H a = some (.ins (CG K) dx (gdF g h))) (z1 : H h = some (.ins (CO K) dy (ohF a1 a2 a3 a4))) : a ≠ h := fun e => by
  rw [e, z1] at z0
  have q := (HO.ins.inj (Option.some.inj z0)).2.2
  have q2 : ("mine" : Str) = ("side" : Str) := congrArg Prod.fst (List.cons.inj q).1
  exact absurd q2 (by decide +kernel)
structure RemK (P : Program) (w : World) (K : PySem.W.Frag) (mg : Str → Option Value) (base : Heap) : Prop where
  ex : ∃ f fd, FnOk P w K mg base (L2N.CX P w) 3 f fd p_m_OpenHands_remove_pair (spRem K) ∧ Meth K (CO K) "remove_pair" f ∧ Binds K fd p_m_OpenHands_remove_pair []
theorem ok_saw (F : F_m_Guide_saw K f fd) (T : ObK K) (kr : RemK P w K mg base) : FnOk P w K mg base (L2N.CX P w) 4 f fd p_m_Guide_saw (spSaw K) := by
  refine FunD.ok F s_m_Guide_saw (fun vs H Qv E h => ?_) fun cdv A outer sh H vs Qv E hr h => ?_
  · obtain ⟨G, g, a, h, m, t, rfl, _⟩ := h; rfl
  · obtain ⟨G, g, a, h, m, t, rfl, ok, hm, ht, eG, gu, kk⟩ := h
    obtain ⟨fR, fdR, FR, MR, bR⟩ := kr.ex
    have O : Ok (body1 P w K mg base n_m_Guide_saw "Guide.saw" c_m_Guide_saw f cdv A outer sh H E) P w K mg base 3 E := ⟨fun _ => rfl, fun _ => rfl, fun _ => rfl, fun _ => rfl, fun _ => rfl, fun _ => rfl, fun _ => s_m_Guide_saw.nd, fun _ => hr, fun _ => L2N.passes_call (L2N.takes_of rfl rfl rfl rfl) fun _ _ _ _ h => h⟩
    refine ⟨_, wb_ok (X := body1 P w K mg base n_m_Guide_saw "Guide.saw" c_m_Guide_saw f cdv A outer sh H E) (), ?_⟩
    obtain ⟨dx, dy, a1, a2, a3, a4, z0, z1, z2, z3, z4, z5⟩ := gu.at_
    have nah := ne_gu z0 z1
    have hh : H h ≠ none := by rw [z1]; exact nofun
    have S0 : RmS K G H h dy G H g a1 a2 a3 a4 := ⟨Wk.zero eG gu.gh hh, z1, z2, z3, z4, z5⟩
    refine wb_cons (ws_if (wt_val ⟨tMeth (CO K) "remove_pair" (spRem K) [] E (tFld K (tVar 0) "hands") (tCons (tVar 1) (tCons (tVar 2) tNil)), fun i => pe_meth (X := body1 P w K mg base n_m_Guide_saw "Guide.saw" c_m_Guide_saw f cdv A outer sh H E i) (CX := L2N.CX P w) (E := E) (k := 3) (pe_fld (pe_var rfl (Or.inl rfl) (by decide +kernel) (by decide +kernel)) rfl) T.clO MR FR (O.room i) bR .nil (O.pass i) (pa_cons (pe_var rfl (Or.inl rfl) (by decide +kernel) (by decide +kernel)) (pa_cons (pe_var rfl (Or.inl rfl) (by decide +kernel) (by decide +kernel)) pa_nil rfl) rfl) rfl rfl rfl, ?_⟩))
    refine ⟨.ref a, rfl, a, CG K, dx, _, .ref h, rfl, z0, T.clG, T.naG _ (by simp [flG]), rfl, h, dy, _, rfl, z1, keys_none _ _ (show ("remove_pair" : Str) ∉ (["mine", "theirs", "my_left", "their_left"] : List Str) from by decide +kernel), .int (g.ml.getD m 0 : Nat), rfl, .int (g.tl.getD t 0 : Nat), rfl, ?_⟩
    refine ⟨G, g, h, dy, a1, a2, a3, a4, m, t, rfl, ok, hm, ht, eG, gu.gh, S0, fun G1 H1 b3 b4 S1 => ⟨_, rfl, ?_⟩⟩
    have z0' : H1 a = some (.ins (CG K) dx (gdF g h)) := S1.w.k _ _ nah z0
    have ga1 : G1 a = none := by
      cases q : G1 a with
      | none => rfl
      | some o =>
        rcases S1.w.n a (by rw [q]; exact nofun) with z | z
        · exact absurd gu.ga z
        · rw [z0] at z; cases z
    have fin : ∀ H2 wn, wn = g.won + hitOf (gM g) (gT g) m t → H2 a = some (.ins (CG K) dx (gdF { g with won := wn } h)) → (∀ b, b ≠ a → H2 b = H1 b) → Qv .non H2 := fun H2 wn hw e1 e2 => by
      subst hw
      refine kk G1 H2 ⟨S1.w.g, fun b o e => ?_, S1.w.n, fun b o n1 n2 e => ?_⟩ ⟨⟨dx, dy, a1, a2, b3, b4, e1, ?_, S1.l1, S1.l2, S1.l3, S1.l4⟩, ga1, S1.w.na, rfl, rfl⟩
      · rw [e2 b (fun z => by rw [z, ga1] at e; cases e)]
        exact S1.w.i b o e
      · rw [e2 b n1]
        exact S1.w.k b o n2 e
      · rw [e2 h (Ne.symm nah)]
        exact S1.ho
    by_cases hit : (gT g).getD t 0 ≤ (gM g).getD m 0
    · rw [if_pos (decide_eq_true hit)]
      refine wb_cons ⟨sFldAug K (tVar 0) (tC (.int 1)) (ipI fun i j => i + j) "won", fun i => ps_fldaug (X := body1 P w K mg base n_m_Guide_saw "Guide.saw" c_m_Guide_saw f cdv A outer sh H E i) (pe_var (i := 0) rfl (Or.inl rfl) (by decide +kernel) (by decide +kernel)) pe_int ip_add, ?_⟩
      refine ⟨.ref a, rfl, a, CG K, dx, _, .int g.won, rfl, z0', T.clG, T.naG _ (by simp [flG]), rfl, ?_⟩
      refine ⟨g.won, 1, rfl, rfl, dx, _, z0', by exact (by decide : 4 < 1000), wb_nil (wb_nil ?_)⟩
      exact fin _ (g.won + 1) (by unfold hitOf; rw [if_pos hit]) upd_same fun b n => upd_ne n
    · rw [if_neg (by rw [decide_eq_false hit]; exact Bool.false_ne_true)]
      exact wb_nil (wb_nil (fin H1 g.won (by unfold hitOf; rw [if_neg hit]; omega) z0' fun _ _ => rfl))
end
end CL
namespace CL
open PySem PySem.Spec PyProof.Rows L2 DL
section
variable {ι : Type} {X : ι → Cx} {P : Program} {w : World} {K : PySem.W.Frag} {mg : Str → Option Value} {base : Heap} {k : Nat} {E : XK} {ρ : Rho} {R : Er → Prop} {pos : Pos} {N : List Str} {sc : Scope}
structure SawK (P : Program) (w : World) (K : PySem.W.Frag) (mg : Str → Option Value) (base : Heap) : Prop where
  ex : ∃ f fd, FnOk P w K mg base (L2N.CX P w) 4 f fd p_m_Guide_saw (spSaw K) ∧ Meth K (CG K) "saw" f ∧ Binds K fd p_m_Guide_saw []
theorem EnvR.saw {B G H G' H' : Hp} {σ : L2.St} {j : Nat} {g g' : GS} {ga : Nat → Addr × Addr} (c : EnvR K B G H σ ρ) (hj : ρ[j]? = some (.gu g)) (g1 : ∀ (i : Nat) g, ρ[i]? = some (.gu g) → σ[i]? = some (some (.ref (ga i).1)) ∧ GuAt K B G H g (ga i).1 (ga i).2)
    (g2 : ∀ (i j : Nat) g g', i ≠ j → ρ[i]? = some (.gu g) → ρ[j]? = some (.gu g') → (ga i).1 ≠ (ga j).1 ∧ (ga i).2 ≠ (ga j).2) (w2 : Wk2 G H (ga j).1 (ga j).2 G' H') (gu : GuAt K B G' H' g' (ga j).1 (ga j).2) : EnvR K B G' H' σ (ρ.set j (.gu g')) := by
  have hl : j < ρ.length := (List.getElem?_eq_some_iff.mp hj).1
  have gj := (g1 j g hj).2
  have key : ∀ {i : Nat} {s : Sl}, (ρ.set j (.gu g'))[i]? = some s → j ≠ i → ρ[i]? = some s := fun {i s} h ne => by rwa [List.getElem?_set_ne ne] at h
  have free : ∀ {b : Addr}, G b = none → H b ≠ none → G' b = none := fun {b} h1 h2 => by
    cases q : G' b with
    | none => rfl
    | some o =>
      rcases w2.n b (by rw [q]; exact nofun) with z | z
      · exact absurd h1 z
      · exact absurd z h2
  refine ⟨by rw [List.length_set]; exact c.len, fun i d h => ?_, fun i ds h => ?_, fun i m ds es ne hi hm => ?_, ga, fun i g3 h => ?_, fun i m g3 g4 ne hi hm => ?_⟩
  · obtain ⟨_, h⟩ := set_key (s := .va d) (t := .gu g') (fun z => nomatch z) h
    obtain ⟨v, e1, r⟩ := c.va i d h
    exact ⟨v, e1, r.mono w2.g⟩
  · obtain ⟨_, h⟩ := set_key (s := .ow ds) (t := .gu g') (fun z => nomatch z) h
    obtain ⟨l, vs, e1, e2, e3, e4, r⟩ := c.ow i ds h
    have nl := gj.notlst e4
    exact ⟨l, vs, e1, free e2 (by rw [e4]; exact nofun), e3, w2.k _ _ (Ne.symm nl.1) (Ne.symm nl.2) e4, r.mono w2.g⟩
  · obtain ⟨_, hi⟩ := set_key (s := .ow ds) (t := .gu g') (fun z => nomatch z) hi
    obtain ⟨_, hm⟩ := set_key (s := .ow es) (t := .gu g') (fun z => nomatch z) hm
    exact c.ne i m ds es ne hi hm
  · by_cases q : j = i
    · subst q
      rw [List.getElem?_set_self hl] at h
      cases h
      exact ⟨(g1 j g hj).1, gu⟩
    · have h' := key h q
      obtain ⟨e1, gi⟩ := g1 i g3 h'
      have n12 := g2 i j g3 g (Ne.symm q) h' hj
      obtain ⟨dx, dy, a1, a2, a3, a4, z0, z1, _⟩ := gi.at_
      obtain ⟨ex, ey, b1, b2, b3, b4, y0, y1, _⟩ := gj.at_
      have x1 : (ga i).1 ≠ (ga j).2 := fun z => by
        rw [z] at z0
        rw [y1] at z0
        have q := (HO.ins.inj (Option.some.inj z0)).2.2
        have q2 : ("mine" : Str) = ("side" : Str) := congrArg Prod.fst (List.cons.inj q).1
        exact absurd q2 (by decide +kernel)
      have x2 : (ga i).2 ≠ (ga j).1 := fun z => by
        rw [z] at z1
        rw [y0] at z1
        have q := (HO.ins.inj (Option.some.inj z1)).2.2
        have q2 : ("side" : Str) = ("mine" : Str) := congrArg Prod.fst (List.cons.inj q).1
        exact absurd q2 (by decide +kernel)
      exact ⟨e1, gi.to w2.g (fun _ _ _ e => w2.k _ _ n12.1 x1 e) (fun _ _ _ e => w2.k _ _ x2 n12.2 e) (free gi.ga (by rw [z0]; exact nofun)) (free gi.gh (by rw [z1]; exact nofun))⟩
  · by_cases qi : j = i
    · subst qi
      exact g2 j m g g4 ne hj (key hm ne)
    · by_cases qm : j = m
      · subst qm
        exact g2 i j g3 g ne (key hi qi) hj
      · exact g2 i m g3 g4 ne (key hi qi) (key hm qm)
/-- if guide.saw(..) is not None: .. -/
theorem s_saw [cn : Cn X N sc] {gx : Str} {j : Nat} {g : GS} {es : List Expr} {e0 : Expr} {apos pg pos1 pos2 pos3 : Pos} {kc} {body : List Stmt} {D : DE} (O : Ok X P w K mg base k E) (T : ObK K) (M : SawK P w K mg base) (hk : 4 ≤ k) (hj : ρ[j]? = some (.gu g)) (hx : nokB N sc gx j = true) (ok : GOk g)
    (h : evs X K E (e0 :: es) ρ (fun ds => ∃ m t, ds = [.int (g.ml.getD m 0 : Nat), .int (g.tl.getD t 0 : Nat)] ∧ m < g.ml.length ∧ t < g.ml.length ∧ D.nx (ρ.set j (.gu (gNext g m t)))) R)
    (hst : ∀ i, starEach (e0 :: es) (X i).env = (false, eval e0 (X i).env) :: starEach es (X i).env := by intro _; rfl) (hpl : ∀ i, (backTo pos (starEach es (X i).env)).any (·.1) = false := by intro _; rfl)
    (ht : ∀ i, ∃ pl : Sem Bool, eval (.Call (.Attribute (.Name gx pg) "saw" apos) (e0 :: es) [] pos) (X i).env = (do
      let ov ← eval (.Name gx pg) (X i).env
      standAt apos.atName
      let (f, first) ← holding [ov] (getMethod ov "saw" pl)
      callWith pos f first (backTo pos (starEach (e0 :: es) (X i).env)) (backToKw pos (keywordEach [] (X i).env))) := by intro _; exact ⟨_, rfl⟩) :
    st1 X K E (.If (.Compare (.Call (.Attribute (.Name gx pg) "saw" apos) (e0 :: es) [] pos) [.IsNot] [.Constant .none kc pos1] pos2) body [] pos3) ρ D R := ⟨fun G0 B G H σ Dv s c wi m => by
  obtain ⟨f, fd, F, hm, hb⟩ := M.ex
  obtain ⟨ga, g1, g2⟩ := c.gus
  obtain ⟨hσ, gu⟩ := g1 j g hj
  have vs := vis_of (X := X) hx
  obtain ⟨dx, dy, a1, a2, a3, a4, z0, z1, _⟩ := gu.at_
  refine ws_if (wt_cmp ⟨tMeth (CG K) "saw" (spSaw K) [] E (tVar j) (WA X (e0 :: es)), fun i => ?_, .ref (ga j).1, hσ, (ga j).1, dx, _, rfl, z0, keys_none _ _ (show ("saw" : Str) ∉ (["side", "many", "won", "hands"] : List Str) from by decide +kernel), ?_⟩)
  · have F' : FnOk (X i).prog (X i).w (X i).K (X i).mg (X i).base (L2N.CX (X i).prog (X i).w) 4 f fd p_m_Guide_saw (spSaw K) := by rw [O.p i, O.w i, O.K i, O.mg i, O.base i]; exact F
    obtain ⟨pl, h1⟩ := ht i
    exact pe_meth (pe_var (vs.1 i) (vs.2.1 i) vs.2.2.1 vs.2.2.2) (by rw [O.K i]; exact T.clG) (by rw [O.K i]; exact hm) F' ((O.room i).mono hk) (by rw [O.K i]; exact hb) .nil (O.pass i) (wa_ok i) (hst i) (hpl i) h1
  · refine h.run B G H σ s.h s.i c wi _ fun ds us G1 H1 ⟨mm, tt, hds, hmm, htt, hnx⟩ s1 r1 => ?_
    subst hds
    show spSaw K ((V.ref (ga j).1 :: us) ++ []) H1 _ E
    rw [List.append_nil]
    obtain ⟨v1, t1, rfl, q1, r2⟩ := r1.inv
    obtain ⟨v2, rfl, q2⟩ := r2.one
    rw [Rep.int_iff.mp q1, Rep.int_iff.mp q2]
    have gu1 := gu.mono s1
    refine ⟨G1, g, (ga j).1, (ga j).2, mm, tt, rfl, ok, hmm, htt, s1.i, ⟨gu1.at_, gu1.ga, gu1.gh, rfl, rfl⟩, fun G2 H2 w2 gu2 => ?_⟩
    have st1 := s.trans s1
    have eB2 : Ex B H2 := fun b o e => w2.k b o (fun z => by rw [z, gu.ba] at e; cases e) (fun z => by rw [z, gu.bh] at e; cases e) (st1.h b o e)
    have st2 : Stp G0 B G2 H2 := ⟨st1.g.trans w2.g, eB2, w2.i, fun b e => (w2.n b e).elim (st1.n b) fun z => .inr (st1.h.free z)⟩
    have c2 : EnvR K B G2 H2 σ (ρ.set j (.gu (gNext g mm tt))) := EnvR.saw (ga := ga) (c.mono s1) hj (fun i g h => ⟨(g1 i g h).1, (g1 i g h).2.mono s1⟩) g2 w2 ⟨gu2.at_, gu2.ga, gu2.gh, gu.ba, gu.bh⟩
    refine ⟨_, fun i => pe_non, ?_⟩
    refine wo_of (K := K) (z := .bl false) (o_notN (d := .non) rfl) w2.i Sca.non.rep Sca.non.rep fun v G3 H3 s3 r3 => ⟨false, Rep.bl_iff.mp r3, ?_⟩
    rw [if_neg Bool.false_ne_true]
    exact wb_nil (m.nx _ _ G3 H3 hnx (st2.trans s3) (c2.mono s3))⟩
end
end CL
namespace CL
open PySem PySem.Spec PyProof.Rows L2 DL
/-- a guide that has just been made -/
theorem made_stp {K : PySem.W.Frag} {G H G' H' : Hp} {x dx h dy a1 a2 a3 a4 : Addr} {g : GS} (eG : Ex G H) (hx : H x = none) (hdx : H dx = none) (hne : dx ≠ x) (w : Wk G (upd (upd H dx (.own x)) x (.ins (CG K) dx [])) x G' H') (e1 : H' x = some (.ins (CG K) dx (gdF g h))) (e2 : H' h = some (.ins (CO K) dy (ohF a1 a2 a3 a4)))
    (e3 : (upd (upd H dx (.own x)) x (.ins (CG K) dx [])) h = none) (e4 : G' h = none) (l1 : G' a1 = some (.lst (g.mine.map .int))) (l2 : G' a2 = some (.lst (g.theirs.map .int))) (l3 : G' a3 = some (.lst (g.ml.map fun (n : Nat) => .int n))) (l4 : G' a4 = some (.lst (g.tl.map fun (n : Nat) => .int n))) :
    Stp G H G' H' ∧ GuAt K H G' H' g x h := by
  have nhx : h ≠ x := fun z => by rw [z, upd_same] at e3; cases e3
  have nhd : h ≠ dx := fun z => by rw [z, upd_ne hne, upd_same] at e3; cases e3
  have hh : H h = none := by rw [upd_ne nhx, upd_ne nhd] at e3; exact e3
  refine ⟨⟨w.g, fun b o e => ?_, w.i, fun b e => ?_⟩, ⟨⟨dx, dy, a1, a2, a3, a4, e1, e2, l1, l2, l3, l4⟩, w.na, e4, hx, hh⟩⟩
  · have n1 : b ≠ x := fun z => by rw [z, hx] at e; cases e
    have n2 : b ≠ dx := fun z => by rw [z, hdx] at e; cases e
    exact w.k b o n1 (by rw [upd_ne n1, upd_ne n2]; exact e)
  · rcases w.n b e with z | z
    · exact .inl z
    · refine .inr ?_
      have n1 : b ≠ x := fun q => by rw [q, upd_same] at z; cases z
      have n2 : b ≠ dx := fun q => by rw [q, upd_ne hne, upd_same] at z; cases z
      rw [upd_ne n1, upd_ne n2] at z
      exact z
section
variable {P : Program} {w : World} {K : PySem.W.Frag} {mg : Str → Option Value} {base : Heap} {f : Addr} {fd : FuncData}
/-- the lists of the guide at h are new ones -/
def FrG (K : PySem.W.Frag) (H H' : Hp) (h : Addr) : Prop := ∃ dy a1 a2 a3 a4, H' h = some (.ins (CO K) dy (ohF a1 a2 a3 a4)) ∧ H a1 = none ∧ H a2 = none ∧ H a3 = none ∧ H a4 = none
def spMade (K : PySem.W.Frag) : Sp := fun vs H Qv E => ∃ G M T side wish lo, Ex G H ∧ Reps K G [.lst [lI M, lI T], .str side, .str wish, .bl lo] vs ∧ M.length = T.length ∧ M.length ≤ 1000 ∧ ∀ G' H' a h, Stp G H G' H' → GuAt K H G' H' (gNew side wish M T) a h → FrG K H H' h → Qv (.ref a) H'
theorem ok_made (F : F_q_made K f fd) (gm : GMk P w K mg base) : FnOk P w K mg base (L2N.CX P w) 6 f fd p_q_made (spMade K) := by
  refine FunD.ok F s_q_made (fun vs H Qv E h => ?_) fun cdv A outer sh H vs Qv E hr h => ?_
  · obtain ⟨G, M, T, side, wish, lo, _, r, _⟩ := h; rw [r.len]; rfl
  · obtain ⟨G, M, T, side, wish, lo, eG, r, hl, hM, kk⟩ := h
    obtain ⟨fG, fdG, g, gV, dsG, FG, MG, kb, hgV, bG, vG⟩ := gm.ex
    have O : Ok (body1 P w K mg base n_q_made "_law_made" c_q_made f cdv A outer sh H E) P w K mg base 5 E := ⟨fun _ => rfl, fun _ => rfl, fun _ => rfl, fun _ => rfl, fun _ => rfl, fun _ => rfl, fun _ => s_q_made.nd, fun _ => hr, fun _ => L2N.passes_call (L2N.takes_of rfl rfl rfl rfl) fun _ _ _ _ h => h⟩
    refine ⟨_, wb_ok (X := body1 P w K mg base n_q_made "_law_made" c_q_made f cdv A outer sh H E) (), ?_⟩
    have s0 : Stp G H G H := Stp.refl eG
    have c : EnvR K H G H (start n_q_made vs) [.va (.lst [lI M, lI T]), .va (.str side), .va (.str wish), .va (.bl lo)] := env_start (N := n_q_made) r
    refine wb_cons (ws_if (wt_ev (E := E) (b := decide (wish = "mine") && lo) (evt_w (evw_and ?_)) s0.h s0.i c fun G1 H1 s1 => ?_))
    · walk_at "all"
      refine ⟨_, rfl, fun e => evw_and1 (evt_val ?_), fun e => by rw [e]; rfl⟩
      walk_at "all"
      exact ⟨lo, rfl, by rw [e]; rfl⟩
    have st1 := s0.trans s1
    have c1 := c.mono s1
    have fin : ∀ G2 H2 many (vs : List V), many = wish → Stp G H G2 H2 → Reps K G2 [lI M, lI T, .str side, .str many] vs → ∀ x dx, H2 x = none → H2 dx = none → dx ≠ x → spGI K (.ref x :: vs) (upd (upd H2 dx (.own x)) x (.ins (CG K) dx [])) (fun v H3 => v = .non ∧ Qv (.ref x) H3) E := fun G2 H2 many vs hm st2 r2 x dx hx hdx hne => by
      subst hm
      obtain ⟨v1, t1, rfl, q1, r2⟩ := r2.inv
      obtain ⟨v2, t2, rfl, q2, r2⟩ := r2.inv
      obtain ⟨v3, t3, rfl, q3, r2⟩ := r2.inv
      obtain ⟨v4, rfl, q4⟩ := r2.one
      rw [Rep.str_iff.mp q3, Rep.str_iff.mp q4]
      have eo : Ex H2 (upd (upd H2 dx (.own x)) x (.ins (CG K) dx [])) := (Ex.upd hdx).trans (Ex.upd (by rw [upd_ne (Ne.symm hne)]; exact hx))
      refine ⟨G2, x, dx, v1, v2, M, T, side, many, rfl, upd_same, st2.i.trans eo, st2.i.free hx, q1, q2, hM, by omega, fun z => absurd hl z, fun _ G3 H3 h dy a1 a2 a3 a4 w3 e1 e2 e3 e4 _ l1 l2 l3 l4 fr => ⟨rfl, ?_⟩⟩
      obtain ⟨s3, gu⟩ := made_stp (g := gNew side many M T) st2.i hx hdx hne w3 e1 e2 e3 e4 l1 l2 l3 l4
      have frs : ∀ {l : Addr}, (upd (upd H2 dx (.own x)) x (.ins (CG K) dx [])) l = none → H l = none := fun {l} z => by
        have n1 : l ≠ x := fun q => by rw [q, upd_same] at z; cases z
        have n2 : l ≠ dx := fun q => by rw [q, upd_ne hne, upd_same] at z; cases z
        rw [upd_ne n1, upd_ne n2] at z
        exact st2.h.free z
      exact kk G3 H3 x h (st2.trans s3) ⟨gu.at_, gu.ga, gu.gh, st2.h.free gu.ba, st2.h.free gu.bh⟩ ⟨dy, a1, a2, a3, a4, e2, frs fr.1, frs fr.2.1, frs fr.2.2.1, frs fr.2.2.2⟩
    by_cases hb : (decide (wish = "mine") && lo) = true
    · rw [if_pos hb]
      have hw : "mine" = wish := (of_decide_eq_true (Bool.and_eq_true_iff.mp hb).1).symm
      refine wb_cons (ws_ret ⟨tMake (CG K) (spGI K) [.str "mine"] E (WA (body1 P w K mg base n_q_made "_law_made" c_q_made f cdv A outer sh H E) _), fun i => pe_make (X := body1 P w K mg base n_q_made "_law_made" c_q_made f cdv A outer sh H E i) (CX := L2N.CX P w) (k := 4) MG FG ((O.room i).mono (by decide)) rfl gm.gm bG vG (O.pass i) (wa_ok i) (by decide +kernel) rfl rfl, ?_⟩)
      refine wa_ev (E := E) (z := [lI M, lI T, .str side]) ?_ st1.h st1.i c1 fun vs G2 H2 s2 r2 => ?_
      · walk_at "all"
        refine i_listN (j := 0) (d := lI M) O rfl ?_
        walk_at "all"
        refine i_listN (j := 1) (d := lI T) O rfl ?_
        walk_at "all"
        rfl
      exact fin G2 H2 "mine" _ hw (st1.trans s2) (r2.app (Reps.cons (Sca.str _).rep Reps.nil))
    · rw [if_neg hb]
      refine wb_nil (wb_cons (ws_ret ⟨tMakeK (CG K) 3 1 (spGI K) gV E (WA (body1 P w K mg base n_q_made "_law_made" c_q_made f cdv A outer sh H E) _) (tCons (WE (body1 P w K mg base n_q_made "_law_made" c_q_made f cdv A outer sh H E) _) tNil), fun i => pe_makeK (X := body1 P w K mg base n_q_made "_law_made" c_q_made f cdv A outer sh H E i) (CX := L2N.CX P w) (k := 4) (ks := ["many"]) (n := 3) MG FG ((O.room i).mono (by decide)) rfl gm.gm kb (O.pass i) (wa_ok i) (pk_cons (we_ok i) pk_nil) rfl rfl (by decide +kernel) rfl rfl, ?_⟩))
      refine wa_ev (E := E) (z := [lI M, lI T, .str side]) ?_ st1.h st1.i c1 fun vs G2 H2 s2 r2 => ?_
      · walk_at "all"
        refine i_listN (j := 0) (d := lI M) O rfl ?_
        walk_at "all"
        refine i_listN (j := 1) (d := lI T) O rfl ?_
        walk_at "all"
        rfl
      have st2 := st1.trans s2
      refine we_ev (E := E) (z := .str wish) ?_ st2.h st2.i (c1.mono s2) fun v3 G3 H3 s3 r3 => ?_
      · walk_at "all"
        rfl
      have lv : vs.length = 3 := r2.len
      refine ⟨lv, rfl, fun x dx hx hdx hne => ?_⟩
      rw [hgV (.ref x :: vs) [v3] (by rw [List.length_cons, lv]) rfl]
      exact fin G3 H3 wish _ rfl (st2.trans s3) ((r2.mono s3.g).app (Reps.cons r3 Reps.nil)) x dx hx hdx hne
end
end CL
namespace DL
open PySem PySem.Spec PyProof.Rows L2
/-- a def that is called where no repr runs -/
structure FnG (P : Program) (w : World) (K : PySem.W.Frag) (mg : Str → Option Value) (base : Heap) (k : Nat) (f : Addr) (fd : FuncData) (ps : List Str) (sp : Sp) : Prop where
  len : ∀ vs H Q E, sp vs H Q E → vs.length = ps.length
  run : ∀ (A : Around) (outer : List Env) (s : Shared) (H : Hp) (args : Args) (us : List Value) (vs : List V) (Q : VK) (E : XK), Room k A → A.guards = some [] → Env0 P w K mg base A outer s H → BindsTo s fd args (ps.zip us) → Vals vs us → sp vs H Q E →
    codeAny (model P w) A (.call (.ref f) args) (CR (L2N.CX P w) outer P w H s Q E) s
theorem fnG_of {P : Program} {w : World} {K : PySem.W.Frag} {mg : Str → Option Value} {base : Heap} {x qual : Str} {params : Arguments} {body : List Stmt} {scope : Scope} {dvs : List V} {kws : List (Str × V)} {f : Addr} {fd : FuncData} {N ps : List Str} {k : Nat} {sp : Sp}
    (F : FunD K x qual params body scope dvs kws f fd) (S : FnScope N ps scope) (len : ∀ vs H Q E, sp vs H Q E → vs.length = ps.length)
    (hbody : ∀ (cdv : Value) (A : Around) (outer : List Env) (s : Shared) (H : Hp) (vs : List V) (Q : VK) (E : XK), Room k (A.deeper (envOfC qual scope s.heap.objs.size f cdv)) → A.guards = some [] → sp vs H Q E →
      ∃ t, PSs (cxOf (L2N.CX P w) P w K mg base N qual scope f cdv A outer s H E) body t ∧ t { nx := fun _ H' => Q .non H', rt := Q } (L2.start N vs) H) : FnG P w K mg base (k + 1) f fd ps sp := by
  obtain ⟨oc, od, dV, kV, doc, pm, an, cdv, ct, osl, rfl, look, code, _, _⟩ := F.ex
  refine ⟨len, ?_⟩
  intro A outer s H args us vs Q E room gd env bind rel wish
  have kin : K.In s.heap := env.mod.kin.keeps fun b o z => (env.bs b o z).1
  have nolim : s.heap.NoLimit := env.mod.nolimit.keeps fun b o z => (env.bs b o z).1
  refine codeAny_call_function room.depth (kin _ _ look) rfl S.co S.gen rfl (PySem.W.codeRec_of kin code) (bind _ _ _ _ ?_)
  refine wpAny_newFunctionEnv_cells S.kind (fun ⟨n, v⟩ hy => ?_) fun env' he s1 made => ?_
  · rcases S.par n (List.of_mem_zip hy).1 with z | z
    · exact .inl z
    · exact .inr ⟨z, PySem.W.cellsFrom_some _ _ _ (.inl z)⟩
  subst he
  refine ⟨nolim.keeps made.toInCall.keep, codeAny_func ?_⟩
  obtain ⟨t, sound, holds⟩ := hbody cdv A outer s H vs Q E (room.deeper _) gd wish
  refine wpAny_mono (sound.run [] s1 (L2.start N vs) H _ (inv_start S room.hd env (len _ _ _ _ wish) rel made) holds) (fun fl s' after => ?_) fun _ _ z => z
  cases fl with
  | brk =>
    obtain ⟨_, _, _, z⟩ := after
    exact z.elim
  | cont =>
    obtain ⟨_, _, _, z⟩ := after
    exact z.elim
  | next =>
    obtain ⟨σ', H', J, z⟩ := after
    exact ⟨.non, H', J.os, J.bare, J.base, J.hok, rfl, z⟩
  | ret u =>
    obtain ⟨v, σ', H', J, rv, z⟩ := after
    exact ⟨v, H', J.os, J.bare, J.base, J.hok, rv, z⟩
/-- the rule for such a def -/
theorem fn_okG {P : Program} {w : World} {K : PySem.W.Frag} {mg : Str → Option Value} {base : Heap} {x qual : Str} {params : Arguments} {body : List Stmt} {scope : Scope} {dvs : List V} {kws : List (Str × V)} {f : Addr} {fd : FuncData} {N ps : List Str} {k : Nat} {wp : WPr}
    (F : FunD K x qual params body scope dvs kws f fd) (S : FnScope N ps scope) (len : ∀ ds Q R, wp ds Q R → ds.length = ps.length)
    (hbody : ∀ (X : Unit → Cx) (E : XK), (∃ cdv A outer s H, X = body1 P w K mg base N qual scope f cdv A outer s H E ∧ A.guards = some []) → Ok X P w K mg base k E → (∀ i, PassesOwn (model (X i).prog (X i).w) (X i).A (X i).env (X i).xe) → (∀ i, L2N.Takes (X i) fun cls d _ H => E cls d H) →
      ∀ ds Q R, wp ds Q R → stm X K E body (rhoOf N ds) { nx := fun _ => Q .non, rt := Q } R) : FnG P w K mg base (k + 1) f fd ps (spD K wp) := by
  refine fnG_of F S (fun vs H Qv E h => ?_) fun cdv A outer s H vs Qv E hr gd h => ?_
  · obtain ⟨G, ds, Q, R, _, r, hw, _⟩ := h
    rw [r.len]
    exact len ds Q R hw
  · obtain ⟨G, ds, Q, R, eG, r, hw, wi, kk⟩ := h
    have tk : L2N.Takes (cxOf (L2N.CX P w) P w K mg base N qual scope f cdv A outer s H E) fun cls d _ H => E cls d H := L2N.takes_of rfl rfl rfl rfl
    have O : Ok (body1 P w K mg base N qual scope f cdv A outer s H E) P w K mg base k E := ⟨fun _ => rfl, fun _ => rfl, fun _ => rfl, fun _ => rfl, fun _ => rfl, fun _ => rfl, fun _ => S.nd, fun _ => hr, fun _ => L2N.passes_call tk fun _ _ _ _ h => h⟩
    have b := hbody _ E ⟨cdv, A, outer, s, H, rfl, gd⟩ O (fun _ => passes_of rfl) (fun _ => tk) ds Q R hw
    refine ⟨_, wb_ok (X := body1 P w K mg base N qual scope f cdv A outer s H E) (), b.run G H G H _ _ (Stp.refl eG) (env_start r) wi ⟨fun ρ σ G' H' q s' _ => kk _ _ G' H' q s' Sca.non.rep, fun _ _ _ _ q => q.elim, fun _ _ _ _ q => q.elim, fun d v G' H' q s' r' => kk d v G' H' q s' r'⟩⟩
structure KnG (P : Program) (w : World) (K : PySem.W.Frag) (mg : Str → Option Value) (base : Heap) (x : Str) (k : Nat) (wp : WPr) : Prop where
  ex : ∃ f fd ps, FnG P w K mg base k f fd ps (spD K wp) ∧ mg x = some (.ref f) ∧ PySem.W.keepIn K (.ref f) = true ∧ Binds K fd ps []
theorem pe_callQ {X : Cx} {k : Nat} {f : Addr} {fd : FuncData} {ps : List Str} {sp : Sp} {E : XK} {x : Str} {p pos : Pos} {e : Expr} {es : List Expr} {t : TA} (gd : X.A.guards = some []) (F : FnG X.prog X.w X.K X.mg X.base k f fd ps sp) (room : Room k X.A) (gl : Gl X x) (gm : X.mg x = some (.ref f)) (kp : PySem.W.keepIn X.K (.ref f) = true) (bd : Binds X.K fd ps [])
    (ps_ : Passes (L2N.CX X.prog X.w) X E) (args : PA X (e :: es) t) (n0 : (x == ("__debug__" : Str)) = false) (n1 : starEach (e :: es) X.env = (false, eval e X.env) :: starEach es X.env) (n2 : (backTo pos (starEach es X.env)).any (·.1) = false) : PE X (.Call (.Name x p) (e :: es) [] pos) (tCall sp [] E t) := by
  constructor
  intro pins s σ H Q I wish
  refine wpAny_Call_Name_kw (ld_glob I gl gm ?_ n0)
  refine PySem.W.callWith_K (h₀ := X.base) I.ok.mod.kin kp (thn (args.run pos pins s σ H _ I wish) fun us sa ⟨vs, Ha, Ia, ra, qa⟩ => ⟨Ia.kIn, ?_⟩) n1 n2
  have qa : sp (vs ++ []) Ha Q E := qa
  rw [List.append_nil] at qa
  have lenU : us.length = ps.length := ra.length.symm.trans (F.len _ _ _ _ qa)
  have bnd := bd sa us Ia.kIn (by rw [List.append_nil]; exact lenU)
  rw [List.append_nil] at bnd
  refine wpAny_call (codeAny_mono (F.run X.A X.stack sa Ha ⟨us, []⟩ us vs Q E room gd Ia.env0 bnd ra qa) fun res s' end_ => ?_)
  cases res with
  | error u => exact ps_ pins σ Ha sa u s' Ia end_
  | ok fl =>
    cases fl with
    | ret u => exact Ia.after end_
    | next => exact end_.elim
    | brk => exact end_.elim
    | cont => exact end_.elim
section
variable {ι : Type} {X : ι → Cx} {P : Program} {w : World} {K : PySem.W.Frag} {mg : Str → Option Value} {base : Heap} {k : Nat} {E : XK} {ρ : Rho} {R : Er → Prop} {pos : Pos} {N : List Str} {sc : Scope}
theorem ev_callQ {x : Str} {kx : Nat} {wp : WPr} {e : Expr} {es : List Expr} {p : Pos} {Q : D → Prop} (gd : ∀ i, (X i).A.guards = some []) (O : Ok X P w K mg base k E) (F : KnG P w K mg base x kx wp) (hk : kx ≤ k) (h : evs X K E (e :: es) ρ (fun ds => wp ds Q R) R)
    (hg : ∀ i, Gl (X i) x := by intro _; rfl) (hdb : (x == ("__debug__" : Str)) = false := by decide)
    (he : ∀ i, starEach (e :: es) (X i).env = (false, eval e (X i).env) :: starEach es (X i).env := by intro _; rfl) (hpl : ∀ i, (backTo pos (starEach es (X i).env)).any (·.1) = false := by intro _; rfl) : ev X K E (.Call (.Name x p) (e :: es) [] pos) ρ Q R := ⟨fun B G H σ eB eG c w Qv kk => by
  obtain ⟨f, fd, ps, F, hm, hkp, hb⟩ := F.ex
  refine ⟨tCall (spD K wp) [] E (WA X (e :: es)), fun i => ?_, ?_⟩
  · have F' : FnG (X i).prog (X i).w (X i).K (X i).mg (X i).base kx f fd ps (spD K wp) := by rw [O.p i, O.w i, O.K i, O.mg i, O.base i]; exact F
    exact pe_callQ (gd i) F' ((O.room i).mono hk) (hg i) (by rw [O.mg i]; exact hm) (by rw [O.K i]; exact hkp) (by rw [O.K i]; exact hb) (O.pass i) (wa_ok i) hdb (he i) (hpl i)
  · refine h.run B G H σ eB eG c w _ fun ds vs G1 H1 hw s1 r1 => ?_
    show spD K wp (vs ++ []) H1 Qv E
    rw [List.append_nil]
    exact ⟨G1, ds, Q, R, s1.i, r1, hw, w.mono (eB.trans s1.h), fun d v G2 H2 q s2 r2 => kk d v G2 H2 q (s1.trans s2) r2⟩⟩
/-- .. with a guide of one's own as the first argument -/
theorem ev_callGQ [cn : Cn X N sc] {x gx : Str} {j kx : Nat} {wp : WPr} {g : GS} {es : List Expr} {p pg : Pos} {Q : D → Prop} (gd : ∀ i, (X i).A.guards = some []) (O : Ok X P w K mg base k E) (F : KnG P w K mg base x kx wp) (hk : kx ≤ k) (hj : ρ[j]? = some (.gu g)) (hx : nokB N sc gx j = true)
    (h : evs X K E es ρ (fun ds => wp (.gd g :: ds) (fun d => pln d = true ∧ Q d) R) R) (hg : ∀ i, Gl (X i) x := by intro _; rfl) (hdb : (x == ("__debug__" : Str)) = false := by decide)
    (he : ∀ i, starEach (.Name gx pg :: es) (X i).env = (false, eval (.Name gx pg) (X i).env) :: starEach es (X i).env := by intro _; rfl) (hpl : ∀ i, (backTo pos (starEach es (X i).env)).any (·.1) = false := by intro _; rfl) : ev X K E (.Call (.Name x p) (.Name gx pg :: es) [] pos) ρ Q R := ⟨fun B G H σ eB eG c wi Qv kk => by
  obtain ⟨f, fd, ps, F, hm, hkp, hb⟩ := F.ex
  obtain ⟨ga, g1, g2⟩ := c.gus
  obtain ⟨hσ, gu⟩ := g1 j g hj
  have vs := vis_of (X := X) hx
  refine ⟨tCall (spD K wp) [] E (tCons (tVar j) (WA X es)), fun i => ?_, .ref (ga j).1, hσ, h.run B G H σ eB eG c wi _ fun ds us G1 H1 hw s1 r1 => ?_⟩
  · have F' : FnG (X i).prog (X i).w (X i).K (X i).mg (X i).base kx f fd ps (spD K wp) := by rw [O.p i, O.w i, O.K i, O.mg i, O.base i]; exact F
    exact pe_callQ (gd i) F' ((O.room i).mono hk) (hg i) (by rw [O.mg i]; exact hm) (by rw [O.K i]; exact hkp) (by rw [O.K i]; exact hb) (O.pass i) (pa_cons (pe_var (vs.1 i) (vs.2.1 i) vs.2.2.1 vs.2.2.2) (wa_ok i) (he i)) hdb (he i) (hpl i)
  · show spD K wp ((V.ref (ga j).1 :: us) ++ []) H1 Qv E
    rw [List.append_nil]
    have gu1 := gu.mono s1
    obtain ⟨G2, e1, e2, gd2, same, ia, ih⟩ := gu1.data s1.i
    refine ⟨G2, .gd g :: ds, _, R, e2, Reps.cons (Rep.gd_iff.mpr ⟨_, rfl, gd2⟩) (r1.mono e1), hw, wi.mono (eB.trans s1.h), fun d v G' H' ⟨pl, q⟩ s2 r2 => ?_⟩
    obtain ⟨G3, s3, r3⟩ := take_away e1 gu1.ga gu1.gh same ia ih s2 pl r2
    exact kk d v G3 H' q (s1.trans s3) r3⟩
/-- repr(e), e a list -/
def rReprD (K : PySem.W.Frag) : List V → Hp → VK → Prop := fun xs H Q => ∃ (a : Addr) (d : PyData), xs = [.ref a] ∧ Dp K H (.ref a) d ∧ d.showable = true ∧ d.canLay0 = true ∧ d.depth ≤ 60 ∧ d.shown.length ≤ sizeLine ∧ Q (.str d.shown) H
theorem call_reprD {Y : Cx} (gd : Y.A.guards = some []) (un : Y.A.units + 64 < cLine) : CallR Y (.builtin "repr") (rReprD Y.K) := by
  rintro pins s σ H xs us Q I r ⟨a, d, rfl, dp, sh, cl, dep, sz, q⟩
  obtain ⟨u, rfl, ru⟩ := vals1 r
  obtain rfl : u = Value.ref a := ru
  obtain ⟨as, rd⟩ := Dp.reads I d _ _ dp rfl
  exact repr_of_reads' rd sh (PyData.noDict_hsm (PyData.hasDict_of_canLay _ cl)) gd (by omega) (fun _ _ z => z) (fun h' t tk hk => ⟨.str d.shown, H, I.kept (t' := tk) hk, ⟨t, rfl⟩, q⟩) sz
theorem c_reprL (gd : ∀ i, (X i).A.guards = some []) (O : Ok X P w K mg base k E) {ds : List D} {n : Nat} {Q : D → Prop} (l : Lay (.lst ds) n) (hn : n ≤ 60) (sh : (pd (.lst ds)).showable = true) (sz : (pd (.lst ds)).shown.length ≤ sizeLine) (q : Q (.str (pd (.lst ds)).shown)) : cad X K (.builtin "repr") [.lst ds] Q := ⟨fun G H vs eG rs Qv kk => by
  obtain ⟨v, rfl, h1⟩ := rs.one
  have dp := (Rep.mono eG _ h1).dp _ l.p
  obtain ⟨a, us, rfl, ha, ra⟩ := Rep.lst_iff.mp h1
  exact ⟨rReprD K, fun i => by have z := call_reprD (Y := X i) (gd i) (O.un i); rw [O.K i] at z; exact z, a, _, rfl, dp, sh, l.c, Nat.le_trans l.d hn, sz, kk _ _ G H q (Stp.refl eG) (Sca.str _).rep⟩⟩
end
end DL
namespace CL
open PySem PySem.Spec PyProof.Rows L2 DL
/-! ### small numbers have short texts -/
theorem log_small {i : Int} (h : i.natAbs < 2 ^ 40) : i.natAbs.log2 < 1920 := by
  by_cases h0 : i.natAbs = 0
  · rw [h0]; decide
  · exact (Nat.log2_lt h0).mpr (Nat.lt_trans h (Nat.pow_lt_pow_right (by decide) (by decide)))
theorem from_len : ∀ (ts : List Str) (k : Nat) (acc : Str), (textFrom k acc ts).length ≤ acc.length + (ts.map fun t => t.length + 2).sum
  | [], _, acc => by simp [textFrom]
  | t :: ts, k, acc => by
    have ih := from_len ts (k + 1) (acc ++ (if k > 0 then ", " else "" : String) ++ t)
    have e : (acc ++ (if k > 0 then ", " else "" : String) ++ t).length ≤ acc.length + 2 + t.length := by
      rw [Str.length_append, Str.length_append]
      have : (Str.ofString (if k > 0 then ", " else "")).length ≤ 2 := by split <;> decide +kernel
      omega
    rw [List.map_cons, List.sum_cons]
    show (textFrom (k + 1) _ ts).length ≤ _
    omega
theorem list_len {ts : List Str} {n : Nat} (h : ∀ t ∈ ts, t.length ≤ 2000) (hn : ts.length ≤ n) : (listText ts).length ≤ 2 + 2002 * n := by
  have h1 := from_len ts 0 "["
  have e1 : (Str.ofString "[").length = 1 := by decide +kernel
  have e2 : (Str.ofString "]").length = 1 := by decide +kernel
  have e3 : (ts.map fun t => t.length + 2).sum ≤ 2002 * ts.length := by
    clear h1 hn
    induction ts with
    | nil => simp
    | cons t r ih =>
      have a := h t List.mem_cons_self
      have b := ih fun x hx => h x (List.mem_cons_of_mem _ hx)
      rw [List.map_cons, List.sum_cons, List.length_cons]
      omega
  have e4 : 2002 * ts.length ≤ 2002 * n := Nat.mul_le_mul_left _ hn
  unfold listText
  rw [Str.length_append]
  omega
/-! ### the numbers are small -/
theorem ht_bd (L : List Cd) : (ht L).natAbs ≤ L.length := by
  unfold ht
  induction L with
  | nil => simp
  | cons c l ih =>
    rw [List.map_cons, List.sum_cons, List.length_cons]
    have : (stp c).natAbs ≤ 1 := by unfold stp; split <;> decide
    omega
theorem row_bd {M T : List Int} {n : Nat} (hM : M.length ≤ n) (hT : T.length ≤ n) (k : Nat) : ((rowP M T).getD k 0).natAbs ≤ 2 * n := by
  rw [List.getD_eq_getElem?_getD]
  cases e : (rowP M T)[k]? with
  | none => exact Nat.zero_le _
  | some x =>
    have hm := List.mem_of_getElem? e
    unfold rowP at hm
    have hm2 := (srt_perm _).mem_iff.mp hm
    unfold lvls at hm2
    obtain ⟨i, _, rfl⟩ := List.mem_map.mp hm2
    have h1 := ht_bd ((ord M T).take (plc (ord M T) 1 i + 1))
    have h2 : ((ord M T).take (plc (ord M T) 1 i + 1)).length ≤ (ord M T).length := by rw [List.length_take]; omega
    have h3 := ord_len M T
    show (ht ((ord M T).take (plc (ord M T) 1 i + 1))).natAbs ≤ _
    omega
theorem early_le (l : List Nat) (c : Nat) : early l c ≤ l.length := by
  unfold early
  have := List.count_le_length (a := c) (l := l.dropLast)
  rw [List.length_dropLast] at this
  omega
theorem value_bd {M T : List Int} {l : List Nat} {n : Nat} (many : Str) (hM : M.length ≤ n) (hT : T.length ≤ n) (hl : l.length ≤ n) : (valueV (rowP M T) l many).natAbs ≤ 3 * n + 1 := by
  have key : ∀ a b, b ≤ n → (entryV (rowP M T) a b).natAbs ≤ 3 * n + 1 := fun a b hb => by
    unfold entryV
    split
    · exact Nat.zero_le _
    · have := row_bd hM hT a
      omega
  unfold valueV
  have h1 := early_le l 77
  have h2 := early_le l 84
  split
  · exact key _ _ (by omega)
  · exact key _ _ (by omega)
/-! ### what a guide shows -/
noncomputable def layOf (g : GS) (s : Nat) : Nat := (lf g s).getD (Classical.epsilon fun a => LayIs (gM g) (gT g) s (!decide (sn s = g.many)) a) 0
theorem layOf_is {g : GS} {s a : Nat} (h : LayIs (gM g) (gT g) s (!decide (sn s = g.many)) a) : layOf g s = (lf g s).getD a 0 := by
  unfold layOf
  rw [lay_uniq (Classical.epsilon_spec (p := fun a => LayIs (gM g) (gT g) s (!decide (sn s = g.many)) a) ⟨a, h⟩) h]
def promD (g : GS) (l : List Nat) : Int := g.won + valueV (rowP (gM g) (gT g)) l g.many
noncomputable def shownD (g : GS) (s : Nat) (l : List Nat) : List D := [.str (sn s), .str (sn (1 - s)), .int g.won, .int (promD g l)] ++ if l.length = 0 then [] else [.int (layOf g s : Nat)]
theorem getD_lt {ns : List Nat} {n : Nat} (h : ∀ i ∈ ns, i < n) (h0 : 0 < n) (a : Nat) : ns.getD a 0 < n := by
  rw [List.getD_eq_getElem?_getD]
  cases e : ns[a]? with
  | none => exact h0
  | some x => exact h x (List.mem_of_getElem? e)
structure Tame (g : GS) (s : Nat) (l : List Nat) : Prop where
  ok : GOk g
  hs : s = 0 ∨ s = 1
  sd : g.side = sn s
  mn : g.many = sn (1 - s)
  len : l.length = g.ml.length
  al : allOk l
  w0 : 0 ≤ g.won
  w1 : g.won ≤ 1000
  m : ∀ i ∈ g.ml, i < 900
  t : ∀ i ∈ g.tl, i < 900
theorem Tame.prom {g : GS} {s : Nat} {l : List Nat} (x : Tame g s l) : (promD g l).natAbs < 2 ^ 40 := by
  have h0 := x.ok.l1
  have h1 := value_bd (M := gM g) (T := gT g) (l := l) (n := 900) g.many (by rw [gM_len]; exact h0) (by rw [gT_len x.ok]; exact h0) (by rw [x.len]; exact h0)
  have := x.w0
  have := x.w1
  unfold promD
  omega
theorem Tame.lay {g : GS} {s : Nat} {l : List Nat} (x : Tame g s l) : layOf g s < 900 := by
  unfold layOf
  refine getD_lt (fun i hi => ?_) (by decide) _
  unfold lf at hi
  split at hi
  · exact x.m i hi
  · exact x.t i hi
theorem Tame.items {g : GS} {s : Nat} {l : List Nat} (x : Tame g s l) : ∀ d ∈ shownD g s l, (∃ t, (t = 0 ∨ t = 1) ∧ d = .str (sn t)) ∨ ∃ i : Int, i.natAbs < 2 ^ 40 ∧ d = .int i := by
  intro d hd
  have hs := x.hs
  have h1 : 1 - s = 0 ∨ 1 - s = 1 := by omega
  unfold shownD at hd
  rcases List.mem_append.mp hd with h | h
  · simp only [List.mem_cons, List.not_mem_nil, or_false] at h
    rcases h with rfl | rfl | rfl | rfl
    · exact .inl ⟨s, hs, rfl⟩
    · exact .inl ⟨1 - s, h1, rfl⟩
    · exact .inr ⟨_, by have := x.w0; have := x.w1; omega, rfl⟩
    · exact .inr ⟨_, x.prom, rfl⟩
  · split at h
    · cases h
    · simp only [List.mem_cons, List.not_mem_nil, or_false] at h
      subst h
      exact .inr ⟨_, by have := x.lay; omega, rfl⟩
theorem Tame.lay_ {g : GS} {s : Nat} {l : List Nat} (x : Tame g s l) : Lay (.lst (shownD g s l)) 1 := Lay.lst fun d hd => by
  rcases x.items d hd with ⟨t, ht, rfl⟩ | ⟨i, _, rfl⟩
  · exact Lay.str _ (ok_sn ht)
  · exact Lay.int i
theorem show_all : ∀ {ds : List D}, (∀ d ∈ ds, (pd d).showable = true) → PyData.showableAll (pds ds) = true
  | [], _ => rfl
  | d :: ds, h => by
    rw [pds]
    show (PyData.showable (pd d) && PyData.showableAll (pds ds)) = true
    rw [h d List.mem_cons_self, show_all fun x hx => h x (List.mem_cons_of_mem _ hx)]
    rfl
theorem shown_all : ∀ ds : List D, PyData.shownAll (pds ds) = ds.map fun d => (pd d).shown
  | [] => rfl
  | d :: ds => by
    rw [pds, List.map_cons, ← shown_all ds]
    rfl
theorem Tame.show_ {g : GS} {s : Nat} {l : List Nat} (x : Tame g s l) : (pd (.lst (shownD g s l))).showable = true := by
  show PyData.showableAll (pds _) = true
  refine show_all fun d hd => ?_
  rcases x.items d hd with ⟨t, ht, rfl⟩ | ⟨i, hi, rfl⟩
  · rfl
  · exact decide_eq_true (log_small hi)
theorem Tame.size {g : GS} {s : Nat} {l : List Nat} (x : Tame g s l) : (pd (.lst (shownD g s l))).shown.length ≤ sizeLine := by
  show (listText (PyData.shownAll (pds _))).length ≤ _
  rw [shown_all]
  have hlen : ((shownD g s l).map fun d => (pd d).shown).length ≤ 5 := by
    rw [List.length_map]
    unfold shownD
    split <;> simp
  refine Nat.le_trans (list_len (n := 5) (fun tx htx => ?_) hlen) (by decide +kernel)
  obtain ⟨d, hd, rfl⟩ := List.mem_map.mp htx
  clear htx
  rcases x.items d hd with ⟨t, ht, rfl⟩ | ⟨i, hi, rfl⟩
  · show (reprText (sn t)).length ≤ _
    rcases ht with rfl | rfl <;> decide +kernel
  · show (Str.ofString (toString i)).length ≤ _
    exact Nat.le_trans (int_text_len_1921 (log_small hi)) (by decide)
noncomputable def textOf (g : GS) (s : Nat) (l : List Nat) : Str := (pd (.lst (shownD g s l))).shown
section
variable {P : Program} {w : World} {K : PySem.W.Frag} {mg : Str → Option Value} {base : Heap} {f : Addr} {fd : FuncData}
def wpText : WPr := fun ds Q R => ∃ (g : GS) (s : Nat) (l : List Nat), ds = [.gd g, .str (tx l)] ∧ Tame g s l ∧ Q (.str (textOf g s l))
theorem ok_text (F : F_q_text K f fd) (Y : Fre mg) (T : ObK K) (k1 : MeK P w K mg base (CG K) "promise" 7 wpPromise) (k2 : MeK P w K mg base (CG K) "lay" 6 wpLay) : FnG P w K mg base 8 f fd p_q_text (spD K wpText) := by
  refine fn_okG F s_q_text (fun ds Q R h => ?_) fun X E hX O hp tk ds Q R h => ?_
  · obtain ⟨_, _, _, rfl, _⟩ := h; rfl
  · obtain ⟨g, s, l, rfl, x, q⟩ := h
    obtain ⟨cdv, A, outer, sh, H, rfl, gd⟩ := hX
    have gds : ∀ i, (body1 P w K mg base n_q_text "_law_text" c_q_text f cdv A outer sh H E i).A.guards = some [] := fun _ => gd
    have l1 := x.ok.l1
    have ln := x.len
    have hsz : (tx l).length ≤ sizeLine := by rw [tx_len, sizeLine_eq]; omega
    refine st_cons (s_so (j := 2) O (evn_lst (evs_cons (ev_fld O T ?_))))
    walk_at "all"
    refine ⟨_, .side g, evs_cons (ev_fld O T ?_)⟩
    walk_at "all"
    refine ⟨_, .many g, evs_cons (ev_fld O T ?_)⟩
    walk_at "all"
    refine ⟨_, .won g, evs_cons (ev_meth (fl := flG) O k1 (by decide) ?_ (by decide +kernel))⟩
    walk_at "all"
    refine ⟨.gd g, ?_⟩
    walk_at "all"
    refine ⟨g, l, rfl, x.ok, by omega, fun p hp => ?_, fun _ => ?_⟩
    · rw [okc_none x.al x.len] at hp; cases hp
    walk_at "all"
    have fin : ∀ z : Rho, z = [.va (.gd g), .va (.str (tx l)), .va (.lst (shownD g s l))] → stm (body1 P w K mg base n_q_text "_law_text" c_q_text f cdv A outer sh H E) K E (match defBody (tp 71) with | [_, _, r] => [r] | _ => []) z { nx := fun _ => Q .non, rt := Q } R := fun z hz => by
      subst hz
      refine st_one (s_ret (ev_callB (id := "repr") (hv := bo_repr) O Y.repr ?_))
      walk_at "all"
      exact c_reprL gds O x.lay_ (by decide) x.show_ x.size q
    refine st_cons (s_ifv (decide (l.length ≠ 0)) ?_ (fun t => ?_) fun t => ?_)
    · walk_at "all"
      refine c_lenT O hsz ?_
      rw [tx_len]
      walk_at "all"
      refine ⟨_, rfl, ?_⟩
      rw [decide_eq_decide]
      omega
    · have hne := of_decide_eq_true t
      refine st_one (s_app (j := 2) O rfl (by exact (by decide +kernel : 4 < sizeLine)) (ev_meth0 (fl := flG) O k2 (by decide) ?_ (by decide +kernel)))
      walk_at "all"
      refine ⟨.gd g, g, s, rfl, x.ok, x.hs, x.sd, fun h => absurd h (by omega), fun _ a ha => ?_⟩
      refine st_unown 2 rfl (fin _ ?_)
      rw [← layOf_is ha]
      unfold shownD
      rw [if_neg hne, ← x.sd, ← x.mn]
      rfl
    · have he : l.length = 0 := by simpa using t
      refine st_nil (st_unown 2 rfl (fin _ ?_))
      unfold shownD
      rw [if_pos he, ← x.sd, ← x.mn]
      rfl
end
end CL
namespace CL
open PySem PySem.Spec PyProof.Rows L2 DL
section
variable {P : Program} {w : World} {K : PySem.W.Frag} {mg : Str → Option Value} {base : Heap} {f : Addr} {fd : FuncData}
def wpQuiet : WPr := fun ds Q R => ∃ (g : GS) (s n : Nat) (l : List Nat), ds = [.gd g, .str (sn (1 - s)), lv2 g, .int n, .str (tx l)] ∧ Tame g s l ∧ n ≤ 900 ∧ (∀ i ∈ g.ml, i < n) ∧ (∀ i ∈ g.tl, i < n) ∧ Q (.bl true)
theorem ok_quiet (F : F_q_quiet K f fd) (k1 : KnG P w K mg base "_law_text" 8 wpText) (k2 : Kn P w K mg base "_law_refused" 11 wpRefused) : FnG P w K mg base 12 f fd p_q_quiet (spD K wpQuiet) := by
  refine fn_okG F s_q_quiet (fun ds Q R h => ?_) fun X E hX O hp tk ds Q R h => ?_
  · obtain ⟨_, _, _, _, rfl, _⟩ := h; rfl
  · obtain ⟨g, s, n, l, rfl, x, hn, hm, ht, q⟩ := h
    obtain ⟨cdv, A, outer, sh, H, rfl, gd⟩ := hX
    have gds : ∀ i, (body1 P w K mg base n_q_quiet "_law_quiet" c_q_quiet f cdv A outer sh H E i).A.guards = some [] := fun _ => gd
    refine st_cons (s_st (j := 5) O (ev_callQ gds O k1 (by decide) ?_))
    walk_at "all"
    refine ⟨g, s, l, rfl, x, ?_⟩
    refine st_one (s_ret (ev_and (ev_call O k2 (by decide) ?_)))
    walk_at "all"
    refine ⟨g, s, n, l, rfl, x.ok, x.hs, x.sd, x.mn, x.len, x.al, hn, hm, ht, true, rfl, fun _ => ev_one (ec_cmp (ev_callQ gds O k1 (by decide) ?_)), nofun⟩
    walk_at "all"
    refine ⟨g, s, l, rfl, x, ?_⟩
    walk_at "all"
    rw [decide_eq_true rfl]
    exact q
def wpLooked : WPr := fun ds Q R => ∃ (g : GS) (s c n : Nat) (l : List Nat), ds = [.gd g, hd2 g, lv2 g, .lst [.str (sn s), .str (sn (1 - s)), .str (sn c)], .int n, .str (tx l)] ∧ Tame g s l ∧ n ≤ 900 ∧ (∀ i ∈ g.ml, i < n) ∧ (∀ i ∈ g.tl, i < n) ∧ Q (.bl true)
theorem ok_looked (F : F_q_looked K f fd) (Y : Fre mg) (k1 : KnG P w K mg base "_law_quiet" 12 wpQuiet) (k2 : Kn P w K mg base "_law_all_answers" 7 wpAll) : FnG P w K mg base 13 f fd p_q_looked (spD K wpLooked) := by
  refine fn_okG F s_q_looked (fun ds Q R h => ?_) fun X E hX O hp tk ds Q R h => ?_
  · obtain ⟨_, _, _, _, _, rfl, _⟩ := h; rfl
  · obtain ⟨g, s, c, n, l, rfl, x, hn, hm, ht, q⟩ := h
    obtain ⟨cdv, A, outer, sh, H, rfl, gd⟩ := hX
    have hs := x.hs
    have gds : ∀ i, (body1 P w K mg base n_q_looked "_law_looked" c_q_looked f cdv A outer sh H E i).A.guards = some [] := fun _ => gd
    refine st_cons (s_st (j := 6) O ?_)
    walk_at "all"
    refine i_listN (j := 0) (d := .str (sn s)) O rfl ?_
    walk_at "all"
    rw [own_of' hs]
    refine i_listN (j := 1 - s) O (foe_at hs) ?_
    refine st_cons (s_ifv false (evt_not (evt_val (ev_callQ gds O k1 (by decide) ?_))) (fun t => nomatch t) fun _ => st_nil ?_)
    · walk_at "all"
      exact ⟨g, s, n, l, rfl, x, hn, hm, ht, true, rfl, rfl⟩
    · refine st_one (s_ret (ev_call O k2 (by decide) ?_))
      walk_at "all"
      refine i_listN (j := 0) (d := .str (sn s)) O rfl ?_
      walk_at "all"
      refine i_listN (j := 1) (d := .str (sn (1 - s))) O rfl ?_
      walk_at "all"
      exact ⟨g, s, by rw [x.sd, x.mn], x.ok, hs, x.sd, x.mn, q⟩
end
end CL
namespace DL
open PySem PySem.Spec PyProof.Rows L2
/-- a guide that has just been made goes into a slot -/
theorem EnvR.setGu {K : PySem.W.Frag} {B G H G' H' : Hp} {σ : L2.St} {ρ : Rho} {g : GS} {a h : Addr} (c : EnvR K B G H σ ρ) (s : Stp G H G' H') (gu : GuAt K H G' H' g a h) (eB : Ex B H) (j : Nat) : EnvR K B G' H' (σ.set j (some (.ref a))) (ρ.set j (.gu g)) := by
  obtain ⟨ga, g1, g2⟩ := c.gus
  have old : ∀ {i : Nat} {g3 : GS}, ρ[i]? = some (.gu g3) → (ga i).1 ≠ a ∧ (ga i).2 ≠ h := fun {i g3} hi => by
    obtain ⟨dx, dy, a1, a2, a3, a4, z0, z1, _⟩ := (g1 i g3 hi).2.at_
    exact ⟨fun z => (by rw [z, gu.ba] at z0; cases z0), fun z => (by rw [z, gu.bh] at z1; cases z1)⟩
  have key : ∀ {i : Nat} {s : Sl}, (ρ.set j (.gu g))[i]? = some s → j ≠ i → ρ[i]? = some s := fun {i s} h ne => by rwa [List.getElem?_set_ne ne] at h
  have cm := c.mono s
  refine ⟨by simp [c.len], fun i d hi => ?_, fun i ds hi => ?_, fun i m ds es ne hi hm => ?_, fun i => if i = j then (a, h) else ga i, fun i g3 hi => ?_, fun i m g3 g4 ne hi hm => ?_⟩
  · obtain ⟨n, hi⟩ := set_key (s := .va d) (t := .gu g) (fun z => nomatch z) hi
    rw [List.getElem?_set_ne n]
    exact cm.va i d hi
  · obtain ⟨n, hi⟩ := set_key (s := .ow ds) (t := .gu g) (fun z => nomatch z) hi
    rw [List.getElem?_set_ne n]
    exact cm.ow i ds hi
  · obtain ⟨n1, hi⟩ := set_key (s := .ow ds) (t := .gu g) (fun z => nomatch z) hi
    obtain ⟨n2, hm⟩ := set_key (s := .ow es) (t := .gu g) (fun z => nomatch z) hm
    rw [List.getElem?_set_ne n1, List.getElem?_set_ne n2]
    exact c.ne i m ds es ne hi hm
  · by_cases q : i = j
    · subst q
      have hl : i < ρ.length := by
        by_cases hl : i < ρ.length
        · exact hl
        · rw [List.getElem?_eq_none (by simpa using hl)] at hi; cases hi
      rw [List.getElem?_set_self hl] at hi
      cases hi
      rw [List.getElem?_set_self (by rw [c.len]; exact hl)]
      show some (some (V.ref a)) = some (some (V.ref (if i = i then (a, h) else ga i).1)) ∧ GuAt K B G' H' g (if i = i then (a, h) else ga i).1 (if i = i then (a, h) else ga i).2
      rw [if_pos rfl]
      exact ⟨rfl, ⟨gu.at_, gu.ga, gu.gh, eB.free gu.ba, eB.free gu.bh⟩⟩
    · have hi := key hi (Ne.symm q)
      rw [List.getElem?_set_ne (Ne.symm q)]
      simp only [if_neg q]
      exact ⟨(g1 i g3 hi).1, (g1 i g3 hi).2.mono s⟩
  · by_cases qi : i = j
    · have hm := key hm (fun z => ne (qi.trans z))
      have := old hm
      simp only [if_pos qi, if_neg (fun z => ne (qi.trans z.symm) : m ≠ j)]
      exact ⟨Ne.symm this.1, Ne.symm this.2⟩
    · have hi := key hi (Ne.symm qi)
      by_cases qm : m = j
      · have := old hi
        simp only [if_neg qi, if_pos qm]
        exact this
      · have hm := key hm (Ne.symm qm)
        simp only [if_neg qi, if_neg qm]
        exact g2 i m g3 g4 ne hi hm
/-- a list that is neither data nor in a slot changes -/
theorem EnvR.beside {K : PySem.W.Frag} {B G H : Hp} {σ : L2.St} {ρ : Rho} {l : Addr} {vs : List V} {o : HO} (c : EnvR K B G H σ ρ) (hl : H l = some (.lst vs)) (no : ∀ (i : Nat) ds, ρ[i]? ≠ some (.ow ds)) : EnvR K B G (upd H l o) σ ρ := by
  obtain ⟨ga, g1, g2⟩ := c.gus
  refine ⟨c.len, c.va, fun i ds h => absurd h (no i ds), fun i _ ds _ _ h _ => absurd h (no i ds), ga, fun i g h => ⟨(g1 i g h).1, ?_⟩, g2⟩
  have x := (g1 i g h).2
  have n := x.notlst hl
  exact x.to (Ex.refl _) (fun _ _ _ e => by rw [upd_ne n.1]; exact e) (fun _ _ _ e => by rw [upd_ne n.2]; exact e) x.ga x.gh
/-- a list of two lists that is not data -/
structure Gv (K : PySem.W.Frag) (B G H : Hp) (pf l0 l1 : Addr) (A T : List Int) : Prop where
  hf : H pf = some (.lst [.ref l0, .ref l1])
  h0 : H l0 = some (.lst (A.map .int))
  h1 : H l1 = some (.lst (T.map .int))
  gf : G pf = none
  g0 : G l0 = none
  g1 : G l1 = none
  bf : B pf = none
  b0 : B l0 = none
  b1 : B l1 = none
  n01 : l0 ≠ l1
  nf0 : pf ≠ l0
  nf1 : pf ≠ l1
section
variable {K : PySem.W.Frag} {B G H G' H' : Hp} {pf l0 l1 : Addr} {A T : List Int}
theorem Gv.step (x : Gv K B G H pf l0 l1 A T) (s : Stp G H G' H') : Gv K B G' H' pf l0 l1 A T :=
  ⟨s.h _ _ x.hf, s.h _ _ x.h0, s.h _ _ x.h1, s.out x.gf (by rw [x.hf]; exact nofun), s.out x.g0 (by rw [x.h0]; exact nofun), s.out x.g1 (by rw [x.h1]; exact nofun), x.bf, x.b0, x.b1, x.n01, x.nf0, x.nf1⟩
/-- the heap with them as data -/
def gvG (G : Hp) (pf l0 l1 : Addr) (A T : List Int) : Hp := upd (upd (upd G l0 (.lst (A.map .int))) l1 (.lst (T.map .int))) pf (.lst [.ref l0, .ref l1])
theorem gvG_ne {b : Addr} (h0 : b ≠ l0) (h1 : b ≠ l1) (hf : b ≠ pf) : gvG G pf l0 l1 A T b = G b := by
  unfold gvG
  rw [upd_ne hf, upd_ne h1, upd_ne h0]
theorem Gv.old (x : Gv K B G H pf l0 l1 A T) : Ex G (gvG G pf l0 l1 A T) := fun b o e => by
  rw [gvG_ne (fun z => by rw [z, x.g0] at e; cases e) (fun z => by rw [z, x.g1] at e; cases e) (fun z => by rw [z, x.gf] at e; cases e)]
  exact e
theorem Gv.at (x : Gv K B G H pf l0 l1 A T) : gvG G pf l0 l1 A T pf = some (.lst [.ref l0, .ref l1]) ∧ gvG G pf l0 l1 A T l0 = some (.lst (A.map .int)) ∧ gvG G pf l0 l1 A T l1 = some (.lst (T.map .int)) := by
  unfold gvG
  refine ⟨upd_same, ?_, ?_⟩
  · rw [upd_ne (Ne.symm x.nf0), upd_ne x.n01, upd_same]
  · rw [upd_ne (Ne.symm x.nf1), upd_same]
theorem Gv.inH (x : Gv K B G H pf l0 l1 A T) (eG : Ex G H) : Ex (gvG G pf l0 l1 A T) H := fun b o e => by
  by_cases z0 : b = l0
  · rw [z0, x.at.2.1] at e; cases e; rw [z0]; exact x.h0
  by_cases z1 : b = l1
  · rw [z1, x.at.2.2] at e; cases e; rw [z1]; exact x.h1
  by_cases zf : b = pf
  · rw [zf, x.at.1] at e; cases e; rw [zf]; exact x.hf
  rw [gvG_ne z0 z1 zf] at e
  exact eG b o e
theorem Gv.rep (x : Gv K B G H pf l0 l1 A T) : Rep K (gvG G pf l0 l1 A T) (.lst [lI A, lI T]) (.ref pf) :=
  Rep.lst_iff.mpr ⟨pf, _, rfl, x.at.1, Reps.cons (Rep.lst_iff.mpr ⟨l0, _, rfl, x.at.2.1, Reps.of_ints _⟩) (Reps.cons (Rep.lst_iff.mpr ⟨l1, _, rfl, x.at.2.2, Reps.of_ints _⟩) Reps.nil)⟩
def del3 (G : Hp) (pf l0 l1 : Addr) : Hp := fun b => if b = l0 ∨ b = l1 ∨ b = pf then none else G b
theorem del3_ne {b : Addr} (h0 : b ≠ l0) (h1 : b ≠ l1) (hf : b ≠ pf) : del3 G pf l0 l1 b = G b := if_neg fun z => z.elim h0 fun z => z.elim h1 hf
theorem Gv.away (x : Gv K B G H pf l0 l1 A T) (s : Stp (gvG G pf l0 l1 A T) H G' H') : Stp G H (del3 G' pf l0 l1) H' := by
  refine ⟨fun b o e => ?_, s.h, fun b o e => ?_, fun b e => ?_⟩
  · rw [del3_ne (fun z => by rw [z, x.g0] at e; cases e) (fun z => by rw [z, x.g1] at e; cases e) (fun z => by rw [z, x.gf] at e; cases e)]
    exact s.g _ _ (x.old _ _ e)
  · unfold del3 at e
    split at e
    · cases e
    · exact s.i _ _ e
  · unfold del3 at e
    split at e
    · exact absurd rfl e
    · rename_i n
      have n' := not_or.mp n
      have n2 := not_or.mp n'.2
      rcases s.n b e with z | z
      · rw [gvG_ne n'.1 n2.1 n2.2] at z; exact .inl z
      · exact .inr z
theorem Gv.gu (x : Gv K B G H pf l0 l1 A T) {g : GS} {a h : Addr} (gu : GuAt K H G' H' g a h) (fr : CL.FrG K H H' h) : GuAt K H (del3 G' pf l0 l1) H' g a h := by
  obtain ⟨dx, dy, a1, a2, a3, a4, z0, z1, z2, z3, z4, z5⟩ := gu.at_
  obtain ⟨ey, b1, b2, b3, b4, y1, f1, f2, f3, f4⟩ := fr
  rw [z1] at y1
  cases y1
  have free : ∀ {b : Addr}, H b = none → b ≠ l0 ∧ b ≠ l1 ∧ b ≠ pf := fun {b} hb => ⟨fun z => (by rw [z, x.h0] at hb; cases hb), fun z => (by rw [z, x.h1] at hb; cases hb), fun z => (by rw [z, x.hf] at hb; cases hb)⟩
  have at_ : ∀ {b : Addr} {o : HO}, H b = none → G' b = some o → del3 G' pf l0 l1 b = some o := fun {b o} hb e => by
    have n := free hb
    rw [del3_ne n.1 n.2.1 n.2.2]
    exact e
  have no : ∀ {b : Addr}, G' b = none → del3 G' pf l0 l1 b = none := fun {b} e => by
    unfold del3
    split
    · rfl
    · exact e
  exact ⟨⟨dx, dy, a1, a2, a3, a4, z0, z1, at_ f1 z2, at_ f2 z3, at_ f3 z4, at_ f4 z5⟩, no gu.ga, no gu.gh, gu.ba, gu.bh⟩
end
end DL
namespace CL
open PySem PySem.Spec PyProof.Rows L2 DL
structure MadeK (P : Program) (w : World) (K : PySem.W.Frag) (mg : Str → Option Value) (base : Heap) : Prop where
  ex : ∃ f fd, FnOk P w K mg base (L2N.CX P w) 6 f fd p_q_made (spMade K) ∧ mg "_law_made" = some (.ref f) ∧ PySem.W.keepIn K (.ref f) = true ∧ Binds K fd p_q_made []
def lawB : List Stmt := defBody (tp 80)
abbrev rhoA (d0 d1 d2 d3 d4 d5 d6 d7 d8 : D) (s10 s11 : Sl) : Rho := [.va d0, .va d1, .va d2, .va d3, .va d4, .va d5, .va d6, .va d7, .va d8, .no, s10, s11, .no, .no, .no, .no, .no, .no, .no, .no, .no, .no, .no, .no, .no, .no]
theorem rhoA_no {d0 d1 d2 d3 d4 d5 d6 d7 d8 : D} {s10 s11 : Sl} (h1 : ∀ ds, s10 ≠ .ow ds) (h2 : ∀ ds, s11 ≠ .ow ds) (i : Nat) (ds : List D) : (rhoA d0 d1 d2 d3 d4 d5 d6 d7 d8 s10 s11)[i]? ≠ some (.ow ds) := fun h => by
  have hm := List.mem_of_getElem? h
  simp only [rhoA, List.mem_cons, List.not_mem_nil, or_false, reduceCtorEq, false_or] at hm
  rcases hm with h | h
  · exact h1 ds h.symm
  · exact h2 ds h.symm
section
variable {P : Program} {w : World} {K : PySem.W.Frag} {mg : Str → Option Value} {base : Heap} {f : Addr} {fd : FuncData}
theorem we_int {ι : Type} {X : ι → Cx} {σ : L2.St} {H : Hp} {pos : Pos} {x : Int} {j} {Q : VK} (q : Q (.int x) H) : WE X (.Constant (.int x) j pos) σ H Q := ⟨_, fun i => pe_int, q⟩
theorem eqv_two (A B : List Int) : PyData.eqv (pd (.lst [lI A, lI B])) (pd (.lst [lI A, lI B])) = true := by
  show (PyData.eqv (pd (lI A)) (pd (lI A)) && (PyData.eqv (pd (lI B)) (pd (lI B)) && true)) = true
  rw [eqv_lI, eqv_lI]
  simp
theorem lay_two (A B : List Int) : Lay (.lst [lI A, lI B]) 2 := Lay.lst fun d hd => by
  simp only [List.mem_cons, List.not_mem_nil, or_false] at hd
  rcases hd with rfl | rfl <;> exact Lay.lI _
def rIns : V → List V → Hp → VK → Prop := fun x vs H Q => ∃ (l : Addr) (xs : List V) (i : Int) (y : V), x = .ref l ∧ vs = [.int i, y] ∧ H l = some (.lst xs) ∧ xs.length < sizeLine ∧ 0 ≤ i ∧ i < 2 ^ 63 ∧ Q .non (upd H l (.lst (xs.take i.toNat ++ [y] ++ xs.drop i.toNat)))
theorem law_mid {cdv : Value} {A' : Around} {outer : List Env} {sh : Shared} {Hx : Hp} {E : XK} {R : Er → Prop} {D1 : DE} {k : Nat} (O : Ok (body1 P w K mg base n_law "law" c_law f cdv A' outer sh Hx E) P w K mg base k E) (hk : 6 ≤ k) (Y : Fre mg) (kM : MadeK P w K mg base)
    {d0 d2 d6 d7 d8 : D} {os : List Nat} {A B : List Int} {side wish : Str} {n : Nat} (hos : os.length = 13) (hA : A.length = n) (hB : B.length = n) (hn : n ≤ 900)
    (rest : stm (body1 P w K mg base n_law "law" c_law f cdv A' outer sh Hx E) K E (lawB.drop 15) (rhoA d0 (lN os) d2 (.tup [lI A, lI B]) (.str side) (.str wish) d6 d7 d8 (.gu (gNew side wish A B)) (.gu (gNew side wish B A))) D1 R) :
    stm (body1 P w K mg base n_law "law" c_law f cdv A' outer sh Hx E) K E (lawB.drop 9) (rhoA d0 (lN os) d2 (.tup [lI A, lI B]) (.str side) (.str wish) d6 d7 d8 .no .no) D1 R := ⟨fun G0 Bh G H σ Dv s c wi m => by
  obtain ⟨fM, fdM, FM, gM, kpM, bM⟩ := kM.ex
  have nd : (n_law).Nodup := s_law.nd
  have lσ : σ.length = 26 := c.len
  -- given
  refine wb_cons (ws_set (j := 9) nd (by decide +kernel) (we_lst (wa_cons (we_evn (E := E) (z := A.map .int) (evn_callT (id := "list") (hv := bo_list) O Y.list ?_) s.h s.i c fun l0 vs0 G2 H2 s2 f0 g0 h0 r0 => ?_))))
  · walk_at "all"
    refine i_tupN (j := 0) (d := lI A) O rfl ?_
    walk_at "all"
    exact c_list O rfl
  have st2 := s.trans s2
  refine wa_cons (we_evn (E := E) (z := B.map .int) (evn_callT (id := "list") (hv := bo_list) O Y.list ?_) st2.h st2.i (c.mono s2) fun l1 vs1 G3 H3 s3 f1 g1 h1 r1 => wa_nil ⟨by exact (by decide +kernel : 2 ≤ sizeLine), fun pf hpf => ?_⟩)
  · walk_at "all"
    refine i_tupN (j := 1) (d := lI B) O rfl ?_
    walk_at "all"
    exact c_list O rfl
  have st3 := st2.trans s3
  rw [r0.ints_of] at h0
  rw [r1.ints_of] at h1
  have gpf := st3.i.free hpf
  have bpf := st3.h.free hpf
  have h0' := s3.h _ _ h0
  have n01 : l0 ≠ l1 := fun z => by rw [z, f1] at h0; cases h0
  have nf0 : pf ≠ l0 := fun z => by rw [z, h0'] at hpf; cases hpf
  have nf1 : pf ≠ l1 := fun z => by rw [z, h1] at hpf; cases hpf
  have sw : Stp G3 H3 G3 (upd H3 pf (.lst [.ref l0, .ref l1])) := Stp.own st3.i hpf
  have st4 := st3.trans sw
  have c4 := (((c.mono s2).mono s3).mono sw).setNo 9 (some (.ref pf))
  have c4 : EnvR K Bh G3 (upd H3 pf (.lst [.ref l0, .ref l1])) (σ.set 9 (some (.ref pf))) (rhoA d0 (lN os) d2 (.tup [lI A, lI B]) (.str side) (.str wish) d6 d7 d8 .no .no) := c4
  have V4 : Gv K Bh G3 (upd H3 pf (.lst [.ref l0, .ref l1])) pf l0 l1 A B := ⟨upd_same, by rw [upd_ne (Ne.symm nf0)]; exact h0', by rw [upd_ne (Ne.symm nf1)]; exact h1, gpf, s3.out g0 (by rw [h0]; exact nofun), g1, bpf, s.h.free f0, st2.h.free f1, n01, nf0, nf1⟩
  have σ9 : (σ.set 9 (some (V.ref pf)))[9]? = some (some (.ref pf)) := List.getElem?_set_self (by rw [lσ]; decide)
  generalize hH4 : upd H3 pf (.lst [.ref l0, .ref l1]) = H4 at st4 c4 V4
  show WB _ _ _ _ H4
  generalize hσ4 : σ.set 9 (some (V.ref pf)) = σ4 at c4 σ9
  show WB _ _ _ σ4 H4
  have lσ4 : σ4.length = 26 := c4.len
  have lσ9 : ∀ {v : Option V}, (σ4.set 10 v)[9]? = some (some (.ref pf)) := fun {v} => by rw [List.getElem?_set_ne (by decide)]; exact σ9
  -- the guide
  refine wb_cons (ws_set (j := 10) nd (by decide +kernel) ⟨tCall (spMade K) [] E (WA (body1 P w K mg base n_law "law" c_law f cdv A' outer sh Hx E) _), fun i => pe_call (X := body1 P w K mg base n_law "law" c_law f cdv A' outer sh Hx E i) (CX := L2N.CX P w) (k := 6) FM ((O.room i).mono hk) rfl gM kpM bM .nil (O.pass i) (wa_ok i) (by decide +kernel) rfl rfl, ?_⟩)
  refine wa_cons (we_var (j := 9) (by decide +kernel) σ9 (wa_ev (E := E) (z := [.str side, .str wish, .bl (decide (((os.getD 7 0 : Nat) : Int) = 0))]) ?_ st4.h st4.i c4 fun vs G5 H5 s5 r5 => ?_))
  · walk_at "all"
    refine i_listN (j := 7) O (nget (by omega)) ?_
    walk_at "all"
    rfl
  have st5 := st4.trans s5
  have V5 := V4.step s5
  have c5 := c4.mono s5
  show spMade K ((V.ref pf :: vs) ++ []) H5 _ E
  rw [List.append_nil]
  refine ⟨gvG G5 pf l0 l1 A B, A, B, side, wish, _, V5.inH st5.i, Reps.cons V5.rep (r5.mono V5.old), by rw [hA, hB], by omega, fun G6 H6 a h s6 gu6 fr6 => ?_⟩
  have s7 := V5.away s6
  have gu7 := V5.gu gu6 fr6
  have st7 := st5.trans s7
  have c7 := c5.setGu s7 gu7 st5.h 10
  have V7 := V5.step s7
  generalize del3 G6 pf l0 l1 = G7 at s7 gu7 st7 c7 V7
  -- the other one
  refine wb_cons (ws_set (j := 11) nd (by decide +kernel) ⟨tCall (spMade K) [] E (WA (body1 P w K mg base n_law "law" c_law f cdv A' outer sh Hx E) _), fun i => pe_call (X := body1 P w K mg base n_law "law" c_law f cdv A' outer sh Hx E i) (CX := L2N.CX P w) (k := 6) FM ((O.room i).mono hk) rfl gM kpM bM .nil (O.pass i) (wa_ok i) (by decide +kernel) rfl rfl, ?_⟩)
  refine wa_cons (we_lst (wa_cons (we_subL (j := 9) O (by decide +kernel) lσ9 (we_int ⟨[.ref l0, .ref l1], 1, .ref l1, rfl, V7.hf, rfl, wa_cons (we_subL (j := 9) O (by decide +kernel) lσ9 (we_int ⟨[.ref l0, .ref l1], 0, .ref l0, rfl, V7.hf, rfl, wa_nil ⟨by exact (by decide +kernel : 2 ≤ sizeLine), fun q hq => ?_⟩⟩))⟩))))
  have sq : Stp G7 H6 G7 (upd H6 q (.lst [.ref l1, .ref l0])) := Stp.own st7.i hq
  have st8 := st7.trans sq
  have V8 := V7.step sq
  have c8 := c7.mono sq
  have q0 : q ≠ l0 := fun z => by rw [z, V7.h0] at hq; cases hq
  have q1 : q ≠ l1 := fun z => by rw [z, V7.h1] at hq; cases hq
  have W8 : Gv K Bh G7 (upd H6 q (.lst [.ref l1, .ref l0])) q l1 l0 B A := ⟨upd_same, V8.h1, V8.h0, st7.i.free hq, V8.g1, V8.g0, st7.h.free hq, V8.b1, V8.b0, Ne.symm n01, q1, q0⟩
  refine wa_ev (E := E) (z := [.str side, .str wish, .bl false]) ?_ st8.h st8.i c8 fun vs' G9 H9 s9 r9 => ?_
  · walk_at "all"
    rfl
  have st9 := st8.trans s9
  have V9 := V8.step s9
  have W9 := W8.step s9
  have c9 := c8.mono s9
  show spMade K ((V.ref q :: vs') ++ []) H9 _ E
  rw [List.append_nil]
  refine ⟨gvG G9 q l1 l0 B A, B, A, side, wish, _, W9.inH st9.i, Reps.cons W9.rep (r9.mono W9.old), by rw [hA, hB], by omega, fun Ga Ha a' h' sa gua fra => ?_⟩
  have sb := W9.away sa
  have gub := W9.gu gua fra
  have stb := st9.trans sb
  have cb := c9.setGu sb gub st9.h 11
  have Vb := V9.step sb
  generalize del3 Ga q l1 l0 = Gb at sb gub stb cb Vb
  have cb : EnvR K Bh Gb Ha ((σ4.set 10 (some (.ref a))).set 11 (some (.ref a'))) (rhoA d0 (lN os) d2 (.tup [lI A, lI B]) (.str side) (.str wish) d6 d7 d8 (.gu (gNew side wish A B)) (.gu (gNew side wish B A))) := cb
  have σb : ((σ4.set 10 (some (V.ref a))).set 11 (some (V.ref a')))[9]? = some (some (.ref pf)) := by rw [List.getElem?_set_ne (by decide)]; exact lσ9
  show WB _ _ _ ((σ4.set 10 (some (V.ref a))).set 11 (some (V.ref a'))) Ha
  generalize (σ4.set 10 (some (V.ref a))).set 11 (some (V.ref a')) = σ5 at cb σb ⊢
  -- they copy
  refine wb_cons (ws_if (wt_cmp (we_var (j := 9) (by decide +kernel) σb (we_ev (E := E) (z := .lst [lI A, lI B]) ?_ stb.h stb.i cb fun v Gc Hc sc rc => ?_))))
  · walk_at "all"
    refine i_tupN (j := 0) (d := lI A) O rfl ?_
    walk_at "all"
    refine i_tupN (j := 1) (d := lI B) O rfl ?_
    walk_at "all"
    rfl
  have stc := stb.trans sc
  have Vc := Vb.step sc
  have cc := cb.mono sc
  refine wo_of (K := K) (z := .bl false) (o_neD O (lay_two A B) (lay_two A B) (by rw [eqv_two]; rfl)) (Vc.inH stc.i) Vc.rep (rc.mono Vc.old) fun v Gd Hd sd rd => ⟨false, Rep.bl_iff.mp rd, ?_⟩
  rw [if_neg Bool.false_ne_true]
  have se := Vc.away sd
  have ste := stc.trans se
  have Ve := Vc.step se
  have ce := cc.mono se
  generalize del3 Gd pf l0 l1 = Ge at se ste Ve ce
  have noO : ∀ (i : Nat) ds, (rhoA d0 (lN os) d2 (.tup [lI A, lI B]) (.str side) (.str wish) d6 d7 d8 (.gu (gNew side wish A B)) (.gu (gNew side wish B A)))[i]? ≠ some (.ow ds) := rhoA_no (fun _ => nofun) (fun _ => nofun)
  -- the lists change
  refine wb_nil (wb_cons ⟨tDrop (tBM K "list" rIns (WE (body1 P w K mg base n_law "law" c_law f cdv A' outer sh Hx E) _) (WA (body1 P w K mg base n_law "law" c_law f cdv A' outer sh Hx E) _)), fun i => ps_expr (pe_bm (X := body1 P w K mg base n_law "law" c_law f cdv A' outer sh Hx E i) PySem.F.plainAttrs_list PySem.F.slot_list_insert PySem.F.type_list_insert mt_insert (we_ok i) (wa_ok i)) rfl, ?_⟩)
  refine we_subL (j := 9) O (by decide +kernel) σb (we_int ⟨[.ref l0, .ref l1], 0, .ref l0, rfl, Ve.hf, rfl, .inl ⟨rfl, _, SqL.of Ve.h0⟩, wa_ev (E := E) (z := [.int 0, .int 5]) ?_ ste.h ste.i ce fun us Gf Hf sf rf => ?_⟩)
  · walk_at "all"
    rfl
  have stf := ste.trans sf
  have Vf := Ve.step sf
  have cf := ce.mono sf
  obtain ⟨u1, t1, rfl, w1, rf⟩ := rf.inv
  obtain ⟨u2, rfl, w2⟩ := rf.one
  refine ⟨l0, A.map .int, 0, .int 5, rfl, by rw [Rep.int_iff.mp w1, Rep.int_iff.mp w2], Vf.h0, by rw [List.length_map, sizeLine_eq]; omega, by decide, by decide, ?_⟩
  generalize (HO.lst ((A.map V.int).take (0 : Int).toNat ++ [V.int 5] ++ (A.map V.int).drop (0 : Int).toNat)) = o0
  have stg := stf.wrote (o := o0) Vf.b0 Vf.g0
  have cg := cf.beside (o := o0) Vf.h0 noO
  have hfg : upd Hf l0 o0 pf = some (.lst [.ref l0, .ref l1]) := by rw [upd_ne Vf.nf0]; exact Vf.hf
  have h1g : upd Hf l0 o0 l1 = some (.lst (B.map .int)) := by rw [upd_ne (Ne.symm n01)]; exact Vf.h1
  refine wb_cons ⟨tDrop (tBM K "list" rIns (WE (body1 P w K mg base n_law "law" c_law f cdv A' outer sh Hx E) _) (WA (body1 P w K mg base n_law "law" c_law f cdv A' outer sh Hx E) _)), fun i => ps_expr (pe_bm (X := body1 P w K mg base n_law "law" c_law f cdv A' outer sh Hx E i) PySem.F.plainAttrs_list PySem.F.slot_list_insert PySem.F.type_list_insert mt_insert (we_ok i) (wa_ok i)) rfl, ?_⟩
  refine we_subL (j := 9) O (by decide +kernel) σb (we_int ⟨[.ref l0, .ref l1], 1, .ref l1, rfl, hfg, rfl, .inl ⟨rfl, _, SqL.of h1g⟩, wa_ev (E := E) (z := [.int 0, .int (-5)]) ?_ stg.h stg.i cg fun us Gh Hh sh' rh => ?_⟩)
  · walk_at "all"
    refine ⟨5, rfl, ?_⟩
    walk_at "all"
    rfl
  have sth := stg.trans sh'
  have ch := cg.mono sh'
  obtain ⟨u1, t1, rfl, w1, rh⟩ := rh.inv
  obtain ⟨u2, rfl, w2⟩ := rh.one
  have h1h := sh'.h _ _ h1g
  have gh : Gh l1 = none := sh'.out Vf.g1 (by rw [h1g]; exact nofun)
  refine ⟨l1, B.map .int, 0, .int (-5), rfl, by rw [Rep.int_iff.mp w1, Rep.int_iff.mp w2], h1h, by rw [List.length_map, sizeLine_eq]; omega, by decide, by decide, ?_⟩
  generalize (HO.lst ((B.map V.int).take (0 : Int).toNat ++ [V.int (-5)] ++ (B.map V.int).drop (0 : Int).toNat)) = o1
  exact rest.run G0 Bh Gh _ σ5 Dv (sth.wrote (o := o1) Vf.b1 gh) (ch.beside (o := o1) h1h noO) wi m⟩
end
end CL
namespace CL
open PySem PySem.Spec PyProof.Rows L2 DL
/-! ### what stays through the law's loop -/
structure Ctx where
  ns : List Int
  os : List Nat
  n : Nat
  A : List Int
  B : List Int
  s : Nat
  l : List Nat
  ps : List Nat
  lo : Nat
structure CtxOk (c : Ctx) : Prop where
  os : c.os.length = 13
  o12 : c.os.getD 12 0 < 2
  n : c.n ≤ 24
  A : c.A.length = c.n
  B : c.B.length = c.n
  s : c.s = 0 ∨ c.s = 1
  l : c.l.length = c.n
  al : allOk c.l
  ps : c.ps.length = c.n
def gStart (c : Ctx) : GS := gNew (sn c.s) (sn (1 - c.s)) c.A c.B
def gOther (c : Ctx) : GS := gNew (sn c.s) (sn (1 - c.s)) c.B c.A
abbrev rhoK (c : Ctx) (g : GS) (fv pv : Int) (a17 a18 a19 a20 a21 a22 a23 a24 a25 : Sl) : Rho :=
  [.va (.scr c.ns), .va (lN c.os), .va (.int c.n), .va (.tup [lI c.A, lI c.B]), .va (.str (sn c.s)), .va (.str (sn (1 - c.s))), .va (.str (tx c.l)), .va (lN c.ps), .va (.int c.lo), .no, .gu g, .gu (gOther c), .va (lv2 g), .va (lI (rowP (gM g) (gT g))), .va (.int g.won), .va (.int fv), .va (.int pv), a17, a18, a19, a20, a21, a22, a23, a24, a25]
/-- ahead of round k -/
structure LInv (c : Ctx) (k : Nat) (g : GS) (fv pv : Int) : Prop where
  mine : g.mine = c.A
  theirs : g.theirs = c.B
  ok : GOk g
  sd : g.side = sn c.s
  mn : g.many = sn (1 - c.s)
  len : g.ml.length = c.n - k
  w0 : 0 ≤ g.won
  w1 : g.won ≤ k
  m : ∀ i ∈ g.ml, i < c.n
  t : ∀ i ∈ g.tl, i < c.n
  pr : k ≠ 0 → pv ≤ fv ∧ (c.lo < k → promD g (c.l.drop k) ≤ pv)
  fin : k = c.n + 1 → pv = g.won
def LI (c : Ctx) (k : Nat) (ρ : Rho) : Prop := ∃ g fv pv a17 a18 a19 a20 a21 a22 a23 a24 a25, LInv c k g fv pv ∧ ρ = rhoK c g fv pv a17 a18 a19 a20 a21 a22 a23 a24 a25
theorem LInv.tame {c : Ctx} {k : Nat} {g : GS} {fv pv : Int} (x : LInv c k g fv pv) (C : CtxOk c) (hk : k ≤ c.n) : Tame g c.s (c.l.drop k) :=
  ⟨x.ok, C.s, x.sd, x.mn, by rw [List.length_drop, C.l, x.len], fun ch h => C.al ch (List.mem_of_mem_drop h), x.w0, by have := x.w1; have := C.n; omega, fun i hi => by have := x.m i hi; have := C.n; omega, fun i hi => by have := x.t i hi; have := C.n; omega⟩
theorem LInv.start {c : Ctx} (C : CtxOk c) (fv pv : Int) : LInv c 0 (gStart c) fv pv := by
  have e1 := C.A
  have e2 := C.B
  have e3 := C.n
  refine ⟨rfl, rfl, ⟨fun i hi => List.mem_range.mp hi, fun i hi => List.mem_range.mp hi, List.nodup_range, List.nodup_range, ?_, ?_⟩, rfl, rfl, ?_, Int.le_refl _, Int.le_refl _, fun i hi => ?_, fun i hi => ?_, fun h => absurd rfl h, fun h => by omega⟩
  · show (List.range c.A.length).length ≤ 900
    rw [List.length_range]; omega
  · show (List.range c.A.length).length = (List.range c.B.length).length
    rw [List.length_range, List.length_range]; omega
  · show (List.range c.A.length).length = _
    rw [List.length_range]; omega
  · have := List.mem_range.mp hi; omega
  · have := List.mem_range.mp hi; omega
/-- the role of the next letter -/
def rOf (l : List Nat) : Nat := if l.take 1 = [77] then 1 else 0
theorem rOf_01 (l : List Nat) : rOf l = 0 ∨ rOf l = 1 := by unfold rOf; split <;> simp
theorem rOf_cons {ch : Nat} {l : List Nat} {s : Nat} (h : okc ch = true) (hs : s = 0 ∨ s = 1) : decide (rOf (ch :: l) = s) = !decide (ch = lw (1 - s)) := by
  unfold okc at h
  have h : ch = 77 ∨ ch = 84 := by simpa using h
  unfold rOf
  rcases h with rfl | rfl <;> rcases hs with rfl | rfl <;> rfl
theorem hit_int (g : GS) {m t : Nat} (hm : m < g.ml.length) (ht : t < g.tl.length) : (if decide (g.theirs.getD (g.tl.getD t 0) 0 ≤ g.mine.getD (g.ml.getD m 0) 0) then (1 : Int) else 0) = hitOf (gM g) (gT g) m t := by
  unfold hitOf gM gT
  rw [pick_getD hm, pick_getD ht]
  simp
/-- a pair that is told -/
structure Pr (c : Ctx) (k : Nat) (g : GS) (m t : Nat) : Prop where
  hm : m < g.ml.length
  ht : t < g.ml.length
  rnd : c.lo ≤ k → ∃ p o, Rnd g c.s (!decide ((c.l.getD k 0) = lw (1 - c.s))) p o ∧ m = rM c.s p o ∧ t = rT c.s p o
theorem LInv.next {c : Ctx} {k : Nat} {g : GS} {fv : Int} (C : CtxOk c) (hk : k < c.n) (x : LInv c k g fv (promD g (c.l.drop k)) ∨ (∃ fv' pv', LInv c k g fv' pv') ∧ promD g (c.l.drop k) ≤ fv) {m t : Nat} (P : Pr c k g m t) (hle : promD g (c.l.drop k) ≤ fv) :
    LInv c (k + 1) (gNext g m t) fv (promD g (c.l.drop k)) := by
  obtain ⟨fv', pv', y⟩ : ∃ fv' pv', LInv c k g fv' pv' := by
    rcases x with x | ⟨x, _⟩
    · exact ⟨_, _, x⟩
    · exact x
  have hm := P.hm
  have ht := P.ht
  have hw : hitOf (gM g) (gT g) m t = 0 ∨ hitOf (gM g) (gT g) m t = 1 := by unfold hitOf; split <;> simp
  have w0 := y.w0
  have w1 := y.w1
  refine ⟨y.mine, y.theirs, gNext_ok y.ok hm ht, y.sd, y.mn, ?_, ?_, ?_, fun i hi => y.m i (List.mem_of_mem_eraseIdx hi), fun i hi => y.t i (List.mem_of_mem_eraseIdx hi), fun _ => ⟨hle, fun hlo => ?_⟩, fun h => absurd h (by omega)⟩
  · show (g.ml.eraseIdx m).length = _
    rw [List.length_eraseIdx_of_lt hm, y.len]; omega
  · show 0 ≤ g.won + hitOf (gM g) (gT g) m t
    omega
  · show g.won + hitOf (gM g) (gT g) m t ≤ ((k + 1 : Nat) : Int)
    omega
  · obtain ⟨p, o, R, rfl, rfl⟩ := P.rnd (by omega)
    have hlen : k < c.l.length := by rw [C.l]; exact hk
    have ed : c.l.drop k = c.l.getD k 0 :: c.l.drop (k + 1) := by
      rw [List.drop_eq_getElem_cons hlen]
      congr 1
      rw [List.getD_eq_getElem?_getD, List.getElem?_eq_getElem hlen]
      rfl
    have hc : okc (c.l.getD k 0) = true := C.al _ (by rw [List.getD_eq_getElem?_getD, List.getElem?_eq_getElem hlen]; exact List.getElem_mem hlen)
    have z := promise_step y.ok C.s hc (l := c.l.drop (k + 1)) (by rw [y.len, List.length_drop, C.l]; omega) R
    unfold promD
    rw [ed, y.mn]
    show (gNext g _ _).won + valueV (rowP (gM (gNext g _ _)) (gT (gNext g _ _))) _ (gNext g _ _).many ≤ _
    have em : (gNext g (rM c.s p o) (rT c.s p o)).many = sn (1 - c.s) := y.mn
    rw [em]
    exact z
end CL
namespace CL
open PySem PySem.Spec PyProof.Rows L2 DL
/-- the defs that the law's loop calls -/
structure LK (P : Program) (w : World) (K : PySem.W.Frag) (mg : Str → Option Value) (base : Heap) : Prop where
  round : Kn P w K mg base "_law_round" 7 wpRound
  prom : MeK P w K mg base (CG K) "promise" 7 wpPromise
  int : Kn P w K mg base "_law_is_int" 2 wpIsInt
  val : Kn P w K mg base "_law_value" 2 wpLValue
  shown : Kn P w K mg base "_law_shown" 3 wpShown
  every : Kn P w K mg base "_law_every_word" 8 wpEvery
  looked : KnG P w K mg base "_law_looked" 13 wpLooked
  saw : SawK P w K mg base
  next : Kn P w K mg base "_law_next_left" 2 wpNextLeft
  rowL : Kn P w K mg base "_law_row_left" 4 wpRowLeft
  keeps : Kn P w K mg base "_law_keeps" 2 wpKeeps
def forB : List Stmt := match lawB with
  | [_, _, _, _, _, _, _, _, _, _, _, _, _, _, _, _, _, _, _, _, .For _ _ b _ _, _] => b
  | _ => []
def thenB : List Stmt := match forB with
  | [_, _, _, _, _, _, _, _, _, _, _, _, _, .If _ b _ _] => b
  | _ => []
theorem sn_flip {r s : Nat} (hr : r = 0 ∨ r = 1) (hs : s = 0 ∨ s = 1) : decide (sn r = sn (1 - s)) = !decide (r = s) := by
  rcases hr with rfl | rfl <;> rcases hs with rfl | rfl <;> decide +kernel
section
variable {P : Program} {w : World} {K : PySem.W.Frag} {mg : Str → Option Value} {base : Heap} {f : Addr} {fd : FuncData}
theorem law_A {cdv : Value} {A' : Around} {outer : List Env} {sh : Shared} {Hx : Hp} {E : XK} {R : Er → Prop} {D1 : DE} {k0 : Nat} (O : Ok (body1 P w K mg base n_law "law" c_law f cdv A' outer sh Hx E) P w K mg base k0 E) (hk0 : 13 ≤ k0) (Y : Fre mg) (T : ObK K) (M : LK P w K mg base)
    {c : Ctx} {k m t : Nat} {g : GS} {fv fv0 pv0 : Int} {a20 a22 a23 a24 a25 : Sl} (C : CtxOk c) (hk : k < c.n) (x : LInv c k g fv0 pv0) (hle : promD g (c.l.drop k) ≤ fv) (Pp : Pr c k g m t) (hD : ∀ ρ, LI c (k + 1) ρ → D1.nx ρ) :
    stm (body1 P w K mg base n_law "law" c_law f cdv A' outer sh Hx E) K E (thenB.drop 3) (rhoK c g fv (promD g (c.l.drop k)) (.va (.int k)) (.va (.str (tx (c.l.drop k)))) (.va (.lst [.str (sn c.s), .str (sn (1 - c.s)), .str (sn (rOf (c.l.drop k)))])) a20 (.va (.tup [.int (g.ml.getD m 0 : Nat), .int (g.tl.getD t 0 : Nat)])) a22 a23 a24 a25) D1 R := by
  have hm := Pp.hm
  have ht := Pp.ht
  have leq := x.ok.eq
  have htl : t < g.tl.length := by omega
  have l1 := x.ok.l1
  have iA : g.ml.getD m 0 < c.A.length := by rw [← x.mine]; exact x.ok.m _ (List.mem_of_getElem? (getN hm))
  have iB : g.tl.getD t 0 < c.B.length := by rw [← x.theirs]; exact x.ok.t _ (List.mem_of_getElem? (getN htl))
  refine st_cons (s_saw (j := 10) O T M.saw (by omega) rfl (by decide +kernel) x.ok ?_)
  walk_at "all"
  refine i_tupN (j := 0) (d := .int (g.ml.getD m 0 : Nat)) O rfl ?_
  walk_at "all"
  refine i_tupN (j := 1) (d := .int (g.tl.getD t 0 : Nat)) O rfl ?_
  walk_at "all"
  refine ⟨m, t, rfl, hm, ht, ?_⟩
  walk_at "st"
  walk_at "all"
  refine i_tupN (j := 0) (d := lI c.A) O rfl ?_
  walk_at "all"
  refine i_tupN (j := 0) (d := .int (g.ml.getD m 0 : Nat)) O rfl ?_
  refine i_listN O (iget iA) ?_
  walk_at "all"
  refine i_tupN (j := 1) (d := lI c.B) O rfl ?_
  walk_at "all"
  refine i_tupN (j := 1) (d := .int (g.tl.getD t 0 : Nat)) O rfl ?_
  refine i_listN O (iget iB) ?_
  walk_at "all"
  have eh : (if decide (c.B.getD (g.tl.getD t 0) 0 ≤ c.A.getD (g.ml.getD m 0) 0) then (1 : Int) else 0) = hitOf (gM g) (gT g) m t := by
    rw [← x.mine, ← x.theirs]
    exact hit_int g hm htl
  rw [eh]
  refine st_cons (s_st (j := 12) O (ev_call O M.next (by omega) ?_))
  walk_at "all"
  refine ⟨g.ml, g.tl, _, _, rfl, by omega, by omega, ?_⟩
  rw [filter_erase x.ok.nm hm, filter_erase x.ok.nt htl]
  have gok := gNext_ok x.ok hm ht
  have glen : (g.ml.eraseIdx m).length = g.ml.length - 1 := List.length_eraseIdx_of_lt hm
  have glen2 : (g.tl.eraseIdx t).length = g.tl.length - 1 := List.length_eraseIdx_of_lt htl
  have hn24 := C.n
  have hMT : (gM (gNext g m t)).length = (gT (gNext g m t)).length := by rw [gM_len, gT_len gok]
  have hMT0 : (gM g).length = (gT g).length := by rw [gM_len, gT_len x.ok]
  have er : rowL (pick c.A (g.ml.eraseIdx m)) (pick c.B (g.tl.eraseIdx t)) = rowP (gM (gNext g m t)) (gT (gNext g m t)) := by
    rw [← x.mine, ← x.theirs]
    exact row_ups hMT
  refine st_cons (s_st (j := 25) O (ev_call O M.rowL (by omega) ?_))
  walk_at "all"
  refine ⟨c.A, c.B, g.ml.eraseIdx m, g.tl.eraseIdx t, rfl, fun i hi => ?_, fun i hi => ?_, by omega, by omega, ?_⟩
  · rw [← x.mine]; exact x.ok.m i (List.mem_of_mem_eraseIdx hi)
  · rw [← x.theirs]; exact x.ok.t i (List.mem_of_mem_eraseIdx hi)
  rw [er]
  refine st_cons (s_ifv false (evt_w (evw_and ?_)) (fun z => nomatch z) fun _ => st_nil ?_)
  · walk_at "all"
    refine ⟨_, rfl, fun e => evw_and1 (evt_not (evt_val (ev_call O M.keeps (by omega) ?_))), fun _ => rfl⟩
    walk_at "all"
    refine i_listN (j := 2) (d := .str (sn (rOf (c.l.drop k)))) O rfl ?_
    walk_at "all"
    have hlo : c.lo ≤ k := by have := of_decide_eq_true e; omega
    obtain ⟨p, o, Rn, em, et⟩ := Pp.rnd hlo
    have hlen : k < c.l.length := by rw [C.l]; exact hk
    have ed : c.l.drop k = c.l.getD k 0 :: c.l.drop (k + 1) := by
      rw [List.drop_eq_getElem_cons hlen]
      congr 1
      rw [List.getD_eq_getElem?_getD, List.getElem?_eq_getElem hlen]
      rfl
    have hc : okc (c.l.getD k 0) = true := C.al _ (by rw [List.getD_eq_getElem?_getD, List.getElem?_eq_getElem hlen]; exact List.getElem_mem hlen)
    have est : decide (sn (rOf (c.l.drop k)) = sn (1 - c.s)) = !(!decide (c.l.getD k 0 = lw (1 - c.s))) := by
      rw [sn_flip (rOf_01 _) C.s, ed, rOf_cons hc C.s]
    refine ⟨rowP (gM g) (gT g), rowP (gM (gNext g m t)) (gT (gNext g m t)), _, _, rfl, ?_, ?_, ?_, fun i hi => ?_, true, rfl, rfl⟩
    · rw [rowP_len, gM_len]; omega
    · rw [rowP_len, gM_len]; omega
    · rw [rowP_len, rowP_len, gM_len, gM_len]; exact glen
    · rw [est]
      subst em
      subst et
      rw [rowP_len, gM_len] at hi
      exact rnd_keeps x.ok C.s Rn (by have : (gNext g (rM c.s p o) (rT c.s p o)).ml.length = g.ml.length - 1 := glen; omega)
  walk_at "st"
  walk_at "all"
  refine st_one (s_st (j := 14) O ?_)
  walk_at "all"
  exact hD _ ⟨gNext g m t, fv, promD g (c.l.drop k), _, _, _, _, _, _, _, _, _, LInv.next C hk (.inr ⟨⟨_, _, x⟩, hle⟩) Pp hle, rfl⟩
end
end CL
namespace CL
open PySem PySem.Spec PyProof.Rows L2 DL
theorem pairOf_eq (g : GS) {s : Nat} (p o : Nat) (hs : s = 0 ∨ s = 1) : pairOf g s p o = .tup [.int (g.ml.getD (rM s p o) 0 : Nat), .int (g.tl.getD (rT s p o) 0 : Nat)] := by
  rcases hs with rfl | rfl <;> rfl
theorem pairOf_pln (g : GS) (s p o : Nat) : pln (pairOf g s p o) = true := by
  unfold pairOf
  split <;> rfl
theorem letter_at {c : Ctx} (C : CtxOk c) {k : Nat} (hk : k < c.n) : c.l.drop k = c.l.getD k 0 :: c.l.drop (k + 1) ∧ okc (c.l.getD k 0) = true := by
  have hlen : k < c.l.length := by rw [C.l]; exact hk
  refine ⟨?_, C.al _ (by rw [List.getD_eq_getElem?_getD, List.getElem?_eq_getElem hlen]; exact List.getElem_mem hlen)⟩
  rw [List.drop_eq_getElem_cons hlen]
  congr 1
  rw [List.getD_eq_getElem?_getD, List.getElem?_eq_getElem hlen]
  rfl
section
variable {P : Program} {w : World} {K : PySem.W.Frag} {mg : Str → Option Value} {base : Heap} {f : Addr} {fd : FuncData}
theorem law_B {cdv : Value} {A' : Around} {outer : List Env} {sh : Shared} {Hx : Hp} {E : XK} {R : Er → Prop} {D1 : DE} {k0 : Nat} (O : Ok (body1 P w K mg base n_law "law" c_law f cdv A' outer sh Hx E) P w K mg base k0 E) (hk0 : 13 ≤ k0) (Y : Fre mg) (T : ObK K) (M : LK P w K mg base)
    {c : Ctx} {k p o : Nat} {g : GS} {fv fv0 pv0 : Int} {a20 a22 a23 a24 a25 : Sl} (C : CtxOk c) (hk : k < c.n) (x : LInv c k g fv0 pv0) (hle : promD g (c.l.drop k) ≤ fv) (Rn : Rnd g c.s (decide (rOf (c.l.drop k) = c.s)) p o) (hD : ∀ ρ, LI c (k + 1) ρ → D1.nx ρ) :
    stm (body1 P w K mg base n_law "law" c_law f cdv A' outer sh Hx E) K E (thenB.drop 1) (rhoK c g fv (promD g (c.l.drop k)) (.va (.int k)) (.va (.str (tx (c.l.drop k)))) (.va (.lst [.str (sn c.s), .str (sn (1 - c.s)), .str (sn (rOf (c.l.drop k)))])) a20 (.va (pairOf g c.s p o)) a22 a23 a24 a25) D1 R := by
  have hp := Rn.hp
  have ho := Rn.ho
  have leq := x.ok.eq
  have hs := C.s
  obtain ⟨ed, hc⟩ := letter_at C hk
  have hrm : rM c.s p o < g.ml.length := by unfold rM; split <;> omega
  have hrt : rT c.s p o < g.ml.length := by unfold rT; split <;> omega
  rw [pairOf_eq g p o hs]
  refine st_cons (s_ifv false ?_ (fun z => nomatch z) fun _ => st_nil ?_)
  · walk_at "all"
    exact ⟨_, rfl, rfl⟩
  refine st_cons (s_ifv (decide (k < c.lo)) ?_ (fun z => ?_) fun z => st_nil ?_)
  · walk_at "all"
    refine ⟨_, rfl, ?_⟩
    rw [decide_eq_decide]
    omega
  · have hlo := of_decide_eq_true z
    have hpk : k < c.ps.length := by rw [C.ps]; exact hk
    have hpos : 0 < g.ml.length := by omega
    have e1 : ((c.ps.getD k 0 : Nat) : Int) % ((g.ml.length : Nat) : Int) = ((c.ps.getD k 0 % g.ml.length : Nat) : Int) := by omega
    have e2 : ((c.ps.getD k 0 : Nat) : Int) / 164 % ((g.tl.length : Nat) : Int) = ((c.ps.getD k 0 / 164 % g.tl.length : Nat) : Int) := by
      have h : ((c.ps.getD k 0 : Nat) : Int) / 164 = ((c.ps.getD k 0 / 164 : Nat) : Int) := by omega
      rw [h]
      omega
    have q1 : c.ps.getD k 0 % g.ml.length < g.ml.length := Nat.mod_lt _ hpos
    have q2 : c.ps.getD k 0 / 164 % g.tl.length < g.tl.length := Nat.mod_lt _ (by omega)
    refine st_one (s_st (j := 21) O ?_)
    walk_at "all"
    refine i_listN (j := 0) (d := lN g.ml) O rfl ?_
    walk_at "all"
    refine i_listN O (nget hpk) ?_
    walk_at "all"
    refine i_listN (j := 0) (d := lN g.ml) O rfl ?_
    walk_at "all"
    rw [List.length_map]
    refine b_mod (by omega) ?_
    rw [e1]
    refine i_listN O (nget q1) ?_
    walk_at "all"
    refine i_listN (j := 1) (d := lN g.tl) O rfl ?_
    walk_at "all"
    refine i_listN O (nget hpk) ?_
    walk_at "all"
    refine b_div ⟨by decide, by decide⟩ ?_
    walk_at "all"
    refine i_listN (j := 1) (d := lN g.tl) O rfl ?_
    walk_at "all"
    rw [List.length_map]
    refine b_mod (by omega) ?_
    rw [e2]
    refine i_listN O (nget q2) ?_
    walk_at "all"
    exact law_A O hk0 Y T M C hk x hle ⟨q1, by omega, fun h => absurd h (by omega)⟩ hD
  · have hlo := of_decide_eq_false z
    refine law_A O hk0 Y T M C hk x hle ⟨hrm, hrt, fun _ => ⟨p, o, ?_, rfl, rfl⟩⟩ hD
    rw [ed] at Rn
    rw [rOf_cons hc hs] at Rn
    exact Rn
/-- the round -/
theorem ev_round {cdv : Value} {A' : Around} {outer : List Env} {sh : Shared} {Hx : Hp} {E : XK} {R : Er → Prop} {k0 : Nat} (O : Ok (body1 P w K mg base n_law "law" c_law f cdv A' outer sh Hx E) P w K mg base k0 E) (hk0 : 13 ≤ k0) (M : LK P w K mg base)
    {c : Ctx} {k : Nat} {g : GS} {fv pv fv0 pv0 : Int} {b : Int} {l' : List Nat} {a18 a21 a22 a23 a24 a25 : Sl} (C : CtxOk c) (hk : k < c.n) (x : LInv c k g fv0 pv0) {Q : D → Prop} (q : ∀ p o, Rnd g c.s (decide (rOf l' = c.s)) p o → Q (pairOf g c.s p o)) {pos p1 p2 p3 p4 p5 p6 : Pos} {e5 : Expr}
    (h5 : ev (body1 P w K mg base n_law "law" c_law f cdv A' outer sh Hx E) K E e5 (rhoK c g fv pv (.va (.int k)) a18 (.va (.lst [.str (sn c.s), .str (sn (1 - c.s)), .str (sn (rOf l'))])) (.va (.lst [.int (c.os.getD 4 0 : Nat), .int b])) a21 a22 a23 a24 a25) (fun d => ∃ tw, d = .bl tw) R)
    (n5 : ∀ i, starEach [e5] (body1 P w K mg base n_law "law" c_law f cdv A' outer sh Hx E i).env = (false, eval e5 (body1 P w K mg base n_law "law" c_law f cdv A' outer sh Hx E i).env) :: starEach [] (body1 P w K mg base n_law "law" c_law f cdv A' outer sh Hx E i).env) (n6 : ∀ i, (backTo pos (starEach [.Name "_law_hands_here" p3, .Name "_law_left" p4, .Name "_law_roles" p5, .Name "_law_way" p6, e5] (body1 P w K mg base n_law "law" c_law f cdv A' outer sh Hx E i).env)).any (·.1) = false) :
    ev (body1 P w K mg base n_law "law" c_law f cdv A' outer sh Hx E) K E (.Call (.Name "_law_round" p1) [.Name "_law_guide" p2, .Name "_law_hands_here" p3, .Name "_law_left" p4, .Name "_law_roles" p5, .Name "_law_way" p6, e5] [] pos) (rhoK c g fv pv (.va (.int k)) a18 (.va (.lst [.str (sn c.s), .str (sn (1 - c.s)), .str (sn (rOf l'))])) (.va (.lst [.int (c.os.getD 4 0 : Nat), .int b])) a21 a22 a23 a24 a25) Q R := by
  refine ev_callG (j := 10) O M.round (by omega) rfl (by decide +kernel) ?_ (hpl := n6)
  walk_at "all"
  refine evs_cons (hs := n5) ⟨fun B G H σ eB eG cc wi Qv kk => h5.run B G H σ eB eG cc wi Qv fun d v G1 H1 ⟨tw, hd⟩ s1 r1 => kk d v G1 H1 ?_ s1 r1⟩
  subst hd
  refine evs_nil ⟨g, c.s, rOf l', _, b, tw, by rw [hd2, x.mine, x.theirs], x.ok, by rw [x.len]; omega, C.s, rOf_01 _, x.sd, x.mn, fun p o Rn => ⟨pairOf_pln _ _ _ _, q p o Rn⟩⟩
end
end CL
namespace CL
open PySem PySem.Spec PyProof.Rows L2 DL
theorem r_int (l' : List Nat) : (if decide (tx (l'.take 1) = ("M" : Str)) then (1 : Int) else 0) = ((rOf l' : Nat) : Int) := by
  rw [tx_M]
  unfold rOf
  by_cases h : l'.take 1 = [77]
  · rw [if_pos h, if_pos (decide_eq_true (by rw [h]))]; rfl
  · rw [if_neg h, if_neg (by rw [decide_eq_true_eq, tx_inj]; exact h)]; rfl
theorem rOf_at (l' : List Nat) : ([.str "theirs", .str "mine"] : List D)[rOf l']? = some (.str (sn (rOf l'))) := by
  rcases rOf_01 l' with h | h <;> rw [h] <;> rfl
theorem prom_end {c : Ctx} {g : GS} {fv pv : Int} (C : CtxOk c) (x : LInv c c.n g fv pv) : promD g (c.l.drop c.n) = g.won := by
  have h : (rowP (gM g) (gT g)).length = 0 := by rw [rowP_len, gM_len, x.len]; omega
  have h2 : rowP (gM g) (gT g) = [] := List.eq_nil_of_length_eq_zero h
  unfold promD valueV entryV
  rw [h2]
  simp
section
variable {P : Program} {w : World} {K : PySem.W.Frag} {mg : Str → Option Value} {base : Heap} {f : Addr} {fd : FuncData}
/-- from the test k < count on -/
theorem law_C {cdv : Value} {A' : Around} {outer : List Env} {sh : Shared} {Hx : Hp} {E : XK} {R : Er → Prop} {D1 : DE} {k0 : Nat} (O : Ok (body1 P w K mg base n_law "law" c_law f cdv A' outer sh Hx E) P w K mg base k0 E) (hk0 : 13 ≤ k0) (Y : Fre mg) (T : ObK K) (M : LK P w K mg base)
    {c : Ctx} {k : Nat} {g : GS} {fv fv0 pv0 : Int} {b : Int} {pr : D} {a22 a23 a24 a25 : Sl} (C : CtxOk c) (hk : k ≤ c.n) (x : LInv c k g fv0 pv0) (hle : promD g (c.l.drop k) ≤ fv)
    (hpr : (k < c.n → c.os.getD 12 0 = 0 → ∃ p o, Rnd g c.s (decide (rOf (c.l.drop k) = c.s)) p o ∧ pr = pairOf g c.s p o)) (hD : ∀ ρ, LI c (k + 1) ρ → D1.nx ρ) :
    stm (body1 P w K mg base n_law "law" c_law f cdv A' outer sh Hx E) K E (forB.drop 13) (rhoK c g fv (promD g (c.l.drop k)) (.va (.int k)) (.va (.str (tx (c.l.drop k)))) (.va (.lst [.str (sn c.s), .str (sn (1 - c.s)), .str (sn (rOf (c.l.drop k)))])) (.va (.lst [.int (c.os.getD 4 0 : Nat), .int b])) (.va pr) a22 a23 a24 a25) D1 R := by
  have h13 := C.os
  refine st_one (s_ifv (decide (k < c.n)) ?_ (fun z => ?_) fun z => st_nil ?_)
  · walk_at "all"
    refine ⟨_, rfl, ?_⟩
    rw [decide_eq_decide]
    omega
  · have hlt := of_decide_eq_true z
    refine st_cons (s_ifv (decide (c.os.getD 12 0 = 1)) ?_ (fun z1 => ?_) fun z1 => ?_)
    · walk_at "all"
      refine i_listN (j := 12) O (nget (by omega)) ?_
      walk_at "all"
      refine ⟨_, rfl, ?_⟩
      rw [decide_eq_decide]
      omega
    · refine st_one (s_st (j := 21) O (ev_round O hk0 M C hlt x (fun p o Rn => ?_) ?_ (by intro _; rfl) (by intro _; rfl)))
      · exact law_B O hk0 Y T M C hlt x hle Rn hD
      · walk_at "all"
        refine i_listN (j := 5) O (nget (by omega)) ?_
        walk_at "all"
        exact ⟨_, rfl⟩
    · have o0 : c.os.getD 12 0 = 0 := by have := of_decide_eq_false z1; have := C.o12; omega
      obtain ⟨p, o, Rn, rfl⟩ := hpr hlt o0
      exact st_nil (law_B O hk0 Y T M C hlt x hle Rn hD)
  · have he : k = c.n := by have := of_decide_eq_false z; omega
    subst he
    have pe := prom_end C x
    have hdn : c.l.drop (c.n + 1) = c.l.drop c.n := by
      rw [List.drop_eq_nil_of_le (by rw [C.l]; omega), List.drop_eq_nil_of_le (by rw [C.l]; omega)]
    refine hD _ ⟨g, fv, promD g (c.l.drop c.n), _, _, _, _, _, _, _, _, _, ⟨x.mine, x.theirs, x.ok, x.sd, x.mn, by rw [x.len]; omega, x.w0, by have := x.w1; omega, x.m, x.t, fun _ => ⟨hle, fun _ => ?_⟩, fun _ => pe⟩, rfl⟩
    rw [hdn]
    exact Int.le_refl _
theorem law_D {cdv : Value} {A' : Around} {outer : List Env} {sh : Shared} {Hx : Hp} {E : XK} {R : Er → Prop} {D1 : DE} {k0 : Nat} (O : Ok (body1 P w K mg base n_law "law" c_law f cdv A' outer sh Hx E) P w K mg base k0 E) (gds : ∀ i, (body1 P w K mg base n_law "law" c_law f cdv A' outer sh Hx E i).A.guards = some []) (hk0 : 13 ≤ k0) (Y : Fre mg) (T : ObK K) (M : LK P w K mg base)
    {c : Ctx} {k : Nat} {g : GS} {fv pv : Int} {b : Int} {pr : D} {a22 a23 a24 a25 : Sl} (C : CtxOk c) (hk : k ≤ c.n) (x : LInv c k g fv pv)
    (hpr : (k < c.n → c.os.getD 12 0 = 0 → ∃ p o, Rnd g c.s (decide (rOf (c.l.drop k) = c.s)) p o ∧ pr = pairOf g c.s p o)) (hD : ∀ ρ, LI c (k + 1) ρ → D1.nx ρ) :
    stm (body1 P w K mg base n_law "law" c_law f cdv A' outer sh Hx E) K E (forB.drop 5) (rhoK c g fv pv (.va (.int k)) (.va (.str (tx (c.l.drop k)))) (.va (.lst [.str (sn c.s), .str (sn (1 - c.s)), .str (sn (rOf (c.l.drop k)))])) (.va (.lst [.int (c.os.getD 4 0 : Nat), .int b])) (.va pr) a22 a23 a24 a25) D1 R := by
  have h13 := C.os
  have hn := C.n
  have hl : (c.l.drop k).length = g.ml.length := by rw [List.length_drop, C.l, x.len]
  have l1 := x.ok.l1
  have al : allOk (c.l.drop k) := fun ch h => C.al ch (List.mem_of_mem_drop h)
  have ta := x.tame C hk
  refine st_cons (s_st (j := 22) O (ev_methG (j := 10) O M.prom (by omega) rfl (by decide +kernel) ?_ (by decide +kernel)))
  walk_at "all"
  refine ⟨g, c.l.drop k, rfl, x.ok, by omega, fun p hp => (by rw [okc_none al hl] at hp; cases hp), fun _ => ⟨rfl, ?_⟩⟩
  have ep : g.won + valueV (rowP (gM g) (gT g)) (c.l.drop k) g.many = promD g (c.l.drop k) := rfl
  rw [ep]
  refine st_cons (s_ifv false (evt_w (evw_or (evt_not (evt_val (ev_call O M.int (by omega) ?_))))) (fun z => nomatch z) fun _ => st_nil ?_)
  · walk_at "all"
    refine ⟨_, rfl, true, rfl, ⟨fun z => absurd z (by decide), fun _ => ?_⟩⟩
    refine evw_or1 ?_
    walk_at "all"
    refine ev_call O M.val (by omega) ?_
    walk_at "all"
    refine ⟨rowP (gM g) (gT g), c.l.drop k, _, rfl, by rw [hl, rowP_len, gM_len], by omega, al, ?_⟩
    walk_at "all"
    refine ⟨_, rfl, ?_⟩
    rw [← x.mn, ep]
    simp
  refine st_cons (s_ifv false (evt_w (evw_or (evt_not (evt_val (ev_callG (j := 10) O M.shown (by omega) rfl (by decide +kernel) ?_))))) (fun z => nomatch z) fun _ => st_nil ?_)
  · walk_at "all"
    refine ⟨g, by rw [x.sd, x.mn], rfl, true, rfl, ⟨fun z => absurd z (by decide), fun _ => ?_⟩⟩
    refine evw_or1 (evt_w (evw_and ?_))
    walk_at "all"
    refine ⟨_, rfl, fun e => evw_and1 ?_, fun _ => rfl⟩
    walk_at "all"
    refine ⟨_, rfl, ?_⟩
    have hlo : c.lo < k := by have := of_decide_eq_true e; omega
    have := (x.pr (by omega)).2 hlo
    rw [decide_eq_false (by omega)]
  walk_at "st"
  walk_at "all"
  have rest2 : ∀ fv', promD g (c.l.drop k) ≤ fv' → stm (body1 P w K mg base n_law "law" c_law f cdv A' outer sh Hx E) K E (forB.drop 10) (rhoK c g fv' (promD g (c.l.drop k)) (.va (.int k)) (.va (.str (tx (c.l.drop k)))) (.va (.lst [.str (sn c.s), .str (sn (1 - c.s)), .str (sn (rOf (c.l.drop k)))])) (.va (.lst [.int (c.os.getD 4 0 : Nat), .int b])) (.va pr) (.va (.int (promD g (c.l.drop k)))) a23 a24 a25) D1 R := fun fv' hle => by
    refine st_cons (s_ifv false (evt_w (evw_and ?_)) (fun z => nomatch z) fun _ => st_nil ?_)
    · walk_at "all"
      refine i_listN (j := 11) O (nget (by omega)) ?_
      walk_at "all"
      refine b_mod (by omega) ?_
      walk_at "all"
      refine ⟨_, rfl, fun _ => evw_and1 (evt_not (evt_val (ev_callG (j := 10) O M.every (by omega) rfl (by decide +kernel) ?_))), fun _ => rfl⟩
      walk_at "all"
      exact ⟨g, by rw [x.mn], x.ok, rfl, true, rfl, rfl⟩
    have rest3 : ∀ mo : Bool, stm (body1 P w K mg base n_law "law" c_law f cdv A' outer sh Hx E) K E (forB.drop 12) (rhoK c g fv' (promD g (c.l.drop k)) (.va (.int k)) (.va (.str (tx (c.l.drop k)))) (.va (.lst [.str (sn c.s), .str (sn (1 - c.s)), .str (sn (rOf (c.l.drop k)))])) (.va (.lst [.int (c.os.getD 4 0 : Nat), .int b])) (.va pr) (.va (.int (promD g (c.l.drop k)))) (.va (.bl mo)) a24 a25) D1 R := fun mo => by
      refine st_cons (s_ifv false (evt_w (evw_and (evt_val ?_))) (fun z => nomatch z) fun _ => st_nil ?_)
      · walk_at "all"
        refine ⟨mo, rfl, fun _ => evw_and1 (evt_not (evt_val (ev_callGQ gds (j := 10) O M.looked (by omega) rfl (by decide +kernel) ?_))), fun _ => rfl⟩
        walk_at "all"
        exact ⟨g, c.s, rOf (c.l.drop k), c.n, c.l.drop k, by rw [hd2, x.mine, x.theirs], ta, by omega, x.m, x.t, rfl, true, rfl, rfl⟩
      · exact law_C O hk0 Y T M C hk x hle hpr hD
    refine st_cons (s_st (j := 23) O (ev_or ?_))
    walk_at "all"
    refine ⟨_, rfl, fun _ => rest3 true, fun _ => ev_one ?_⟩
    walk_at "all"
    refine i_listN (j := 6) O (nget (by omega)) ?_
    walk_at "all"
    refine b_mod (by omega) ?_
    walk_at "all"
    exact rest3 _
  refine st_cons (s_ifv (decide (k ≤ c.lo)) ?_ (fun z => ?_) fun z => st_nil ?_)
  · walk_at "all"
    refine ⟨_, rfl, ?_⟩
    rw [decide_eq_decide]
    omega
  · refine st_one (s_st (j := 15) O ?_)
    walk_at "all"
    exact rest2 _ (Int.le_refl _)
  · have hlo : c.lo < k := by have := of_decide_eq_false z; omega
    have hh := x.pr (by omega)
    exact rest2 _ (by have h1 := hh.2 hlo; have h2 := hh.1; omega)
end
end CL
namespace CL
open PySem PySem.Spec PyProof.Rows L2 DL
theorem plays_at (ps : List Nat) (k : Nat) (h : k < ps.length + 1) : (ps.map (fun (n : Nat) => D.int n) ++ [D.int 0])[k]? = some (.int ((ps ++ [0]).getD k 0 : Nat)) := by
  have e : ps.map (fun (n : Nat) => D.int n) ++ [D.int 0] = (ps ++ [0]).map fun (n : Nat) => D.int n := by
    rw [List.map_append]; rfl
  rw [e]
  exact nget (by simp; omega)
section
variable {P : Program} {w : World} {K : PySem.W.Frag} {mg : Str → Option Value} {base : Heap} {f : Addr} {fd : FuncData}
theorem law_E {cdv : Value} {A' : Around} {outer : List Env} {sh : Shared} {Hx : Hp} {E : XK} {R : Er → Prop} {D1 : DE} {k0 : Nat} (O : Ok (body1 P w K mg base n_law "law" c_law f cdv A' outer sh Hx E) P w K mg base k0 E) (gds : ∀ i, (body1 P w K mg base n_law "law" c_law f cdv A' outer sh Hx E i).A.guards = some []) (hk0 : 13 ≤ k0) (Y : Fre mg) (T : ObK K) (M : LK P w K mg base)
    {c : Ctx} {k : Nat} {g : GS} {fv pv : Int} {a18 a19 a20 a21 a22 a23 a24 a25 : Sl} (C : CtxOk c) (hk : k ≤ c.n) (x : LInv c k g fv pv) (hD : ∀ ρ, LI c (k + 1) ρ → D1.nx ρ) :
    stm (body1 P w K mg base n_law "law" c_law f cdv A' outer sh Hx E) K E forB (rhoK c g fv pv (.va (.int k)) a18 a19 a20 a21 a22 a23 a24 a25) D1 R := by
  have h13 := C.os
  have hn := C.n
  have hsz : ∀ l : List Nat, l.length ≤ 1000 → (tx l).length ≤ sizeLine := fun l h => by rw [tx_len, sizeLine_eq]; omega
  have hl := C.l
  refine st_cons (s_st (j := 18) O (ev_slS ?_))
  walk_at "all"
  refine ⟨_, rfl, hsz _ (by omega), evo_some ?_⟩
  walk_at "all"
  refine ⟨_, rfl, evo_none ?_⟩
  rw [cut_from]
  refine st_cons (s_st (j := 19) O ?_)
  walk_at "all"
  refine ev_slS ?_
  walk_at "all"
  refine ⟨_, rfl, hsz _ (by rw [List.length_drop]; omega), evo_none (evo_some ?_)⟩
  walk_at "all"
  refine ⟨1, rfl, ?_⟩
  have ec : cutS (tx (c.l.drop k)) none (some 1) = tx ((c.l.drop k).take 1) := cut_to _ 1
  rw [ec]
  walk_at "all"
  rw [r_int]
  refine i_listN (j := rOf (c.l.drop k)) O (rOf_at _) ?_
  walk_at "all"
  refine st_cons (s_st (j := 20) O ?_)
  walk_at "all"
  refine i_listN (j := 4) O (nget (by omega)) ?_
  walk_at "all"
  refine b_cat (by rw [List.length_map, C.ps, sizeLine_eq]; simp; omega) ?_
  walk_at "all"
  refine i_listN O (plays_at c.ps k (by rw [C.ps]; omega)) ?_
  walk_at "all"
  walk_at "st"
  walk_at "all"
  refine st_cons (s_ifv (decide (k < c.n) && decide (c.os.getD 12 0 = 0)) (evt_w (evw_and ?_)) (fun z => ?_) fun z => st_nil ?_)
  · walk_at "all"
    have e1 : decide ((k : Int) < (c.n : Int)) = decide (k < c.n) := by rw [decide_eq_decide]; omega
    rw [e1]
    refine ⟨_, rfl, fun e => evw_and1 ?_, fun e => by rw [e]; rfl⟩
    walk_at "all"
    refine i_listN (j := 12) O (nget (by omega)) ?_
    walk_at "all"
    refine ⟨_, rfl, ?_⟩
    rw [e, Bool.true_and, decide_eq_decide]
    omega
  · have hlt := of_decide_eq_true (Bool.and_eq_true_iff.mp z).1
    refine st_one (s_st (j := 21) O (ev_round O hk0 M C hlt x (fun p o Rn => ?_) ?_ (by intro _; rfl) (by intro _; rfl)))
    · exact law_D O gds hk0 Y T M C hk x (fun _ _ => ⟨p, o, Rn, rfl⟩) hD
    · walk_at "all"
      refine i_listN (j := 5) O (nget (by omega)) ?_
      walk_at "all"
      exact ⟨_, rfl⟩
  · refine law_D O gds hk0 Y T M C hk x (fun h1 h2 => ?_) hD
    rw [decide_eq_true h1, decide_eq_true h2] at z
    cases z
end
end CL
namespace CL
open PySem PySem.Spec PyProof.Rows L2 DL
/-- the defs that the law calls besides its loop -/
structure LK2 (P : Program) (w : World) (K : PySem.W.Frag) (mg : Str → Option Value) (base : Heap) : Prop where
  cell : Kn P w K mg base "_law_cell" 2 wpCell
  draws : Kn P w K mg base "_law_draws" 2 wpDraws
  hands : Kn P w K mg base "_law_hands" 4 wpHands
  flat : Kn P w K mg base "_law_flat" 2 wpFlat
  word : Kn P w K mg base "_law_word" 3 wpWord
  unlikes : Kn P w K mg base "_law_unlikes" 7 wpUnlikes
  made : MadeK P w K mg base
  apart : Kn P w K mg base "_law_apart" 8 wpApart
def wpLaw : WPr := fun ds Q R => ∃ ns : List Int, ds = [.scr ns] ∧ Q (.bl true)
theorem pick_all (h : List Int) : pick h (List.range h.length) = h := by
  refine List.ext_getElem? fun i => ?_
  unfold pick
  rw [List.getElem?_map]
  by_cases hi : i < h.length
  · rw [List.getElem?_range hi, List.getElem?_eq_getElem hi]
    simp [hi]
  · rw [List.getElem?_eq_none (by simpa using hi), List.getElem?_eq_none (by omega)]
    rfl
theorem side_at {x : Nat} (h : x < 2) : ([.str "mine", .str "theirs"] : List D)[x]? = some (.str (sn (1 - x))) := by
  rcases (by omega : x = 0 ∨ x = 1) with rfl | rfl <;> rfl
theorem wish_at {x : Nat} (h : x < 2) : ([.str "theirs", .str "mine"] : List D)[x]? = some (.str (sn (1 - (1 - x)))) := by
  rcases (by omega : x = 0 ∨ x = 1) with rfl | rfl <;> rfl
theorem CtxOk.other {c : Ctx} (C : CtxOk c) : GOk (gOther c) ∧ gM (gOther c) = (gOther c).mine ∧ gT (gOther c) = (gOther c).theirs ∧ rowL (gOther c).mine (gOther c).theirs = rowP (gOther c).mine (gOther c).theirs ∧ (gOther c).ml.length = c.n := by
  have e1 := C.A
  have e2 := C.B
  have e3 := C.n
  refine ⟨⟨fun i hi => List.mem_range.mp hi, fun i hi => List.mem_range.mp hi, List.nodup_range, List.nodup_range, ?_, ?_⟩, pick_all _, pick_all _, row_ups (by show c.B.length = c.A.length; omega), ?_⟩
  · show (List.range c.B.length).length ≤ 900
    rw [List.length_range]; omega
  · show (List.range c.B.length).length = (List.range c.A.length).length
    rw [List.length_range, List.length_range]; omega
  · show (List.range c.B.length).length = _
    rw [List.length_range]; omega
theorem plays_sz (n : Nat) : ((List.range n).filter fun _ => true).map (fun _ => D.int (164 * 41)) = (List.replicate n 6724).map fun (n : Nat) => D.int n := by
  rw [rangeN, List.map_replicate, List.map_const', List.length_range]
  rfl
section
variable {P : Program} {w : World} {K : PySem.W.Frag} {mg : Str → Option Value} {base : Heap} {f : Addr} {fd : FuncData}
/-- from the two lists of what is left on -/
theorem law_F {cdv : Value} {A' : Around} {outer : List Env} {sh : Shared} {Hx : Hp} {E : XK} {R : Er → Prop} {Q : D → Prop} {k0 : Nat} (O : Ok (body1 P w K mg base n_law "law" c_law f cdv A' outer sh Hx E) P w K mg base k0 E) (hp : ∀ i, PassesOwn (model ((body1 P w K mg base n_law "law" c_law f cdv A' outer sh Hx E) i).prog ((body1 P w K mg base n_law "law" c_law f cdv A' outer sh Hx E) i).w) ((body1 P w K mg base n_law "law" c_law f cdv A' outer sh Hx E) i).A ((body1 P w K mg base n_law "law" c_law f cdv A' outer sh Hx E) i).env ((body1 P w K mg base n_law "law" c_law f cdv A' outer sh Hx E) i).xe) (gds : ∀ i, (body1 P w K mg base n_law "law" c_law f cdv A' outer sh Hx E i).A.guards = some []) (hk0 : 13 ≤ k0) (Y : Fre mg) (T : ObK K) (M : LK P w K mg base) (M2 : LK2 P w K mg base)
    {c : Ctx} (C : CtxOk c) (q : Q (.bl true)) :
    stm (body1 P w K mg base n_law "law" c_law f cdv A' outer sh Hx E) K E (lawB.drop 15) (rhoA (.scr c.ns) (lN c.os) (.int c.n) (.tup [lI c.A, lI c.B]) (.str (sn c.s)) (.str (sn (1 - c.s))) (.str (tx c.l)) (lN c.ps) (.int c.lo) (.gu (gStart c)) (.gu (gOther c))) { nx := fun _ => Q .non, rt := Q } R := by
  have hn := C.n
  have e1 := C.A
  have e2 := C.B
  have eA : List.range c.A.length = List.range c.n := by rw [e1]
  have eB : List.range c.B.length = List.range c.n := by rw [e2]
  have st0 := LInv.start C 0 0
  refine st_cons (s_st (j := 12) O (ev_lst (evs_cons (ev_of_evn (en_r [("_law_k", 17)] [17] O Y.range ?_)))))
  walk_at "all"
  refine ⟨c.n, fun _ => true, fun k => .int k, rfl, by omega, fun n hn => ?_, ?_⟩
  · refine tg_name (O.blk _) (evi_nil ⟨rfl, fun _ => ?_⟩)
    walk_at "all"
    rfl
  rw [rangeN]
  refine evs_cons (ev_of_evn (en_r [("_law_k", 17)] [17] O Y.range ?_))
  walk_at "all"
  refine ⟨c.n, fun _ => true, fun k => .int k, rfl, by omega, fun n hn => ?_, ?_⟩
  · refine tg_name (O.blk _) (evi_nil ⟨rfl, fun _ => ?_⟩)
    walk_at "all"
    rfl
  rw [rangeN]
  walk_at "all"
  have el : D.lst [D.lst (List.map (fun (k : Nat) => D.int k) (List.range c.n)), D.lst (List.map (fun (k : Nat) => D.int k) (List.range c.n))] = lv2 (gStart c) := by
    show _ = D.lst [lN (List.range c.A.length), lN (List.range c.B.length)]
    rw [eA, eB]
  refine st_cons (s_st (j := 13) O (ev_call O M.rowL (by omega) ?_))
  walk_at "all"
  refine ⟨c.A, c.B, List.range c.n, List.range c.n, rfl, fun i hi => ?_, fun i hi => ?_, by rw [List.length_range]; omega, by rw [List.length_range]; omega, ?_⟩
  · have := List.mem_range.mp hi; omega
  · have := List.mem_range.mp hi; omega
  have er : rowL (pick c.A (List.range c.n)) (pick c.B (List.range c.n)) = rowP (gM (gStart c)) (gT (gStart c)) := by
    have : gM (gStart c) = pick c.A (List.range c.n) := by
      show pick c.A (List.range c.A.length) = _
      rw [eA]
    rw [this]
    have : gT (gStart c) = pick c.B (List.range c.n) := by
      show pick c.B (List.range c.B.length) = _
      rw [eB]
    rw [this]
    exact row_ups (by rw [pick_len, pick_len])
  rw [er]
  walk_at "st"
  walk_at "all"
  walk_at "st"
  walk_at "all"
  walk_at "st"
  walk_at "all"
  refine st_cons (s_forR (js := [17]) O hp Y.range ?_)
  walk_at "all"
  refine ⟨c.n + 1, by congr 1, by omega, LI c, ?_, ?_, ?_⟩
  · exact ⟨gStart c, 0, 0, _, _, _, _, _, _, _, _, _, st0, by rw [el]; rfl⟩
  · rintro k ρ' hk ⟨g, fv, pv, a17, a18, a19, a20, a21, a22, a23, a24, a25, x, rfl⟩
    exact tg_name O (law_E O gds hk0 Y T M C (by omega) x fun ρ h => h)
  · rintro ρ' ⟨g, fv, pv, a17, a18, a19, a20, a21, a22, a23, a24, a25, x, rfl⟩
    obtain ⟨h1, h2, h3, h4, h5⟩ := C.other
    have hpr := x.pr (by omega)
    have hfin := x.fin rfl
    refine st_one (s_ret (ev_and (ev_callG (j := 11) O M2.apart (by omega) rfl (by decide +kernel) ?_)))
    walk_at "all"
    refine ⟨gOther c, c.l, rfl, h1, rfl, h2, h3, h4, by rw [h5, C.l], C.al, rfl, true, rfl, fun _ => ev_and ?_, nofun⟩
    walk_at "all"
    have d1 : decide (g.won ≤ fv) = true := decide_eq_true (by have := hpr.1; omega)
    have d2 : decide (pv = g.won) = true := decide_eq_true hfin
    rw [d1]
    refine ⟨true, rfl, fun _ => ev_one ?_, nofun⟩
    walk_at "all"
    rw [d2]
    exact q
end
end CL
namespace CL
open PySem PySem.Spec PyProof.Rows L2 DL
section
variable {P : Program} {w : World} {K : PySem.W.Frag} {mg : Str → Option Value} {base : Heap} {f : Addr} {fd : FuncData}
theorem ok_law (F : F_law K f fd) (Y : Fre mg) (T : ObK K) (M : LK P w K mg base) (M2 : LK2 P w K mg base) : FnG P w K mg base 14 f fd p_law (spD K wpLaw) := by
  refine fn_okG F s_law (fun ds Q R h => ?_) fun X E hX O hp tk ds Q R h => ?_
  · obtain ⟨_, rfl, _⟩ := h; rfl
  · obtain ⟨ns, rfl, q⟩ := h
    obtain ⟨cdv, A', outer, sh, Hx, rfl, gd⟩ := hX
    have gds : ∀ i, (body1 P w K mg base n_law "law" c_law f cdv A' outer sh Hx E i).A.guards = some [] := fun _ => gd
    refine st_cons (s_st (j := 1) O (ev_call O M2.draws (by decide) (evs_cons (ev_call O M2.cell (by decide) ?_))))
    walk_at "all"
    refine ⟨ns, 0, rfl, by omega, fun c0 => ?_⟩
    walk_at "all"
    refine ⟨c0, [8, 10, 25, 2, 6, 3, 25, 2, 3, 25, 9, 25, 2], rfl, by simp, by intro x hx; simp at hx; rcases hx with rfl | rfl | rfl | rfl | rfl | rfl | rfl | rfl | rfl | rfl | rfl | rfl | rfl <;> decide, fun os ho => ?_⟩
    have hos : os.length = 13 := ho.len
    have lt : ∀ j, j < 13 → os.getD j 0 < ([8, 10, 25, 2, 6, 3, 25, 2, 3, 25, 9, 25, 2] : List Nat).getD j 0 := fun j hj => ho.lt j hj
    have o1 : os.getD 1 0 < 10 := lt 1 (by decide)
    have o2 : os.getD 2 0 < 25 := lt 2 (by decide)
    have o3 : os.getD 3 0 < 2 := lt 3 (by decide)
    have o8 : os.getD 8 0 < 3 := lt 8 (by decide)
    have o12 : os.getD 12 0 < 2 := lt 12 (by decide)
    have sh0 : ∀ j, j < 13 → (os.map fun (m : Nat) => D.int m)[j]? = some (.int (os.getD j 0 : Nat)) := fun j hj => nget (by omega)
    refine st_cons (s_st (j := 2) O ?_)
    walk_at "all"
    refine i_listN (j := 1) O (sh0 1 (by decide)) ?_
    walk_at "all"
    refine i_listN (j := 2) O (sh0 2 (by decide)) ?_
    walk_at "all"
    refine i_listN (j := 0) O (sh0 0 (by decide)) ?_
    walk_at "all"
    obtain ⟨n, hn, hat⟩ : ∃ n : Nat, n ≤ 24 ∧ L2.atI [D.int (os.getD 1 0 : Nat), D.int (os.getD 2 0 : Nat)] (if decide (((os.getD 0 0 : Nat) : Int) = 0) then (1 : Int) else 0) = some (.int n) := by
      by_cases h : ((os.getD 0 0 : Nat) : Int) = 0
      · exact ⟨os.getD 2 0, by omega, by rw [decide_eq_true h]; rfl⟩
      · exact ⟨os.getD 1 0, by omega, by rw [decide_eq_false h]; rfl⟩
    refine i_list O hat ?_
    refine st_cons (s_st (j := 3) O (ev_call O M2.flat (by decide) (evs_cons (ev_call O M2.hands (by decide) ?_))))
    walk_at "all"
    refine ⟨ns, 1, n, rfl, by omega, by omega, fun A0 B0 hA0 hB0 => ?_⟩
    walk_at "all"
    refine i_listN (j := 10) O (sh0 10 (by decide)) ?_
    walk_at "all"
    refine ⟨A0, B0, _, rfl, by omega, by omega, fun A B hA hB => ?_⟩
    rw [hA0] at hA hB
    refine st_cons (s_st (j := 4) O ?_)
    walk_at "all"
    refine i_listN (j := 3) O (sh0 3 (by decide)) ?_
    walk_at "all"
    refine i_listN O (side_at o3) ?_
    refine st_cons (s_st (j := 5) O ?_)
    walk_at "all"
    refine i_listN (j := 3) O (sh0 3 (by decide)) ?_
    walk_at "all"
    refine i_listN O (wish_at o3) ?_
    have hs : 1 - os.getD 3 0 = 0 ∨ 1 - os.getD 3 0 = 1 := by omega
    generalize 1 - os.getD 3 0 = s at hs
    refine st_cons (s_st (j := 6) O (ev_call O M2.word (by decide) (evs_cons (ev_call O M2.cell (by decide) ?_))))
    walk_at "all"
    refine ⟨ns, 4, rfl, by omega, fun c4 => ?_⟩
    walk_at "all"
    refine ⟨c4, n, rfl, by omega, fun l hl al => ?_⟩
    refine st_cons (s_st (j := 7) O (ev_call O M2.draws (by decide) (evs_cons (ev_call O M2.cell (by decide) ?_))))
    walk_at "all"
    refine ⟨ns, 5, rfl, by omega, fun c5 => ?_⟩
    refine evs_cons (ev_of_evn (en_r [("_law_k", 17)] [17] O Y.range ?_))
    walk_at "all"
    refine ⟨n, fun _ => true, fun _ => .int (164 * 41), rfl, by omega, fun k hk => ?_, ?_⟩
    · refine tg_name (O.blk _) (evi_nil ⟨rfl, fun _ => ?_⟩)
      walk_at "all"
      refine b_mul (by exact .inl ⟨by decide, by decide⟩) ?_
      rfl
    rw [plays_sz]
    walk_at "all"
    refine ⟨c5, List.replicate n 6724, rfl, by rw [List.length_replicate]; omega, fun x hx => by rw [(List.mem_replicate.mp hx).2]; decide, fun ps hps => ?_⟩
    have hpl : ps.length = n := by rw [hps.len, List.length_replicate]
    refine st_cons (s_st (j := 8) O ?_)
    walk_at "all"
    refine i_listN (j := 9) O (sh0 9 (by decide)) ?_
    walk_at "all"
    refine b_mod (by omega) ?_
    walk_at "all"
    refine i_listN (j := 8) O (sh0 8 (by decide)) ?_
    walk_at "all"
    obtain ⟨lo, hlo⟩ : ∃ lo : Nat, ([D.int (((os.getD 9 0 : Nat) : Int) % ((n : Int) + 1)), D.int 0, D.int 0])[os.getD 8 0]? = some (.int lo) := by
      rcases (by omega : os.getD 8 0 = 0 ∨ os.getD 8 0 = 1 ∨ os.getD 8 0 = 2) with h | h | h <;> rw [h]
      · exact ⟨os.getD 9 0 % (n + 1), by
          have : ((os.getD 9 0 : Nat) : Int) % ((n : Int) + 1) = ((os.getD 9 0 % (n + 1) : Nat) : Int) := by
            have e : (n : Int) + 1 = ((n + 1 : Nat) : Int) := by omega
            rw [e]
            omega
          rw [this]; rfl⟩
      · exact ⟨0, rfl⟩
      · exact ⟨0, rfl⟩
    refine i_listN O hlo ?_
    have C : CtxOk ⟨ns, os, n, A, B, s, l, ps, lo⟩ := ⟨hos, o12, hn, hA, hB, hs, hl, al, hpl⟩
    refine st_cons (s_ifv false (evt_not (evt_val (ev_call O M2.unlikes (by decide) ?_))) (fun z => nomatch z) fun _ => st_nil ?_)
    · walk_at "all"
      exact ⟨A, B, _, _, rfl, by omega, by omega, true, rfl, rfl⟩
    exact law_mid O (by decide) Y M2.made hos hA hB (by omega) (law_F O hp gds (by decide) Y T M M2 C q)
end
end CL
namespace HX
open PySem PySem.Spec PyProof.Rows L2 DL CL
theorem fset2 (f1 f2 : Str) (u1 u2 : Value) : XC.fset [f1, f2] [u1, u2] = fun y => if y = f2 then some u2 else if y = f1 then some u1 else none := by
  funext y
  unfold XC.fset
  show List.lookup y [(f2, u2), (f1, u1)] = _
  unfold List.lookup
  by_cases h : y = f2
  · rw [if_pos h, show (y == f2) = true from beq_iff_eq.mpr h]
  · rw [if_neg h, show (y == f2) = false from beq_eq_false_iff_ne.mpr h]
    show List.lookup y [(f1, u1)] = _
    unfold List.lookup
    by_cases h1 : y = f1
    · rw [if_pos h1, show (y == f1) = true from beq_iff_eq.mpr h1]
    · rw [if_neg h1, show (y == f1) = false from beq_eq_false_iff_ne.mpr h1]
      rfl
theorem fset1 (f1 : Str) (u1 : Value) : XC.fset [f1] [u1] = fun y => if y = f1 then some u1 else none := by
  funext y
  unfold XC.fset
  show List.lookup y [(f1, u1)] = _
  unfold List.lookup
  by_cases h1 : y = f1
  · rw [if_pos h1, show (y == f1) = true from beq_iff_eq.mpr h1]
  · rw [if_neg h1, show (y == f1) = false from beq_eq_false_iff_ne.mpr h1]
    rfl
theorem ns_exc {h : Heap} {a x C t : Addr} {m : Str → Option Value} (n : h.Ns a m) (e : h.get? x = some (PySem.HandSPX.excO C t)) : a ≠ x := fun z => by
  obtain ⟨o, es, ep, h1, h2, _⟩ := n
  rw [z, e] at h1
  have h3 := Option.some.inj h1
  subst h3
  cases h2
section
variable {P : Program} {K : PySem.W.Frag} {mg : Str → Option Value} {C f cc cda : Addr} {qual : Str}
theorem init_H (T : XC.ExK P K mg C f cc cda qual argH bodyH scH) (n1 : PySem.W.findIn K (.ref C) "mine_count" = some none) (n2 : PySem.W.findIn K (.ref C) "theirs_count" = some none) : XC.InitOk P K mg C ["mine_count", "theirs_count"] := by
  refine ⟨T.cls, T.kC, T.exC, T.tyC, f, T.iC, T.tI, fun w A x t0 us R s hl X nl hg hb dp hx nx hq => ?_⟩
  obtain ⟨mb, b1, b2⟩ := hb
  match us, hl with
  | [u1, u2], _ =>
    rw [fset2] at hq
    exact XC.init2 T (fun _ => rfl) (fun _ => rfl) (fun _ => rfl) (fun _ => rfl) (fun _ _ _ _ _ _ _ _ => rfl) rfl rfl rfl rfl rfl rfl rfl (by decide +kernel) (by decide +kernel) n1 n2 X nl hg b1 b2 dp hx nx (ns_exc hg hx) (ns_exc b1 hx) hq
theorem init_C (T : XC.ExK P K mg C f cc cda qual argC bodyC scC) (n1 : PySem.W.findIn K (.ref C) "side" = some none) (n2 : PySem.W.findIn K (.ref C) "index" = some none) : XC.InitOk P K mg C ["side", "index"] := by
  refine ⟨T.cls, T.kC, T.exC, T.tyC, f, T.iC, T.tI, fun w A x t0 us R s hl X nl hg hb dp hx nx hq => ?_⟩
  obtain ⟨mb, b1, b2⟩ := hb
  match us, hl with
  | [u1, u2], _ =>
    rw [fset2] at hq
    exact XC.init2 T (fun _ => rfl) (fun _ => rfl) (fun _ => rfl) (fun _ => rfl) (fun _ _ _ _ _ _ _ _ => rfl) rfl rfl rfl rfl rfl rfl rfl (by decide +kernel) (by decide +kernel) n1 n2 X nl hg b1 b2 dp hx nx (ns_exc hg hx) (ns_exc b1 hx) hq
theorem init_W (T : XC.ExK P K mg C f cc cda qual argW bodyW scW) (n1 : PySem.W.findIn K (.ref C) "position" = some none) : XC.InitOk P K mg C ["position"] := by
  refine ⟨T.cls, T.kC, T.exC, T.tyC, f, T.iC, T.tI, fun w A x t0 us R s hl X nl hg hb dp hx nx hq => ?_⟩
  obtain ⟨mb, b1, b2⟩ := hb
  match us, hl with
  | [u1], _ =>
    rw [fset1] at hq
    exact XC.init1 T (fun _ => rfl) (fun _ => rfl) (fun _ => rfl) (fun _ _ _ _ _ _ _ => rfl) rfl rfl rfl rfl rfl (by decide +kernel) n1 X nl hg b1 b2 dp hx nx hq
end
end HX
namespace HX
open PySem PySem.Spec PyProof.Rows L2 DL CL
/-! ### the defs, the facts that the head tells -/
theorem law_def {K : PySem.W.Frag} (c : He.SaysD faA fnA K) : ∃ fd : FuncData, F_law K (He.ga K "law") fd ∧ ∀ (s : Shared) (v : Value), BindsTo s fd ⟨[v], []⟩ [("_law_script", v)] := by
  obtain ⟨fd, h⟩ := c.def_ 54 (d := d_law) rfl
  have h : F_law K (He.ga K "law") fd := h
  exact ⟨fd, h, fun s v => FunD.bindsA (ps := p_law) h (fun _ _ _ _ _ _ us hl => match us, hl with | [_], _ => rfl) s [v] rfl⟩
theorem xs_of {P : Program} {K : PySem.W.Frag} {h : Heap} {mg : Str → Option Value} (X : K.In h) (G : h.Ns mainGlobals mg) (c : He.SaysD faA fnA K) (i1 : XC.InitOk P K mg (He.ga K "BadHands") ["mine_count", "theirs_count"]) (i2 : XC.InitOk P K mg (He.ga K "BadCard") ["side", "index"]) (i3 : XC.InitOk P K mg (He.ga K "BadWord") ["position"]) : Xs P K mg := by
  obtain ⟨e1, e2, e3, e4⟩ := He.exc_ok (c.fact 114 (f := .exc "OutOfTurn") rfl)
  exact ⟨i1, i2, i3, (He.glo_ok X G (c.fact 59 (f := .glo "BadHands") rfl)), (He.glo_ok X G (c.fact 69 (f := .glo "BadCard") rfl)), (He.glo_ok X G (c.fact 70 (f := .glo "BadWord") rfl)), (He.glo_ok X G (c.fact 71 (f := .glo "OutOfTurn") rfl)), ⟨_, e1, PySem.F.excBase_ValueError⟩, e2, e3, e4⟩
theorem no_of {K : PySem.W.Frag} (c : He.SaysD faA fnA K) : PySem.W.findIn K (.ref (He.ga K "BadHands")) "mine_count" = some none ∧ PySem.W.findIn K (.ref (He.ga K "BadHands")) "theirs_count" = some none ∧ PySem.W.findIn K (.ref (He.ga K "BadCard")) "side" = some none ∧ PySem.W.findIn K (.ref (He.ga K "BadCard")) "index" = some none ∧ PySem.W.findIn K (.ref (He.ga K "BadWord")) "position" = some none :=
  ⟨He.noat_ok (c.fact 99 (f := .noat "BadHands" "mine_count") rfl), He.noat_ok (c.fact 100 (f := .noat "BadHands" "theirs_count") rfl), He.noat_ok (c.fact 101 (f := .noat "BadCard" "side") rfl), He.noat_ok (c.fact 102 (f := .noat "BadCard" "index") rfl), He.noat_ok (c.fact 103 (f := .noat "BadWord" "position") rfl)⟩
theorem free_super {K : PySem.W.Frag} {h : Heap} {mg : Str → Option Value} (X : K.In h) (G : h.Ns mainGlobals mg) (c : He.SaysD faA fnA K) : mg "super" = none := He.free_ok X G (c.fact 87 (f := .free "super") rfl)
theorem sides_of {K : PySem.W.Frag} {h : Heap} {mg : Str → Option Value} (X : K.In h) (G : h.Ns mainGlobals mg) (c : He.SaysD faA fnA K) (b : He.tupB K "SIDES" [.str "theirs", .str "mine"] = true) : Sd K mg := ⟨He.ga K "SIDES", (He.glo_ok X G (c.fact 55 (f := .glo "SIDES") rfl)), fun H => He.tupB_ok b H⟩
theorem glo_law {K : PySem.W.Frag} {h : Heap} {mg : Str → Option Value} (X : K.In h) (G : h.Ns mainGlobals mg) (c : He.SaysD faA fnA K) : mg "law" = some (.ref (He.ga K "law")) := (He.glo_ok X G (c.fact 54 (f := .glo "law") rfl))
theorem glo_cs {K : PySem.W.Frag} {h : Heap} {mg : Str → Option Value} (X : K.In h) (G : h.Ns mainGlobals mg) (c : He.SaysD faA fnA K) : ∀ y ∈ exCs, mg y = some (.ref (He.ga K y)) := by
  intro y hy
  simp only [exCs, List.mem_cons, List.not_mem_nil, or_false] at hy
  rcases hy with rfl | rfl | rfl | rfl | rfl | rfl | rfl | rfl | rfl | rfl | rfl | rfl | rfl | rfl | rfl
  · exact (He.glo_ok X G (c.fact 58 (f := .glo "BadBounds") rfl))
  · exact (He.glo_ok X G (c.fact 59 (f := .glo "BadHands") rfl))
  · exact (He.glo_ok X G (c.fact 60 (f := .glo "BadPairing") rfl))
  · exact (He.glo_ok X G (c.fact 61 (f := .glo "BadPlace") rfl))
  · exact (He.glo_ok X G (c.fact 62 (f := .glo "BadSchedule") rfl))
  · exact (He.glo_ok X G (c.fact 63 (f := .glo "BadText") rfl))
  · exact (He.glo_ok X G (c.fact 64 (f := .glo "Unsteady") rfl))
  · exact (He.glo_ok X G (c.fact 65 (f := .glo "Contradiction") rfl))
  · exact (He.glo_ok X G (c.fact 66 (f := .glo "DuplicateName") rfl))
  · exact (He.glo_ok X G (c.fact 67 (f := .glo "Unreachable") rfl))
  · exact (He.glo_ok X G (c.fact 68 (f := .glo "UnknownName") rfl))
  · exact (He.glo_ok X G (c.fact 69 (f := .glo "BadCard") rfl))
  · exact (He.glo_ok X G (c.fact 70 (f := .glo "BadWord") rfl))
  · exact (He.glo_ok X G (c.fact 71 (f := .glo "OutOfTurn") rfl))
  · exact (He.glo_ok X G (c.fact 72 (f := .glo "ClimbrowError") rfl))
theorem exm_cs {K : PySem.W.Frag} (c : He.SaysD faA fnA K) : ∀ x ∈ (["BadHands", "BadCard", "BadWord", "OutOfTurn"] : List Str), PySem.W.exmOne K (.ref (He.ga K x)) (.ref (He.ga K "ClimbrowError")) = some true := by
  intro x hx
  simp only [List.mem_cons, List.not_mem_nil, or_false] at hx
  rcases hx with rfl | rfl | rfl | rfl
  · exact He.exm_ok (c.fact 115 (f := .exm "BadHands" "ClimbrowError" true) rfl)
  · exact He.exm_ok (c.fact 116 (f := .exm "BadCard" "ClimbrowError" true) rfl)
  · exact He.exm_ok (c.fact 117 (f := .exm "BadWord" "ClimbrowError" true) rfl)
  · exact He.exm_ok (c.fact 118 (f := .exm "OutOfTurn" "ClimbrowError" true) rfl)
theorem exm_hh {K : PySem.W.Frag} (c : He.SaysD faA fnA K) : PySem.W.exmOne K (.ref (He.ga K "BadHands")) (.ref (He.ga K "BadHands")) = some true := He.exm_ok (c.fact 119 (f := .exm "BadHands" "BadHands" true) rfl)
/-- joined: the law's def keeps its promise -/
theorem joined {P : Program} {w : World} {K : PySem.W.Frag} {h : Heap} {mg : Str → Option Value} (X : K.In h) (G : h.Ns mainGlobals mg) (c : He.SaysD faA fnA K) (Z : Xs P K mg) (Zk : Xk K mg) (S : Sd K mg) (base : Heap) {fd_law : FuncData} (h_law : F_law K (He.ga K "law") fd_law) :
    FnG P w K mg base 14 (He.ga K "law") fd_law p_law (spD K wpLaw) := by
  have Y : Fre mg := ⟨He.free_ok X G (c.fact 73 (f := .free "len") rfl), He.free_ok X G (c.fact 74 (f := .free "range") rfl), He.free_ok X G (c.fact 75 (f := .free "sorted") rfl), He.free_ok X G (c.fact 76 (f := .free "enumerate") rfl), He.free_ok X G (c.fact 77 (f := .free "int") rfl), He.free_ok X G (c.fact 78 (f := .free "max") rfl), He.free_ok X G (c.fact 79 (f := .free "min") rfl), He.free_ok X G (c.fact 80 (f := .free "abs") rfl), He.free_ok X G (c.fact 81 (f := .free "all") rfl), He.free_ok X G (c.fact 82 (f := .free "list") rfl), He.free_ok X G (c.fact 83 (f := .free "isinstance") rfl), He.free_ok X G (c.fact 84 (f := .free "bool") rfl), He.free_ok X G (c.fact 85 (f := .free "str") rfl), He.free_ok X G (c.fact 86 (f := .free "repr") rfl), He.free_ok X G (c.fact 87 (f := .free "super") rfl), He.free_ok X G (c.fact 88 (f := .free "ValueError") rfl)⟩
  have T : ObK K := by
    refine ⟨He.cls_ok (c.fact 89 (f := .cls "Guide") rfl), He.cls_ok (c.fact 90 (f := .cls "OpenHands") rfl), fun f hf => ?_, fun f hf => ?_⟩
    · simp only [flG, List.mem_cons, List.not_mem_nil, or_false] at hf
      rcases hf with rfl | rfl | rfl | rfl
      · exact He.noat_ok (c.fact 91 (f := .noat "Guide" "side") rfl)
      · exact He.noat_ok (c.fact 92 (f := .noat "Guide" "many") rfl)
      · exact He.noat_ok (c.fact 93 (f := .noat "Guide" "won") rfl)
      · exact He.noat_ok (c.fact 94 (f := .noat "Guide" "hands") rfl)
    · simp only [flO, List.mem_cons, List.not_mem_nil, or_false] at hf
      rcases hf with rfl | rfl | rfl | rfl
      · exact He.noat_ok (c.fact 95 (f := .noat "OpenHands" "mine") rfl)
      · exact He.noat_ok (c.fact 96 (f := .noat "OpenHands" "theirs") rfl)
      · exact He.noat_ok (c.fact 97 (f := .noat "OpenHands" "my_left") rfl)
      · exact He.noat_ok (c.fact 98 (f := .noat "OpenHands" "their_left") rfl)
  obtain ⟨fd_other_side, h_other_side⟩ := c.def_ 0 (d := d_other_side) rfl
  have h_other_side : F_other_side K (He.ga K "other_side") fd_other_side := h_other_side
  have k_other_side : Kn P w K mg base "other_side" 2 wpOther := ⟨_, _, _, ok_other h_other_side, (He.glo_ok X G (c.fact 0 (f := .glo "other_side") rfl)), h_other_side.kp, (FunD.bindsN h_other_side fun _ _ _ _ _ _ us hl => match us, hl with | [_], _ => rfl)⟩
  obtain ⟨fd_check_hands, h_check_hands⟩ := c.def_ 1 (d := d_check_hands) rfl
  have h_check_hands : F_check_hands K (He.ga K "check_hands") fd_check_hands := h_check_hands
  have k_check_hands : Kn P w K mg base "check_hands" 2 wpCheckHands := ⟨_, _, _, ok_check_hands h_check_hands Y Z, (He.glo_ok X G (c.fact 1 (f := .glo "check_hands") rfl)), h_check_hands.kp, (FunD.bindsN h_check_hands fun _ _ _ _ _ _ us hl => match us, hl with | [_, _], _ => rfl)⟩
  obtain ⟨fd_hand_of, h_hand_of⟩ := c.def_ 9 (d := d_hand_of) rfl
  have h_hand_of : F_hand_of K (He.ga K "hand_of") fd_hand_of := h_hand_of
  have k_hand_of : Kn P w K mg base "hand_of" 2 wpHandOf := ⟨_, _, _, ok_hand_of h_hand_of, (He.glo_ok X G (c.fact 9 (f := .glo "hand_of") rfl)), h_hand_of.kp, (FunD.bindsN h_hand_of fun _ _ _ _ _ _ us hl => match us, hl with | [_, _, _], _ => rfl)⟩
  obtain ⟨fd_check_card, h_check_card⟩ := c.def_ 2 (d := d_check_card) rfl
  have h_check_card : F_check_card K (He.ga K "check_card") fd_check_card := h_check_card
  have k_check_card : Kn P w K mg base "check_card" 2 wpCheckCard := ⟨_, _, _, ok_check_card h_check_card Y Z, (He.glo_ok X G (c.fact 2 (f := .glo "check_card") rfl)), h_check_card.kp, (FunD.bindsN h_check_card fun _ _ _ _ _ _ us hl => match us, hl with | [_, _, _], _ => rfl)⟩
  obtain ⟨fd_check_letters, h_check_letters⟩ := c.def_ 3 (d := d_check_letters) rfl
  have h_check_letters : F_check_letters K (He.ga K "check_letters") fd_check_letters := h_check_letters
  have k_check_letters : Kn P w K mg base "check_letters" 2 wpCheckLetters := ⟨_, _, _, ok_check_letters h_check_letters Y Z, (He.glo_ok X G (c.fact 3 (f := .glo "check_letters") rfl)), h_check_letters.kp, (FunD.bindsN h_check_letters fun _ _ _ _ _ _ us hl => match us, hl with | [_, _], _ => rfl)⟩
  obtain ⟨fd_check_word, h_check_word⟩ := c.def_ 4 (d := d_check_word) rfl
  have h_check_word : F_check_word K (He.ga K "check_word") fd_check_word := h_check_word
  have k_check_word : Kn P w K mg base "check_word" 3 wpCheckWord := ⟨_, _, _, ok_check_word h_check_word Y Z k_check_letters, (He.glo_ok X G (c.fact 4 (f := .glo "check_word") rfl)), h_check_word.kp, (FunD.bindsN h_check_word fun _ _ _ _ _ _ us hl => match us, hl with | [_, _], _ => rfl)⟩
  obtain ⟨fd_lays_before_last, h_lays_before_last⟩ := c.def_ 7 (d := d_lays_before_last) rfl
  have h_lays_before_last : F_lays_before_last K (He.ga K "lays_before_last") fd_lays_before_last := h_lays_before_last
  have k_lays_before_last : Kn P w K mg base "lays_before_last" 2 wpLays := ⟨_, _, _, ok_lays h_lays_before_last Y, (He.glo_ok X G (c.fact 7 (f := .glo "lays_before_last") rfl)), h_lays_before_last.kp, (FunD.bindsN h_lays_before_last fun _ _ _ _ _ _ us hl => match us, hl with | [_], _ => rfl)⟩
  obtain ⟨fd_entry_value, h_entry_value⟩ := c.def_ 17 (d := d_entry_value) rfl
  have h_entry_value : F_entry_value K (He.ga K "entry_value") fd_entry_value := h_entry_value
  have k_entry_value : Kn P w K mg base "entry_value" 2 wpEntry := ⟨_, _, _, ok_entry h_entry_value Y, (He.glo_ok X G (c.fact 17 (f := .glo "entry_value") rfl)), h_entry_value.kp, (FunD.bindsN h_entry_value fun _ _ _ _ _ _ us hl => match us, hl with | [_, _, _], _ => rfl)⟩
  obtain ⟨fd_value, h_value⟩ := c.def_ 18 (d := d_value) rfl
  have h_value : FunD K "value" "value" (defArgs (tp 40)) (defBody (tp 40)) c_value [] [("many", .str "mine")] (He.ga K "value") fd_value := h_value
  obtain ⟨mv_value, B_value⟩ := FunD.kbinds0 (ps := p_value) h_value 2 ["many"] [] (fun us _ ws => us ++ ws) (by simp) (by simp) (fun r _ s => r.append s) (fun _ _ _ _ _ _ us mv ws h1 h2 h3 => match us, mv, ws, h1, h2, h3 with | [_, _], [], [_], _, _, _ => rfl)
  have k_valueK : KnK P w K mg base "value" 4 2 "many" wpValue := ⟨_, _, _, _, _, ok_value h_value Y k_check_word k_lays_before_last k_entry_value, (He.glo_ok X G (c.fact 18 (f := .glo "value") rfl)), h_value.kp, B_value, fun _ _ _ _ => rfl⟩
  obtain ⟨fd_without, h_without⟩ := c.def_ 6 (d := d_without) rfl
  have h_without : F_without K (He.ga K "without") fd_without := h_without
  have k_without : Kn P w K mg base "without" 2 wpWithout := ⟨_, _, _, ok_without h_without, (He.glo_ok X G (c.fact 6 (f := .glo "without") rfl)), h_without.kp, (FunD.bindsN h_without fun _ _ _ _ _ _ us hl => match us, hl with | [_, _], _ => rfl)⟩
  obtain ⟨fd_deck, h_deck⟩ := c.def_ 10 (d := d_deck) rfl
  have h_deck : F_deck K (He.ga K "deck") fd_deck := h_deck
  have k_deck : Kn P w K mg base "deck" 2 wpDeck := ⟨_, _, _, ok_deck h_deck Y S, (He.glo_ok X G (c.fact 10 (f := .glo "deck") rfl)), h_deck.kp, (FunD.bindsN h_deck fun _ _ _ _ _ _ us hl => match us, hl with | [_, _], _ => rfl)⟩
  obtain ⟨fd_around, h_around⟩ := c.def_ 11 (d := d_around) rfl
  have h_around : FunD K "around" "around" (defArgs (tp 30)) (defBody (tp 30)) c_around [] [("down", .bl false)] (He.ga K "around") fd_around := h_around
  obtain ⟨mv_around, B_around⟩ := FunD.kbinds0 (ps := p_around) h_around 4 ["down"] [] (fun us _ ws => us ++ ws) (by simp) (by simp) (fun r _ s => r.append s) (fun _ _ _ _ _ _ us mv ws h1 h2 h3 => match us, mv, ws, h1, h2, h3 with | [_, _, _, _], [], [_], _, _, _ => rfl)
  have k_aroundK : KnK P w K mg base "around" 3 4 "down" wpAround := ⟨_, _, _, _, _, ok_around h_around k_check_card k_hand_of k_deck, (He.glo_ok X G (c.fact 11 (f := .glo "around") rfl)), h_around.kp, B_around, fun _ _ _ _ => rfl⟩
  obtain ⟨dv_around, V_around, D_around⟩ := FunD.binds0 (ps := p_around) h_around 4 (by simp) rfl (fun _ _ _ _ _ _ us ks h1 h2 => match us, ks, h1, h2 with | [_, _, _, _], [_], _, _ => ⟨_, _, _, _, _, _, rfl, rfl, rfl⟩)
  have k_aroundD : KnD P w K mg base "around" 3 [.bl false] wpAround := ⟨_, _, _, _, _, ok_around h_around k_check_card k_hand_of k_deck, (He.glo_ok X G (c.fact 11 (f := .glo "around") rfl)), h_around.kp, D_around, V_around, .cons (.bl _) .nil⟩
  obtain ⟨fd_next_up, h_next_up⟩ := c.def_ 12 (d := d_next_up) rfl
  have h_next_up : F_next_up K (He.ga K "next_up") fd_next_up := h_next_up
  have k_next_up : Kn P w K mg base "next_up" 4 (wpNext false) := ⟨_, _, _, ok_next_up h_next_up Y k_aroundD, (He.glo_ok X G (c.fact 12 (f := .glo "next_up") rfl)), h_next_up.kp, (FunD.bindsN h_next_up fun _ _ _ _ _ _ us hl => match us, hl with | [_, _, _, _], _ => rfl)⟩
  obtain ⟨fd_next_down, h_next_down⟩ := c.def_ 13 (d := d_next_down) rfl
  have h_next_down : F_next_down K (He.ga K "next_down") fd_next_down := h_next_down
  have k_next_down : Kn P w K mg base "next_down" 4 (wpNext true) := ⟨_, _, _, ok_next_down h_next_down Y k_aroundK, (He.glo_ok X G (c.fact 13 (f := .glo "next_down") rfl)), h_next_down.kp, (FunD.bindsN h_next_down fun _ _ _ _ _ _ us hl => match us, hl with | [_, _, _, _], _ => rfl)⟩
  obtain ⟨fd_heights, h_heights⟩ := c.def_ 14 (d := d_heights) rfl
  have h_heights : F_heights K (He.ga K "heights") fd_heights := h_heights
  have k_heights : Kn P w K mg base "heights" 3 wpHeights := ⟨_, _, _, ok_heights h_heights k_check_hands k_deck, (He.glo_ok X G (c.fact 14 (f := .glo "heights") rfl)), h_heights.kp, (FunD.bindsN h_heights fun _ _ _ _ _ _ us hl => match us, hl with | [_, _], _ => rfl)⟩
  obtain ⟨fd_side_levels, h_side_levels⟩ := c.def_ 15 (d := d_side_levels) rfl
  have h_side_levels : F_side_levels K (He.ga K "side_levels") fd_side_levels := h_side_levels
  have k_side_levels : Kn P w K mg base "side_levels" 4 wpLevels := ⟨_, _, _, ok_levels h_side_levels Y k_heights k_deck, (He.glo_ok X G (c.fact 15 (f := .glo "side_levels") rfl)), h_side_levels.kp, (FunD.bindsN h_side_levels fun _ _ _ _ _ _ us hl => match us, hl with | [_, _, _], _ => rfl)⟩
  obtain ⟨fd_row_of, h_row_of⟩ := c.def_ 16 (d := d_row_of) rfl
  have h_row_of : F_row_of K (He.ga K "row_of") fd_row_of := h_row_of
  have k_row_of : Kn P w K mg base "row_of" 5 wpRow := ⟨_, _, _, ok_row_of h_row_of Y k_side_levels, (He.glo_ok X G (c.fact 16 (f := .glo "row_of") rfl)), h_row_of.kp, (FunD.bindsN h_row_of fun _ _ _ _ _ _ us hl => match us, hl with | [_, _], _ => rfl)⟩
  obtain ⟨fd_value_of, h_value_of⟩ := c.def_ 19 (d := d_value_of) rfl
  have h_value_of : FunD K "value_of" "value_of" (defArgs (tp 41)) (defBody (tp 41)) c_value_of [] [("many", .str "mine")] (He.ga K "value_of") fd_value_of := h_value_of
  obtain ⟨mv_value_of, B_value_of⟩ := FunD.kbinds0 (ps := p_value_of) h_value_of 3 ["many"] [] (fun us _ ws => us ++ ws) (by simp) (by simp) (fun r _ s => r.append s) (fun _ _ _ _ _ _ us mv ws h1 h2 h3 => match us, mv, ws, h1, h2, h3 with | [_, _, _], [], [_], _, _, _ => rfl)
  have k_value_ofK : KnK P w K mg base "value_of" 6 3 "many" wpValueOf := ⟨_, _, _, _, _, ok_value_of h_value_of k_row_of k_valueK, (He.glo_ok X G (c.fact 19 (f := .glo "value_of") rfl)), h_value_of.kp, B_value_of, fun _ _ _ _ => rfl⟩
  obtain ⟨fd_plan_lay, h_plan_lay⟩ := c.def_ 20 (d := d_plan_lay) rfl
  have h_plan_lay : F_plan_lay K (He.ga K "plan_lay") fd_plan_lay := h_plan_lay
  have k_plan_lay : Kn P w K mg base "plan_lay" 5 wpPlanLay := ⟨_, _, _, ok_plan_lay h_plan_lay Y Z k_side_levels k_deck, (He.glo_ok X G (c.fact 20 (f := .glo "plan_lay") rfl)), h_plan_lay.kp, (FunD.bindsN h_plan_lay fun _ _ _ _ _ _ us hl => match us, hl with | [_, _, _, _], _ => rfl)⟩
  obtain ⟨fd_plan_answer, h_plan_answer⟩ := c.def_ 21 (d := d_plan_answer) rfl
  have h_plan_answer : F_plan_answer K (He.ga K "plan_answer") fd_plan_answer := h_plan_answer
  have k_plan_answer : Kn P w K mg base "plan_answer" 5 wpPlanAnswer := ⟨_, _, _, ok_plan_answer h_plan_answer k_next_up k_next_down k_other_side, (He.glo_ok X G (c.fact 21 (f := .glo "plan_answer") rfl)), h_plan_answer.kp, (FunD.bindsN h_plan_answer fun _ _ _ _ _ _ us hl => match us, hl with | [_, _, _, _, _], _ => rfl)⟩
  obtain ⟨fd_wins, h_wins⟩ := c.def_ 8 (d := d_wins) rfl
  have h_wins : F_wins K (He.ga K "wins") fd_wins := h_wins
  have k_wins : Kn P w K mg base "wins" 2 wpWins := ⟨_, _, _, ok_wins h_wins, (He.glo_ok X G (c.fact 8 (f := .glo "wins") rfl)), h_wins.kp, (FunD.bindsN h_wins fun _ _ _ _ _ _ us hl => match us, hl with | [_, _], _ => rfl)⟩
  obtain ⟨fd_chosen, h_chosen⟩ := c.def_ 5 (d := d_chosen) rfl
  have h_chosen : F_chosen K (He.ga K "chosen") fd_chosen := h_chosen
  have k_chosen : Kn P w K mg base "chosen" 2 wpChosen := ⟨_, _, _, ok_chosen h_chosen, (He.glo_ok X G (c.fact 5 (f := .glo "chosen") rfl)), h_chosen.kp, (FunD.bindsN h_chosen fun _ _ _ _ _ _ us hl => match us, hl with | [_, _], _ => rfl)⟩
  obtain ⟨fd_m_OpenHands_numbers, h_m_OpenHands_numbers⟩ := c.def_ 56 (d := d_m_OpenHands_numbers) rfl
  have h_m_OpenHands_numbers : F_m_OpenHands_numbers K (He.ma K (He.ga K "OpenHands") "numbers") fd_m_OpenHands_numbers := h_m_OpenHands_numbers
  have k_m_OpenHands_numbers : MeK P w K mg base (CO K) "numbers" 3 wpNumbers := ⟨⟨_, _, _, ok_numbers h_m_OpenHands_numbers T k_chosen, He.meth_ok (c.fact 104 (f := .meth "OpenHands" "numbers") rfl), (FunD.bindsN h_m_OpenHands_numbers fun _ _ _ _ _ _ us hl => match us, hl with | [_], _ => rfl)⟩, He.cls_ok (c.fact 90 (f := .cls "OpenHands") rfl)⟩
  obtain ⟨fd_m_OpenHands_indexes, h_m_OpenHands_indexes⟩ := c.def_ 58 (d := d_m_OpenHands_indexes) rfl
  have h_m_OpenHands_indexes : F_m_OpenHands_indexes K (He.ma K (He.ga K "OpenHands") "indexes") fd_m_OpenHands_indexes := h_m_OpenHands_indexes
  have k_m_OpenHands_indexes : MeK P w K mg base (CO K) "indexes" 2 wpIndexes := ⟨⟨_, _, _, ok_indexes h_m_OpenHands_indexes Y T, He.meth_ok (c.fact 106 (f := .meth "OpenHands" "indexes") rfl), (FunD.bindsN h_m_OpenHands_indexes fun _ _ _ _ _ _ us hl => match us, hl with | [_, _], _ => rfl)⟩, He.cls_ok (c.fact 90 (f := .cls "OpenHands") rfl)⟩
  obtain ⟨fd_m_OpenHands_spot, h_m_OpenHands_spot⟩ := c.def_ 57 (d := d_m_OpenHands_spot) rfl
  have h_m_OpenHands_spot : F_m_OpenHands_spot K (He.ma K (He.ga K "OpenHands") "spot") fd_m_OpenHands_spot := h_m_OpenHands_spot
  have k_m_OpenHands_spot : MeK P w K mg base (CO K) "spot" 3 wpSpot := ⟨⟨_, _, _, ok_spot h_m_OpenHands_spot Y Z T k_m_OpenHands_indexes, He.meth_ok (c.fact 105 (f := .meth "OpenHands" "spot") rfl), (FunD.bindsN h_m_OpenHands_spot fun _ _ _ _ _ _ us hl => match us, hl with | [_, _, _], _ => rfl)⟩, He.cls_ok (c.fact 90 (f := .cls "OpenHands") rfl)⟩
  obtain ⟨fd_m_OpenHands_remove_pair, h_m_OpenHands_remove_pair⟩ := c.def_ 59 (d := d_m_OpenHands_remove_pair) rfl
  have h_m_OpenHands_remove_pair : F_m_OpenHands_remove_pair K (He.ma K (He.ga K "OpenHands") "remove_pair") fd_m_OpenHands_remove_pair := h_m_OpenHands_remove_pair
  have k_m_OpenHands_remove_pair_bad : MeK P w K mg base (CO K) "remove_pair" 3 wpRemBad := ⟨⟨_, _, _, ok_rem_bad h_m_OpenHands_remove_pair Z T, He.meth_ok (c.fact 107 (f := .meth "OpenHands" "remove_pair") rfl), (FunD.bindsN h_m_OpenHands_remove_pair fun _ _ _ _ _ _ us hl => match us, hl with | [_, _, _], _ => rfl)⟩, He.cls_ok (c.fact 90 (f := .cls "OpenHands") rfl)⟩
  have kRem : RemK P w K mg base := ⟨_, _, ok_rem h_m_OpenHands_remove_pair T k_without k_wins, He.meth_ok (c.fact 107 (f := .meth "OpenHands" "remove_pair") rfl), (FunD.bindsN h_m_OpenHands_remove_pair fun _ _ _ _ _ _ us hl => match us, hl with | [_, _, _], _ => rfl)⟩
  obtain ⟨fd_m_Guide_lay, h_m_Guide_lay⟩ := c.def_ 61 (d := d_m_Guide_lay) rfl
  have h_m_Guide_lay : F_m_Guide_lay K (He.ma K (He.ga K "Guide") "lay") fd_m_Guide_lay := h_m_Guide_lay
  have k_m_Guide_lay : MeK P w K mg base (CG K) "lay" 6 wpLay := ⟨⟨_, _, _, ok_lay h_m_Guide_lay T k_m_OpenHands_numbers k_m_OpenHands_indexes k_plan_lay, He.meth_ok (c.fact 108 (f := .meth "Guide" "lay") rfl), (FunD.bindsN h_m_Guide_lay fun _ _ _ _ _ _ us hl => match us, hl with | [_], _ => rfl)⟩, He.cls_ok (c.fact 89 (f := .cls "Guide") rfl)⟩
  obtain ⟨fd_m_Guide_answer, h_m_Guide_answer⟩ := c.def_ 62 (d := d_m_Guide_answer) rfl
  have h_m_Guide_answer : F_m_Guide_answer K (He.ma K (He.ga K "Guide") "answer") fd_m_Guide_answer := h_m_Guide_answer
  have k_m_Guide_answer : MeK P w K mg base (CG K) "answer" 6 wpAnswer := ⟨⟨_, _, _, ok_answer h_m_Guide_answer T k_other_side k_m_OpenHands_spot k_m_OpenHands_numbers k_m_OpenHands_indexes k_plan_answer, He.meth_ok (c.fact 109 (f := .meth "Guide" "answer") rfl), (FunD.bindsN h_m_Guide_answer fun _ _ _ _ _ _ us hl => match us, hl with | [_, _], _ => rfl)⟩, He.cls_ok (c.fact 89 (f := .cls "Guide") rfl)⟩
  obtain ⟨fd_m_Guide_promise, h_m_Guide_promise⟩ := c.def_ 64 (d := d_m_Guide_promise) rfl
  have h_m_Guide_promise : F_m_Guide_promise K (He.ma K (He.ga K "Guide") "promise") fd_m_Guide_promise := h_m_Guide_promise
  have k_m_Guide_promise : MeK P w K mg base (CG K) "promise" 7 wpPromise := ⟨⟨_, _, _, ok_promise h_m_Guide_promise T k_m_OpenHands_numbers k_value_ofK, He.meth_ok (c.fact 111 (f := .meth "Guide" "promise") rfl), (FunD.bindsN h_m_Guide_promise fun _ _ _ _ _ _ us hl => match us, hl with | [_, _], _ => rfl)⟩, He.cls_ok (c.fact 89 (f := .cls "Guide") rfl)⟩
  obtain ⟨fd_m_Guide_saw, h_m_Guide_saw⟩ := c.def_ 63 (d := d_m_Guide_saw) rfl
  have h_m_Guide_saw : F_m_Guide_saw K (He.ma K (He.ga K "Guide") "saw") fd_m_Guide_saw := h_m_Guide_saw
  have k_m_Guide_saw_bad : MeK P w K mg base (CG K) "saw" 4 wpSawBad := ⟨⟨_, _, _, ok_saw_bad h_m_Guide_saw T k_m_OpenHands_remove_pair_bad, He.meth_ok (c.fact 110 (f := .meth "Guide" "saw") rfl), (FunD.bindsN h_m_Guide_saw fun _ _ _ _ _ _ us hl => match us, hl with | [_, _, _], _ => rfl)⟩, He.cls_ok (c.fact 89 (f := .cls "Guide") rfl)⟩
  have kSaw : SawK P w K mg base := ⟨_, _, ok_saw h_m_Guide_saw T kRem, He.meth_ok (c.fact 110 (f := .meth "Guide" "saw") rfl), (FunD.bindsN h_m_Guide_saw fun _ _ _ _ _ _ us hl => match us, hl with | [_, _, _], _ => rfl)⟩
  obtain ⟨fd_m_OpenHands_init, h_m_OpenHands_init⟩ := c.def_ 55 (d := d_m_OpenHands_init) rfl
  have h_m_OpenHands_init : F_m_OpenHands_init K (He.ma K (He.ga K "OpenHands") "__init__") fd_m_OpenHands_init := h_m_OpenHands_init
  obtain ⟨fd_m_Guide_init, h_m_Guide_init⟩ := c.def_ 60 (d := d_m_Guide_init) rfl
  have h_m_Guide_init : F_m_Guide_init K (He.ma K (He.ga K "Guide") "__init__") fd_m_Guide_init := h_m_Guide_init
  have oG := ok_ginit (P := P) (w := w) (mg := mg) (base := base) h_m_Guide_init T k_check_hands (ok_oinit h_m_OpenHands_init Y T) (He.mkr_ok (c.fact 112 (f := .mkr "OpenHands") rfl)) (FunD.bindsN h_m_OpenHands_init fun _ _ _ _ _ _ us hl => match us, hl with | [_, _, _], _ => rfl) (He.glo_ok X G (c.fact 56 (f := .glo "OpenHands") rfl))
  obtain ⟨mv_G, B_G⟩ := FunD.kbinds0 (ps := p_m_Guide_init) h_m_Guide_init 4 ["many"] [] (fun us _ ws => us ++ ws) (by simp) (by simp) (fun r _ s => r.append s) (fun _ _ _ _ _ _ us mv ws h1 h2 h3 => match us, mv, ws, h1, h2, h3 with | [_, _, _, _], [], [_], _, _, _ => rfl)
  obtain ⟨dv_G, V_G, D_G⟩ := FunD.binds0 (ps := p_m_Guide_init) h_m_Guide_init 4 (by simp) rfl (fun _ _ _ _ _ _ us ks h1 h2 => match us, ks, h1, h2 with | [_, _, _, _], [_], _, _ => ⟨_, _, _, _, _, _, rfl, rfl, rfl⟩)
  have kG : GMk P w K mg base := ⟨⟨_, _, _, _, _, oG, He.mkr_ok (c.fact 113 (f := .mkr "Guide") rfl), B_G, fun _ _ _ _ => rfl, D_G, V_G⟩, (He.glo_ok X G (c.fact 57 (f := .glo "Guide") rfl))⟩
  obtain ⟨fd_q_is_int, h_q_is_int⟩ := c.def_ 27 (d := d_q_is_int) rfl
  have h_q_is_int : F_q_is_int K (He.ga K "_law_is_int") fd_q_is_int := h_q_is_int
  have k_q_is_int : Kn P w K mg base "_law_is_int" 2 wpIsInt := ⟨_, _, _, ok_is_int h_q_is_int Y, (He.glo_ok X G (c.fact 27 (f := .glo "_law_is_int") rfl)), h_q_is_int.kp, (FunD.bindsN h_q_is_int fun _ _ _ _ _ _ us hl => match us, hl with | [_], _ => rfl)⟩
  have kH : KnH P w K mg base := ⟨_, _, ok_is_intH h_q_is_int Y, (He.glo_ok X G (c.fact 27 (f := .glo "_law_is_int") rfl)), h_q_is_int.kp, (FunD.bindsN h_q_is_int fun _ _ _ _ _ _ us hl => match us, hl with | [_], _ => rfl)⟩
  obtain ⟨fd_q_is_left, h_q_is_left⟩ := c.def_ 35 (d := d_q_is_left) rfl
  have h_q_is_left : F_q_is_left K (He.ga K "_law_is_left") fd_q_is_left := h_q_is_left
  have k_q_is_left : Kn P w K mg base "_law_is_left" 3 wpIsLeft := ⟨_, _, _, ok_is_left h_q_is_left k_q_is_int, (He.glo_ok X G (c.fact 35 (f := .glo "_law_is_left") rfl)), h_q_is_left.kp, (FunD.bindsN h_q_is_left fun _ _ _ _ _ _ us hl => match us, hl with | [_, _], _ => rfl)⟩
  obtain ⟨fd_q_order, h_q_order⟩ := c.def_ 28 (d := d_q_order) rfl
  have h_q_order : F_q_order K (He.ga K "_law_order") fd_q_order := h_q_order
  have k_q_order : Kn P w K mg base "_law_order" 2 wpOrder := ⟨_, _, _, ok_order h_q_order Y, (He.glo_ok X G (c.fact 28 (f := .glo "_law_order") rfl)), h_q_order.kp, (FunD.bindsN h_q_order fun _ _ _ _ _ _ us hl => match us, hl with | [_, _], _ => rfl)⟩
  obtain ⟨fd_q_row, h_q_row⟩ := c.def_ 29 (d := d_q_row) rfl
  have h_q_row : F_q_row K (He.ga K "_law_row") fd_q_row := h_q_row
  have k_q_row : Kn P w K mg base "_law_row" 3 wpLRow := ⟨_, _, _, ok_lrow h_q_row Y k_q_order, (He.glo_ok X G (c.fact 29 (f := .glo "_law_row") rfl)), h_q_row.kp, (FunD.bindsN h_q_row fun _ _ _ _ _ _ us hl => match us, hl with | [_, _], _ => rfl)⟩
  obtain ⟨fd_q_value, h_q_value⟩ := c.def_ 30 (d := d_q_value) rfl
  have h_q_value : F_q_value K (He.ga K "_law_value") fd_q_value := h_q_value
  have k_q_value : Kn P w K mg base "_law_value" 2 wpLValue := ⟨_, _, _, ok_lvalue h_q_value Y, (He.glo_ok X G (c.fact 30 (f := .glo "_law_value") rfl)), h_q_value.kp, (FunD.bindsN h_q_value fun _ _ _ _ _ _ us hl => match us, hl with | [_, _, _], _ => rfl)⟩
  obtain ⟨fd_q_up, h_q_up⟩ := c.def_ 31 (d := d_q_up) rfl
  have h_q_up : F_q_up K (He.ga K "_law_up") fd_q_up := h_q_up
  have k_q_up : Kn P w K mg base "_law_up" 3 wpUp := ⟨_, _, _, ok_up h_q_up Y k_q_order, (He.glo_ok X G (c.fact 31 (f := .glo "_law_up") rfl)), h_q_up.kp, (FunD.bindsN h_q_up fun _ _ _ _ _ _ us hl => match us, hl with | [_, _, _, _], _ => rfl)⟩
  obtain ⟨fd_q_levels, h_q_levels⟩ := c.def_ 32 (d := d_q_levels) rfl
  have h_q_levels : F_q_levels K (He.ga K "_law_levels") fd_q_levels := h_q_levels
  have k_q_levels : Kn P w K mg base "_law_levels" 3 wpLLevels := ⟨_, _, _, ok_llevels h_q_levels Y k_q_order, (He.glo_ok X G (c.fact 32 (f := .glo "_law_levels") rfl)), h_q_levels.kp, (FunD.bindsN h_q_levels fun _ _ _ _ _ _ us hl => match us, hl with | [_, _], _ => rfl)⟩
  obtain ⟨fd_q_best_lay, h_q_best_lay⟩ := c.def_ 33 (d := d_q_best_lay) rfl
  have h_q_best_lay : F_q_best_lay K (He.ga K "_law_best_lay") fd_q_best_lay := h_q_best_lay
  have k_q_best_lay : Kn P w K mg base "_law_best_lay" 4 wpBest := ⟨_, _, _, ok_best h_q_best_lay Y k_q_levels k_q_order, (He.glo_ok X G (c.fact 33 (f := .glo "_law_best_lay") rfl)), h_q_best_lay.kp, (FunD.bindsN h_q_best_lay fun _ _ _ _ _ _ us hl => match us, hl with | [_, _, _, _], _ => rfl)⟩
  obtain ⟨fd_q_foe, h_q_foe⟩ := c.def_ 34 (d := d_q_foe) rfl
  have h_q_foe : F_q_foe K (He.ga K "_law_foe") fd_q_foe := h_q_foe
  have k_q_foe : Kn P w K mg base "_law_foe" 5 wpFoe := ⟨_, _, _, ok_foe h_q_foe Y k_q_order k_q_best_lay k_q_up, (He.glo_ok X G (c.fact 34 (f := .glo "_law_foe") rfl)), h_q_foe.kp, (FunD.bindsN h_q_foe fun _ _ _ _ _ _ us hl => match us, hl with | [_, _, _, _, _], _ => rfl)⟩
  obtain ⟨fd_q_row_left, h_q_row_left⟩ := c.def_ 43 (d := d_q_row_left) rfl
  have h_q_row_left : F_q_row_left K (He.ga K "_law_row_left") fd_q_row_left := h_q_row_left
  have k_q_row_left : Kn P w K mg base "_law_row_left" 4 wpRowLeft := ⟨_, _, _, ok_row_left h_q_row_left k_q_row, (He.glo_ok X G (c.fact 43 (f := .glo "_law_row_left") rfl)), h_q_row_left.kp, (FunD.bindsN h_q_row_left fun _ _ _ _ _ _ us hl => match us, hl with | [_, _], _ => rfl)⟩
  obtain ⟨fd_q_next_left, h_q_next_left⟩ := c.def_ 53 (d := d_q_next_left) rfl
  have h_q_next_left : F_q_next_left K (He.ga K "_law_next_left") fd_q_next_left := h_q_next_left
  have k_q_next_left : Kn P w K mg base "_law_next_left" 2 wpNextLeft := ⟨_, _, _, ok_next_left h_q_next_left, (He.glo_ok X G (c.fact 53 (f := .glo "_law_next_left") rfl)), h_q_next_left.kp, (FunD.bindsN h_q_next_left fun _ _ _ _ _ _ us hl => match us, hl with | [_, _], _ => rfl)⟩
  obtain ⟨fd_q_keeps, h_q_keeps⟩ := c.def_ 44 (d := d_q_keeps) rfl
  have h_q_keeps : F_q_keeps K (He.ga K "_law_keeps") fd_q_keeps := h_q_keeps
  have k_q_keeps : Kn P w K mg base "_law_keeps" 2 wpKeeps := ⟨_, _, _, ok_keeps h_q_keeps Y, (He.glo_ok X G (c.fact 44 (f := .glo "_law_keeps") rfl)), h_q_keeps.kp, (FunD.bindsN h_q_keeps fun _ _ _ _ _ _ us hl => match us, hl with | [_, _, _, _, _], _ => rfl)⟩
  obtain ⟨fd_q_shown, h_q_shown⟩ := c.def_ 42 (d := d_q_shown) rfl
  have h_q_shown : F_q_shown K (He.ga K "_law_shown") fd_q_shown := h_q_shown
  have k_q_shown : Kn P w K mg base "_law_shown" 3 wpShown := ⟨_, _, _, ok_shown h_q_shown Y T k_q_is_int, (He.glo_ok X G (c.fact 42 (f := .glo "_law_shown") rfl)), h_q_shown.kp, (FunD.bindsN h_q_shown fun _ _ _ _ _ _ us hl => match us, hl with | [_, _, _, _], _ => rfl)⟩
  obtain ⟨fd_q_every_word, h_q_every_word⟩ := c.def_ 50 (d := d_q_every_word) rfl
  have h_q_every_word : F_q_every_word K (He.ga K "_law_every_word") fd_q_every_word := h_q_every_word
  have k_q_every_word : Kn P w K mg base "_law_every_word" 8 wpEvery := ⟨_, _, _, ok_every h_q_every_word Y k_q_is_int k_q_value k_m_Guide_promise, (He.glo_ok X G (c.fact 50 (f := .glo "_law_every_word") rfl)), h_q_every_word.kp, (FunD.bindsN h_q_every_word fun _ _ _ _ _ _ us hl => match us, hl with | [_, _, _, _], _ => rfl)⟩
  obtain ⟨fd_q_apart, h_q_apart⟩ := c.def_ 48 (d := d_q_apart) rfl
  have h_q_apart : F_q_apart K (He.ga K "_law_apart") fd_q_apart := h_q_apart
  have k_q_apart : Kn P w K mg base "_law_apart" 8 wpApart := ⟨_, _, _, ok_apart h_q_apart k_q_is_int k_q_value k_m_Guide_promise k_q_shown k_q_row, (He.glo_ok X G (c.fact 48 (f := .glo "_law_apart") rfl)), h_q_apart.kp, (FunD.bindsN h_q_apart fun _ _ _ _ _ _ us hl => match us, hl with | [_, _, _, _, _], _ => rfl)⟩
  obtain ⟨fd_q_all_answers, h_q_all_answers⟩ := c.def_ 51 (d := d_q_all_answers) rfl
  have h_q_all_answers : F_q_all_answers K (He.ga K "_law_all_answers") fd_q_all_answers := h_q_all_answers
  have k_q_all_answers : Kn P w K mg base "_law_all_answers" 7 wpAll := ⟨_, _, _, ok_all h_q_all_answers Y k_q_is_int k_q_up k_m_Guide_answer, (He.glo_ok X G (c.fact 51 (f := .glo "_law_all_answers") rfl)), h_q_all_answers.kp, (FunD.bindsN h_q_all_answers fun _ _ _ _ _ _ us hl => match us, hl with | [_, _, _, _, _], _ => rfl)⟩
  obtain ⟨fd_q_round, h_q_round⟩ := c.def_ 36 (d := d_q_round) rfl
  have h_q_round : F_q_round K (He.ga K "_law_round") fd_q_round := h_q_round
  have k_q_round : Kn P w K mg base "_law_round" 7 wpRound := ⟨_, _, _, ok_round h_q_round Y k_q_is_left k_q_up k_m_Guide_answer k_m_Guide_lay k_q_best_lay k_q_foe, (He.glo_ok X G (c.fact 36 (f := .glo "_law_round") rfl)), h_q_round.kp, (FunD.bindsN h_q_round fun _ _ _ _ _ _ us hl => match us, hl with | [_, _, _, _, _, _], _ => rfl)⟩
  obtain ⟨fd_q_cell, h_q_cell⟩ := c.def_ 22 (d := d_q_cell) rfl
  have h_q_cell : F_q_cell K (He.ga K "_law_cell") fd_q_cell := h_q_cell
  have k_q_cell : Kn P w K mg base "_law_cell" 2 wpCell := ⟨_, _, _, ok_cell h_q_cell Y, (He.glo_ok X G (c.fact 22 (f := .glo "_law_cell") rfl)), h_q_cell.kp, (FunD.bindsN h_q_cell fun _ _ _ _ _ _ us hl => match us, hl with | [_, _], _ => rfl)⟩
  obtain ⟨fd_q_draws, h_q_draws⟩ := c.def_ 23 (d := d_q_draws) rfl
  have h_q_draws : F_q_draws K (He.ga K "_law_draws") fd_q_draws := h_q_draws
  have k_q_draws : Kn P w K mg base "_law_draws" 2 wpDraws := ⟨_, _, _, ok_draws h_q_draws Y, (He.glo_ok X G (c.fact 23 (f := .glo "_law_draws") rfl)), h_q_draws.kp, (FunD.bindsN h_q_draws fun _ _ _ _ _ _ us hl => match us, hl with | [_, _], _ => rfl)⟩
  obtain ⟨fd_q_hand, h_q_hand⟩ := c.def_ 24 (d := d_q_hand) rfl
  have h_q_hand : F_q_hand K (He.ga K "_law_hand") fd_q_hand := h_q_hand
  have k_q_hand : Kn P w K mg base "_law_hand" 3 wpHand := ⟨_, _, _, ok_hand h_q_hand Y k_q_draws, (He.glo_ok X G (c.fact 24 (f := .glo "_law_hand") rfl)), h_q_hand.kp, (FunD.bindsN h_q_hand fun _ _ _ _ _ _ us hl => match us, hl with | [_, _, _], _ => rfl)⟩
  obtain ⟨fd_q_word, h_q_word⟩ := c.def_ 26 (d := d_q_word) rfl
  have h_q_word : F_q_word K (He.ga K "_law_word") fd_q_word := h_q_word
  have k_q_word : Kn P w K mg base "_law_word" 3 wpWord := ⟨_, _, _, ok_word h_q_word Y k_q_draws, (He.glo_ok X G (c.fact 26 (f := .glo "_law_word") rfl)), h_q_word.kp, (FunD.bindsN h_q_word fun _ _ _ _ _ _ us hl => match us, hl with | [_, _], _ => rfl)⟩
  obtain ⟨fd_q_flat, h_q_flat⟩ := c.def_ 49 (d := d_q_flat) rfl
  have h_q_flat : F_q_flat K (He.ga K "_law_flat") fd_q_flat := h_q_flat
  have k_q_flat : Kn P w K mg base "_law_flat" 2 wpFlat := ⟨_, _, _, ok_flat h_q_flat, (He.glo_ok X G (c.fact 49 (f := .glo "_law_flat") rfl)), h_q_flat.kp, (FunD.bindsN h_q_flat fun _ _ _ _ _ _ us hl => match us, hl with | [_, _], _ => rfl)⟩
  obtain ⟨fd_q_hands, h_q_hands⟩ := c.def_ 25 (d := d_q_hands) rfl
  have h_q_hands : F_q_hands K (He.ga K "_law_hands") fd_q_hands := h_q_hands
  have k_q_hands : Kn P w K mg base "_law_hands" 4 wpHands := ⟨_, _, _, ok_hands h_q_hands Y k_q_cell k_q_draws k_q_hand, (He.glo_ok X G (c.fact 25 (f := .glo "_law_hands") rfl)), h_q_hands.kp, (FunD.bindsN h_q_hands fun _ _ _ _ _ _ us hl => match us, hl with | [_, _, _], _ => rfl)⟩
  obtain ⟨fd_q_call, h_q_call⟩ := c.def_ 37 (d := d_q_call) rfl
  have h_q_call : F_q_call K (He.ga K "_law_call") fd_q_call := h_q_call
  have k_q_call : Kn P w K mg base "_law_call" 8 wpCallBad := ⟨_, _, _, ok_call_bad h_q_call k_m_Guide_lay k_m_Guide_answer k_m_Guide_saw_bad k_m_Guide_promise, (He.glo_ok X G (c.fact 37 (f := .glo "_law_call") rfl)), h_q_call.kp, (FunD.bindsN h_q_call fun _ _ _ _ _ _ us hl => match us, hl with | [_, _, _, _], _ => rfl)⟩
  obtain ⟨fd_q_unlike, h_q_unlike⟩ := c.def_ 40 (d := d_q_unlike) rfl
  have h_q_unlike : F_q_unlike K (He.ga K "_law_unlike") fd_q_unlike := h_q_unlike
  have k_q_unlike : Kn P w K mg base "_law_unlike" 6 wpUnlike := ⟨_, _, _, ok_unlike h_q_unlike Y Zk kG kH, (He.glo_ok X G (c.fact 40 (f := .glo "_law_unlike") rfl)), h_q_unlike.kp, (FunD.bindsN h_q_unlike fun _ _ _ _ _ _ us hl => match us, hl with | [_, _, _, _], _ => rfl)⟩
  obtain ⟨fd_q_unlikes, h_q_unlikes⟩ := c.def_ 41 (d := d_q_unlikes) rfl
  have h_q_unlikes : F_q_unlikes K (He.ga K "_law_unlikes") fd_q_unlikes := h_q_unlikes
  have k_q_unlikes : Kn P w K mg base "_law_unlikes" 7 wpUnlikes := ⟨_, _, _, ok_unlikes h_q_unlikes k_q_unlike, (He.glo_ok X G (c.fact 41 (f := .glo "_law_unlikes") rfl)), h_q_unlikes.kp, (FunD.bindsN h_q_unlikes fun _ _ _ _ _ _ us hl => match us, hl with | [_, _, _], _ => rfl)⟩
  obtain ⟨fd_q_try, h_q_try⟩ := c.def_ 38 (d := d_q_try) rfl
  have h_q_try : F_q_try K (He.ga K "_law_try") fd_q_try := h_q_try
  have k_q_try : Kn P w K mg base "_law_try" 10 wpTry := ⟨_, _, _, ok_try h_q_try Y Zk kH k_q_call, (He.glo_ok X G (c.fact 38 (f := .glo "_law_try") rfl)), h_q_try.kp, (FunD.bindsN h_q_try fun _ _ _ _ _ _ us hl => match us, hl with | [_, _, _, _], _ => rfl)⟩
  obtain ⟨fd_q_refused, h_q_refused⟩ := c.def_ 39 (d := d_q_refused) rfl
  have h_q_refused : F_q_refused K (He.ga K "_law_refused") fd_q_refused := h_q_refused
  have k_q_refused : Kn P w K mg base "_law_refused" 11 wpRefused := ⟨_, _, _, ok_refused h_q_refused Y k_q_try, (He.glo_ok X G (c.fact 39 (f := .glo "_law_refused") rfl)), h_q_refused.kp, (FunD.bindsN h_q_refused fun _ _ _ _ _ _ us hl => match us, hl with | [_, _, _, _, _], _ => rfl)⟩
  obtain ⟨fd_q_text, h_q_text⟩ := c.def_ 45 (d := d_q_text) rfl
  have h_q_text : F_q_text K (He.ga K "_law_text") fd_q_text := h_q_text
  have k_q_text : KnG P w K mg base "_law_text" 8 wpText := ⟨_, _, _, ok_text h_q_text Y T k_m_Guide_promise k_m_Guide_lay, (He.glo_ok X G (c.fact 45 (f := .glo "_law_text") rfl)), h_q_text.kp, (FunD.bindsN h_q_text fun _ _ _ _ _ _ us hl => match us, hl with | [_, _], _ => rfl)⟩
  obtain ⟨fd_q_quiet, h_q_quiet⟩ := c.def_ 46 (d := d_q_quiet) rfl
  have h_q_quiet : F_q_quiet K (He.ga K "_law_quiet") fd_q_quiet := h_q_quiet
  have k_q_quiet : KnG P w K mg base "_law_quiet" 12 wpQuiet := ⟨_, _, _, ok_quiet h_q_quiet k_q_text k_q_refused, (He.glo_ok X G (c.fact 46 (f := .glo "_law_quiet") rfl)), h_q_quiet.kp, (FunD.bindsN h_q_quiet fun _ _ _ _ _ _ us hl => match us, hl with | [_, _, _, _, _], _ => rfl)⟩
  obtain ⟨fd_q_looked, h_q_looked⟩ := c.def_ 52 (d := d_q_looked) rfl
  have h_q_looked : F_q_looked K (He.ga K "_law_looked") fd_q_looked := h_q_looked
  have k_q_looked : KnG P w K mg base "_law_looked" 13 wpLooked := ⟨_, _, _, ok_looked h_q_looked Y k_q_quiet k_q_all_answers, (He.glo_ok X G (c.fact 52 (f := .glo "_law_looked") rfl)), h_q_looked.kp, (FunD.bindsN h_q_looked fun _ _ _ _ _ _ us hl => match us, hl with | [_, _, _, _, _, _], _ => rfl)⟩
  obtain ⟨fd_q_made, h_q_made⟩ := c.def_ 47 (d := d_q_made) rfl
  have h_q_made : F_q_made K (He.ga K "_law_made") fd_q_made := h_q_made
  have kM : MadeK P w K mg base := ⟨_, _, ok_made h_q_made kG, (He.glo_ok X G (c.fact 47 (f := .glo "_law_made") rfl)), h_q_made.kp, (FunD.bindsN h_q_made fun _ _ _ _ _ _ us hl => match us, hl with | [_, _, _, _], _ => rfl)⟩
  have M : LK P w K mg base := ⟨k_q_round, k_m_Guide_promise, k_q_is_int, k_q_value, k_q_shown, k_q_every_word, k_q_looked, kSaw, k_q_next_left, k_q_row_left, k_q_keeps⟩
  have M2 : LK2 P w K mg base := ⟨k_q_cell, k_q_draws, k_q_hands, k_q_flat, k_q_word, k_q_unlikes, kM, k_q_apart⟩
  exact ok_law h_law Y T M M2
end HX
namespace DL
open PySem PySem.Spec PyProof.Rows L2
/-- the law's call behind the top, the law's def a FnG -/
theorem call_law {P : Program} {w : World} {K : PySem.W.Frag} {mg mb : Str → Option Value} {k : Nat} {fa a : Addr} {fd : FuncData} {x : Str} {sp : Sp} {t : Shared} {vs : List Value} {ns : List Int}
    (kin : K.In t.heap) (glo : t.heap.Ns mainGlobals mg) (blt : t.heap.Ns builtinsNs mb) (blt2 : ∀ y : Str, y ≠ "__name__" → mb y = bootBuiltins y) (nolim : t.heap.NoLimit) (nogens : t.gens = #[])
    (obj : t.heap.get? a = some { cls := .type "list", data := .seq vs.toArray }) (its : IntsAre vs ns) (short : ns.length ≤ sizeLine) (room : Room k callerA)
    (F : ∀ base : Heap, K.In base → base.Ns mainGlobals mg → FnG P w K mg base k fa fd [x] sp) (bnd : ∀ (s : Shared) (u : Value), BindsTo s fd ⟨[u], []⟩ [(x, u)])
    (wish : ∀ H : Hp, Only H → SqL K H a (ns.map V.int) → sp [.ref a] H (fun v _ => v = .bl true) fun _ _ _ => False) :
    codeAny (model P w) callerA (.call (.ref fa) ⟨[.ref a], []⟩) (fun r s' => r = .ok (.ret (.bool true)) ∧ OldK t.heap s'.heap ∧ s'.os = t.os ∧ AllBare s'.gens) t := by
  have vals := vals_ints its
  have lens := its.length
  -- H tells nothing but the script
  have main : ∀ H : Hp, Only H → SqL K H a (ns.map V.int) → HOk P w H t.heap → (∀ b, H b ≠ none → b = a) → (H a ≠ none → K.lookup a = none) →
      codeAny (model P w) callerA (.call (.ref fa) ⟨[.ref a], []⟩) (fun r s' => r = .ok (.ret (.bool true)) ∧ OldK t.heap s'.heap ∧ s'.os = t.os ∧ AllBare s'.gens) t := by
    intro H only sq hok one out
    have noDict : ∀ {b : Addr} {o : Obj} {es : Array DictEntry} {ep : Nat}, t.heap.get? b = some o → o.data = .dict es ep → H b = none := by
      intro b o es ep e d
      by_cases z : H b = none
      · exact z
      · have eb := one b z
        subst eb
        rw [obj] at e
        have eo := Option.some.inj e
        subst eo
        cases (show Data.seq vs.toArray _ = Data.dict es ep from d)
    have names : ∀ {b : Addr} {m : Str → Option Value}, t.heap.Ns b m → (hidT t.heap H).Ns b m := by
      rintro b m ⟨o, es, ep, e, d, r⟩
      exact ⟨o, es, ep, hidT_get e (noDict e d), d, r⟩
    have kinB : K.In (hidT t.heap H) := by
      intro b o e
      refine hidT_get (kin b o e) ?_
      by_cases z : H b = none
      · exact z
      · have eb := one b z
        subst eb
        rw [out z] at e
        cases e
    obtain ⟨mc, lim1, lim2⟩ := nolim
    have mod : Mod K mg (hidT t.heap H) := ⟨kinB, names glo, ⟨mb, names blt, blt2⟩, mc, names lim1, lim2⟩
    have env : Env0 P w K mg (hidT t.heap H) callerA [] t H := ⟨rfl, mod, fun b o e => of_hidT e, Nat.le_of_eq (hidT_size _ _), trivial, fun b hb => (List.not_mem_nil hb).elim, hok, .of_eq nogens⟩
    refine codeAny_mono ((F _ kinB (names glo)).run callerA [] t H ⟨[.ref a], []⟩ [.ref a] [.ref a] _ _ room rfl env (bnd t (.ref a)) (.cons rfl .nil) (wish H only sq)) fun r s' fin => ?_
    cases r with
    | error e =>
      obtain ⟨_, _, _, _, _, _, _, _, _, _, _, _, z⟩ := fin
      exact z.elim
    | ok fl =>
      cases fl with
      | ret u =>
        obtain ⟨v, H2, os, bare, un, hok2, rel, z⟩ := fin
        have z : v = .bl true := z
        subst z
        have eu : u = Value.bool true := rel
        subst eu
        refine ⟨rfl, OldK.of_keep ?_, os, bare⟩
        intro b o e
        rcases only b with z | ⟨ob, xs, z⟩
        · exact un.keep b o e z (List.not_mem_nil) (by simp)
        · obtain ⟨e1, _⟩ := hok b _ z
          obtain ⟨e2, _⟩ := hok2 b _ (un.frzs b ob _ z)
          rw [e] at e1
          cases e1
          exact e2
      | next => exact fin.elim
      | brk => exact fin.elim
      | cont => exact fin.elim
  by_cases hk : ∃ o, K.lookup a = some o
  · obtain ⟨o, hk⟩ := hk
    have e := kin a o hk
    rw [obj] at e
    cases e
    exact main (fun _ => none) (fun _ => .inl rfl) (.inr ⟨_, vs.toArray, _, hk, rfl, rfl, rfl, by rw [List.size_toArray, lens]; exact short, by simpa using vals⟩) (fun b u z => nomatch (show (none : Option HO) = some u from z)) (fun b z => absurd rfl z) fun z => absurd rfl z
  · have hk : K.lookup a = none := by
      cases q : K.lookup a with
      | none => rfl
      | some o => exact absurd ⟨o, q⟩ hk
    refine main (upd (fun _ => none) a (.frz { cls := .type "list", data := .seq vs.toArray } (.lst (ns.map V.int)))) (fun b => ?_) (.inl (.inr ⟨_, upd_same⟩)) (fun b u z => ?_) (fun b z => ?_) fun _ => hk
    · by_cases e : b = a
      · rw [e]; exact .inr ⟨_, _, upd_same⟩
      · rw [upd_ne e]; exact .inl rfl
    · by_cases e : b = a
      · rw [e, upd_same] at z
        cases z
        rw [e]
        exact ⟨obj, by rw [List.length_map]; exact short, vs, _, vals, obj⟩
      · rw [upd_ne e] at z; cases z
    · by_cases e : b = a
      · exact e
      · rw [upd_ne e] at z; exact absurd rfl z
/-- the walk that the head asks for -/
theorem walk_law {l : PySem.W.OpenLaw} {n k : Nat} {q : Program} {loose : List Str} {XP : (Str → Option Value) → Heap → Prop} {YP : World → Heap → Prop} {d : DefRec} {x : Str} (most : l.most = some n) (small : n ≤ sizeLine) (nodef : d.params.defaults = []) (room : Room k callerA)
    (F : ∀ (w : World) (mg : Str → Option Value) (fa : Addr) (h : Heap), YP w h → h.Ns mainGlobals mg → mg d.name = some (.ref fa) → ∃ (K : PySem.W.Frag) (fd : FuncData) (sp : Sp), K.In h ∧ (∀ (s : Shared) (u : Value), BindsTo s fd ⟨[u], []⟩ [(x, u)]) ∧
      (∀ (H : Hp) (a : Addr) (ns : List Int), ns.length ≤ n → Only H → SqL K H a (ns.map V.int) → sp [.ref a] H (fun v _ => v = .bl true) fun _ _ _ => False) ∧ ∀ base : Heap, K.In base → base.Ns mainGlobals mg → FnG l.prog w K mg base k fa fd [x] sp) :
    PySem.W.WalkO q loose XP YP l.row.toRowW d [] (fun f vs => PySem.call f vs) :=
  Att.attach_call most nodef fun w s0 s1 mg mb fa o pm cd doc a vs ns G Y _ _ _ named obj its few nogens => by
    obtain ⟨K, fd, sp, kin, bnd, wish, prom⟩ := F w mg fa _ Y G.T.g named
    exact call_law kin G.T.g G.T.b G.T.builtins G.T.nolimit nogens obj its (Nat.le_trans few small) room prom bnd fun H only sq => wish H a ns few only sq
end DL
namespace HX
open PySem PySem.Spec PyProof.Rows L2 DL CL
theorem exB_ok {K : PySem.W.Frag} {C : Addr} (h : exB K C = true) : ExD K C ∧ XfC K C := by
  obtain ⟨h1, h⟩ := He.ba h
  obtain ⟨h2, h⟩ := He.ba h
  obtain ⟨h3, h⟩ := He.ba h
  obtain ⟨h4, h⟩ := He.ba h
  obtain ⟨h5, h⟩ := He.ba h
  obtain ⟨h6, h⟩ := He.ba h
  obtain ⟨h7, h⟩ := He.ba h
  obtain ⟨h8, h9⟩ := He.ba h
  exact ⟨⟨h1, He.eqO_ok h2, He.eqO_ok h3, of_decide_eq_true h4, He.eqO_ok h5, He.eqO_ok h6, of_decide_eq_true h7, of_decide_eq_true h8⟩, ⟨He.eqO_ok h2, He.eqO_ok h3, of_decide_eq_true h4, h9⟩⟩
theorem xk_of {K : PySem.W.Frag} {h : Heap} {mg : Str → Option Value} (X : K.In h) (G : h.Ns mainGlobals mg) (c : He.SaysD faA fnA K) (b : kitB K = true) : Xk K mg := by
  obtain ⟨n1, n2, n3, n4, n5⟩ := no_of c
  have key := fun x (hx : x ∈ (["BadHands", "BadCard", "BadWord", "OutOfTurn"] : List Str)) => He.ba (List.all_eq_true.mp b x hx)
  refine ⟨glo_cs X G c, fun x hx => exB_ok (key x hx).1, fun x hx y hy => ?_, fun x hx => of_decide_eq_true (He.ba (key x hx).2).1, exm_cs c, exm_hh c, n1, n2, n3, n4, n5⟩
  exact of_decide_eq_true (List.all_eq_true.mp (He.ba (key x hx).2).2 y hy)
theorem final {w : World} {K : PySem.W.Frag} {h : Heap} {mg : Str → Option Value} (X : K.In h) (G : h.Ns mainGlobals mg) (c : obsX K = valX) (base : Heap) {fd : FuncData} (hl : F_law K (He.ga K "law") fd) :
    FnG PySem.Challenge.rw_climbrow_k42_whole_guide_for_few.prog w K mg base 14 (He.ga K "law") fd p_law (spD K wpLaw) := by
  have c1 : He.SaysD faA fnA K := congrArg (fun z : AlX => z.1) c
  have e1 : fnI K i1.cls = i1.val := congrArg (fun z : AlX => z.2.1.1) c
  have e2 : fnI K i2.cls = i2.val := congrArg (fun z : AlX => z.2.1.2.1) c
  have e3 : fnI K i3.cls = i3.val := congrArg (fun z : AlX => z.2.1.2.2) c
  have b : xb K = true := congrArg (fun z : AlX => z.2.2) c
  obtain ⟨b1, b⟩ := He.ba b
  obtain ⟨b2, b⟩ := He.ba b
  obtain ⟨b3, b⟩ := He.ba b
  obtain ⟨b4, b5⟩ := He.ba b
  have mS := free_super X G c1
  obtain ⟨n1, n2, n3, n4, n5⟩ := no_of c1
  have top : (PySem.Challenge.rw_climbrow_k42_whole_guide_for_few.prog.main.scope.names.lookup ("super" : Str)).isSome = false := top_super
  have hfl : (PySem.Challenge.rw_climbrow_k42_whole_guide_for_few.prog.main.file : Str) = flR := main_file
  obtain ⟨cc1, cd1, t1⟩ := iniB_ok (P := PySem.Challenge.rw_climbrow_k42_whole_guide_for_few.prog) (mg := mg) (d := i1) e1 b3 mS top hfl
  obtain ⟨cc2, cd2, t2⟩ := iniB_ok (P := PySem.Challenge.rw_climbrow_k42_whole_guide_for_few.prog) (mg := mg) (d := i2) e2 b4 mS top hfl
  obtain ⟨cc3, cd3, t3⟩ := iniB_ok (P := PySem.Challenge.rw_climbrow_k42_whole_guide_for_few.prog) (mg := mg) (d := i3) e3 b5 mS top hfl
  have Z := xs_of X G c1 (init_H t1 n1 n2) (init_C t2 n3 n4) (init_W t3 n5)
  exact joined X G c1 Z (xk_of X G c1 b2) (sides_of X G c1 b1) base hl
end HX
end
open PySem PySem.W PySem.Calls PyProof.Rows
theorem PySem.Challenge.cw_climbrow_k42_whole_guide_for_few_holds : PySem.Challenge.rw_climbrow_k42_whole_guide_for_few.Holds := by
  refine HX.row_holds ?hc
  case hc =>
    refine DL.walk_law (l := PySem.Challenge.rw_climbrow_k42_whole_guide_for_few) (n := 63) (k := 14) (x := "_law_script") rfl (by decide) (by kernel_rfl) ⟨rfl, by decide, by decide⟩ ?F
    intro w mg fa h Y G hmg0
    obtain ⟨K, KX, c⟩ := Y
    have hmg : mg ("law" : PySem.Str) = some (.ref fa) := by
      have e : (HandSHeadRun.topDef (OpenLaw.row PySem.Challenge.rw_climbrow_k42_whole_guide_for_few).prog 80).name = ("law" : PySem.Str) := HX.top_name
      rw [← e]
      exact hmg0
    have c1 : He.SaysD HX.faA HX.fnA K := congrArg (fun z : HX.AlX => z.1) c
    have e := hmg.symm.trans (HX.glo_law KX G c1)
    cases e
    obtain ⟨fd, hl, hb⟩ := HX.law_def c1
    refine ⟨K, fd, DL.spD K CL.wpLaw, KX, hb, fun H a ns _ _ hS => ⟨H, [.scr ns], fun d => d = .bl true, fun _ => False, DL.Ex.refl _, DL.Reps.cons (DL.Rep.scr_iff.mpr ⟨a, rfl, hS⟩) DL.Reps.nil, ⟨ns, rfl, rfl⟩, DL.Wish.none, fun d v G' H' hd _ r => by subst hd; exact DL.Rep.bl_iff.mp r⟩, fun base _ _ => HX.final KX G c base hl⟩
